/-
  The walk of (*impl.beatBook).servers, written by program: each line names the law of one operation. Conditions: those of the theorem.
-/
import Derived.Test.YtnkjljjcionfiaaProg
import Derived.Test.YtnkjljjcionfiaaBeats
import Derived.Test.YtnkjljjcionfiaaDefer
import Derived.Test.YtnkjljjcionfiaaLocks
import Derived.KernelRfl
namespace Go.Proofs.Ytnkjljjcionfiaa
open Go Go.RowKit
set_option linter.unusedVariables false
set_option linter.unusedSimpArgs false
namespace servers_okF
theorem T3 : TI Try.prog 3 false (.int .i64 0) 1 8 := TI.mk' Try.underlying3 rfl (by kernel_rfl)
theorem T23 : TI Try.prog 23 false (.slice none 0 0) 1 24 := TI.mk' Try.underlying23 rfl (by kernel_rfl)
theorem T39 : TI Try.prog 39 true (.agg #[.int .i64 0, .int .i64 0]) 2 16 := TI.mk' Try.underlying39 rfl (by kernel_rfl)
theorem F39_0 : FldOK Try.prog 39 0 0 := ⟨_, _, 0, Try.underlying39, rfl, rfl, by kernel_rfl⟩
theorem F39_1 : FldOK Try.prog 39 1 1 := ⟨_, _, 0, Try.underlying39, rfl, rfl, by kernel_rfl⟩
theorem F76_0 : FldOK Try.prog 76 0 0 := ⟨_, _, 1, Try.underlying76, rfl, rfl, by kernel_rfl⟩
theorem F76_1 : FldOK Try.prog 76 1 2 := ⟨_, _, 0, Try.underlying76, rfl, rfl, by kernel_rfl⟩
theorem C55 : Callable Try.prog 55 := ⟨_, Try.func55, by kernel_rfl, by kernel_rfl⟩
theorem C56 : Callable Try.prog 56 := ⟨_, Try.func56, by kernel_rfl, by kernel_rfl⟩
end servers_okF
open servers_okF in
set_option maxHeartbeats 4000000 in
theorem servers_ok (g base : Nat) (xs : List Bt) (now wi : Int) (al : Bool) (w : World) (hbk : BookIs 76 39 w base g xs) (hbase : base ≤ w.heap.size) (hn : xs.length ≤ 1000) (hnow : 0 ≤ now ∧ now ≤ 9999) (hbt : ∀ j, j < xs.length → 0 ≤ (el xs j).a ∧ (el xs j).a ≤ 9999) :
    Fn Try.prog 54 [(.pointer (some (⟨g, 0, none⟩))), (.int .i64 now), (.int .i64 wi), (.bool al)] w fun v w' => ∃ A1 c1, v = .slice A1 (srvL xs now wi al).length c1 ∧ Own encI 1 w' w.heap.size 3 (.slice A1 (srvL xs now wi al).length c1) (srvL xs now wi al) ∧ BookIs 76 39 w' base g xs ∧ ∃ S, Off base S ∧ Ch S w w' := by
  obtain ⟨A, c, hB, hO, hgb, hgo⟩ := hbk
  have hub := hO.lt
  have hcap := hO.le.1
  have hglt := hB.lt
  have hOffS : Off base (g :: obl (.slice A xs.length c)) := fun s hs => by
    rcases List.mem_cons.1 hs with h | h
    · omega
    · exact hO.off s h
  refine fn_ofD (n := 44) (g := 56) (dargs := [.pointer (some ⟨g, 0, none⟩)]) Try.func54 rfl rfl rfl rfl C56 ?_
  have hc : Ch (g :: obl (.slice A xs.length c)) w w := Ch.refl _ _
  refine cwd_seq_r fun K1 hK2 => ?_
  refine cw_region fun K3 hK4 => ?_
  refine rw_cons (op_pv (w0 rfl) rfl rfl (pv_assign (v := (.slice none 0 0)) rfl rfl) ?_)
  refine rw_nil (hK4 _ _ ?_)
  refine hK2 _ _ ?_
  refine cwd_seq_r fun K5 hK6 => ?_
  refine cw_region fun K7 hK8 => ?_
  refine rw_cons (op_pv (w0 rfl) rfl rfl (pv_move (v := (.pointer (some (⟨g, 0, none⟩)))) rfl rfl) ?_)
  refine rw_cons (op_pv (w0 rfl) rfl rfl (pv_nil rfl rfl) ?_)
  refine rw_cons (op_pv (w0 rfl) rfl rfl (pv_fld F76_0 rfl rfl) ?_)
  refine rw_cons (op_call (w0 rfl) rfl rfl (rc_call C55 rfl rfl) (lock_fn muLib hB) ?_)
  rintro _ w9 ⟨rfl, hB10, hch11⟩
  have hsz12 := hch11.size
  replace hO := hO.ch hch11 (fun s hs => by have := dj_asg hgo s hs; simpa using this)
  replace hc := hc.step hch11 (fun s hs => by first | (left; simp at hs; simp [hs]; done) | (right; simp at hs; omega))
  replace hB : Blk w9 g 76 [(.int .i32 1), (.int .u32 0), (.slice A xs.length c)] := hB10
  clear hB10
  refine rw_nil (hK8 _ _ ?_)
  refine hK6 _ _ ?_
  refine cwd_seq_l fun K13 hK14 => ?_
  refine cwd_region fun K15 hK16 => ?_
  refine rwd_cons (op_pv (w0 rfl) rfl rfl (pv_move (v := (.pointer (some (⟨g, 0, none⟩)))) rfl rfl) ?_)
  refine rwd_cons (op_pv (w0 rfl) rfl rfl (pv_nil rfl rfl) ?_)
  refine rwd_cons (op_pv (w0 rfl) rfl rfl (pv_fld F76_0 rfl rfl) ?_)
  refine rwd_defer (w0 rfl) rfl (rd_defer rfl rfl) (hK16 _ _ ?_)
  refine hK14 _ _ ?_
  refine cw_seq fun K17 hK18 => ?_
  refine cw_region fun K19 hK20 => ?_
  refine rw_cons (op_bslice [] Try.underlying34 T3 (w0 rfl) rfl rfl rfl rfl rfl (by simp [Value.cells]) (by decide) ?_)
  intro g22 w21 hg25 hg26 hK24 hch23
  have hO27 : Own encI 1 w21 w9.heap.size 3 (.slice (some ⟨g22, 0, none⟩) 0 0) ([] : List Int) := Blk.own (xs := ([] : List Int)) hK24 (by omega) rfl (by decide) rfl
  have hsz28 := hch23.size
  replace hB := hB.ch0 hch23
  replace hO := hO.ch0 hch23
  replace hc := hc.step0 hch23
  have hub29 := hO27.lt
  refine rw_cons (op_pv (w0 rfl) rfl rfl (pv_assign (v := (.slice (some ⟨g22, 0, none⟩) 0 0)) rfl rfl) ?_)
  refine rw_nil (hK20 _ _ ?_)
  refine hK18 _ _ ?_
  refine cw_seq fun K30 hK31 => ?_
  refine cw_seq fun K32 hK33 => ?_
  refine cw_region fun K34 hK35 => ?_
  refine rw_cons (op_pv (w0 rfl) rfl rfl (pv_move (v := (.pointer (some (⟨g, 0, none⟩)))) rfl rfl) ?_)
  refine rw_cons (op_pv (w0 rfl) rfl rfl (pv_nil rfl rfl) ?_)
  refine rw_cons (op_pv (w0 rfl) rfl rfl (pv_fld F76_1 rfl rfl) ?_)
  refine rw_cons (op_lv (w0 rfl) rfl rfl (lv_load T23 rfl rfl (hB.cellA (i := 2) rfl)) ?_)
  refine rw_cons (op_pv (w0 rfl) rfl rfl (pv_len Try.underlying23 rfl rfl) ?_)
  refine rw_cons (op_pv (w0 rfl) rfl rfl (pv_move (v := (.int .i64 0)) rfl rfl) ?_)
  refine rw_nil (hK35 _ _ ?_)
  refine hK33 _ _ ?_
  refine cw_block ?_
  refine cw_loop (σ := Nat × (Option Addr) × Nat) (fun ⟨k, Ao, co⟩ => [(9, (.slice Ao (srvL (xs.take k) now wi al).length co)), (25, (.int .i64 (k : Int))), (1, (.int .i64 now)), (2, (.int .i64 wi)), (3, (.bool al)), (8, (.slice none 0 0)), (23, (.slice A xs.length c)), (24, (.int .i64 (xs.length : Int)))]) (fun ⟨k, Ao, co⟩ W => (k ≤ xs.length) ∧ Blk W g 76 [(.int .i32 1), (.int .u32 0), (.slice A xs.length c)] ∧ Own encB 2 W base 39 (.slice A xs.length c) xs ∧ Own encI 1 W w.heap.size 3 (.slice Ao (srvL (xs.take k) now wi al).length co) (srvL (xs.take k) now wi al) ∧ Ch (g :: obl (.slice A xs.length c)) w W ∧ (∀ s ∈ obl (.slice A xs.length c), s ∉ obl (.slice Ao (srvL (xs.take k) now wi al).length co))) (fun ⟨k, Ao, co⟩ => xs.length - k) (0, (some ⟨g22, 0, none⟩), 0) ?_ ?_ ?_
  · exact ⟨rfl, rfl, rfl, rfl, rfl, rfl, rfl, rfl, trivial⟩
  · refine ⟨Nat.zero_le _, hB, hO, (hO27.less (by omega)), hc, (fun s hs hs2 => by first | (have h1 := hO.off s hs; have h2 := hub29 s hs2; omega) | (have h1 := hO27.off s hs; have h2 := hub s hs2; omega) | (have h1 := hub s hs; have h2 := hO27.off s hs2; omega) | (have h1 := hub29 s hs; have h2 := hO.off s hs2; omega) | (simp [obl, Value.ownBlock] at hs; done) | (simp [obl, Value.ownBlock] at hs2; done))⟩
  · rintro ⟨k, Ao, co⟩ J41 w36 ⟨hk, hB, hO, hOut, hc, hdj37⟩ K38 hK39
    have hsz43 := hc.size
    have hub44 := hO.lt
    have hubO := hOut.lt
    have hsl := srvL_le (xs.take k) now wi al; have htl : (xs.take k).length ≤ k := List.length_take_le _ _; have hbd := hbt k
    refine cw_seq fun K45 hK46 => ?_
    refine cw_region fun K47 hK48 => ?_
    refine rw_cons (op_pv (w0 rfl) rfl rfl (pv_lss rfl rfl rfl) ?_)
    refine rw_nil (hK48 _ _ ?_)
    refine hK46 _ _ ?_
    refine cw_seq fun K49 hK50 => ?_
    refine cw_cond rfl (fun h51 => ?_) (fun h51 => ?_)
    · -- then
      replace h51 := of_decide_eq_true h51
      refine cw_skip ?_
      refine hK50 _ _ ?_
      refine cw_seq fun K52 hK53 => ?_
      refine cw_block ?_
      refine cw_seq fun K54 hK55 => ?_
      refine cw_region fun K56 hK57 => ?_
      refine rw_cons (op_pv (w0 rfl) rfl rfl (pv_idx Try.underlying23 T39 rfl rfl rfl ((hO.rs (fun _ => rfl)).some (k := k) (by omega)) (by omega) (by omega)) ?_)
      refine rw_cons (op_lv (w0 rfl) rfl rfl (lv_loadN T39 rfl rfl rfl (fun j v hv => (hO.rs (fun _ => rfl)).cellE (k := k) (by omega) hv)) ?_)
      refine rw_cons (op_alloc T39 (w0 rfl) rfl rfl rfl ?_)
      rintro g59 w58 hg62 hg63 hB61 hch60
      have hsz64 := hch60.size
      replace hB := hB.ch0 hch60
      replace hO := hO.ch0 hch60
      replace hOut := hOut.ch0 hch60
      replace hc := hc.step0 hch60
      replace hB61 : Blk w58 g59 39 [(.int .i64 0), (.int .i64 0)] := hB61
      refine rw_cons (op_store_blk T39 hB61 (w0 rfl) rfl rfl rfl rfl rfl (one_all rfl) (Nat.le_of_ble_eq_true rfl) ?_)
      rintro w65 hB67 hch66
      have hsz68 := hch66.size
      replace hB := hB.ch hch66 (by simp; omega)
      replace hO := hO.ch hch66 (fun s hs => by first | (have := hO.off s hs; simp; omega) | (have := hub44 s hs; simp; omega))
      replace hOut := hOut.ch hch66 (fun s hs => by first | (have := hOut.off s hs; simp; omega) | (have := hubO s hs; simp; omega))
      replace hc := hc.step hch66 (fun s hs => by first | (left; simp at hs; simp [hs]; done) | (right; simp at hs; omega))
      replace hB61 : Blk w65 g59 39 [(.int .i64 (el xs k).s), (.int .i64 (el xs k).a)] := hB67
      clear hB67
      refine rw_nil (hK57 _ _ ?_)
      refine hK55 _ _ ?_
      refine cw_seq fun K69 hK70 => ?_
      refine cw_region fun K71 hK72 => ?_
      refine rw_cons (op_pv (w0 rfl) rfl rfl (pv_move (v := (.int .i64 now)) rfl rfl) ?_)
      refine rw_cons (op_pv (w0 rfl) rfl rfl (pv_fld F39_1 rfl rfl) ?_)
      refine rw_cons (op_lv (w0 rfl) rfl rfl (lv_load T3 rfl rfl (hB61.cellA (i := 1) rfl)) ?_)
      refine rw_cons (op_pv (w0 rfl) rfl rfl (pv_sub rfl rfl rfl (by omega) (by omega)) ?_)
      refine rw_cons (op_pv (w0 rfl) rfl rfl (pv_move (v := (.int .i64 wi)) rfl rfl) ?_)
      refine rw_cons (op_pv (w0 rfl) rfl rfl (pv_lss rfl rfl rfl) ?_)
      refine rw_cons (op_pv (w0 rfl) rfl rfl (pv_move (v := (.bool al)) rfl rfl) ?_)
      refine rw_cons (op_pv (w0 rfl) rfl rfl (pv_eqlB Try.underlying4 rfl rfl rfl) ?_)
      refine rw_nil (hK72 _ _ ?_)
      refine hK70 _ _ ?_
      refine cw_cond rfl (fun h73 => ?_) (fun h73 => ?_)
      · -- then
        replace h73 := eq_of_beq h73
        refine cw_region fun K74 hK75 => ?_
        refine rw_cons (op_pv (w0 rfl) rfl rfl (pv_move (v := (.slice Ao (srvL (xs.take k) now wi al).length co)) rfl rfl) ?_)
        refine rw_cons (op_pv (w0 rfl) rfl rfl (pv_fld F39_0 rfl rfl) ?_)
        refine rw_cons (op_lv (w0 rfl) rfl rfl (lv_load T3 rfl rfl (hB61.cellA (i := 0) rfl)) ?_)
        refine rw_cons (op_bslice [(.int .i64 (el xs k).s)] Try.underlying34 T3 (w0 rfl) rfl rfl rfl rfl rfl (by simp [Value.cells]) (by decide) ?_)
        intro g77 w76 hg80 hg81 hK79 hch78
        have hO82 : Own encI 1 w76 w65.heap.size 3 (.slice (some ⟨g77, 0, none⟩) 1 1) ([(el xs k).s] : List Int) := Blk.own (xs := ([(el xs k).s] : List Int)) hK79 (by omega) rfl (by decide) rfl
        have hsz83 := hch78.size
        replace hB := hB.ch0 hch78
        replace hO := hO.ch0 hch78
        replace hOut := hOut.ch0 hch78
        replace hB61 := hB61.ch0 hch78
        replace hc := hc.step0 hch78
        have hub84 := hO82.lt
        refine rw_cons (op_append Try.underlying34 T3 (fun _ => rfl) rfl (by decide) (fun _ => one_all rfl) (w0 rfl) rfl rfl rfl rfl rfl hOut (hO82.rs (fun _ => rfl)) (by unfold maxLen; first | omega | (simp; omega)) (by first | omega | (simp; omega)) (by omega) ?_)
        rintro v85 w86 hO87 hch88 hs89
        have hl90 : ((srvL (xs.take k) now wi al) ++ ([(el xs k).s] : List Int)).length = (srvL (xs.take k) now wi al).length + 1 := by first | (have hl0 := (hO82.rs (fun _ => rfl)).len; omega) | (have hl0 := (hO82.rs (fun _ => rfl)).len; simp only [List.length_append, List.length_cons, List.length_nil] at hl0 ⊢; omega) | simp | rfl
        clear hO82
        have hsz92 := hch88.size
        replace hB := hB.ch hch88 (by first | (refine hOut.off.not ?_; omega) | (intro hs; have := hubO _ hs; omega))
        replace hO := hO.ch hch88 (dj_as hdj37)
        replace hB61 := hB61.ch hch88 (by first | (refine hOut.off.not ?_; omega) | (intro hs; have := hubO _ hs; omega))
        replace hc := hc.step hch88 (fun s hs => by first | (left; exact List.mem_cons_of_mem _ hs) | (right; have := hOut.off s hs; omega))
        have hub93 := hO87.lt
        obtain ⟨A94, c95, hv96, hcap97, hcap98⟩ := hO87.form; subst hv96
        have hdj91 : ∀ s ∈ obl (.slice A94 ((srvL (xs.take k) now wi al) ++ ([(el xs k).s] : List Int)).length c95), s ∉ obl (.slice A xs.length c) := dj_new hs89 (dj_sw hdj37) (fun s hs => by have := hub44 s hs; omega)
        refine rw_cons (op_pv (w0 rfl) rfl rfl (pv_assign (v := (.slice A94 ((srvL (xs.take k) now wi al) ++ ([(el xs k).s] : List Int)).length c95)) rfl rfl) ?_)
        refine rw_nil (hK75 _ _ ?_)
        refine hK53 _ _ ?_
        refine cw_region fun K99 hK100 => ?_
        refine rw_cons (op_pv (w0 rfl) rfl rfl (pv_add rfl rfl rfl (by omega) (by omega)) ?_)
        refine rw_cons (op_pv (w0 rfl) rfl rfl (pv_move (v := (.int .i64 ((k : Int) + 1))) rfl rfl) ?_)
        refine rw_nil (hK100 _ _ ?_)
        have hEQ101 : ((srvL (xs.take k) now wi al) ++ ([(el xs k).s] : List Int)) = srvL (xs.take (k + 1)) now wi al := by exact (srvL_yes xs now wi al k (by omega) (by unfold srvP; exact beq_iff_eq.2 (by assumption))).symm
        have hO102 := own_as hO87 hEQ101
        refine hK39 _ _ (k + 1, A94, c95) ⟨(sl_as hO87 hEQ101), (iv (by omega)), rfl, rfl, rfl, rfl, rfl, rfl, trivial⟩ ⟨?_, hB, hO, hO102, hc, (dj_sw hdj91)⟩ ?_
        · omega
        · (first | omega | (simp only []; omega))
      · -- else
        replace h73 := ne_of_beq_false h73
        refine cw_skip ?_
        refine hK53 _ _ ?_
        refine cw_region fun K103 hK104 => ?_
        refine rw_cons (op_pv (w0 rfl) rfl rfl (pv_add rfl rfl rfl (by omega) (by omega)) ?_)
        refine rw_cons (op_pv (w0 rfl) rfl rfl (pv_move (v := (.int .i64 ((k : Int) + 1))) rfl rfl) ?_)
        refine rw_nil (hK104 _ _ ?_)
        have hEQ105 : (srvL (xs.take k) now wi al) = srvL (xs.take (k + 1)) now wi al := by exact (srvL_no xs now wi al k (by omega) (by unfold srvP; exact beq_eq_false_iff_ne.2 (by assumption))).symm
        have hO106 := own_as hOut hEQ105
        refine hK39 _ _ (k + 1, Ao, co) ⟨(sl_as hOut hEQ105), (iv (by omega)), rfl, rfl, rfl, rfl, rfl, rfl, trivial⟩ ⟨?_, hB, hO, hO106, hc, (dj_as hdj37)⟩ ?_
        · omega
        · (first | omega | (simp only []; omega))
    · -- else
      replace h51 := of_decide_eq_false h51
      refine cw_exit ?_
      refine hK31 _ _ ?_
      refine cw_seq fun K107 hK108 => ?_
      refine cw_region fun K109 hK110 => ?_
      refine rw_cons (op_pv (w0 rfl) rfl rfl (pv_move (v := (.slice Ao (srvL (xs.take k) now wi al).length co)) rfl rfl) ?_)
      refine rw_cons (op_pv (w0 rfl) rfl rfl (pv_assign (v := (.slice Ao (srvL (xs.take k) now wi al).length co)) rfl rfl) ?_)
      refine rw_nil (hK110 _ _ ?_)
      refine hK108 _ _ ?_
      refine cw_ret ?_
      refine finD1 rfl ?_
      refine unlock_door muLib hB ?_
      intro w111 hB112 hch113
      have hsz114 := hch113.size
      replace hO := hO.ch hch113 (fun s hs => by have := dj_asg hgo s hs; simpa using this)
      replace hOut := hOut.ch hch113 (fun s hs => by first | (have := hOut.off s hs; simp; omega) | (have := hubO s hs; simp; omega))
      replace hc := hc.step hch113 (fun s hs => by first | (left; simp at hs; simp [hs]; done) | (right; simp at hs; omega))
      replace hB : Blk w111 g 76 [(.int .i32 0), (.int .u32 0), (.slice A xs.length c)] := hB112
      clear hB112
      have he_0 : srvL (xs.take k) now wi al = srvL xs now wi al := by rw [el_take_all xs k (by omega)]
      exact ⟨_, _, sl_as hOut he_0, own_as (hOut.less (by omega)) he_0, ⟨_, _, hB, hO, by omega, hgo⟩, _, hOffS, hc⟩
end Go.Proofs.Ytnkjljjcionfiaa
