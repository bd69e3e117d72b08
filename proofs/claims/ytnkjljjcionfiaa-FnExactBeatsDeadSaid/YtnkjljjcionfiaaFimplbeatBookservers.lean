/-
  The walk of (*impl.beatBook).servers, written by program: each line names the law of one operation. Conditions: those of the theorem.
-/
import Derived.Test.YtnkjljjcionfiaaProg
import Derived.Test.YtnkjljjcionfiaaBeats
import Derived.Test.YtnkjljjcionfiaaDefer
import Derived.Test.YtnkjljjcionfiaaLocks
import Derived.KernelRfl
namespace Go.Proofs.Ytnkjljjcionfiaa
open Go Go.RowKit
set_option linter.unusedVariables false
set_option linter.unusedSimpArgs false
namespace servers_okF
theorem T3 : TI Try.prog 3 false (.int .i64 0) 1 8 := TI.mk' Try.underlying3 rfl (by kernel_rfl)
theorem T23 : TI Try.prog 23 false (.slice none 0 0) 1 24 := TI.mk' Try.underlying23 rfl (by kernel_rfl)
theorem T39 : TI Try.prog 39 true (.agg #[.int .i64 0, .int .i64 0]) 2 16 := TI.mk' Try.underlying39 rfl (by kernel_rfl)
theorem F39_0 : FldOK Try.prog 39 0 0 := ⟨_, _, 0, Try.underlying39, rfl, rfl, by kernel_rfl⟩
theorem F39_1 : FldOK Try.prog 39 1 1 := ⟨_, _, 0, Try.underlying39, rfl, rfl, by kernel_rfl⟩
theorem F76_0 : FldOK Try.prog 76 0 0 := ⟨_, _, 1, Try.underlying76, rfl, rfl, by kernel_rfl⟩
theorem F76_1 : FldOK Try.prog 76 1 2 := ⟨_, _, 0, Try.underlying76, rfl, rfl, by kernel_rfl⟩
theorem C55 : Callable Try.prog 55 := ⟨_, Try.func55, by kernel_rfl, by kernel_rfl⟩
theorem C56 : Callable Try.prog 56 := ⟨_, Try.func56, by kernel_rfl, by kernel_rfl⟩
end servers_okF
open servers_okF in
set_option maxHeartbeats 4000000 in
theorem servers_ok (g base : Nat) (xs : List Bt) (now wi : Int) (al : Bool) (w : World) (hbk : BookIs 76 39 w base g xs) (hbase : base ≤ w.heap.size) (hn : xs.length ≤ 1000) (hnow : 0 ≤ now ∧ now ≤ 9999) (hbt : ∀ j, j < xs.length → 0 ≤ (el xs j).a ∧ (el xs j).a ≤ 9999) :
    Fn Try.prog 54 [(.pointer (some (⟨g, 0, none⟩))), (.int .i64 now), (.int .i64 wi), (.bool al)] w fun v w' => ∃ A1 c1, v = .slice A1 (srvL xs now wi al).length c1 ∧ Own encI 1 w' w.heap.size 3 (.slice A1 (srvL xs now wi al).length c1) (srvL xs now wi al) ∧ BookIs 76 39 w' base g xs ∧ ∃ S, Off base S ∧ Ch S w w' := by
  obtain ⟨A, c, hB, hO, hgb, hgo⟩ := hbk
  have hub := hO.lt
  have hcap := hO.le.1
  have hglt := hB.lt
  have hOffS : Off base (g :: obl (.slice A xs.length c)) := fun s hs => by
    rcases List.mem_cons.1 hs with h | h
    · omega
    · exact hO.off s h
  refine fn_ofD (n := 44) (g := 56) (dargs := [.pointer (some ⟨g, 0, none⟩)]) Try.func54 rfl rfl rfl rfl C56 ?_
  have hc : Ch (g :: obl (.slice A xs.length c)) w w := Ch.refl _ _
  refine cwd_seq_r fun K1 hK2 => ?_
  refine cw_region fun K3 hK4 => ?_
  refine rw_cons (op_pv (w0 rfl) rfl rfl (pv_assign (v := (.slice none 0 0)) rfl rfl) ?_)
  refine rw_nil (hK4 _ _ ?_)
  refine hK2 _ _ ?_
  refine cwd_seq_r fun K5 hK6 => ?_
  refine cw_region fun K7 hK8 => ?_
  refine rw_cons (op_pv (w0 rfl) rfl rfl (pv_move (v := (.pointer (some (⟨g, 0, none⟩)))) rfl rfl) ?_)
  refine rw_cons (op_pv (w0 rfl) rfl rfl (pv_nil rfl rfl) ?_)
  refine rw_cons (op_pv (w0 rfl) rfl rfl (pv_fld F76_0 rfl rfl) ?_)
  refine rw_cons (op_call (w0 rfl) rfl rfl (rc_call C55 rfl rfl) (lock_fn muLib hB) ?_)
  rintro _ w9 ⟨rfl, hB10, hch11⟩
  have hsz12 := hch11.size
  replace hO := hO.ch hch11 (fun s hs => by have := dj_asg hgo s hs; simpa using this)
  replace hc := hc.step hch11 (fun s hs => by first | (left; simp at hs; simp [hs]; done) | (right; simp at hs; omega))
  replace hB : Blk w9 g 76 [(.int .i32 1), (.int .u32 0), (.slice A xs.length c)] := hB10
  clear hB10
  refine rw_nil (hK8 _ _ ?_)
  refine hK6 _ _ ?_
  refine cwd_seq_l fun K13 hK14 => ?_
  refine cwd_region fun K15 hK16 => ?_
  refine rwd_cons (op_pv (w0 rfl) rfl rfl (pv_move (v := (.pointer (some (⟨g, 0, none⟩)))) rfl rfl) ?_)
  refine rwd_cons (op_pv (w0 rfl) rfl rfl (pv_nil rfl rfl) ?_)
  refine rwd_cons (op_pv (w0 rfl) rfl rfl (pv_fld F76_0 rfl rfl) ?_)
  refine rwd_defer (w0 rfl) rfl (rd_defer rfl rfl) (hK16 _ _ ?_)
  refine hK14 _ _ ?_
  refine cw_seq fun K17 hK18 => ?_
  refine cw_region fun K19 hK20 => ?_
  refine rw_cons (op_bslice [] Try.underlying34 T3 (w0 rfl) rfl rfl rfl rfl rfl (by simp [Value.cells]) (by decide) ?_)
  intro g22 w21 hg25 hg26 hK24 hch23
  have hO27 : Own encI 1 w21 w9.heap.size 3 (.slice (some ⟨g22, 0, none⟩) 0 0) ([] : List Int) := Blk.own (xs := ([] : List Int)) hK24 (by omega) rfl (by decide) rfl
  have hsz28 := hch23.size
  replace hB := hB.ch0 hch23
  replace hO := hO.ch0 hch23
  replace hc := hc.step0 hch23
  have hub29 := hO27.lt
  refine rw_cons (op_pv (w0 rfl) rfl rfl (pv_assign (v := (.slice (some ⟨g22, 0, none⟩) 0 0)) rfl rfl) ?_)
  refine rw_nil (hK20 _ _ ?_)
  refine hK18 _ _ ?_
  refine cw_seq fun K30 hK31 => ?_
  refine cw_seq fun K32 hK33 => ?_
  refine cw_region fun K34 hK35 => ?_
  refine rw_cons (op_pv (w0 rfl) rfl rfl (pv_move (v := (.pointer (some (⟨g, 0, none⟩)))) rfl rfl) ?_)
  refine rw_cons (op_pv (w0 rfl) rfl rfl (pv_nil rfl rfl) ?_)
  refine rw_cons (op_pv (w0 rfl) rfl rfl (pv_fld F76_1 rfl rfl) ?_)
  refine rw_cons (op_lv (w0 rfl) rfl rfl (lv_load T23 rfl rfl (hB.cellA (i := 2) rfl)) ?_)
  refine rw_cons (op_pv (w0 rfl) rfl rfl (pv_len Try.underlying23 rfl rfl) ?_)
  refine rw_cons (op_pv (w0 rfl) rfl rfl (pv_move (v := (.int .i64 0)) rfl rfl) ?_)
  refine rw_nil (hK35 _ _ ?_)
  refine hK33 _ _ ?_
  refine cw_block ?_
  refine cw_loop (σ := Nat × (Option Addr) × Nat) (fun ⟨k, Ao, co⟩ => [(9, (.slice Ao (srvL (xs.take k) now wi al).length co)), (25, (.int .i64 (k : Int))), (1, (.int .i64 now)), (2, (.int .i64 wi)), (3, (.bool al)), (8, (.slice none 0 0)), (23, (.slice A xs.length c)), (24, (.int .i64 (xs.length : Int)))]) (fun ⟨k, Ao, co⟩ W => (k ≤ xs.length) ∧ Blk W g 76 [(.int .i32 1), (.int .u32 0), (.slice A xs.length c)] ∧ Own encB 2 W base 39 (.slice A xs.length c) xs ∧ Own encI 1 W w.heap.size 3 (.slice Ao (srvL (xs.take k) now wi al).length co) (srvL (xs.take k) now wi al) ∧ Ch (g :: obl (.slice A xs.length c)) w W ∧ (∀ s ∈ obl (.slice A xs.length c), s ∉ obl (.slice Ao (srvL (xs.take k) now wi al).length co))) (fun ⟨k, Ao, co⟩ => xs.length - k) (0, (some ⟨g22, 0, none⟩), 0) ?_ ?_ ?_
  · exact ⟨rfl, rfl, rfl, rfl, rfl, rfl, rfl, rfl, trivial⟩
  · refine ⟨Nat.zero_le _, hB, hO, (hO27.less (by omega)), hc, (fun s hs hs2 => by first | (have h1 := hO.off s hs; have h2 := hub29 s hs2; omega) | (have h1 := hO27.off s hs; have h2 := hub s hs2; omega) | (have h1 := hub s hs; have h2 := hO27.off s hs2; omega) | (have h1 := hub29 s hs; have h2 := hO.off s hs2; omega) | (simp [obl, Value.ownBlock] at hs; done) | (simp [obl, Value.ownBlock] at hs2; done) | exact hgo s hs hs2 | exact hgo s hs2 hs)⟩
  · rintro ⟨k, Ao, co⟩ J41 w36 ⟨hk, hB, hO, hOut, hc, hdj37⟩ K38 hK39
    have hsz43 := hc.size
    have hub := hO.lt
    have hubO := hOut.lt
    have hsl := srvL_le (xs.take k) now wi al; have htl : (xs.take k).length ≤ k := List.length_take_le _ _; have hbd := hbt k
    refine cw_seq fun K44 hK45 => ?_
    refine cw_region fun K46 hK47 => ?_
    refine rw_cons (op_pv (w0 rfl) rfl rfl (pv_lss rfl rfl rfl) ?_)
    refine rw_nil (hK47 _ _ ?_)
    refine hK45 _ _ ?_
    refine cw_seq fun K48 hK49 => ?_
    refine cw_cond rfl (fun h50 => ?_) (fun h50 => ?_)
    · -- then
      replace h50 := of_decide_eq_true h50
      refine cw_skip ?_
      refine hK49 _ _ ?_
      refine cw_seq fun K51 hK52 => ?_
      refine cw_block ?_
      refine cw_seq fun K53 hK54 => ?_
      refine cw_region fun K55 hK56 => ?_
      refine rw_cons (op_pv (w0 rfl) rfl rfl (pv_idx Try.underlying23 T39 rfl rfl rfl ((hO.rs (fun _ => rfl)).some (k := k) (by omega)) (by omega) (by omega)) ?_)
      refine rw_cons (op_lv (w0 rfl) rfl rfl (lv_loadN T39 rfl rfl rfl (fun j v hv => (hO.rs (fun _ => rfl)).cellE (k := k) (by omega) hv)) ?_)
      refine rw_cons (op_alloc T39 (w0 rfl) rfl rfl rfl ?_)
      rintro g58 w57 hg61 hg62 hB60 hch59
      have hsz63 := hch59.size
      replace hB := hB.ch0 hch59
      replace hO := hO.ch0 hch59
      replace hOut := hOut.ch0 hch59
      replace hc := hc.step0 hch59
      replace hB60 : Blk w57 g58 39 [(.int .i64 0), (.int .i64 0)] := hB60
      refine rw_cons (op_store_blk T39 hB60 (w0 rfl) rfl rfl rfl rfl rfl (one_all rfl) (Nat.le_of_ble_eq_true rfl) ?_)
      rintro w64 hB66 hch65
      have hsz67 := hch65.size
      replace hB := hB.ch hch65 (by simp; omega)
      replace hO := hO.ch hch65 (fun s hs => by first | (have := hO.off s hs; simp; omega) | (have := hub s hs; simp; omega))
      replace hOut := hOut.ch hch65 (fun s hs => by first | (have := hOut.off s hs; simp; omega) | (have := hubO s hs; simp; omega))
      replace hc := hc.step hch65 (fun s hs => by first | (left; simp at hs; simp [hs]; done) | (right; simp at hs; omega))
      replace hB60 : Blk w64 g58 39 [(.int .i64 (el xs k).s), (.int .i64 (el xs k).a)] := hB66
      clear hB66
      refine rw_nil (hK56 _ _ ?_)
      refine hK54 _ _ ?_
      refine cw_seq fun K68 hK69 => ?_
      refine cw_region fun K70 hK71 => ?_
      refine rw_cons (op_pv (w0 rfl) rfl rfl (pv_move (v := (.int .i64 now)) rfl rfl) ?_)
      refine rw_cons (op_pv (w0 rfl) rfl rfl (pv_fld F39_1 rfl rfl) ?_)
      refine rw_cons (op_lv (w0 rfl) rfl rfl (lv_load T3 rfl rfl (hB60.cellA (i := 1) rfl)) ?_)
      refine rw_cons (op_pv (w0 rfl) rfl rfl (pv_sub rfl rfl rfl (by omega) (by omega)) ?_)
      refine rw_cons (op_pv (w0 rfl) rfl rfl (pv_move (v := (.int .i64 wi)) rfl rfl) ?_)
      refine rw_cons (op_pv (w0 rfl) rfl rfl (pv_lss rfl rfl rfl) ?_)
      refine rw_cons (op_pv (w0 rfl) rfl rfl (pv_move (v := (.bool al)) rfl rfl) ?_)
      refine rw_cons (op_pv (w0 rfl) rfl rfl (pv_eqlB Try.underlying4 rfl rfl rfl) ?_)
      refine rw_nil (hK71 _ _ ?_)
      refine hK69 _ _ ?_
      refine cw_cond rfl (fun h72 => ?_) (fun h72 => ?_)
      · -- then
        replace h72 := eq_of_beq h72
        refine cw_region fun K73 hK74 => ?_
        refine rw_cons (op_pv (w0 rfl) rfl rfl (pv_move (v := (.slice Ao (srvL (xs.take k) now wi al).length co)) rfl rfl) ?_)
        refine rw_cons (op_pv (w0 rfl) rfl rfl (pv_fld F39_0 rfl rfl) ?_)
        refine rw_cons (op_lv (w0 rfl) rfl rfl (lv_load T3 rfl rfl (hB60.cellA (i := 0) rfl)) ?_)
        refine rw_cons (op_bslice [(.int .i64 (el xs k).s)] Try.underlying34 T3 (w0 rfl) rfl rfl rfl rfl rfl (by simp [Value.cells]) (by decide) ?_)
        intro g76 w75 hg79 hg80 hK78 hch77
        have hO81 : Own encI 1 w75 w64.heap.size 3 (.slice (some ⟨g76, 0, none⟩) 1 1) ([(el xs k).s] : List Int) := Blk.own (xs := ([(el xs k).s] : List Int)) hK78 (by omega) rfl (by decide) rfl
        have hsz82 := hch77.size
        replace hB := hB.ch0 hch77
        replace hO := hO.ch0 hch77
        replace hOut := hOut.ch0 hch77
        replace hB60 := hB60.ch0 hch77
        replace hc := hc.step0 hch77
        have hub83 := hO81.lt
        refine rw_cons (op_append Try.underlying34 T3 (fun _ => rfl) rfl (by decide) (fun _ => one_all rfl) (w0 rfl) rfl rfl rfl rfl rfl hOut (hO81.rs (fun _ => rfl)) (by unfold maxLen; first | omega | (simp; omega)) (by first | omega | (simp; omega)) (by omega) ?_)
        rintro v84 w85 hO86 hch87 hs88
        have hl89 : ((srvL (xs.take k) now wi al) ++ ([(el xs k).s] : List Int)).length = (srvL (xs.take k) now wi al).length + 1 := by first | (have hl0 := (hO81.rs (fun _ => rfl)).len; omega) | (have hl0 := (hO81.rs (fun _ => rfl)).len; simp only [List.length_append, List.length_cons, List.length_nil] at hl0 ⊢; omega) | simp | rfl
        clear hO81
        have hsz91 := hch87.size
        replace hB := hB.ch hch87 (by first | (refine hOut.off.not ?_; omega) | (intro hs; have := hubO _ hs; omega))
        replace hO := hO.ch hch87 (dj_as hdj37)
        replace hB60 := hB60.ch hch87 (by first | (refine hOut.off.not ?_; omega) | (intro hs; have := hubO _ hs; omega))
        replace hc := hc.step hch87 (fun s hs => by first | (left; exact List.mem_cons_of_mem _ hs) | (right; have := hOut.off s hs; omega))
        have hub92 := hO86.lt
        obtain ⟨A93, c94, hv95, hcap96, hcap97⟩ := hO86.form; subst hv95
        have hdj90 : ∀ s ∈ obl (.slice A93 ((srvL (xs.take k) now wi al) ++ ([(el xs k).s] : List Int)).length c94), s ∉ obl (.slice A xs.length c) := dj_new hs88 (dj_sw hdj37) (fun s hs => by have := hub s hs; omega)
        refine rw_cons (op_pv (w0 rfl) rfl rfl (pv_assign (v := (.slice A93 ((srvL (xs.take k) now wi al) ++ ([(el xs k).s] : List Int)).length c94)) rfl rfl) ?_)
        refine rw_nil (hK74 _ _ ?_)
        refine hK52 _ _ ?_
        refine cw_region fun K98 hK99 => ?_
        refine rw_cons (op_pv (w0 rfl) rfl rfl (pv_add rfl rfl rfl (by omega) (by omega)) ?_)
        refine rw_cons (op_pv (w0 rfl) rfl rfl (pv_move (v := (.int .i64 ((k : Int) + 1))) rfl rfl) ?_)
        refine rw_nil (hK99 _ _ ?_)
        have hEQ100 : ((srvL (xs.take k) now wi al) ++ ([(el xs k).s] : List Int)) = srvL (xs.take (k + 1)) now wi al := by exact (srvL_yes xs now wi al k (by omega) (by unfold srvP; exact beq_iff_eq.2 (by assumption))).symm
        have hO101 := own_as hO86 hEQ100
        refine hK39 _ _ (k + 1, A93, c94) ⟨(sl_as hO86 hEQ100), (iv (by omega)), rfl, rfl, rfl, rfl, rfl, rfl, trivial⟩ ⟨?_, hB, hO, hO101, hc, (dj_sw hdj90)⟩ ?_
        · omega
        · (first | omega | (simp only []; omega))
      · -- else
        replace h72 := ne_of_beq_false h72
        refine cw_skip ?_
        refine hK52 _ _ ?_
        refine cw_region fun K102 hK103 => ?_
        refine rw_cons (op_pv (w0 rfl) rfl rfl (pv_add rfl rfl rfl (by omega) (by omega)) ?_)
        refine rw_cons (op_pv (w0 rfl) rfl rfl (pv_move (v := (.int .i64 ((k : Int) + 1))) rfl rfl) ?_)
        refine rw_nil (hK103 _ _ ?_)
        have hEQ104 : (srvL (xs.take k) now wi al) = srvL (xs.take (k + 1)) now wi al := by exact (srvL_no xs now wi al k (by omega) (by unfold srvP; exact beq_eq_false_iff_ne.2 (by assumption))).symm
        have hO105 := own_as hOut hEQ104
        refine hK39 _ _ (k + 1, Ao, co) ⟨(sl_as hOut hEQ104), (iv (by omega)), rfl, rfl, rfl, rfl, rfl, rfl, trivial⟩ ⟨?_, hB, hO, hO105, hc, (dj_as hdj37)⟩ ?_
        · omega
        · (first | omega | (simp only []; omega))
    · -- else
      replace h50 := of_decide_eq_false h50
      refine cw_exit ?_
      refine hK31 _ _ ?_
      refine cw_seq fun K106 hK107 => ?_
      refine cw_region fun K108 hK109 => ?_
      refine rw_cons (op_pv (w0 rfl) rfl rfl (pv_move (v := (.slice Ao (srvL (xs.take k) now wi al).length co)) rfl rfl) ?_)
      refine rw_cons (op_pv (w0 rfl) rfl rfl (pv_assign (v := (.slice Ao (srvL (xs.take k) now wi al).length co)) rfl rfl) ?_)
      refine rw_nil (hK109 _ _ ?_)
      refine hK107 _ _ ?_
      refine cw_ret ?_
      refine finD1 rfl ?_
      refine unlock_door muLib hB ?_
      intro w110 hB111 hch112
      have hsz113 := hch112.size
      replace hO := hO.ch hch112 (fun s hs => by have := dj_asg hgo s hs; simpa using this)
      replace hOut := hOut.ch hch112 (fun s hs => by first | (have := hOut.off s hs; simp; omega) | (have := hubO s hs; simp; omega))
      replace hc := hc.step hch112 (fun s hs => by first | (left; simp at hs; simp [hs]; done) | (right; simp at hs; omega))
      replace hB : Blk w110 g 76 [(.int .i32 0), (.int .u32 0), (.slice A xs.length c)] := hB111
      clear hB111
      have he_0 : srvL (xs.take k) now wi al = srvL xs now wi al := by rw [el_take_all xs k (by omega)]
      exact ⟨_, _, sl_as hOut he_0, own_as (hOut.less (by omega)) he_0, ⟨_, _, hB, hO, by omega, hgo⟩, _, hOffS, hc⟩
end Go.Proofs.Ytnkjljjcionfiaa
