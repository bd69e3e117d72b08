/-
  The walk of spec.DrawBaseRun, written by program: each line names the law of one operation. Conditions: those of the theorem.
-/
import Derived.Test.YtpnenfglogggmaaProg
import Derived.Test.YtpnenfglogggmaaBase
import Derived.Test.YtpnenfglogggmaaArr
import Derived.Test.YtpnenfglogggmaaFspecl6Open
import Derived.Test.YtpnenfglogggmaaFspecl92Base
import Derived.Test.YtpnenfglogggmaaFspecl91Log
import Derived.KernelRfl
namespace Go.Proofs.Ytpnenfglogggmaa
open Go Go.RowKit
set_option linter.unusedVariables false
set_option linter.unusedSimpArgs false
namespace DrawBaseRun_okF
theorem T25 : TI Try.prog 25 true (.agg #[.int .i64 0, .slice none 0 0]) 2 32 := TI.mk' Try.underlying25 rfl (by kernel_rfl)
theorem C25 : Callable Try.prog 25 := ⟨_, Try.func25, by kernel_rfl, by kernel_rfl⟩
theorem C26 : Callable Try.prog 26 := ⟨_, Try.func26, by kernel_rfl, by kernel_rfl⟩
theorem C34 : Callable Try.prog 34 := ⟨_, Try.func34, by kernel_rfl, by kernel_rfl⟩
end DrawBaseRun_okF
open DrawBaseRun_okF in
set_option maxHeartbeats 4000000 in
theorem DrawBaseRun_ok (A : Option Addr) (n c : Nat) (bs : List UInt8) (w : World) (hR : RS encU 1 w w.heap.size A n bs) (hn : n ≤ c) :
    Fn Try.prog 14 [(.slice A n c)] w fun v w' => ∃ m Axs cxs xs Alog clog log, v = .tuple #[.agg #[.int .i64 m, .slice Axs xs.length cxs], .slice Alog log.length clog] ∧ Own encI 1 w' w.heap.size 3 (.slice Axs xs.length cxs) xs ∧ Own encB 2 w' w.heap.size 65 (.slice Alog log.length clog) log ∧ (∀ s ∈ obl (.slice Axs xs.length cxs), s ∉ obl (.slice Alog log.length clog)) ∧ xs.length ≤ 5 ∧ log.length ≤ 13 ∧ Ch [] w w' := by
  refine fn_of (n := 13) Try.func14 rfl rfl rfl rfl ?_
  have hc : Ch [] w w := Ch.refl _ _
  refine cw_seq fun K1 hK2 => ?_
  refine cw_region fun K3 hK4 => ?_
  refine rw_cons (op_alloc T25 (w0 rfl) rfl rfl rfl ?_)
  rintro g6 w5 hg9 hg10 hB8 hch7
  have hsz11 := hch7.size
  replace hR := hR.ch0 hch7
  replace hc := hc.step0 hch7
  replace hB8 : Blk w5 g6 25 [(.int .i64 0), (.slice none 0 0)] := hB8
  refine rw_cons (op_pv (w0 rfl) rfl rfl (pv_assign (v := (.slice none 0 0)) rfl rfl) ?_)
  refine rw_nil (hK4 _ _ ?_)
  refine hK2 _ _ ?_
  refine cw_seq fun K12 hK13 => ?_
  refine cw_region fun K14 hK15 => ?_
  refine rw_cons (op_pv (w0 rfl) rfl rfl (pv_move (v := (.slice A n c)) rfl rfl) ?_)
  refine rw_cons (op_call (w0 rfl) rfl rfl (rc_call C26 rfl rfl) (l6Open_ok _ _ _ _ _ (hR.more (by omega)) (by omega)) ?_)
  rintro _ w17 ⟨g16, rfl, hg18, hRd19, hch20⟩
  have hsz21 := hch20.size
  replace hR := hR.ch0 hch20
  replace hB8 := hB8.ch0 hch20
  replace hc := hc.step0 hch20
  have hlt22 := hRd19.lt
  refine rw_cons (op_pv (w0 rfl) rfl rfl (pv_assign (v := (.pointer (some (⟨g16, 0, none⟩)))) rfl rfl) ?_)
  refine rw_nil (hK15 _ _ ?_)
  refine hK13 _ _ ?_
  refine cw_seq fun K23 hK24 => ?_
  refine cw_region fun K25 hK26 => ?_
  refine rw_cons (op_pv (w0 rfl) rfl rfl (pv_move (v := (.pointer (some (⟨g16, 0, none⟩)))) rfl rfl) ?_)
  refine rw_cons (op_call (w0 rfl) rfl rfl (rc_call C25 rfl rfl) (l92Base_ok _ _ _ hRd19 (by omega)) ?_)
  rintro _ w27 ⟨m29, A31, c32, xs30, rfl, hO33, hl35, hRd36, hch28⟩
  have hsz37 := hch28.size
  replace hR := hR.ch hch28 (off1 (by omega))
  replace hB8 := hB8.ch hch28 (by simp; omega)
  replace hc := (off1 (by omega)).step hc hch28
  clear hRd19; have hRd19 := hRd36; clear hRd36
  have hub34 := hO33.lt
  have hcap38 : xs30.length ≤ c32 := by obtain ⟨_, _, hv, h1, _⟩ := hO33.form; injection hv with _ _ h3; omega
  refine rw_cons (op_alloc T25 (w0 rfl) rfl rfl rfl ?_)
  rintro g40 w39 hg43 hg44 hB42 hch41
  have hsz45 := hch41.size
  replace hR := hR.ch0 hch41
  replace hB8 := hB8.ch0 hch41
  replace hRd19 := hRd19.ch0 hch41
  replace hO33 := hO33.ch0 hch41
  replace hc := hc.step0 hch41
  replace hB42 : Blk w39 g40 25 [(.int .i64 0), (.slice none 0 0)] := hB42
  have hdj46 : ∀ s ∈ obl (.slice A31 xs30.length c32), s ≠ g40 := fun s hs => by have := hub34 s hs; omega
  refine rw_cons (op_store_blk T25 hB42 (w0 rfl) rfl rfl rfl rfl rfl (one_all rfl) (Nat.le_of_ble_eq_true rfl) ?_)
  rintro w47 hB49 hch48
  have hsz50 := hch48.size
  replace hR := hR.ch hch48 (off1 (by omega))
  replace hB8 := hB8.ch hch48 (by simp; omega)
  replace hRd19 := hRd19.ch hch48 (off1 (by omega))
  replace hO33 := hO33.ch hch48 (fun s hs => by have := dj_asg hdj46 s hs; simpa using this)
  replace hc := (off1 (by omega)).step hc hch48
  replace hB42 : Blk w47 g40 25 [(.int .i64 m29), (.slice A31 xs30.length c32)] := hB49
  clear hB49
  refine rw_nil (hK26 _ _ ?_)
  refine hK24 _ _ ?_
  refine cw_seq fun K51 hK52 => ?_
  refine cw_drawn (fun u => Ch [g16, g6] w47 u) (.free 0 (.free 1 (.one 2 true (.one 3 true (.free 4 (.done)))))) (by kernel_rfl) (by kernel_rfl) (Ch.refl _ _).drew fun K56 hK57 => ?_
  obtain ⟨w53, hw_, hch54, hsz55⟩ : ∃ w1 : World, w1 = w47.drew ∧ Ch [] w47 w1 ∧ w1.heap.size = w47.heap.size := ⟨_, rfl, (Ch.refl _ _).drew, rfl⟩
  rw [← hw_]; clear hw_
  have hr58 : Ch [g16, g6] w47 w53 := hch54.sub (fun s hs => by cases hs)
  have hR_r := hR
  have hB8_r := hB8
  have hRd19_r := hRd19
  have hO33_r := hO33
  have hB42_r := hB42
  have hsz59 := hch54.size
  replace hR := hR.ch0 hch54
  replace hB8 := hB8.ch0 hch54
  replace hRd19 := hRd19.ch0 hch54
  replace hO33 := hO33.ch0 hch54
  replace hB42 := hB42.ch0 hch54
  replace hc := hc.step0 hch54
  refine tw_free rfl (w0 rfl) rfl rfl (fun u hu => lv_loadN T25 rfl rfl rfl (fun j v hv => (hB42_r.ch hu (by simp; omega)).cellA hv)) ?_
  refine tw_free rfl (w0 rfl) rfl rfl (fun u hu => (pv_move (v := (.pointer (some (⟨g16, 0, none⟩)))) rfl rfl : PV _ _ _ _) u) ?_
  refine tw_one rfl (op_call (w0 rfl) rfl rfl (rc_call C34 rfl rfl) (l91Log_ok _ _ _ hRd19 (by omega)) ?_)
  rintro _ w60 ⟨A63, c64, xs62, rfl, hO65, hl67, hRd68, hch61⟩
  have hsz69 := hch61.size
  replace hR := hR.ch hch61 (off1 (by omega))
  replace hB8 := hB8.ch hch61 (by simp; omega)
  replace hO33 := hO33.ch hch61 (fun s hs => by first | (have := hO33.off s hs; simp; omega) | (have := hub34 s hs; simp; omega))
  replace hB42 := hB42.ch hch61 (by simp; omega)
  replace hc := (off1 (by omega)).step hc hch61
  replace hr58 := hr58.step hch61 (fun s hs => .inl (by simp at hs; simp [hs]))
  clear hRd19; have hRd19 := hRd68; clear hRd68
  have hub66 := hO65.lt
  have hcap70 : xs62.length ≤ c64 := by obtain ⟨_, _, hv, h1, _⟩ := hO65.form; injection hv with _ _ h3; omega
  refine ⟨fun _ => hr58, ?_⟩
  clear hRd19
  refine tw_one rfl (op_store_blk T25 hB8 (w0 rfl) rfl rfl rfl rfl rfl (one_all rfl) (Nat.le_of_ble_eq_true rfl) ?_)
  rintro w71 hB73 hch72
  have hsz74 := hch72.size
  replace hR := hR.ch hch72 (off1 (by omega))
  replace hO33 := hO33.ch hch72 (fun s hs => by first | (have := hO33.off s hs; simp; omega) | (have := hub34 s hs; simp; omega))
  replace hB42 := hB42.ch hch72 (by simp; omega)
  replace hO65 := hO65.ch hch72 (fun s hs => by first | (have := hO65.off s hs; simp; omega) | (have := hub66 s hs; simp; omega))
  replace hc := (off1 (by omega)).step hc hch72
  replace hr58 := hr58.step hch72 (fun s hs => .inl (by simp at hs; simp [hs]))
  replace hB8 : Blk w71 g6 25 [(.int .i64 m29), (.slice A31 xs30.length c32)] := hB73
  clear hB73
  refine ⟨fun _ => hr58, ?_⟩
  refine tw_free rfl (w0 rfl) rfl rfl (fun u hu => (pv_assign (v := (.slice A63 xs62.length c64)) rfl rfl : PV _ _ _ _) u) ?_
  clear hB42_r
  clear hB8_r
  clear hO33_r
  clear hR_r
  clear hRd19_r
  refine tw_done (hK57 _ _ ?_)
  refine hK52 _ _ ?_
  refine cw_ret ?_
  refine finCT T25 rfl rfl rfl (fun j v hv => hB8.cellA hv) ?_
  exact ⟨_, _, _, _, _, _, _, (tup2 (agg2 rfl (sl_as hO33 rfl)) (sl_as hO65 rfl)), own_as (hO33.less (by omega)) rfl, own_as (hO65.less (by omega)) rfl, (dj_as (show ∀ s ∈ obl (.slice A31 xs30.length c32), s ∉ obl (.slice A63 xs62.length c64) from fun s hs hs2 => by first | (simp [obl, Value.ownBlock] at hs; done) | (simp [obl, Value.ownBlock] at hs2; done) | (have h1 := hO33.off s hs; have h2 := hub66 s hs2; omega) | (have h1 := hub34 s hs; have h2 := hO65.off s hs2; omega))), by first | omega | (simp only [List.length_take, List.length_set, List.length_append, List.length_cons, List.length_nil, List.length_replicate]; omega), by first | omega | (simp only [List.length_take, List.length_set, List.length_append, List.length_cons, List.length_nil, List.length_replicate]; omega), hc⟩
end Go.Proofs.Ytpnenfglogggmaa
