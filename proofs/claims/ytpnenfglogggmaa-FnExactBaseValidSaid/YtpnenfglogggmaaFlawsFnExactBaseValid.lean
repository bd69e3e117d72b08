/-
  The walk of laws.FnExactBaseValid, written by program: each line names the law of one operation. Conditions: those of the theorem.
-/
import Derived.Test.YtpnenfglogggmaaProg
import Derived.Test.YtpnenfglogggmaaFlawsszBase
import Derived.Test.YtpnenfglogggmaaFlawstoBase
import Derived.Test.YtpnenfglogggmaaFlawseqBase
import Derived.Test.YtpnenfglogggmaaFimplBaseValid
import Derived.Test.YtpnenfglogggmaaFspecBaseValid
import Derived.KernelRfl
namespace Go.Proofs.Ytpnenfglogggmaa
open Go Go.RowKit
set_option linter.unusedVariables false
set_option linter.unusedSimpArgs false
namespace FnExactBaseValid_okF
theorem T25 : TI Try.prog 25 true (.agg #[.int .i64 0, .slice none 0 0]) 2 32 := TI.mk' Try.underlying25 rfl (by kernel_rfl)
theorem T29 : TI Try.prog 29 true (.agg #[.int .i64 0, .slice none 0 0]) 2 32 := TI.mk' Try.underlying29 rfl (by kernel_rfl)
theorem C9 : Callable Try.prog 9 := ⟨_, Try.func9, by kernel_rfl, by kernel_rfl⟩
theorem C10 : Callable Try.prog 10 := ⟨_, Try.func10, by kernel_rfl, by kernel_rfl⟩
theorem C11 : Callable Try.prog 11 := ⟨_, Try.func11, by kernel_rfl, by kernel_rfl⟩
theorem C12 : Callable Try.prog 12 := ⟨_, Try.func12, by kernel_rfl, by kernel_rfl⟩
theorem C13 : Callable Try.prog 13 := ⟨_, Try.func13, by kernel_rfl, by kernel_rfl⟩
end FnExactBaseValid_okF
open FnExactBaseValid_okF in
set_option maxHeartbeats 4000000 in
theorem FnExactBaseValid_ok (a0 : Int) (A0 : Option Addr) (n0 c0 : Nat) (xs0 : List Int) (w : World) (hR0 : RS encI 1 w w.heap.size A0 n0 xs0) (hn0 : n0 ≤ c0) (hm0 : c0 ≤ maxLen) :
    Fn Try.prog 4 [(.agg #[(.int .i64 a0), (.slice A0 n0 c0)])] w fun v w' => v = .bool true ∧ Ch [] w w' := by
  have hlen0 := hR0.len
  refine fn_of (n := 27) Try.func4 rfl rfl rfl rfl ?_
  have hc : Ch [] w w := Ch.refl _ _
  refine cw_seq fun K1 hK2 => ?_
  refine cw_region fun K3 hK4 => ?_
  refine rw_cons (op_box (w0 rfl) rfl rfl rfl rfl ?_)
  rintro g6 w5 hg9 hg10 hB8 hch7
  have hsz11 := hch7.size
  replace hR0 := hR0.ch0 hch7
  replace hc := hc.step0 hch7
  replace hB8 : Blk w5 g6 29 [(.int .i64 a0), (.slice A0 n0 c0)] := hB8
  refine rw_cons (op_pv (w0 rfl) rfl rfl (pv_assign (v := (.bool false)) rfl rfl) ?_)
  refine rw_nil (hK4 _ _ ?_)
  refine hK2 _ _ ?_
  refine cw_seq fun K12 hK13 => ?_
  refine cw_region fun K14 hK15 => ?_
  refine rw_cons (op_pv (w0 rfl) rfl rfl (pv_assign (v := (.int .i64 1048576)) rfl rfl) ?_)
  refine rw_nil (hK15 _ _ ?_)
  refine hK13 _ _ ?_
  refine cw_seq fun K16 hK17 => ?_
  refine cw_region fun K18 hK19 => ?_
  refine rw_cons (op_lv (w0 rfl) rfl rfl (lv_loadN T29 rfl rfl rfl (fun j v hv => hB8.cellA hv)) ?_)
  refine rw_cons (op_pv (w0 rfl) rfl rfl (pv_move (v := (.int .i64 1048576)) rfl rfl) ?_)
  refine rw_cons (op_call (w0 rfl) rfl rfl (rc_call C11 rfl rfl) (szBase_ok _ _ n0 _ _ 1048576 _ (hR0.more (by omega)) (by omega) (by omega) (by omega)) ?_)
  rintro _ w21 ⟨r20, rfl, hsz22, hsz23, hch24⟩
  have hsz25 := hch24.size
  replace hR0 := hR0.ch0 hch24
  replace hB8 := hB8.ch0 hch24
  replace hc := hc.step0 hch24
  refine rw_cons (op_pv (w0 rfl) rfl rfl (pv_assign (v := (.int .i64 r20)) rfl rfl) ?_)
  refine rw_nil (hK19 _ _ ?_)
  refine hK17 _ _ ?_
  refine cw_seq fun K26 hK27 => ?_
  refine cw_seq fun K28 hK29 => ?_
  refine cw_region fun K30 hK31 => ?_
  refine rw_cons (op_pv (w0 rfl) rfl rfl (pv_move (v := (.int .i64 r20)) rfl rfl) ?_)
  refine rw_cons (op_pv (w0 rfl) rfl rfl (pv_lss rfl rfl rfl) ?_)
  refine rw_nil (hK31 _ _ ?_)
  refine hK29 _ _ ?_
  refine cw_cond rfl (fun h32 => ?_) (fun h32 => ?_)
  · -- then
    replace h32 := of_decide_eq_true h32
    refine cw_seq fun K33 hK34 => ?_
    refine cw_region fun K35 hK36 => ?_
    refine rw_cons (op_pv (w0 rfl) rfl rfl (pv_assign (v := (.bool true)) rfl rfl) ?_)
    refine rw_nil (hK36 _ _ ?_)
    refine hK34 _ _ ?_
    refine cw_ret ?_
    refine fin1 rfl ?_
    first
      | exact ⟨rfl, hc⟩
      | (exfalso; omega)
      | exact ⟨congrArg Value.bool (decide_eq_true (by omega)), hc⟩
      | exact absurd rfl ‹_ ≠ _›
      | (exfalso; simp_all; done)
  · -- else
    replace h32 := of_decide_eq_false h32
    refine cw_skip ?_
    refine hK27 _ _ ?_
    refine cw_seq fun K37 hK38 => ?_
    refine cw_region fun K39 hK40 => ?_
    refine rw_cons (op_lv (w0 rfl) rfl rfl (lv_loadN T29 rfl rfl rfl (fun j v hv => hB8.cellA hv)) ?_)
    refine rw_cons (op_call (w0 rfl) rfl rfl (rc_call C12 rfl rfl) (toBase_ok a0 _ n0 _ xs0 _ (hR0.more (by omega)) (by omega)) ?_)
    rintro _ w41 ⟨A43, c44, rfl, hO45, hch42⟩
    have hsz46 := hch42.size
    replace hR0 := hR0.ch0 hch42
    replace hB8 := hB8.ch0 hch42
    replace hc := hc.step0 hch42
    have hub47 := hO45.lt
    have hcap48 : xs0.length ≤ c44 := by obtain ⟨_, _, hv, h1, _⟩ := hO45.form; injection hv with _ _ h3; omega
    refine rw_cons (op_call (w0 rfl) rfl rfl (rc_call C10 rfl rfl) (BaseValid_s a0 _ xs0.length _ xs0 _ (hO45.rs (fun _ => rfl)) (by omega)) ?_)
    rintro _ w49 ⟨rfl, hch50⟩
    have hsz51 := hch50.size
    replace hR0 := hR0.ch0 hch50
    replace hB8 := hB8.ch0 hch50
    replace hO45 := hO45.ch0 hch50
    replace hc := hc.step0 hch50
    refine rw_cons (op_pv (w0 rfl) rfl rfl (pv_assign (v := (.bool (dec (BaseOK a0 xs0)))) rfl rfl) ?_)
    refine rw_nil (hK40 _ _ ?_)
    refine hK38 _ _ ?_
    refine cw_seq fun K52 hK53 => ?_
    refine cw_region fun K54 hK55 => ?_
    refine rw_cons (op_lv (w0 rfl) rfl rfl (lv_loadN T29 rfl rfl rfl (fun j v hv => hB8.cellA hv)) ?_)
    refine rw_cons (op_call (w0 rfl) rfl rfl (rc_call C12 rfl rfl) (toBase_ok a0 _ n0 _ xs0 _ (hR0.more (by omega)) (by omega)) ?_)
    rintro _ w56 ⟨A58, c59, rfl, hO60, hch57⟩
    have hsz61 := hch57.size
    replace hR0 := hR0.ch0 hch57
    replace hB8 := hB8.ch0 hch57
    replace hO45 := hO45.ch0 hch57
    replace hc := hc.step0 hch57
    have hub62 := hO60.lt
    have hcap63 : xs0.length ≤ c59 := by obtain ⟨_, _, hv, h1, _⟩ := hO60.form; injection hv with _ _ h3; omega
    refine rw_cons (op_alloc T25 (w0 rfl) rfl rfl rfl ?_)
    rintro g65 w64 hg68 hg69 hB67 hch66
    have hsz70 := hch66.size
    replace hR0 := hR0.ch0 hch66
    replace hB8 := hB8.ch0 hch66
    replace hO45 := hO45.ch0 hch66
    replace hO60 := hO60.ch0 hch66
    replace hc := hc.step0 hch66
    replace hB67 : Blk w64 g65 25 [(.int .i64 0), (.slice none 0 0)] := hB67
    have hdj71 : ∀ s ∈ obl (.slice A43 xs0.length c44), s ≠ g65 := fun s hs => by have := hub47 s hs; omega
    have hdj72 : ∀ s ∈ obl (.slice A58 xs0.length c59), s ≠ g65 := fun s hs => by have := hub62 s hs; omega
    refine rw_cons (op_store_blk T25 hB67 (w0 rfl) rfl rfl rfl rfl rfl (one_all rfl) (Nat.le_of_ble_eq_true rfl) ?_)
    rintro w73 hB75 hch74
    have hsz76 := hch74.size
    replace hR0 := hR0.ch hch74 (off1 (by omega))
    replace hB8 := hB8.ch hch74 (by simp; omega)
    replace hO45 := hO45.ch hch74 (fun s hs => by have := dj_asg hdj71 s hs; simpa using this)
    replace hO60 := hO60.ch hch74 (fun s hs => by have := dj_asg hdj72 s hs; simpa using this)
    replace hc := (off1 (by omega)).step hc hch74
    replace hB67 : Blk w73 g65 25 [(.int .i64 a0), (.slice A58 xs0.length c59)] := hB75
    clear hB75
    refine rw_nil (hK55 _ _ ?_)
    refine hK53 _ _ ?_
    refine cw_seq fun K77 hK78 => ?_
    refine cw_region fun K79 hK80 => ?_
    refine rw_cons (op_lv (w0 rfl) rfl rfl (lv_loadN T25 rfl rfl rfl (fun j v hv => hB67.cellA hv)) ?_)
    refine rw_cons (op_call (w0 rfl) rfl rfl (rc_call C9 rfl rfl) (BaseValid_i a0 _ xs0.length _ xs0 _ (hO60.rs (fun _ => rfl)) (by omega)) ?_)
    rintro _ w81 ⟨rfl, hch82⟩
    have hsz83 := hch82.size
    replace hR0 := hR0.ch0 hch82
    replace hB8 := hB8.ch0 hch82
    replace hO45 := hO45.ch0 hch82
    replace hO60 := hO60.ch0 hch82
    replace hB67 := hB67.ch0 hch82
    replace hc := hc.step0 hch82
    refine rw_cons (op_pv (w0 rfl) rfl rfl (pv_assign (v := (.bool (dec (BaseOK a0 xs0)))) rfl rfl) ?_)
    refine rw_nil (hK80 _ _ ?_)
    refine hK78 _ _ ?_
    refine cw_seq fun K84 hK85 => ?_
    refine cw_seq fun K86 hK87 => ?_
    refine cw_region fun K88 hK89 => ?_
    refine rw_cons (op_pv (w0 rfl) rfl rfl (pv_move (v := (.bool (dec (BaseOK a0 xs0)))) rfl rfl) ?_)
    refine rw_cons (op_pv (w0 rfl) rfl rfl (pv_move (v := (.bool (dec (BaseOK a0 xs0)))) rfl rfl) ?_)
    refine rw_cons (op_pv (w0 rfl) rfl rfl (pv_neBs Try.underlying4 rfl rfl rfl) ?_)
    refine rw_nil (hK89 _ _ ?_)
    refine hK87 _ _ ?_
    refine cw_cond rfl (fun h90 => ?_) (fun h90 => ?_)
    · -- then
      cases h90
    · -- else
      clear h90
      refine cw_skip ?_
      refine hK85 _ _ ?_
      refine cw_seq fun K91 hK92 => ?_
      refine cw_seq fun K93 hK94 => ?_
      refine cw_drawn (fun u => Ch [] w81 u) (.free 0 (.free 1 (.one 2 true (.one 3 true (.free 4 (.done)))))) (by kernel_rfl) (by kernel_rfl) (Ch.refl _ _).drew fun K98 hK99 => ?_
      obtain ⟨w95, hw_, hch96, hsz97⟩ : ∃ w1 : World, w1 = w81.drew ∧ Ch [] w81 w1 ∧ w1.heap.size = w81.heap.size := ⟨_, rfl, (Ch.refl _ _).drew, rfl⟩
      rw [← hw_]; clear hw_
      have hr100 : Ch [] w81 w95 := hch96.sub (fun s hs => by cases hs)
      have hR0_r := hR0
      have hB8_r := hB8
      have hO45_r := hO45
      have hO60_r := hO60
      have hB67_r := hB67
      have hsz101 := hch96.size
      replace hR0 := hR0.ch0 hch96
      replace hB8 := hB8.ch0 hch96
      replace hO45 := hO45.ch0 hch96
      replace hO60 := hO60.ch0 hch96
      replace hB67 := hB67.ch0 hch96
      replace hc := hc.step0 hch96
      refine tw_free rfl (w0 rfl) rfl rfl (fun u hu => lv_loadN T25 rfl rfl rfl (fun j v hv => (hB67_r.ch hu (by simp)).cellA hv)) ?_
      refine tw_free rfl (w0 rfl) rfl rfl (fun u hu => lv_loadN T29 rfl rfl rfl (fun j v hv => (hB8_r.ch hu (by simp)).cellA hv)) ?_
      refine tw_one rfl (op_call (w0 rfl) rfl rfl (rc_call C12 rfl rfl) (toBase_ok a0 _ n0 _ xs0 _ (hR0.more (by omega)) (by omega)) ?_)
      rintro _ w102 ⟨A104, c105, rfl, hO106, hch103⟩
      have hsz107 := hch103.size
      replace hR0 := hR0.ch0 hch103
      replace hB8 := hB8.ch0 hch103
      replace hO45 := hO45.ch0 hch103
      replace hO60 := hO60.ch0 hch103
      replace hB67 := hB67.ch0 hch103
      replace hc := hc.step0 hch103
      replace hr100 := hr100.step0 hch103
      have hub108 := hO106.lt
      have hcap109 : xs0.length ≤ c105 := by obtain ⟨_, _, hv, h1, _⟩ := hO106.form; injection hv with _ _ h3; omega
      refine ⟨fun _ => hr100, ?_⟩
      refine tw_one rfl (op_call (w0 rfl) rfl rfl (rc_call C13 rfl rfl) (eqBase_ok a0 _ xs0.length _ xs0 a0 _ xs0.length _ xs0 _ (hO60.rs (fun _ => rfl)) (by omega) (hO106.rs (fun _ => rfl)) (by omega)) ?_)
      rintro _ w110 ⟨rfl, hch111⟩
      have hsz112 := hch111.size
      replace hR0 := hR0.ch0 hch111
      replace hB8 := hB8.ch0 hch111
      replace hO45 := hO45.ch0 hch111
      replace hO60 := hO60.ch0 hch111
      replace hB67 := hB67.ch0 hch111
      replace hO106 := hO106.ch0 hch111
      replace hc := hc.step0 hch111
      replace hr100 := hr100.step0 hch111
      refine ⟨fun _ => hr100, ?_⟩
      refine tw_free rfl (w0 rfl) rfl rfl (fun u hu => (pv_not rfl rfl : PV _ _ _ _) u) ?_
      clear hB67_r
      clear hB8_r
      clear hO45_r
      clear hO60_r
      clear hR0_r
      refine tw_done (hK99 _ _ ?_)
      refine hK94 _ _ ?_
      refine cw_cond rfl (fun h113 => ?_) (fun h113 => ?_)
      · -- then
        replace h113 := not_t h113
        replace h113 := dec_f h113
        refine cw_seq fun K114 hK115 => ?_
        refine cw_region fun K116 hK117 => ?_
        refine rw_cons (op_pv (w0 rfl) rfl rfl (pv_assign (v := (.bool false)) rfl rfl) ?_)
        refine rw_nil (hK117 _ _ ?_)
        refine hK115 _ _ ?_
        refine cw_ret ?_
        refine fin1 rfl ?_
        first
          | exact ⟨rfl, hc⟩
          | (exfalso; omega)
          | exact ⟨congrArg Value.bool (decide_eq_true (by omega)), hc⟩
          | exact absurd rfl ‹_ ≠ _›
          | (exfalso; simp_all; done)
      · -- else
        replace h113 := not_f h113
        replace h113 := dec_t h113
        refine cw_skip ?_
        refine hK92 _ _ ?_
        refine cw_seq fun K118 hK119 => ?_
        refine cw_region fun K120 hK121 => ?_
        refine rw_cons (op_pv (w0 rfl) rfl rfl (pv_assign (v := (.bool true)) rfl rfl) ?_)
        refine rw_nil (hK121 _ _ ?_)
        refine hK119 _ _ ?_
        refine cw_ret ?_
        refine fin1 rfl ?_
        first
          | exact ⟨rfl, hc⟩
          | (exfalso; omega)
          | exact ⟨congrArg Value.bool (decide_eq_true (by omega)), hc⟩
          | exact absurd rfl ‹_ ≠ _›
          | (exfalso; simp_all; done)
end Go.Proofs.Ytpnenfglogggmaa
