/-
  The walk of laws.FnRun, written by program: each line names the law of one operation. Conditions: those of the theorem.
-/
import Derived.Test.YtpnenfglogggmaaProg
import Derived.Test.YtpnenfglogggmaaBase
import Derived.Test.YtpnenfglogggmaaArr
import Derived.Test.YtpnenfglogggmaaFspecDrawBaseRun
import Derived.Test.YtpnenfglogggmaaFimplBaseRun
import Derived.Test.YtpnenfglogggmaaFspecBaseRun
import Derived.Test.YtpnenfglogggmaaFlawssameBase
import Derived.Test.YtpnenfglogggmaaFimplBaseValid
import Derived.KernelRfl
namespace Go.Proofs.Ytpnenfglogggmaa
open Go Go.RowKit
set_option linter.unusedVariables false
set_option linter.unusedSimpArgs false
namespace FnRun_okF
theorem T3 : TI Try.prog 3 false (.int .i64 0) 1 8 := TI.mk' Try.underlying3 rfl (by kernel_rfl)
theorem T25 : TI Try.prog 25 true (.agg #[.int .i64 0, .slice none 0 0]) 2 32 := TI.mk' Try.underlying25 rfl (by kernel_rfl)
theorem F25_0 : FldOK Try.prog 25 0 0 := ⟨_, _, 0, Try.underlying25, rfl, rfl, by kernel_rfl⟩
theorem C9 : Callable Try.prog 9 := ⟨_, Try.func9, by kernel_rfl, by kernel_rfl⟩
theorem C14 : Callable Try.prog 14 := ⟨_, Try.func14, by kernel_rfl, by kernel_rfl⟩
theorem C15 : Callable Try.prog 15 := ⟨_, Try.func15, by kernel_rfl, by kernel_rfl⟩
theorem C16 : Callable Try.prog 16 := ⟨_, Try.func16, by kernel_rfl, by kernel_rfl⟩
theorem C17 : Callable Try.prog 17 := ⟨_, Try.func17, by kernel_rfl, by kernel_rfl⟩
end FnRun_okF
open FnRun_okF in
set_option maxHeartbeats 4000000 in
theorem FnRun_ok (A0 : Option Addr) (n0 c0 : Nat) (xs0 : List UInt8) (w : World) (hR0 : RS encU 1 w w.heap.size A0 n0 xs0) (hn0 : n0 ≤ c0) :
    Fn Try.prog 5 [(.slice A0 n0 c0)] w fun v w' => v = .bool true ∧ Ch [] w w' := by
  have hlen0 := hR0.len
  refine fn_of (n := 62) Try.func5 rfl rfl rfl rfl ?_
  have hc : Ch [] w w := Ch.refl _ _
  refine cw_seq fun K1 hK2 => ?_
  refine cw_region fun K3 hK4 => ?_
  refine rw_cons (op_pv (w0 rfl) rfl rfl (pv_assign (v := (.bool false)) rfl rfl) ?_)
  refine rw_nil (hK4 _ _ ?_)
  refine hK2 _ _ ?_
  refine cw_seq fun K5 hK6 => ?_
  refine cw_seq fun K7 hK8 => ?_
  refine cw_region fun K9 hK10 => ?_
  refine rw_cons (op_pv (w0 rfl) rfl rfl (pv_move (v := (.slice A0 n0 c0)) rfl rfl) ?_)
  refine rw_cons (op_pv (w0 rfl) rfl rfl (pv_len Try.underlying22 rfl rfl) ?_)
  refine rw_cons (op_pv (w0 rfl) rfl rfl (pv_gtr rfl rfl rfl) ?_)
  refine rw_nil (hK10 _ _ ?_)
  refine hK8 _ _ ?_
  refine cw_cond rfl (fun h11 => ?_) (fun h11 => ?_)
  · -- then
    replace h11 := of_decide_eq_true h11
    refine cw_seq fun K12 hK13 => ?_
    refine cw_region fun K14 hK15 => ?_
    refine rw_cons (op_pv (w0 rfl) rfl rfl (pv_assign (v := (.bool true)) rfl rfl) ?_)
    refine rw_nil (hK15 _ _ ?_)
    refine hK13 _ _ ?_
    refine cw_ret ?_
    refine fin1 rfl ?_
    first
      | exact ⟨rfl, hc⟩
  · -- else
    replace h11 := of_decide_eq_false h11
    refine cw_skip ?_
    refine hK6 _ _ ?_
    refine cw_seq fun K16 hK17 => ?_
    refine cw_region fun K18 hK19 => ?_
    refine rw_cons (op_pv (w0 rfl) rfl rfl (pv_move (v := (.slice A0 n0 c0)) rfl rfl) ?_)
    refine rw_cons (op_call (w0 rfl) rfl rfl (rc_call C14 rfl rfl) (DrawBaseRun_ok _ _ _ _ _ (hR0.more (by omega)) (by omega)) ?_)
    rintro _ w20 ⟨m22, A25, c26, xs23, A29, c30, log24, rfl, hO27, hO31, hdj33, hl34, hl35, hch21⟩
    have hsz36 := hch21.size
    replace hR0 := hR0.ch0 hch21
    replace hc := hc.step0 hch21
    have hub28 := hO27.lt
    have hcap37 : xs23.length ≤ c26 := by obtain ⟨_, _, hv, h1, _⟩ := hO27.form; injection hv with _ _ h3; omega
    have hub32 := hO31.lt
    have hcap38 : log24.length ≤ c30 := by obtain ⟨_, _, hv, h1, _⟩ := hO31.form; injection hv with _ _ h3; omega
    refine rw_cons (op_pv (w0 rfl) rfl rfl (pv_move (v := (.tuple #[(.agg #[(.int .i64 m22), (.slice A25 xs23.length c26)]), (.slice A29 log24.length c30)])) rfl rfl) ?_)
    refine rw_cons (op_pv (w0 rfl) rfl rfl (pv_ext (v := (.agg #[(.int .i64 m22), (.slice A25 xs23.length c26)])) rfl rfl rfl) ?_)
    refine rw_cons (op_pv (w0 rfl) rfl rfl (pv_ext (v := (.slice A29 log24.length c30)) rfl rfl rfl) ?_)
    refine rw_cons (op_alloc T25 (w0 rfl) rfl rfl rfl ?_)
    rintro g40 w39 hg43 hg44 hB42 hch41
    have hsz45 := hch41.size
    replace hR0 := hR0.ch0 hch41
    replace hO27 := hO27.ch0 hch41
    replace hO31 := hO31.ch0 hch41
    replace hc := hc.step0 hch41
    replace hB42 : Blk w39 g40 25 [(.int .i64 0), (.slice none 0 0)] := hB42
    have hdj46 : ∀ s ∈ obl (.slice A25 xs23.length c26), s ≠ g40 := fun s hs => by have := hub28 s hs; omega
    have hdj47 : ∀ s ∈ obl (.slice A29 log24.length c30), s ≠ g40 := fun s hs => by have := hub32 s hs; omega
    refine rw_cons (op_store_blk T25 hB42 (w0 rfl) rfl rfl rfl rfl rfl (one_all rfl) (Nat.le_of_ble_eq_true rfl) ?_)
    rintro w48 hB50 hch49
    have hsz51 := hch49.size
    replace hR0 := hR0.ch hch49 (off1 (by omega))
    replace hO27 := hO27.ch hch49 (fun s hs => by have := dj_asg hdj46 s hs; simpa using this)
    replace hO31 := hO31.ch hch49 (fun s hs => by have := dj_asg hdj47 s hs; simpa using this)
    replace hc := (off1 (by omega)).step hc hch49
    replace hB42 : Blk w48 g40 25 [(.int .i64 m22), (.slice A25 xs23.length c26)] := hB50
    clear hB50
    refine rw_cons (op_pv (w0 rfl) rfl rfl (pv_assign (v := (.slice A29 log24.length c30)) rfl rfl) ?_)
    refine rw_nil (hK19 _ _ ?_)
    refine hK17 _ _ ?_
    refine cw_seq fun K52 hK53 => ?_
    refine cw_region fun K54 hK55 => ?_
    refine rw_cons (op_lv (w0 rfl) rfl rfl (lv_loadN T25 rfl rfl rfl (fun j v hv => hB42.cellA hv)) ?_)
    refine rw_cons (op_pv (w0 rfl) rfl rfl (pv_move (v := (.slice A29 log24.length c30)) rfl rfl) ?_)
    refine rw_cons (op_call (w0 rfl) rfl rfl (rc_call C15 rfl rfl) (BaseRun_i m22 _ xs23.length _ xs23 _ log24.length _ log24 _ (hO27.rs (fun _ => rfl)) (by omega) (hO31.rs (fun _ => rfl)) (by omega)) ?_)
    rintro _ w56 ⟨A58, c59, rfl, hO60, hch57⟩
    have hsz61 := hch57.size
    replace hR0 := hR0.ch0 hch57
    replace hO27 := hO27.ch0 hch57
    replace hO31 := hO31.ch0 hch57
    replace hB42 := hB42.ch0 hch57
    replace hc := hc.step0 hch57
    have hub62 := hO60.lt
    have hcap63 : (runV m22 xs23 log24).length ≤ c59 := by obtain ⟨_, _, hv, h1, _⟩ := hO60.form; injection hv with _ _ h3; omega
    have hnt64 := runV_le m22 xs23 log24
    refine rw_cons (op_pv (w0 rfl) rfl rfl (pv_move (v := (.tuple #[(.agg #[(.int .i64 (runM m22 xs23 log24)), (.slice A58 (runV m22 xs23 log24).length c59)]), (.bool (dec (RunOK m22 xs23 log24)))])) rfl rfl) ?_)
    refine rw_cons (op_pv (w0 rfl) rfl rfl (pv_ext (v := (.agg #[(.int .i64 (runM m22 xs23 log24)), (.slice A58 (runV m22 xs23 log24).length c59)])) rfl rfl rfl) ?_)
    refine rw_cons (op_pv (w0 rfl) rfl rfl (pv_ext (v := (.bool (dec (RunOK m22 xs23 log24)))) rfl rfl rfl) ?_)
    refine rw_cons (op_alloc T25 (w0 rfl) rfl rfl rfl ?_)
    rintro g66 w65 hg69 hg70 hB68 hch67
    have hsz71 := hch67.size
    replace hR0 := hR0.ch0 hch67
    replace hO27 := hO27.ch0 hch67
    replace hO31 := hO31.ch0 hch67
    replace hB42 := hB42.ch0 hch67
    replace hO60 := hO60.ch0 hch67
    replace hc := hc.step0 hch67
    replace hB68 : Blk w65 g66 25 [(.int .i64 0), (.slice none 0 0)] := hB68
    have hdj72 : ∀ s ∈ obl (.slice A25 xs23.length c26), s ≠ g66 := fun s hs => by have := hub28 s hs; omega
    have hdj73 : ∀ s ∈ obl (.slice A29 log24.length c30), s ≠ g66 := fun s hs => by have := hub32 s hs; omega
    have hdj74 : ∀ s ∈ obl (.slice A58 (runV m22 xs23 log24).length c59), s ≠ g66 := fun s hs => by have := hub62 s hs; omega
    refine rw_cons (op_store_blk T25 hB68 (w0 rfl) rfl rfl rfl rfl rfl (one_all rfl) (Nat.le_of_ble_eq_true rfl) ?_)
    rintro w75 hB77 hch76
    have hsz78 := hch76.size
    replace hR0 := hR0.ch hch76 (off1 (by omega))
    replace hO27 := hO27.ch hch76 (fun s hs => by have := dj_asg hdj72 s hs; simpa using this)
    replace hO31 := hO31.ch hch76 (fun s hs => by have := dj_asg hdj73 s hs; simpa using this)
    replace hB42 := hB42.ch hch76 (by simp; omega)
    replace hO60 := hO60.ch hch76 (fun s hs => by have := dj_asg hdj74 s hs; simpa using this)
    replace hc := (off1 (by omega)).step hc hch76
    replace hB68 : Blk w75 g66 25 [(.int .i64 (runM m22 xs23 log24)), (.slice A58 (runV m22 xs23 log24).length c59)] := hB77
    clear hB77
    refine rw_cons (op_pv (w0 rfl) rfl rfl (pv_assign (v := (.bool (dec (RunOK m22 xs23 log24)))) rfl rfl) ?_)
    refine rw_nil (hK55 _ _ ?_)
    refine hK53 _ _ ?_
    refine cw_seq fun K79 hK80 => ?_
    refine cw_region fun K81 hK82 => ?_
    refine rw_cons (op_lv (w0 rfl) rfl rfl (lv_loadN T25 rfl rfl rfl (fun j v hv => hB42.cellA hv)) ?_)
    refine rw_cons (op_pv (w0 rfl) rfl rfl (pv_move (v := (.slice A29 log24.length c30)) rfl rfl) ?_)
    refine rw_cons (op_call (w0 rfl) rfl rfl (rc_call C16 rfl rfl) (BaseRun_s m22 _ xs23.length _ xs23 _ log24.length _ log24 _ (hO27.rs (fun _ => rfl)) (by omega) (hO31.rs (fun _ => rfl)) (by omega)) ?_)
    rintro _ w83 ⟨A85, c86, rfl, hO87, hch84⟩
    have hsz88 := hch84.size
    replace hR0 := hR0.ch0 hch84
    replace hO27 := hO27.ch0 hch84
    replace hO31 := hO31.ch0 hch84
    replace hB42 := hB42.ch0 hch84
    replace hO60 := hO60.ch0 hch84
    replace hB68 := hB68.ch0 hch84
    replace hc := hc.step0 hch84
    have hub89 := hO87.lt
    have hcap90 : (runV m22 xs23 log24).length ≤ c86 := by obtain ⟨_, _, hv, h1, _⟩ := hO87.form; injection hv with _ _ h3; omega
    have hnt91 := runV_le m22 xs23 log24
    refine rw_cons (op_pv (w0 rfl) rfl rfl (pv_move (v := (.tuple #[(.agg #[(.int .i64 (runM m22 xs23 log24)), (.slice A85 (runV m22 xs23 log24).length c86)]), (.bool (dec (RunOK m22 xs23 log24)))])) rfl rfl) ?_)
    refine rw_cons (op_pv (w0 rfl) rfl rfl (pv_ext (v := (.agg #[(.int .i64 (runM m22 xs23 log24)), (.slice A85 (runV m22 xs23 log24).length c86)])) rfl rfl rfl) ?_)
    refine rw_cons (op_pv (w0 rfl) rfl rfl (pv_ext (v := (.bool (dec (RunOK m22 xs23 log24)))) rfl rfl rfl) ?_)
    refine rw_cons (op_alloc T25 (w0 rfl) rfl rfl rfl ?_)
    rintro g93 w92 hg96 hg97 hB95 hch94
    have hsz98 := hch94.size
    replace hR0 := hR0.ch0 hch94
    replace hO27 := hO27.ch0 hch94
    replace hO31 := hO31.ch0 hch94
    replace hB42 := hB42.ch0 hch94
    replace hO60 := hO60.ch0 hch94
    replace hB68 := hB68.ch0 hch94
    replace hO87 := hO87.ch0 hch94
    replace hc := hc.step0 hch94
    replace hB95 : Blk w92 g93 25 [(.int .i64 0), (.slice none 0 0)] := hB95
    have hdj99 : ∀ s ∈ obl (.slice A25 xs23.length c26), s ≠ g93 := fun s hs => by have := hub28 s hs; omega
    have hdj100 : ∀ s ∈ obl (.slice A29 log24.length c30), s ≠ g93 := fun s hs => by have := hub32 s hs; omega
    have hdj101 : ∀ s ∈ obl (.slice A58 (runV m22 xs23 log24).length c59), s ≠ g93 := fun s hs => by have := hub62 s hs; omega
    have hdj102 : ∀ s ∈ obl (.slice A85 (runV m22 xs23 log24).length c86), s ≠ g93 := fun s hs => by have := hub89 s hs; omega
    refine rw_cons (op_store_blk T25 hB95 (w0 rfl) rfl rfl rfl rfl rfl (one_all rfl) (Nat.le_of_ble_eq_true rfl) ?_)
    rintro w103 hB105 hch104
    have hsz106 := hch104.size
    replace hR0 := hR0.ch hch104 (off1 (by omega))
    replace hO27 := hO27.ch hch104 (fun s hs => by have := dj_asg hdj99 s hs; simpa using this)
    replace hO31 := hO31.ch hch104 (fun s hs => by have := dj_asg hdj100 s hs; simpa using this)
    replace hB42 := hB42.ch hch104 (by simp; omega)
    replace hO60 := hO60.ch hch104 (fun s hs => by have := dj_asg hdj101 s hs; simpa using this)
    replace hB68 := hB68.ch hch104 (by simp; omega)
    replace hO87 := hO87.ch hch104 (fun s hs => by have := dj_asg hdj102 s hs; simpa using this)
    replace hc := (off1 (by omega)).step hc hch104
    replace hB95 : Blk w103 g93 25 [(.int .i64 (runM m22 xs23 log24)), (.slice A85 (runV m22 xs23 log24).length c86)] := hB105
    clear hB105
    refine rw_cons (op_pv (w0 rfl) rfl rfl (pv_assign (v := (.bool (dec (RunOK m22 xs23 log24)))) rfl rfl) ?_)
    refine rw_nil (hK82 _ _ ?_)
    refine hK80 _ _ ?_
    refine cw_seq fun K107 hK108 => ?_
    refine cw_seq fun K109 hK110 => ?_
    refine cw_region fun K111 hK112 => ?_
    refine rw_cons (op_pv (w0 rfl) rfl rfl (pv_move (v := (.bool (dec (RunOK m22 xs23 log24)))) rfl rfl) ?_)
    refine rw_cons (op_pv (w0 rfl) rfl rfl (pv_move (v := (.bool (dec (RunOK m22 xs23 log24)))) rfl rfl) ?_)
    refine rw_cons (op_pv (w0 rfl) rfl rfl (pv_neBs Try.underlying4 rfl rfl rfl) ?_)
    refine rw_cons (op_pv (w0 rfl) rfl rfl (pv_move (v := (.bool false)) rfl rfl) ?_)
    refine rw_cons (op_lv (w1y rfl rfl rfl rfl) rfl rfl (lv_loadN T25 rfl rfl rfl (fun j v hv => hB68.cellA hv)) ?_)
    refine rw_cons (op_lv (w1y rfl rfl rfl rfl) rfl rfl (lv_loadN T25 rfl rfl rfl (fun j v hv => hB95.cellA hv)) ?_)
    refine rw_cons (op_call (w1y rfl rfl rfl rfl) rfl rfl (rc_call C17 rfl rfl) (sameBase_ok (runM m22 xs23 log24) _ (runV m22 xs23 log24).length _ (runV m22 xs23 log24) (runM m22 xs23 log24) _ (runV m22 xs23 log24).length _ (runV m22 xs23 log24) _ (hO60.rs (fun _ => rfl)) (by omega) (hO87.rs (fun _ => rfl)) (by omega)) ?_)
    rintro _ w113 ⟨rfl, hch114⟩
    have hsz115 := hch114.size
    replace hR0 := hR0.ch0 hch114
    replace hO27 := hO27.ch0 hch114
    replace hO31 := hO31.ch0 hch114
    replace hB42 := hB42.ch0 hch114
    replace hO60 := hO60.ch0 hch114
    replace hB68 := hB68.ch0 hch114
    replace hO87 := hO87.ch0 hch114
    replace hB95 := hB95.ch0 hch114
    replace hc := hc.step0 hch114
    refine rw_cons (op_pv (w1y rfl rfl rfl rfl) rfl rfl (pv_not rfl rfl) ?_)
    refine rw_cons (op_pv (w0 rfl) rfl rfl (pv_pickF (v := (.bool (!(dec ((runM m22 xs23 log24) = (runM m22 xs23 log24) ∧ (runV m22 xs23 log24) = (runV m22 xs23 log24)))))) rfl rfl rfl) ?_)
    refine rw_cons (op_pv (w0 rfl) rfl rfl (pv_move (v := (.bool (!(dec ((runM m22 xs23 log24) = (runM m22 xs23 log24) ∧ (runV m22 xs23 log24) = (runV m22 xs23 log24)))))) rfl rfl) ?_)
    refine rw_split 38 rfl (fun hb116 => ?_) (fun hb116 => ?_)
    · -- yes
      replace hb116 := not_t hb116
      replace hb116 := dec_f hb116
      refine rw_cons (op_pass (w1n2 rfl rfl rfl rfl) rfl rfl ?_)
      refine rw_cons (op_pass (w1n2 rfl rfl rfl rfl) rfl rfl ?_)
      refine rw_cons (op_pv (w0 rfl) rfl rfl (pv_pickT (v := (.bool true)) rfl rfl rfl) ?_)
      refine rw_nil (hK112 _ _ ?_)
      refine hK110 _ _ ?_
      refine cw_cond rfl (fun h117 => ?_) (fun h117 => ?_)
      · -- then
        clear h117
        refine cw_seq fun K118 hK119 => ?_
        refine cw_region fun K120 hK121 => ?_
        refine rw_cons (op_pv (w0 rfl) rfl rfl (pv_move (v := (.bool (dec (RunOK m22 xs23 log24)))) rfl rfl) ?_)
        refine rw_cons (op_pv (w0 rfl) rfl rfl (pv_move (v := (.bool (dec (RunOK m22 xs23 log24)))) rfl rfl) ?_)
        refine rw_cons (op_pv (w0 rfl) rfl rfl (pv_eqBs Try.underlying4 rfl rfl rfl) ?_)
        refine rw_cons (op_pv (w0 rfl) rfl rfl (pv_move (v := (.bool true)) rfl rfl) ?_)
        refine rw_cons (op_lv (w1y rfl rfl rfl rfl) rfl rfl (lv_loadN T25 rfl rfl rfl (fun j v hv => hB68.cellA hv)) ?_)
        refine rw_cons (op_lv (w1y rfl rfl rfl rfl) rfl rfl (lv_loadN T25 rfl rfl rfl (fun j v hv => hB95.cellA hv)) ?_)
        refine rw_cons (op_call (w1y rfl rfl rfl rfl) rfl rfl (rc_call C17 rfl rfl) (sameBase_ok (runM m22 xs23 log24) _ (runV m22 xs23 log24).length _ (runV m22 xs23 log24) (runM m22 xs23 log24) _ (runV m22 xs23 log24).length _ (runV m22 xs23 log24) _ (hO60.rs (fun _ => rfl)) (by omega) (hO87.rs (fun _ => rfl)) (by omega)) ?_)
        rintro _ w122 ⟨rfl, hch123⟩
        have hsz124 := hch123.size
        replace hR0 := hR0.ch0 hch123
        replace hO27 := hO27.ch0 hch123
        replace hO31 := hO31.ch0 hch123
        replace hB42 := hB42.ch0 hch123
        replace hO60 := hO60.ch0 hch123
        replace hB68 := hB68.ch0 hch123
        replace hO87 := hO87.ch0 hch123
        replace hB95 := hB95.ch0 hch123
        replace hc := hc.step0 hch123
        refine rw_cons (op_pv (w0 rfl) rfl rfl (pv_pickT (v := (.bool (dec ((runM m22 xs23 log24) = (runM m22 xs23 log24) ∧ (runV m22 xs23 log24) = (runV m22 xs23 log24))))) rfl rfl rfl) ?_)
        refine rw_cons (op_pv (w0 rfl) rfl rfl (pv_assign (v := (.bool (dec ((runM m22 xs23 log24) = (runM m22 xs23 log24) ∧ (runV m22 xs23 log24) = (runV m22 xs23 log24))))) rfl rfl) ?_)
        refine rw_nil (hK121 _ _ ?_)
        refine hK119 _ _ ?_
        refine cw_ret ?_
        refine fin1 rfl ?_
        first
          | exact ⟨rfl, hc⟩
          | exact absurd hb (by assumption)
          | exact ⟨congrArg Value.bool (decide_eq_true (by omega)), hc⟩
          | exact absurd ⟨rfl, rfl⟩ ‹¬(runM m22 xs23 log24 = runM m22 xs23 log24 ∧ runV m22 xs23 log24 = runV m22 xs23 log24)›
          | exact ⟨congrArg Value.bool (dec_yes ⟨rfl, rfl⟩), hc⟩
      · -- else
        cases h117
    · -- no
      replace hb116 := not_f hb116
      replace hb116 := dec_t hb116
      refine rw_cons (op_pv (w1y rfl rfl rfl rfl) rfl rfl (pv_move (v := (.bool (dec (RunOK m22 xs23 log24)))) rfl rfl) ?_)
      refine rw_cons (op_pv (w1y rfl rfl rfl rfl) rfl rfl (pv_not rfl rfl) ?_)
      refine rw_cons (op_pv (w0 rfl) rfl rfl (pv_pickF (v := (.bool (!(dec (RunOK m22 xs23 log24))))) rfl rfl rfl) ?_)
      refine rw_nil (hK112 _ _ ?_)
      refine hK110 _ _ ?_
      refine cw_cond rfl (fun h125 => ?_) (fun h125 => ?_)
      · -- then
        replace h125 := not_t h125
        replace h125 := dec_f h125
        refine cw_seq fun K126 hK127 => ?_
        refine cw_region fun K128 hK129 => ?_
        refine rw_cons (op_pv (w0 rfl) rfl rfl (pv_move (v := (.bool (dec (RunOK m22 xs23 log24)))) rfl rfl) ?_)
        refine rw_cons (op_pv (w0 rfl) rfl rfl (pv_move (v := (.bool (dec (RunOK m22 xs23 log24)))) rfl rfl) ?_)
        refine rw_cons (op_pv (w0 rfl) rfl rfl (pv_eqBs Try.underlying4 rfl rfl rfl) ?_)
        refine rw_cons (op_pv (w0 rfl) rfl rfl (pv_move (v := (.bool true)) rfl rfl) ?_)
        refine rw_cons (op_lv (w1y rfl rfl rfl rfl) rfl rfl (lv_loadN T25 rfl rfl rfl (fun j v hv => hB68.cellA hv)) ?_)
        refine rw_cons (op_lv (w1y rfl rfl rfl rfl) rfl rfl (lv_loadN T25 rfl rfl rfl (fun j v hv => hB95.cellA hv)) ?_)
        refine rw_cons (op_call (w1y rfl rfl rfl rfl) rfl rfl (rc_call C17 rfl rfl) (sameBase_ok (runM m22 xs23 log24) _ (runV m22 xs23 log24).length _ (runV m22 xs23 log24) (runM m22 xs23 log24) _ (runV m22 xs23 log24).length _ (runV m22 xs23 log24) _ (hO60.rs (fun _ => rfl)) (by omega) (hO87.rs (fun _ => rfl)) (by omega)) ?_)
        rintro _ w130 ⟨rfl, hch131⟩
        have hsz132 := hch131.size
        replace hR0 := hR0.ch0 hch131
        replace hO27 := hO27.ch0 hch131
        replace hO31 := hO31.ch0 hch131
        replace hB42 := hB42.ch0 hch131
        replace hO60 := hO60.ch0 hch131
        replace hB68 := hB68.ch0 hch131
        replace hO87 := hO87.ch0 hch131
        replace hB95 := hB95.ch0 hch131
        replace hc := hc.step0 hch131
        refine rw_cons (op_pv (w0 rfl) rfl rfl (pv_pickT (v := (.bool (dec ((runM m22 xs23 log24) = (runM m22 xs23 log24) ∧ (runV m22 xs23 log24) = (runV m22 xs23 log24))))) rfl rfl rfl) ?_)
        refine rw_cons (op_pv (w0 rfl) rfl rfl (pv_assign (v := (.bool (dec ((runM m22 xs23 log24) = (runM m22 xs23 log24) ∧ (runV m22 xs23 log24) = (runV m22 xs23 log24))))) rfl rfl) ?_)
        refine rw_nil (hK129 _ _ ?_)
        refine hK127 _ _ ?_
        refine cw_ret ?_
        refine fin1 rfl ?_
        first
          | exact ⟨rfl, hc⟩
          | exact absurd hb (by assumption)
          | exact ⟨congrArg Value.bool (decide_eq_true (by omega)), hc⟩
          | exact absurd ⟨rfl, rfl⟩ ‹¬(runM m22 xs23 log24 = runM m22 xs23 log24 ∧ runV m22 xs23 log24 = runV m22 xs23 log24)›
          | exact ⟨congrArg Value.bool (dec_yes ⟨rfl, rfl⟩), hc⟩
      · -- else
        replace h125 := not_f h125
        replace h125 := dec_t h125
        refine cw_skip ?_
        refine hK108 _ _ ?_
        refine cw_seq fun K133 hK134 => ?_
        have hok : RunOK m22 xs23 log24 := by assumption
        have hb : BaseOK (runM m22 xs23 log24) (runV m22 xs23 log24) := by rw [runM_yes hok, runV_yes hok]; exact hok.2.2
        have hmy := runM_yes hok
        have hl12 := hok.2.1.1
        have hm9 := hok.1.1
        refine cw_region fun K135 hK136 => ?_
        refine rw_cons (op_lv (w0 rfl) rfl rfl (lv_loadN T25 rfl rfl rfl (fun j v hv => hB68.cellA hv)) ?_)
        refine rw_cons (op_call (w0 rfl) rfl rfl (rc_call C9 rfl rfl) (BaseValid_i (runM m22 xs23 log24) _ (runV m22 xs23 log24).length _ (runV m22 xs23 log24) _ (hO60.rs (fun _ => rfl)) (by omega)) ?_)
        rintro _ w137 ⟨rfl, hch138⟩
        have hsz139 := hch138.size
        replace hR0 := hR0.ch0 hch138
        replace hO27 := hO27.ch0 hch138
        replace hO31 := hO31.ch0 hch138
        replace hB42 := hB42.ch0 hch138
        replace hO60 := hO60.ch0 hch138
        replace hB68 := hB68.ch0 hch138
        replace hO87 := hO87.ch0 hch138
        replace hB95 := hB95.ch0 hch138
        replace hc := hc.step0 hch138
        refine rw_cons (op_pv (w0 rfl) rfl rfl (pv_move (v := (.bool (dec (BaseOK (runM m22 xs23 log24) (runV m22 xs23 log24))))) rfl rfl) ?_)
        refine rw_split 52 rfl (fun hb140 => ?_) (fun hb140 => ?_)
        · -- yes
          replace hb140 := dec_t hb140
          refine rw_cons (op_pv (w1y rfl rfl rfl rfl) rfl rfl (pv_fld F25_0 rfl rfl) ?_)
          refine rw_cons (op_lv (w1y rfl rfl rfl rfl) rfl rfl (lv_load T3 rfl rfl (hB68.cellA (i := 0) rfl)) ?_)
          refine rw_cons (op_pv (w1y rfl rfl rfl rfl) rfl rfl (pv_fld F25_0 rfl rfl) ?_)
          refine rw_cons (op_lv (w1y rfl rfl rfl rfl) rfl rfl (lv_load T3 rfl rfl (hB42.cellA (i := 0) rfl)) ?_)
          refine rw_cons (op_pv (w1y rfl rfl rfl rfl) rfl rfl (pv_move (v := (.slice A29 log24.length c30)) rfl rfl) ?_)
          refine rw_cons (op_pv (w1y rfl rfl rfl rfl) rfl rfl (pv_len Try.underlying34 rfl rfl) ?_)
          refine rw_cons (op_pv (w1y rfl rfl rfl rfl) rfl rfl (pv_add rfl rfl rfl (by omega) (by omega)) ?_)
          refine rw_cons (op_pv (w1y rfl rfl rfl rfl) rfl rfl (pv_eql rfl rfl rfl) ?_)
          refine rw_cons (op_pv (w0 rfl) rfl rfl (pv_pickT (v := (.bool (decide ((runM m22 xs23 log24 : Int) = (m22 + (log24.length : Int)))))) rfl rfl rfl) ?_)
          refine rw_cons (op_pv (w0 rfl) rfl rfl (pv_assign (v := (.bool (decide ((runM m22 xs23 log24 : Int) = (m22 + (log24.length : Int)))))) rfl rfl) ?_)
          refine rw_nil (hK136 _ _ ?_)
          refine hK134 _ _ ?_
          refine cw_ret ?_
          refine fin1 rfl ?_
          first
            | exact ⟨rfl, hc⟩
            | exact absurd hb (by assumption)
            | exact ⟨congrArg Value.bool (decide_eq_true (by omega)), hc⟩
            | exact absurd ⟨rfl, rfl⟩ ‹¬(runM m22 xs23 log24 = runM m22 xs23 log24 ∧ runV m22 xs23 log24 = runV m22 xs23 log24)›
            | exact ⟨congrArg Value.bool (dec_yes ⟨rfl, rfl⟩), hc⟩
        · -- no
          replace hb140 := dec_f hb140
          refine rw_cons (op_pass (w1n1 rfl rfl rfl rfl) rfl rfl ?_)
          refine rw_cons (op_pass (w1n1 rfl rfl rfl rfl) rfl rfl ?_)
          refine rw_cons (op_pass (w1n1 rfl rfl rfl rfl) rfl rfl ?_)
          refine rw_cons (op_pass (w1n1 rfl rfl rfl rfl) rfl rfl ?_)
          refine rw_cons (op_pass (w1n1 rfl rfl rfl rfl) rfl rfl ?_)
          refine rw_cons (op_pass (w1n1 rfl rfl rfl rfl) rfl rfl ?_)
          refine rw_cons (op_pass (w1n1 rfl rfl rfl rfl) rfl rfl ?_)
          refine rw_cons (op_pass (w1n1 rfl rfl rfl rfl) rfl rfl ?_)
          refine rw_cons (op_pv (w0 rfl) rfl rfl (pv_pickF (v := (.bool false)) rfl rfl rfl) ?_)
          refine rw_cons (op_pv (w0 rfl) rfl rfl (pv_assign (v := (.bool false)) rfl rfl) ?_)
          refine rw_nil (hK136 _ _ ?_)
          refine hK134 _ _ ?_
          refine cw_ret ?_
          refine fin1 rfl ?_
          first
            | exact ⟨rfl, hc⟩
            | exact absurd hb (by assumption)
            | exact ⟨congrArg Value.bool (decide_eq_true (by omega)), hc⟩
            | exact absurd ⟨rfl, rfl⟩ ‹¬(runM m22 xs23 log24 = runM m22 xs23 log24 ∧ runV m22 xs23 log24 = runV m22 xs23 log24)›
            | exact ⟨congrArg Value.bool (dec_yes ⟨rfl, rfl⟩), hc⟩
end Go.Proofs.Ytpnenfglogggmaa
