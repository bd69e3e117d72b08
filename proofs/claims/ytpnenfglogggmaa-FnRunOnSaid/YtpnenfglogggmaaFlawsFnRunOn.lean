/-
  The walk of laws.FnRunOn, written by program: each line names the law of one operation. Conditions: those of the theorem.
-/
import Derived.Test.YtpnenfglogggmaaProg
import Derived.Test.YtpnenfglogggmaaBase
import Derived.Test.YtpnenfglogggmaaArr
import Derived.Test.YtpnenfglogggmaaFspecDrawBaseRun
import Derived.Test.YtpnenfglogggmaaFimplBaseRun
import Derived.Test.YtpnenfglogggmaaFspecBaseRun
import Derived.Test.YtpnenfglogggmaaFlawssameBase
import Derived.KernelRfl
namespace Go.Proofs.Ytpnenfglogggmaa
open Go Go.RowKit
set_option linter.unusedVariables false
set_option linter.unusedSimpArgs false
namespace FnRunOn_okF
theorem T25 : TI Try.prog 25 true (.agg #[.int .i64 0, .slice none 0 0]) 2 32 := TI.mk' Try.underlying25 rfl (by kernel_rfl)
theorem T65 : TI Try.prog 65 true (.agg #[.int .i64 0, .int .i64 0]) 2 16 := TI.mk' Try.underlying65 rfl (by kernel_rfl)
theorem C14 : Callable Try.prog 14 := ⟨_, Try.func14, by kernel_rfl, by kernel_rfl⟩
theorem C15 : Callable Try.prog 15 := ⟨_, Try.func15, by kernel_rfl, by kernel_rfl⟩
theorem C16 : Callable Try.prog 16 := ⟨_, Try.func16, by kernel_rfl, by kernel_rfl⟩
theorem C17 : Callable Try.prog 17 := ⟨_, Try.func17, by kernel_rfl, by kernel_rfl⟩
end FnRunOn_okF
open FnRunOn_okF in
set_option maxHeartbeats 4000000 in
theorem FnRunOn_ok (A0 : Option Addr) (n0 c0 : Nat) (xs0 : List UInt8) (A1 : Option Addr) (n1 c1 : Nat) (xs1 : List UInt8) (w : World) (hR0 : RS encU 1 w w.heap.size A0 n0 xs0) (hn0 : n0 ≤ c0) (hR1 : RS encU 1 w w.heap.size A1 n1 xs1) (hn1 : n1 ≤ c1) :
    Fn Try.prog 6 [(.slice A0 n0 c0), (.slice A1 n1 c1)] w fun v w' => v = .bool true ∧ Ch [] w w' := by
  have hlen0 := hR0.len
  have hlen1 := hR1.len
  refine fn_of (n := 93) Try.func6 rfl rfl rfl rfl ?_
  have hc : Ch [] w w := Ch.refl _ _
  refine cw_seq fun K1 hK2 => ?_
  refine cw_region fun K3 hK4 => ?_
  refine rw_cons (op_pv (w0 rfl) rfl rfl (pv_assign (v := (.bool false)) rfl rfl) ?_)
  refine rw_nil (hK4 _ _ ?_)
  refine hK2 _ _ ?_
  refine cw_seq fun K5 hK6 => ?_
  refine cw_seq fun K7 hK8 => ?_
  refine cw_region fun K9 hK10 => ?_
  refine rw_cons (op_pv (w0 rfl) rfl rfl (pv_move (v := (.slice A0 n0 c0)) rfl rfl) ?_)
  refine rw_cons (op_pv (w0 rfl) rfl rfl (pv_len Try.underlying22 rfl rfl) ?_)
  refine rw_cons (op_pv (w0 rfl) rfl rfl (pv_gtr rfl rfl rfl) ?_)
  refine rw_cons (op_pv (w0 rfl) rfl rfl (pv_move (v := (.bool (decide (1048576 < (n0 : Int))))) rfl rfl) ?_)
  refine rw_split 19 rfl (fun hb11 => ?_) (fun hb11 => ?_)
  · -- yes
    replace hb11 := of_decide_eq_true hb11
    refine rw_cons (op_pass (w1n2 rfl rfl rfl rfl) rfl rfl ?_)
    refine rw_cons (op_pass (w1n2 rfl rfl rfl rfl) rfl rfl ?_)
    refine rw_cons (op_pass (w1n2 rfl rfl rfl rfl) rfl rfl ?_)
    refine rw_cons (op_pv (w0 rfl) rfl rfl (pv_pickT (v := (.bool true)) rfl rfl rfl) ?_)
    refine rw_nil (hK10 _ _ ?_)
    refine hK8 _ _ ?_
    refine cw_cond rfl (fun h12 => ?_) (fun h12 => ?_)
    · -- then
      clear h12
      refine cw_seq fun K13 hK14 => ?_
      refine cw_region fun K15 hK16 => ?_
      refine rw_cons (op_pv (w0 rfl) rfl rfl (pv_assign (v := (.bool true)) rfl rfl) ?_)
      refine rw_nil (hK16 _ _ ?_)
      refine hK14 _ _ ?_
      refine cw_ret ?_
      refine fin1 rfl ?_
      first
        | exact ⟨rfl, hc⟩
    · -- else
      cases h12
  · -- no
    replace hb11 := of_decide_eq_false hb11
    refine rw_cons (op_pv (w1y rfl rfl rfl rfl) rfl rfl (pv_move (v := (.slice A1 n1 c1)) rfl rfl) ?_)
    refine rw_cons (op_pv (w1y rfl rfl rfl rfl) rfl rfl (pv_len Try.underlying22 rfl rfl) ?_)
    refine rw_cons (op_pv (w1y rfl rfl rfl rfl) rfl rfl (pv_gtr rfl rfl rfl) ?_)
    refine rw_cons (op_pv (w0 rfl) rfl rfl (pv_pickF (v := (.bool (decide (1048576 < (n1 : Int))))) rfl rfl rfl) ?_)
    refine rw_nil (hK10 _ _ ?_)
    refine hK8 _ _ ?_
    refine cw_cond rfl (fun h17 => ?_) (fun h17 => ?_)
    · -- then
      replace h17 := of_decide_eq_true h17
      refine cw_seq fun K18 hK19 => ?_
      refine cw_region fun K20 hK21 => ?_
      refine rw_cons (op_pv (w0 rfl) rfl rfl (pv_assign (v := (.bool true)) rfl rfl) ?_)
      refine rw_nil (hK21 _ _ ?_)
      refine hK19 _ _ ?_
      refine cw_ret ?_
      refine fin1 rfl ?_
      first
        | exact ⟨rfl, hc⟩
    · -- else
      replace h17 := of_decide_eq_false h17
      refine cw_skip ?_
      refine hK6 _ _ ?_
      refine cw_seq fun K22 hK23 => ?_
      refine cw_region fun K24 hK25 => ?_
      refine rw_cons (op_pv (w0 rfl) rfl rfl (pv_move (v := (.slice A0 n0 c0)) rfl rfl) ?_)
      refine rw_cons (op_call (w0 rfl) rfl rfl (rc_call C14 rfl rfl) (DrawBaseRun_ok _ _ _ _ _ (hR0.more (by omega)) (by omega)) ?_)
      rintro _ w26 ⟨m28, A31, c32, xs29, A35, c36, log30, rfl, hO33, hO37, hdj39, hl40, hl41, hch27⟩
      have hsz42 := hch27.size
      replace hR0 := hR0.ch0 hch27
      replace hR1 := hR1.ch0 hch27
      replace hc := hc.step0 hch27
      have hub34 := hO33.lt
      have hcap43 : xs29.length ≤ c32 := by obtain ⟨_, _, hv, h1, _⟩ := hO33.form; injection hv with _ _ h3; omega
      have hub38 := hO37.lt
      have hcap44 : log30.length ≤ c36 := by obtain ⟨_, _, hv, h1, _⟩ := hO37.form; injection hv with _ _ h3; omega
      refine rw_cons (op_pv (w0 rfl) rfl rfl (pv_move (v := (.tuple #[(.agg #[(.int .i64 m28), (.slice A31 xs29.length c32)]), (.slice A35 log30.length c36)])) rfl rfl) ?_)
      refine rw_cons (op_pv (w0 rfl) rfl rfl (pv_ext (v := (.agg #[(.int .i64 m28), (.slice A31 xs29.length c32)])) rfl rfl rfl) ?_)
      refine rw_cons (op_pv (w0 rfl) rfl rfl (pv_ext (v := (.slice A35 log30.length c36)) rfl rfl rfl) ?_)
      refine rw_cons (op_alloc T25 (w0 rfl) rfl rfl rfl ?_)
      rintro g46 w45 hg49 hg50 hB48 hch47
      have hsz51 := hch47.size
      replace hR0 := hR0.ch0 hch47
      replace hR1 := hR1.ch0 hch47
      replace hO33 := hO33.ch0 hch47
      replace hO37 := hO37.ch0 hch47
      replace hc := hc.step0 hch47
      replace hB48 : Blk w45 g46 25 [(.int .i64 0), (.slice none 0 0)] := hB48
      have hdj52 : ∀ s ∈ obl (.slice A31 xs29.length c32), s ≠ g46 := fun s hs => by have := hub34 s hs; omega
      have hdj53 : ∀ s ∈ obl (.slice A35 log30.length c36), s ≠ g46 := fun s hs => by have := hub38 s hs; omega
      refine rw_cons (op_store_blk T25 hB48 (w0 rfl) rfl rfl rfl rfl rfl (one_all rfl) (Nat.le_of_ble_eq_true rfl) ?_)
      rintro w54 hB56 hch55
      have hsz57 := hch55.size
      replace hR0 := hR0.ch hch55 (off1 (by omega))
      replace hR1 := hR1.ch hch55 (off1 (by omega))
      replace hO33 := hO33.ch hch55 (fun s hs => by have := dj_asg hdj52 s hs; simpa using this)
      replace hO37 := hO37.ch hch55 (fun s hs => by have := dj_asg hdj53 s hs; simpa using this)
      replace hc := (off1 (by omega)).step hc hch55
      replace hB48 : Blk w54 g46 25 [(.int .i64 m28), (.slice A31 xs29.length c32)] := hB56
      clear hB56
      refine rw_cons (op_pv (w0 rfl) rfl rfl (pv_assign (v := (.slice A35 log30.length c36)) rfl rfl) ?_)
      refine rw_nil (hK25 _ _ ?_)
      refine hK23 _ _ ?_
      refine cw_seq fun K58 hK59 => ?_
      refine cw_region fun K60 hK61 => ?_
      refine rw_cons (op_lv (w0 rfl) rfl rfl (lv_loadN T25 rfl rfl rfl (fun j v hv => hB48.cellA hv)) ?_)
      refine rw_cons (op_pv (w0 rfl) rfl rfl (pv_move (v := (.slice A35 log30.length c36)) rfl rfl) ?_)
      refine rw_cons (op_call (w0 rfl) rfl rfl (rc_call C15 rfl rfl) (BaseRun_i m28 _ xs29.length _ xs29 _ log30.length _ log30 _ (hO33.rs (fun _ => rfl)) (by omega) (hO37.rs (fun _ => rfl)) (by omega)) ?_)
      rintro _ w62 ⟨A64, c65, rfl, hO66, hch63⟩
      have hsz67 := hch63.size
      replace hR0 := hR0.ch0 hch63
      replace hR1 := hR1.ch0 hch63
      replace hO33 := hO33.ch0 hch63
      replace hO37 := hO37.ch0 hch63
      replace hB48 := hB48.ch0 hch63
      replace hc := hc.step0 hch63
      have hub68 := hO66.lt
      have hcap69 : (runV m28 xs29 log30).length ≤ c65 := by obtain ⟨_, _, hv, h1, _⟩ := hO66.form; injection hv with _ _ h3; omega
      have hnt70 := runV_le m28 xs29 log30
      refine rw_cons (op_pv (w0 rfl) rfl rfl (pv_move (v := (.tuple #[(.agg #[(.int .i64 (runM m28 xs29 log30)), (.slice A64 (runV m28 xs29 log30).length c65)]), (.bool (dec (RunOK m28 xs29 log30)))])) rfl rfl) ?_)
      refine rw_cons (op_pv (w0 rfl) rfl rfl (pv_ext (v := (.agg #[(.int .i64 (runM m28 xs29 log30)), (.slice A64 (runV m28 xs29 log30).length c65)])) rfl rfl rfl) ?_)
      refine rw_cons (op_pv (w0 rfl) rfl rfl (pv_ext (v := (.bool (dec (RunOK m28 xs29 log30)))) rfl rfl rfl) ?_)
      refine rw_cons (op_alloc T25 (w0 rfl) rfl rfl rfl ?_)
      rintro g72 w71 hg75 hg76 hB74 hch73
      have hsz77 := hch73.size
      replace hR0 := hR0.ch0 hch73
      replace hR1 := hR1.ch0 hch73
      replace hO33 := hO33.ch0 hch73
      replace hO37 := hO37.ch0 hch73
      replace hB48 := hB48.ch0 hch73
      replace hO66 := hO66.ch0 hch73
      replace hc := hc.step0 hch73
      replace hB74 : Blk w71 g72 25 [(.int .i64 0), (.slice none 0 0)] := hB74
      have hdj78 : ∀ s ∈ obl (.slice A31 xs29.length c32), s ≠ g72 := fun s hs => by have := hub34 s hs; omega
      have hdj79 : ∀ s ∈ obl (.slice A35 log30.length c36), s ≠ g72 := fun s hs => by have := hub38 s hs; omega
      have hdj80 : ∀ s ∈ obl (.slice A64 (runV m28 xs29 log30).length c65), s ≠ g72 := fun s hs => by have := hub68 s hs; omega
      refine rw_cons (op_store_blk T25 hB74 (w0 rfl) rfl rfl rfl rfl rfl (one_all rfl) (Nat.le_of_ble_eq_true rfl) ?_)
      rintro w81 hB83 hch82
      have hsz84 := hch82.size
      replace hR0 := hR0.ch hch82 (off1 (by omega))
      replace hR1 := hR1.ch hch82 (off1 (by omega))
      replace hO33 := hO33.ch hch82 (fun s hs => by have := dj_asg hdj78 s hs; simpa using this)
      replace hO37 := hO37.ch hch82 (fun s hs => by have := dj_asg hdj79 s hs; simpa using this)
      replace hB48 := hB48.ch hch82 (by simp; omega)
      replace hO66 := hO66.ch hch82 (fun s hs => by have := dj_asg hdj80 s hs; simpa using this)
      replace hc := (off1 (by omega)).step hc hch82
      replace hB74 : Blk w81 g72 25 [(.int .i64 (runM m28 xs29 log30)), (.slice A64 (runV m28 xs29 log30).length c65)] := hB83
      clear hB83
      refine rw_cons (op_pv (w0 rfl) rfl rfl (pv_assign (v := (.bool (dec (RunOK m28 xs29 log30)))) rfl rfl) ?_)
      refine rw_nil (hK61 _ _ ?_)
      refine hK59 _ _ ?_
      refine cw_seq fun K85 hK86 => ?_
      refine cw_region fun K87 hK88 => ?_
      refine rw_cons (op_lv (w0 rfl) rfl rfl (lv_loadN T25 rfl rfl rfl (fun j v hv => hB48.cellA hv)) ?_)
      refine rw_cons (op_pv (w0 rfl) rfl rfl (pv_move (v := (.slice A35 log30.length c36)) rfl rfl) ?_)
      refine rw_cons (op_call (w0 rfl) rfl rfl (rc_call C16 rfl rfl) (BaseRun_s m28 _ xs29.length _ xs29 _ log30.length _ log30 _ (hO33.rs (fun _ => rfl)) (by omega) (hO37.rs (fun _ => rfl)) (by omega)) ?_)
      rintro _ w89 ⟨A91, c92, rfl, hO93, hch90⟩
      have hsz94 := hch90.size
      replace hR0 := hR0.ch0 hch90
      replace hR1 := hR1.ch0 hch90
      replace hO33 := hO33.ch0 hch90
      replace hO37 := hO37.ch0 hch90
      replace hB48 := hB48.ch0 hch90
      replace hO66 := hO66.ch0 hch90
      replace hB74 := hB74.ch0 hch90
      replace hc := hc.step0 hch90
      have hub95 := hO93.lt
      have hcap96 : (runV m28 xs29 log30).length ≤ c92 := by obtain ⟨_, _, hv, h1, _⟩ := hO93.form; injection hv with _ _ h3; omega
      have hnt97 := runV_le m28 xs29 log30
      refine rw_cons (op_pv (w0 rfl) rfl rfl (pv_move (v := (.tuple #[(.agg #[(.int .i64 (runM m28 xs29 log30)), (.slice A91 (runV m28 xs29 log30).length c92)]), (.bool (dec (RunOK m28 xs29 log30)))])) rfl rfl) ?_)
      refine rw_cons (op_pv (w0 rfl) rfl rfl (pv_ext (v := (.agg #[(.int .i64 (runM m28 xs29 log30)), (.slice A91 (runV m28 xs29 log30).length c92)])) rfl rfl rfl) ?_)
      refine rw_cons (op_pv (w0 rfl) rfl rfl (pv_ext (v := (.bool (dec (RunOK m28 xs29 log30)))) rfl rfl rfl) ?_)
      refine rw_cons (op_alloc T25 (w0 rfl) rfl rfl rfl ?_)
      rintro g99 w98 hg102 hg103 hB101 hch100
      have hsz104 := hch100.size
      replace hR0 := hR0.ch0 hch100
      replace hR1 := hR1.ch0 hch100
      replace hO33 := hO33.ch0 hch100
      replace hO37 := hO37.ch0 hch100
      replace hB48 := hB48.ch0 hch100
      replace hO66 := hO66.ch0 hch100
      replace hB74 := hB74.ch0 hch100
      replace hO93 := hO93.ch0 hch100
      replace hc := hc.step0 hch100
      replace hB101 : Blk w98 g99 25 [(.int .i64 0), (.slice none 0 0)] := hB101
      have hdj105 : ∀ s ∈ obl (.slice A31 xs29.length c32), s ≠ g99 := fun s hs => by have := hub34 s hs; omega
      have hdj106 : ∀ s ∈ obl (.slice A35 log30.length c36), s ≠ g99 := fun s hs => by have := hub38 s hs; omega
      have hdj107 : ∀ s ∈ obl (.slice A64 (runV m28 xs29 log30).length c65), s ≠ g99 := fun s hs => by have := hub68 s hs; omega
      have hdj108 : ∀ s ∈ obl (.slice A91 (runV m28 xs29 log30).length c92), s ≠ g99 := fun s hs => by have := hub95 s hs; omega
      refine rw_cons (op_store_blk T25 hB101 (w0 rfl) rfl rfl rfl rfl rfl (one_all rfl) (Nat.le_of_ble_eq_true rfl) ?_)
      rintro w109 hB111 hch110
      have hsz112 := hch110.size
      replace hR0 := hR0.ch hch110 (off1 (by omega))
      replace hR1 := hR1.ch hch110 (off1 (by omega))
      replace hO33 := hO33.ch hch110 (fun s hs => by have := dj_asg hdj105 s hs; simpa using this)
      replace hO37 := hO37.ch hch110 (fun s hs => by have := dj_asg hdj106 s hs; simpa using this)
      replace hB48 := hB48.ch hch110 (by simp; omega)
      replace hO66 := hO66.ch hch110 (fun s hs => by have := dj_asg hdj107 s hs; simpa using this)
      replace hB74 := hB74.ch hch110 (by simp; omega)
      replace hO93 := hO93.ch hch110 (fun s hs => by have := dj_asg hdj108 s hs; simpa using this)
      replace hc := (off1 (by omega)).step hc hch110
      replace hB101 : Blk w109 g99 25 [(.int .i64 (runM m28 xs29 log30)), (.slice A91 (runV m28 xs29 log30).length c92)] := hB111
      clear hB111
      refine rw_cons (op_pv (w0 rfl) rfl rfl (pv_assign (v := (.bool (dec (RunOK m28 xs29 log30)))) rfl rfl) ?_)
      refine rw_nil (hK88 _ _ ?_)
      refine hK86 _ _ ?_
      refine cw_seq fun K113 hK114 => ?_
      refine cw_seq fun K115 hK116 => ?_
      refine cw_region fun K117 hK118 => ?_
      refine rw_cons (op_pv (w0 rfl) rfl rfl (pv_move (v := (.bool (dec (RunOK m28 xs29 log30)))) rfl rfl) ?_)
      refine rw_cons (op_pv (w0 rfl) rfl rfl (pv_move (v := (.bool (dec (RunOK m28 xs29 log30)))) rfl rfl) ?_)
      refine rw_cons (op_pv (w0 rfl) rfl rfl (pv_neBs Try.underlying4 rfl rfl rfl) ?_)
      refine rw_cons (op_pv (w0 rfl) rfl rfl (pv_move (v := (.bool false)) rfl rfl) ?_)
      refine rw_cons (op_lv (w1y rfl rfl rfl rfl) rfl rfl (lv_loadN T25 rfl rfl rfl (fun j v hv => hB74.cellA hv)) ?_)
      refine rw_cons (op_lv (w1y rfl rfl rfl rfl) rfl rfl (lv_loadN T25 rfl rfl rfl (fun j v hv => hB101.cellA hv)) ?_)
      refine rw_cons (op_call (w1y rfl rfl rfl rfl) rfl rfl (rc_call C17 rfl rfl) (sameBase_ok (runM m28 xs29 log30) _ (runV m28 xs29 log30).length _ (runV m28 xs29 log30) (runM m28 xs29 log30) _ (runV m28 xs29 log30).length _ (runV m28 xs29 log30) _ (hO66.rs (fun _ => rfl)) (by omega) (hO93.rs (fun _ => rfl)) (by omega)) ?_)
      rintro _ w119 ⟨rfl, hch120⟩
      have hsz121 := hch120.size
      replace hR0 := hR0.ch0 hch120
      replace hR1 := hR1.ch0 hch120
      replace hO33 := hO33.ch0 hch120
      replace hO37 := hO37.ch0 hch120
      replace hB48 := hB48.ch0 hch120
      replace hO66 := hO66.ch0 hch120
      replace hB74 := hB74.ch0 hch120
      replace hO93 := hO93.ch0 hch120
      replace hB101 := hB101.ch0 hch120
      replace hc := hc.step0 hch120
      refine rw_cons (op_pv (w1y rfl rfl rfl rfl) rfl rfl (pv_not rfl rfl) ?_)
      refine rw_cons (op_pv (w0 rfl) rfl rfl (pv_pickF (v := (.bool (!(dec ((runM m28 xs29 log30) = (runM m28 xs29 log30) ∧ (runV m28 xs29 log30) = (runV m28 xs29 log30)))))) rfl rfl rfl) ?_)
      refine rw_cons (op_pv (w0 rfl) rfl rfl (pv_move (v := (.bool (!(dec ((runM m28 xs29 log30) = (runM m28 xs29 log30) ∧ (runV m28 xs29 log30) = (runV m28 xs29 log30)))))) rfl rfl) ?_)
      refine rw_split 50 rfl (fun hb122 => ?_) (fun hb122 => ?_)
      · -- yes
        replace hb122 := not_t hb122
        replace hb122 := dec_f hb122
        refine rw_cons (op_pass (w1n2 rfl rfl rfl rfl) rfl rfl ?_)
        refine rw_cons (op_pass (w1n2 rfl rfl rfl rfl) rfl rfl ?_)
        refine rw_cons (op_pv (w0 rfl) rfl rfl (pv_pickT (v := (.bool true)) rfl rfl rfl) ?_)
        refine rw_nil (hK118 _ _ ?_)
        refine hK116 _ _ ?_
        refine cw_cond rfl (fun h123 => ?_) (fun h123 => ?_)
        · -- then
          clear h123
          refine cw_seq fun K124 hK125 => ?_
          refine cw_region fun K126 hK127 => ?_
          refine rw_cons (op_pv (w0 rfl) rfl rfl (pv_move (v := (.bool (dec (RunOK m28 xs29 log30)))) rfl rfl) ?_)
          refine rw_cons (op_pv (w0 rfl) rfl rfl (pv_move (v := (.bool (dec (RunOK m28 xs29 log30)))) rfl rfl) ?_)
          refine rw_cons (op_pv (w0 rfl) rfl rfl (pv_eqBs Try.underlying4 rfl rfl rfl) ?_)
          refine rw_cons (op_pv (w0 rfl) rfl rfl (pv_move (v := (.bool true)) rfl rfl) ?_)
          refine rw_cons (op_lv (w1y rfl rfl rfl rfl) rfl rfl (lv_loadN T25 rfl rfl rfl (fun j v hv => hB74.cellA hv)) ?_)
          refine rw_cons (op_lv (w1y rfl rfl rfl rfl) rfl rfl (lv_loadN T25 rfl rfl rfl (fun j v hv => hB101.cellA hv)) ?_)
          refine rw_cons (op_call (w1y rfl rfl rfl rfl) rfl rfl (rc_call C17 rfl rfl) (sameBase_ok (runM m28 xs29 log30) _ (runV m28 xs29 log30).length _ (runV m28 xs29 log30) (runM m28 xs29 log30) _ (runV m28 xs29 log30).length _ (runV m28 xs29 log30) _ (hO66.rs (fun _ => rfl)) (by omega) (hO93.rs (fun _ => rfl)) (by omega)) ?_)
          rintro _ w128 ⟨rfl, hch129⟩
          have hsz130 := hch129.size
          replace hR0 := hR0.ch0 hch129
          replace hR1 := hR1.ch0 hch129
          replace hO33 := hO33.ch0 hch129
          replace hO37 := hO37.ch0 hch129
          replace hB48 := hB48.ch0 hch129
          replace hO66 := hO66.ch0 hch129
          replace hB74 := hB74.ch0 hch129
          replace hO93 := hO93.ch0 hch129
          replace hB101 := hB101.ch0 hch129
          replace hc := hc.step0 hch129
          refine rw_cons (op_pv (w0 rfl) rfl rfl (pv_pickT (v := (.bool (dec ((runM m28 xs29 log30) = (runM m28 xs29 log30) ∧ (runV m28 xs29 log30) = (runV m28 xs29 log30))))) rfl rfl rfl) ?_)
          refine rw_cons (op_pv (w0 rfl) rfl rfl (pv_assign (v := (.bool (dec ((runM m28 xs29 log30) = (runM m28 xs29 log30) ∧ (runV m28 xs29 log30) = (runV m28 xs29 log30))))) rfl rfl) ?_)
          refine rw_nil (hK127 _ _ ?_)
          refine hK125 _ _ ?_
          refine cw_ret ?_
          refine fin1 rfl ?_
          first
            | exact ⟨rfl, hc⟩
            | exact absurd hr1 (by assumption)
            | exact absurd hr2b (by assumption)
            | exact ⟨congrArg Value.bool (dec_yes ⟨hr5, hr6⟩), hc⟩
            | exact absurd ⟨rfl, rfl⟩ ‹¬(runM m28 xs29 log30 = runM m28 xs29 log30 ∧ runV m28 xs29 log30 = runV m28 xs29 log30)›
            | exact ⟨congrArg Value.bool (dec_yes ⟨rfl, rfl⟩), hc⟩
        · -- else
          cases h123
      · -- no
        replace hb122 := not_f hb122
        replace hb122 := dec_t hb122
        refine rw_cons (op_pv (w1y rfl rfl rfl rfl) rfl rfl (pv_move (v := (.bool (dec (RunOK m28 xs29 log30)))) rfl rfl) ?_)
        refine rw_cons (op_pv (w1y rfl rfl rfl rfl) rfl rfl (pv_not rfl rfl) ?_)
        refine rw_cons (op_pv (w0 rfl) rfl rfl (pv_pickF (v := (.bool (!(dec (RunOK m28 xs29 log30))))) rfl rfl rfl) ?_)
        refine rw_nil (hK118 _ _ ?_)
        refine hK116 _ _ ?_
        refine cw_cond rfl (fun h131 => ?_) (fun h131 => ?_)
        · -- then
          replace h131 := not_t h131
          replace h131 := dec_f h131
          refine cw_seq fun K132 hK133 => ?_
          refine cw_region fun K134 hK135 => ?_
          refine rw_cons (op_pv (w0 rfl) rfl rfl (pv_move (v := (.bool (dec (RunOK m28 xs29 log30)))) rfl rfl) ?_)
          refine rw_cons (op_pv (w0 rfl) rfl rfl (pv_move (v := (.bool (dec (RunOK m28 xs29 log30)))) rfl rfl) ?_)
          refine rw_cons (op_pv (w0 rfl) rfl rfl (pv_eqBs Try.underlying4 rfl rfl rfl) ?_)
          refine rw_cons (op_pv (w0 rfl) rfl rfl (pv_move (v := (.bool true)) rfl rfl) ?_)
          refine rw_cons (op_lv (w1y rfl rfl rfl rfl) rfl rfl (lv_loadN T25 rfl rfl rfl (fun j v hv => hB74.cellA hv)) ?_)
          refine rw_cons (op_lv (w1y rfl rfl rfl rfl) rfl rfl (lv_loadN T25 rfl rfl rfl (fun j v hv => hB101.cellA hv)) ?_)
          refine rw_cons (op_call (w1y rfl rfl rfl rfl) rfl rfl (rc_call C17 rfl rfl) (sameBase_ok (runM m28 xs29 log30) _ (runV m28 xs29 log30).length _ (runV m28 xs29 log30) (runM m28 xs29 log30) _ (runV m28 xs29 log30).length _ (runV m28 xs29 log30) _ (hO66.rs (fun _ => rfl)) (by omega) (hO93.rs (fun _ => rfl)) (by omega)) ?_)
          rintro _ w136 ⟨rfl, hch137⟩
          have hsz138 := hch137.size
          replace hR0 := hR0.ch0 hch137
          replace hR1 := hR1.ch0 hch137
          replace hO33 := hO33.ch0 hch137
          replace hO37 := hO37.ch0 hch137
          replace hB48 := hB48.ch0 hch137
          replace hO66 := hO66.ch0 hch137
          replace hB74 := hB74.ch0 hch137
          replace hO93 := hO93.ch0 hch137
          replace hB101 := hB101.ch0 hch137
          replace hc := hc.step0 hch137
          refine rw_cons (op_pv (w0 rfl) rfl rfl (pv_pickT (v := (.bool (dec ((runM m28 xs29 log30) = (runM m28 xs29 log30) ∧ (runV m28 xs29 log30) = (runV m28 xs29 log30))))) rfl rfl rfl) ?_)
          refine rw_cons (op_pv (w0 rfl) rfl rfl (pv_assign (v := (.bool (dec ((runM m28 xs29 log30) = (runM m28 xs29 log30) ∧ (runV m28 xs29 log30) = (runV m28 xs29 log30))))) rfl rfl) ?_)
          refine rw_nil (hK135 _ _ ?_)
          refine hK133 _ _ ?_
          refine cw_ret ?_
          refine fin1 rfl ?_
          first
            | exact ⟨rfl, hc⟩
            | exact absurd hr1 (by assumption)
            | exact absurd hr2b (by assumption)
            | exact ⟨congrArg Value.bool (dec_yes ⟨hr5, hr6⟩), hc⟩
            | exact absurd ⟨rfl, rfl⟩ ‹¬(runM m28 xs29 log30 = runM m28 xs29 log30 ∧ runV m28 xs29 log30 = runV m28 xs29 log30)›
            | exact ⟨congrArg Value.bool (dec_yes ⟨rfl, rfl⟩), hc⟩
        · -- else
          replace h131 := not_f h131
          replace h131 := dec_t h131
          refine cw_skip ?_
          refine hK114 _ _ ?_
          refine cw_seq fun K139 hK140 => ?_
          have hok : RunOK m28 xs29 log30 := by assumption
          have hb : BaseOK (runM m28 xs29 log30) (runV m28 xs29 log30) := by rw [runM_yes hok, runV_yes hok]; exact hok.2.2
          have hmy := runM_yes hok
          have hl12 := hok.2.1.1
          have hm9 := hok.1.1
          refine cw_region fun K141 hK142 => ?_
          refine rw_cons (op_pv (w0 rfl) rfl rfl (pv_move (v := (.slice A1 n1 c1)) rfl rfl) ?_)
          refine rw_cons (op_pv (w0 rfl) rfl rfl (pv_len Try.underlying22 rfl rfl) ?_)
          refine rw_cons (op_pv (w0 rfl) rfl rfl (pv_move (v := (.slice A35 log30.length c36)) rfl rfl) ?_)
          refine rw_cons (op_pv (w0 rfl) rfl rfl (pv_len Try.underlying34 rfl rfl) ?_)
          refine rw_cons (op_pv (w0 rfl) rfl rfl (pv_add rfl rfl rfl (by omega) (by omega)) ?_)
          refine rw_cons (op_pv (w0 rfl) rfl rfl (pv_rem rfl rfl rfl (by omega) (by omega)) ?_)
          have hq143 := Int.emod_nonneg (n1 : Int) (b := ((log30.length : Int) + 1)) (by omega); have hq144 := Int.emod_lt_of_pos (n1 : Int) (b := ((log30.length : Int) + 1)) (by omega)
          obtain ⟨d145, hd146⟩ : ∃ d : Nat, (n1 : Int) % ((log30.length : Int) + 1) = (d : Int) := ⟨((n1 : Int) % ((log30.length : Int) + 1)).toNat, by omega⟩
          rw [hd146]
          rw [hd146] at hq143
          rw [hd146] at hq144
          refine rw_cons (op_pv (w0 rfl) rfl rfl (pv_assign (v := (.int .i64 (d145 : Int))) rfl rfl) ?_)
          refine rw_nil (hK142 _ _ ?_)
          refine hK140 _ _ ?_
          refine cw_seq fun K147 hK148 => ?_
          obtain ⟨hr1, hr2, hr3, hr4⟩ := run_on hok d145
          have hq1 : runM m28 xs29 (log30.take d145) = m28 + ((log30.take d145).length : Int) := runM_yes hr1
          have hq2 : runV m28 xs29 (log30.take d145) = runL xs29 (log30.take d145) := runV_yes hr1
          have hr2b : RunOK (runM m28 xs29 (log30.take d145)) (runV m28 xs29 (log30.take d145)) (log30.drop d145) := by rw [hq1, hq2]; exact hr2
          have hr5 : runM (runM m28 xs29 (log30.take d145)) (runV m28 xs29 (log30.take d145)) (log30.drop d145) = runM m28 xs29 log30 := by rw [runM_yes hr2b, hq1, runM_yes hok]; omega
          have hr6 : runV (runM m28 xs29 (log30.take d145)) (runV m28 xs29 (log30.take d145)) (log30.drop d145) = runV m28 xs29 log30 := by rw [runV_yes hr2b, hq2, runV_yes hok]; exact hr3
          refine cw_drawn (fun u => Ch [] w119 u) (.free 0 (.free 1 (.free 2 (.free 3 (.two 4 true (.free 5 (.free 6 (.free 7 (.one 8 true (.one 9 true (.free 10 (.done))))))) 8 true (.one 4 true (.free 5 (.free 6 (.free 7 (.one 9 true (.free 10 (.done)))))))))))) (by kernel_rfl) (by kernel_rfl) (Ch.refl _ _).drew fun K152 hK153 => ?_
          obtain ⟨w149, hw_, hch150, hsz151⟩ : ∃ w1 : World, w1 = w119.drew ∧ Ch [] w119 w1 ∧ w1.heap.size = w119.heap.size := ⟨_, rfl, (Ch.refl _ _).drew, rfl⟩
          rw [← hw_]; clear hw_
          have hr154 : Ch [] w119 w149 := hch150.sub (fun s hs => by cases hs)
          have hR0_r := hR0
          have hR1_r := hR1
          have hO33_r := hO33
          have hO37_r := hO37
          have hB48_r := hB48
          have hO66_r := hO66
          have hB74_r := hB74
          have hO93_r := hO93
          have hB101_r := hB101
          have hsz155 := hch150.size
          replace hR0 := hR0.ch0 hch150
          replace hR1 := hR1.ch0 hch150
          replace hO33 := hO33.ch0 hch150
          replace hO37 := hO37.ch0 hch150
          replace hB48 := hB48.ch0 hch150
          replace hO66 := hO66.ch0 hch150
          replace hB74 := hB74.ch0 hch150
          replace hO93 := hO93.ch0 hch150
          replace hB101 := hB101.ch0 hch150
          replace hc := hc.step0 hch150
          refine tw_free rfl (w0 rfl) rfl rfl (fun u hu => lv_loadN T25 rfl rfl rfl (fun j v hv => (hB48_r.ch hu (by simp)).cellA hv)) ?_
          refine tw_free rfl (w0 rfl) rfl rfl (fun u hu => (pv_move (v := (.slice A35 log30.length c36)) rfl rfl : PV _ _ _ _) u) ?_
          refine tw_free rfl (w0 rfl) rfl rfl (fun u hu => (pv_move (v := (.int .i64 (d145 : Int))) rfl rfl : PV _ _ _ _) u) ?_
          refine tw_free rfl (w0 rfl) rfl rfl (fun u hu => (pv_upto Try.underlying34 T65 rfl rfl rfl (by omega) (by omega) : PV _ _ _ _) u) ?_
          have hR156 : RS encB 2 w149 w149.heap.size A35 d145 (log30.take d145) := ((hO37.rs (fun _ => rfl))).upto (by omega)
          refine tw_two rfl rfl ?_ ?_
          · -- first 4
            refine  (op_call (w0 rfl) rfl rfl (rc_call C15 rfl rfl) (BaseRun_i m28 _ xs29.length _ xs29 _ d145 _ (log30.take d145) _ (hO33.rs (fun _ => rfl)) (by omega) (hR156.more (by omega)) (by omega)) ?_)
            rintro _ w157 ⟨A159, c160, rfl, hO161, hch158⟩
            have hsz162 := hch158.size
            replace hR0 := hR0.ch0 hch158
            replace hR1 := hR1.ch0 hch158
            replace hO33 := hO33.ch0 hch158
            replace hO37 := hO37.ch0 hch158
            replace hB48 := hB48.ch0 hch158
            replace hO66 := hO66.ch0 hch158
            replace hB74 := hB74.ch0 hch158
            replace hO93 := hO93.ch0 hch158
            replace hB101 := hB101.ch0 hch158
            replace hR156 := hR156.ch0 hch158
            replace hc := hc.step0 hch158
            replace hr154 := hr154.step0 hch158
            have hub163 := hO161.lt
            have hcap164 : (runV m28 xs29 (log30.take d145)).length ≤ c160 := by obtain ⟨_, _, hv, h1, _⟩ := hO161.form; injection hv with _ _ h3; omega
            have hnt165 := runV_le m28 xs29 (log30.take d145)
            refine ⟨fun _ => hr154, ?_⟩
            refine tw_free rfl (w0 rfl) rfl rfl (fun u hu => (pv_move (v := (.tuple #[(.agg #[(.int .i64 (runM m28 xs29 (log30.take d145))), (.slice A159 (runV m28 xs29 (log30.take d145)).length c160)]), (.bool (dec (RunOK m28 xs29 (log30.take d145))))])) rfl rfl : PV _ _ _ _) u) ?_
            refine tw_free rfl (w0 rfl) rfl rfl (fun u hu => (pv_ext (v := (.agg #[(.int .i64 (runM m28 xs29 (log30.take d145))), (.slice A159 (runV m28 xs29 (log30.take d145)).length c160)])) rfl rfl rfl : PV _ _ _ _) u) ?_
            refine tw_free rfl (w0 rfl) rfl rfl (fun u hu => (pv_ext (v := (.bool (dec (RunOK m28 xs29 (log30.take d145))))) rfl rfl rfl : PV _ _ _ _) u) ?_
            refine tw_one rfl (op_alloc T25 (w0 rfl) rfl rfl rfl ?_)
            rintro g167 w166 hg170 hg171 hB169 hch168
            have hsz172 := hch168.size
            replace hR0 := hR0.ch0 hch168
            replace hR1 := hR1.ch0 hch168
            replace hO33 := hO33.ch0 hch168
            replace hO37 := hO37.ch0 hch168
            replace hB48 := hB48.ch0 hch168
            replace hO66 := hO66.ch0 hch168
            replace hB74 := hB74.ch0 hch168
            replace hO93 := hO93.ch0 hch168
            replace hB101 := hB101.ch0 hch168
            replace hR156 := hR156.ch0 hch168
            replace hO161 := hO161.ch0 hch168
            replace hc := hc.step0 hch168
            replace hr154 := hr154.step0 hch168
            replace hB169 : Blk w166 g167 25 [(.int .i64 0), (.slice none 0 0)] := hB169
            have hdj173 : ∀ s ∈ obl (.slice A31 xs29.length c32), s ≠ g167 := fun s hs => by have := hub34 s hs; omega
            have hdj174 : ∀ s ∈ obl (.slice A35 log30.length c36), s ≠ g167 := fun s hs => by have := hub38 s hs; omega
            have hdj175 : ∀ s ∈ obl (.slice A64 (runV m28 xs29 log30).length c65), s ≠ g167 := fun s hs => by have := hub68 s hs; omega
            have hdj176 : ∀ s ∈ obl (.slice A91 (runV m28 xs29 log30).length c92), s ≠ g167 := fun s hs => by have := hub95 s hs; omega
            have hdj177 : ∀ s ∈ obl (.slice A159 (runV m28 xs29 (log30.take d145)).length c160), s ≠ g167 := fun s hs => by have := hub163 s hs; omega
            refine ⟨fun _ => hr154, ?_⟩
            refine tw_one rfl (op_store_blk T25 hB169 (w0 rfl) rfl rfl rfl rfl rfl (one_all rfl) (Nat.le_of_ble_eq_true rfl) ?_)
            rintro w178 hB180 hch179
            have hsz181 := hch179.size
            replace hR0 := hR0.ch hch179 (off1 (by omega))
            replace hR1 := hR1.ch hch179 (off1 (by omega))
            replace hO33 := hO33.ch hch179 (fun s hs => by have := dj_asg hdj173 s hs; simpa using this)
            replace hO37 := hO37.ch hch179 (fun s hs => by have := dj_asg hdj174 s hs; simpa using this)
            replace hB48 := hB48.ch hch179 (by simp; omega)
            replace hO66 := hO66.ch hch179 (fun s hs => by have := dj_asg hdj175 s hs; simpa using this)
            replace hB74 := hB74.ch hch179 (by simp; omega)
            replace hO93 := hO93.ch hch179 (fun s hs => by have := dj_asg hdj176 s hs; simpa using this)
            replace hB101 := hB101.ch hch179 (by simp; omega)
            replace hR156 := hR156.ch hch179 (off1 (by omega))
            replace hO161 := hO161.ch hch179 (fun s hs => by have := dj_asg hdj177 s hs; simpa using this)
            replace hc := (off1 (by omega)).step hc hch179
            replace hr154 := (off1 (by omega)).step hr154 hch179
            replace hB169 : Blk w178 g167 25 [(.int .i64 (runM m28 xs29 (log30.take d145))), (.slice A159 (runV m28 xs29 (log30.take d145)).length c160)] := hB180
            clear hB180
            refine ⟨fun _ => hr154, ?_⟩
            refine tw_free rfl (w0 rfl) rfl rfl (fun u hu => (pv_assign (v := (.bool (dec (RunOK m28 xs29 (log30.take d145))))) rfl rfl : PV _ _ _ _) u) ?_
            clear hB101_r
            clear hB48_r
            clear hB74_r
            clear hO33_r
            clear hO37_r
            clear hO66_r
            clear hO93_r
            clear hR0_r
            clear hR1_r
            refine tw_done (hK153 _ _ ?_)
            refine hK148 _ _ ?_
            refine cw_seq fun K182 hK183 => ?_
            refine cw_drawn (fun u => Ch [] w178 u) (.free 0 (.free 1 (.free 2 (.free 3 (.two 4 true (.free 5 (.free 6 (.free 7 (.one 8 true (.one 9 true (.free 10 (.done))))))) 8 true (.one 4 true (.free 5 (.free 6 (.free 7 (.one 9 true (.free 10 (.done)))))))))))) (by kernel_rfl) (by kernel_rfl) (Ch.refl _ _).drew fun K187 hK188 => ?_
            obtain ⟨w184, hw_, hch185, hsz186⟩ : ∃ w1 : World, w1 = w178.drew ∧ Ch [] w178 w1 ∧ w1.heap.size = w178.heap.size := ⟨_, rfl, (Ch.refl _ _).drew, rfl⟩
            rw [← hw_]; clear hw_
            have hr189 : Ch [] w178 w184 := hch185.sub (fun s hs => by cases hs)
            have hR0_r := hR0
            have hR1_r := hR1
            have hO33_r := hO33
            have hO37_r := hO37
            have hB48_r := hB48
            have hO66_r := hO66
            have hB74_r := hB74
            have hO93_r := hO93
            have hB101_r := hB101
            have hR156_r := hR156
            have hO161_r := hO161
            have hB169_r := hB169
            have hsz190 := hch185.size
            replace hR0 := hR0.ch0 hch185
            replace hR1 := hR1.ch0 hch185
            replace hO33 := hO33.ch0 hch185
            replace hO37 := hO37.ch0 hch185
            replace hB48 := hB48.ch0 hch185
            replace hO66 := hO66.ch0 hch185
            replace hB74 := hB74.ch0 hch185
            replace hO93 := hO93.ch0 hch185
            replace hB101 := hB101.ch0 hch185
            replace hR156 := hR156.ch0 hch185
            replace hO161 := hO161.ch0 hch185
            replace hB169 := hB169.ch0 hch185
            replace hc := hc.step0 hch185
            refine tw_free rfl (w0 rfl) rfl rfl (fun u hu => lv_loadN T25 rfl rfl rfl (fun j v hv => (hB169_r.ch hu (by simp)).cellA hv)) ?_
            refine tw_free rfl (w0 rfl) rfl rfl (fun u hu => (pv_move (v := (.slice A35 log30.length c36)) rfl rfl : PV _ _ _ _) u) ?_
            refine tw_free rfl (w0 rfl) rfl rfl (fun u hu => (pv_move (v := (.int .i64 (d145 : Int))) rfl rfl : PV _ _ _ _) u) ?_
            refine tw_free rfl (w0 rfl) rfl rfl (fun u hu => (pv_from Try.underlying34 T65 rfl rfl rfl (by omega) (by omega) : PV _ _ _ _) u) ?_
            have hR191 : RS encB 2 w184 w184.heap.size (if c36 = d145 then A35 else (A35 : Option Addr).map (·.add (d145 * 2))) (log30.length - d145) (log30.drop d145) := ((hO37.rs (fun _ => rfl))).from (by omega) (by omega)
            refine tw_two rfl rfl ?_ ?_
            · -- first 4
              refine  (op_call (w0 rfl) rfl rfl (rc_call C15 rfl rfl) (BaseRun_i (runM m28 xs29 (log30.take d145)) _ (runV m28 xs29 (log30.take d145)).length _ (runV m28 xs29 (log30.take d145)) _ (log30.length - d145) _ (log30.drop d145) _ (hO161.rs (fun _ => rfl)) (by omega) (hR191.more (by omega)) (by omega)) ?_)
              rintro _ w192 ⟨A194, c195, rfl, hO196, hch193⟩
              have hsz197 := hch193.size
              replace hR0 := hR0.ch0 hch193
              replace hR1 := hR1.ch0 hch193
              replace hO33 := hO33.ch0 hch193
              replace hO37 := hO37.ch0 hch193
              replace hB48 := hB48.ch0 hch193
              replace hO66 := hO66.ch0 hch193
              replace hB74 := hB74.ch0 hch193
              replace hO93 := hO93.ch0 hch193
              replace hB101 := hB101.ch0 hch193
              replace hR156 := hR156.ch0 hch193
              replace hO161 := hO161.ch0 hch193
              replace hB169 := hB169.ch0 hch193
              replace hR191 := hR191.ch0 hch193
              replace hc := hc.step0 hch193
              replace hr189 := hr189.step0 hch193
              have hub198 := hO196.lt
              have hcap199 : (runV (runM m28 xs29 (log30.take d145)) (runV m28 xs29 (log30.take d145)) (log30.drop d145)).length ≤ c195 := by obtain ⟨_, _, hv, h1, _⟩ := hO196.form; injection hv with _ _ h3; omega
              have hnt200 := runV_le (runM m28 xs29 (log30.take d145)) (runV m28 xs29 (log30.take d145)) (log30.drop d145)
              refine ⟨fun _ => hr189, ?_⟩
              refine tw_free rfl (w0 rfl) rfl rfl (fun u hu => (pv_move (v := (.tuple #[(.agg #[(.int .i64 (runM (runM m28 xs29 (log30.take d145)) (runV m28 xs29 (log30.take d145)) (log30.drop d145))), (.slice A194 (runV (runM m28 xs29 (log30.take d145)) (runV m28 xs29 (log30.take d145)) (log30.drop d145)).length c195)]), (.bool (dec (RunOK (runM m28 xs29 (log30.take d145)) (runV m28 xs29 (log30.take d145)) (log30.drop d145))))])) rfl rfl : PV _ _ _ _) u) ?_
              refine tw_free rfl (w0 rfl) rfl rfl (fun u hu => (pv_ext (v := (.agg #[(.int .i64 (runM (runM m28 xs29 (log30.take d145)) (runV m28 xs29 (log30.take d145)) (log30.drop d145))), (.slice A194 (runV (runM m28 xs29 (log30.take d145)) (runV m28 xs29 (log30.take d145)) (log30.drop d145)).length c195)])) rfl rfl rfl : PV _ _ _ _) u) ?_
              refine tw_free rfl (w0 rfl) rfl rfl (fun u hu => (pv_ext (v := (.bool (dec (RunOK (runM m28 xs29 (log30.take d145)) (runV m28 xs29 (log30.take d145)) (log30.drop d145))))) rfl rfl rfl : PV _ _ _ _) u) ?_
              refine tw_one rfl (op_alloc T25 (w0 rfl) rfl rfl rfl ?_)
              rintro g202 w201 hg205 hg206 hB204 hch203
              have hsz207 := hch203.size
              replace hR0 := hR0.ch0 hch203
              replace hR1 := hR1.ch0 hch203
              replace hO33 := hO33.ch0 hch203
              replace hO37 := hO37.ch0 hch203
              replace hB48 := hB48.ch0 hch203
              replace hO66 := hO66.ch0 hch203
              replace hB74 := hB74.ch0 hch203
              replace hO93 := hO93.ch0 hch203
              replace hB101 := hB101.ch0 hch203
              replace hR156 := hR156.ch0 hch203
              replace hO161 := hO161.ch0 hch203
              replace hB169 := hB169.ch0 hch203
              replace hR191 := hR191.ch0 hch203
              replace hO196 := hO196.ch0 hch203
              replace hc := hc.step0 hch203
              replace hr189 := hr189.step0 hch203
              replace hB204 : Blk w201 g202 25 [(.int .i64 0), (.slice none 0 0)] := hB204
              have hdj208 : ∀ s ∈ obl (.slice A31 xs29.length c32), s ≠ g202 := fun s hs => by have := hub34 s hs; omega
              have hdj209 : ∀ s ∈ obl (.slice A35 log30.length c36), s ≠ g202 := fun s hs => by have := hub38 s hs; omega
              have hdj210 : ∀ s ∈ obl (.slice A64 (runV m28 xs29 log30).length c65), s ≠ g202 := fun s hs => by have := hub68 s hs; omega
              have hdj211 : ∀ s ∈ obl (.slice A91 (runV m28 xs29 log30).length c92), s ≠ g202 := fun s hs => by have := hub95 s hs; omega
              have hdj212 : ∀ s ∈ obl (.slice A159 (runV m28 xs29 (log30.take d145)).length c160), s ≠ g202 := fun s hs => by have := hub163 s hs; omega
              have hdj213 : ∀ s ∈ obl (.slice A194 (runV (runM m28 xs29 (log30.take d145)) (runV m28 xs29 (log30.take d145)) (log30.drop d145)).length c195), s ≠ g202 := fun s hs => by have := hub198 s hs; omega
              refine ⟨fun _ => hr189, ?_⟩
              refine tw_one rfl (op_store_blk T25 hB204 (w0 rfl) rfl rfl rfl rfl rfl (one_all rfl) (Nat.le_of_ble_eq_true rfl) ?_)
              rintro w214 hB216 hch215
              have hsz217 := hch215.size
              replace hR0 := hR0.ch hch215 (off1 (by omega))
              replace hR1 := hR1.ch hch215 (off1 (by omega))
              replace hO33 := hO33.ch hch215 (fun s hs => by have := dj_asg hdj208 s hs; simpa using this)
              replace hO37 := hO37.ch hch215 (fun s hs => by have := dj_asg hdj209 s hs; simpa using this)
              replace hB48 := hB48.ch hch215 (by simp; omega)
              replace hO66 := hO66.ch hch215 (fun s hs => by have := dj_asg hdj210 s hs; simpa using this)
              replace hB74 := hB74.ch hch215 (by simp; omega)
              replace hO93 := hO93.ch hch215 (fun s hs => by have := dj_asg hdj211 s hs; simpa using this)
              replace hB101 := hB101.ch hch215 (by simp; omega)
              replace hR156 := hR156.ch hch215 (off1 (by omega))
              replace hO161 := hO161.ch hch215 (fun s hs => by have := dj_asg hdj212 s hs; simpa using this)
              replace hB169 := hB169.ch hch215 (by simp; omega)
              replace hR191 := hR191.ch hch215 (off1 (by omega))
              replace hO196 := hO196.ch hch215 (fun s hs => by have := dj_asg hdj213 s hs; simpa using this)
              replace hc := (off1 (by omega)).step hc hch215
              replace hr189 := (off1 (by omega)).step hr189 hch215
              replace hB204 : Blk w214 g202 25 [(.int .i64 (runM (runM m28 xs29 (log30.take d145)) (runV m28 xs29 (log30.take d145)) (log30.drop d145))), (.slice A194 (runV (runM m28 xs29 (log30.take d145)) (runV m28 xs29 (log30.take d145)) (log30.drop d145)).length c195)] := hB216
              clear hB216
              refine ⟨fun _ => hr189, ?_⟩
              refine tw_free rfl (w0 rfl) rfl rfl (fun u hu => (pv_assign (v := (.bool (dec (RunOK (runM m28 xs29 (log30.take d145)) (runV m28 xs29 (log30.take d145)) (log30.drop d145))))) rfl rfl : PV _ _ _ _) u) ?_
              clear hB101_r
              clear hB169_r
              clear hB48_r
              clear hB74_r
              clear hO161_r
              clear hO33_r
              clear hO37_r
              clear hO66_r
              clear hO93_r
              clear hR0_r
              clear hR1_r
              clear hR156_r
              refine tw_done (hK188 _ _ ?_)
              refine hK183 _ _ ?_
              refine cw_seq fun K218 hK219 => ?_
              refine cw_region fun K220 hK221 => ?_
              refine rw_cons (op_pv (w0 rfl) rfl rfl (pv_move (v := (.bool (dec (RunOK m28 xs29 (log30.take d145))))) rfl rfl) ?_)
              refine rw_cons (op_pv (w0 rfl) rfl rfl (pv_move (v := (.bool (dec (RunOK m28 xs29 (log30.take d145))))) rfl rfl) ?_)
              refine rw_split 85 rfl (fun hb222 => ?_) (fun hb222 => ?_)
              · -- yes
                replace hb222 := dec_t hb222
                refine rw_cons (op_pv (w1y rfl rfl rfl rfl) rfl rfl (pv_move (v := (.bool (dec (RunOK (runM m28 xs29 (log30.take d145)) (runV m28 xs29 (log30.take d145)) (log30.drop d145))))) rfl rfl) ?_)
                refine rw_cons (op_pv (w0 rfl) rfl rfl (pv_pickT (v := (.bool (dec (RunOK (runM m28 xs29 (log30.take d145)) (runV m28 xs29 (log30.take d145)) (log30.drop d145))))) rfl rfl rfl) ?_)
                refine rw_cons (op_pv (w0 rfl) rfl rfl (pv_move (v := (.bool (dec (RunOK (runM m28 xs29 (log30.take d145)) (runV m28 xs29 (log30.take d145)) (log30.drop d145))))) rfl rfl) ?_)
                refine rw_split 88 rfl (fun hb223 => ?_) (fun hb223 => ?_)
                · -- yes
                  replace hb223 := dec_t hb223
                  refine rw_cons (op_lv (w1y rfl rfl rfl rfl) rfl rfl (lv_loadN T25 rfl rfl rfl (fun j v hv => hB204.cellA hv)) ?_)
                  refine rw_cons (op_lv (w1y rfl rfl rfl rfl) rfl rfl (lv_loadN T25 rfl rfl rfl (fun j v hv => hB74.cellA hv)) ?_)
                  refine rw_cons (op_call (w1y rfl rfl rfl rfl) rfl rfl (rc_call C17 rfl rfl) (sameBase_ok (runM (runM m28 xs29 (log30.take d145)) (runV m28 xs29 (log30.take d145)) (log30.drop d145)) _ (runV (runM m28 xs29 (log30.take d145)) (runV m28 xs29 (log30.take d145)) (log30.drop d145)).length _ (runV (runM m28 xs29 (log30.take d145)) (runV m28 xs29 (log30.take d145)) (log30.drop d145)) (runM m28 xs29 log30) _ (runV m28 xs29 log30).length _ (runV m28 xs29 log30) _ (hO196.rs (fun _ => rfl)) (by omega) (hO66.rs (fun _ => rfl)) (by omega)) ?_)
                  rintro _ w224 ⟨rfl, hch225⟩
                  have hsz226 := hch225.size
                  replace hR0 := hR0.ch0 hch225
                  replace hR1 := hR1.ch0 hch225
                  replace hO33 := hO33.ch0 hch225
                  replace hO37 := hO37.ch0 hch225
                  replace hB48 := hB48.ch0 hch225
                  replace hO66 := hO66.ch0 hch225
                  replace hB74 := hB74.ch0 hch225
                  replace hO93 := hO93.ch0 hch225
                  replace hB101 := hB101.ch0 hch225
                  replace hR156 := hR156.ch0 hch225
                  replace hO161 := hO161.ch0 hch225
                  replace hB169 := hB169.ch0 hch225
                  replace hR191 := hR191.ch0 hch225
                  replace hO196 := hO196.ch0 hch225
                  replace hB204 := hB204.ch0 hch225
                  replace hc := hc.step0 hch225
                  refine rw_cons (op_pv (w0 rfl) rfl rfl (pv_pickT (v := (.bool (dec ((runM (runM m28 xs29 (log30.take d145)) (runV m28 xs29 (log30.take d145)) (log30.drop d145)) = (runM m28 xs29 log30) ∧ (runV (runM m28 xs29 (log30.take d145)) (runV m28 xs29 (log30.take d145)) (log30.drop d145)) = (runV m28 xs29 log30))))) rfl rfl rfl) ?_)
                  refine rw_cons (op_pv (w0 rfl) rfl rfl (pv_assign (v := (.bool (dec ((runM (runM m28 xs29 (log30.take d145)) (runV m28 xs29 (log30.take d145)) (log30.drop d145)) = (runM m28 xs29 log30) ∧ (runV (runM m28 xs29 (log30.take d145)) (runV m28 xs29 (log30.take d145)) (log30.drop d145)) = (runV m28 xs29 log30))))) rfl rfl) ?_)
                  refine rw_nil (hK221 _ _ ?_)
                  refine hK219 _ _ ?_
                  refine cw_ret ?_
                  refine fin1 rfl ?_
                  first
                    | exact ⟨rfl, hc⟩
                    | exact absurd hr1 (by assumption)
                    | exact absurd hr2b (by assumption)
                    | exact ⟨congrArg Value.bool (dec_yes ⟨hr5, hr6⟩), hc⟩
                    | exact absurd ⟨rfl, rfl⟩ ‹¬(runM m28 xs29 log30 = runM m28 xs29 log30 ∧ runV m28 xs29 log30 = runV m28 xs29 log30)›
                    | exact ⟨congrArg Value.bool (dec_yes ⟨rfl, rfl⟩), hc⟩
                · -- no
                  replace hb223 := dec_f hb223
                  refine rw_cons (op_pass (w1n1 rfl rfl rfl rfl) rfl rfl ?_)
                  refine rw_cons (op_pass (w1n1 rfl rfl rfl rfl) rfl rfl ?_)
                  refine rw_cons (op_pass (w1n1 rfl rfl rfl rfl) rfl rfl ?_)
                  refine rw_cons (op_pv (w0 rfl) rfl rfl (pv_pickF (v := (.bool false)) rfl rfl rfl) ?_)
                  refine rw_cons (op_pv (w0 rfl) rfl rfl (pv_assign (v := (.bool false)) rfl rfl) ?_)
                  refine rw_nil (hK221 _ _ ?_)
                  refine hK219 _ _ ?_
                  refine cw_ret ?_
                  refine fin1 rfl ?_
                  first
                    | exact ⟨rfl, hc⟩
                    | exact absurd hr1 (by assumption)
                    | exact absurd hr2b (by assumption)
                    | exact ⟨congrArg Value.bool (dec_yes ⟨hr5, hr6⟩), hc⟩
                    | exact absurd ⟨rfl, rfl⟩ ‹¬(runM m28 xs29 log30 = runM m28 xs29 log30 ∧ runV m28 xs29 log30 = runV m28 xs29 log30)›
                    | exact ⟨congrArg Value.bool (dec_yes ⟨rfl, rfl⟩), hc⟩
              · -- no
                replace hb222 := dec_f hb222
                refine rw_cons (op_pass (w1n1 rfl rfl rfl rfl) rfl rfl ?_)
                refine rw_cons (op_pv (w0 rfl) rfl rfl (pv_pickF (v := (.bool false)) rfl rfl rfl) ?_)
                refine rw_cons (op_pv (w0 rfl) rfl rfl (pv_move (v := (.bool false)) rfl rfl) ?_)
                refine rw_cons (op_pass (w1n1 rfl rfl rfl rfl) rfl rfl ?_)
                refine rw_cons (op_pass (w1n1 rfl rfl rfl rfl) rfl rfl ?_)
                refine rw_cons (op_pass (w1n1 rfl rfl rfl rfl) rfl rfl ?_)
                refine rw_cons (op_pv (w0 rfl) rfl rfl (pv_pickF (v := (.bool false)) rfl rfl rfl) ?_)
                refine rw_cons (op_pv (w0 rfl) rfl rfl (pv_assign (v := (.bool false)) rfl rfl) ?_)
                refine rw_nil (hK221 _ _ ?_)
                refine hK219 _ _ ?_
                refine cw_ret ?_
                refine fin1 rfl ?_
                first
                  | exact ⟨rfl, hc⟩
                  | exact absurd hr1 (by assumption)
                  | exact absurd hr2b (by assumption)
                  | exact ⟨congrArg Value.bool (dec_yes ⟨hr5, hr6⟩), hc⟩
                  | exact absurd ⟨rfl, rfl⟩ ‹¬(runM m28 xs29 log30 = runM m28 xs29 log30 ∧ runV m28 xs29 log30 = runV m28 xs29 log30)›
                  | exact ⟨congrArg Value.bool (dec_yes ⟨rfl, rfl⟩), hc⟩
            · -- first 8
              refine  (op_alloc T25 (w0 rfl) rfl rfl rfl ?_)
              rintro g228 w227 hg231 hg232 hB230 hch229
              have hsz233 := hch229.size
              replace hR0 := hR0.ch0 hch229
              replace hR1 := hR1.ch0 hch229
              replace hO33 := hO33.ch0 hch229
              replace hO37 := hO37.ch0 hch229
              replace hB48 := hB48.ch0 hch229
              replace hO66 := hO66.ch0 hch229
              replace hB74 := hB74.ch0 hch229
              replace hO93 := hO93.ch0 hch229
              replace hB101 := hB101.ch0 hch229
              replace hR156 := hR156.ch0 hch229
              replace hO161 := hO161.ch0 hch229
              replace hB169 := hB169.ch0 hch229
              replace hR191 := hR191.ch0 hch229
              replace hc := hc.step0 hch229
              replace hr189 := hr189.step0 hch229
              replace hB230 : Blk w227 g228 25 [(.int .i64 0), (.slice none 0 0)] := hB230
              have hdj234 : ∀ s ∈ obl (.slice A31 xs29.length c32), s ≠ g228 := fun s hs => by have := hub34 s hs; omega
              have hdj235 : ∀ s ∈ obl (.slice A35 log30.length c36), s ≠ g228 := fun s hs => by have := hub38 s hs; omega
              have hdj236 : ∀ s ∈ obl (.slice A64 (runV m28 xs29 log30).length c65), s ≠ g228 := fun s hs => by have := hub68 s hs; omega
              have hdj237 : ∀ s ∈ obl (.slice A91 (runV m28 xs29 log30).length c92), s ≠ g228 := fun s hs => by have := hub95 s hs; omega
              have hdj238 : ∀ s ∈ obl (.slice A159 (runV m28 xs29 (log30.take d145)).length c160), s ≠ g228 := fun s hs => by have := hub163 s hs; omega
              refine ⟨fun _ => hr189, ?_⟩
              refine tw_one rfl (op_call (w0 rfl) rfl rfl (rc_call C15 rfl rfl) (BaseRun_i (runM m28 xs29 (log30.take d145)) _ (runV m28 xs29 (log30.take d145)).length _ (runV m28 xs29 (log30.take d145)) _ (log30.length - d145) _ (log30.drop d145) _ (hO161.rs (fun _ => rfl)) (by omega) (hR191.more (by omega)) (by omega)) ?_)
              rintro _ w239 ⟨A241, c242, rfl, hO243, hch240⟩
              have hsz244 := hch240.size
              replace hR0 := hR0.ch0 hch240
              replace hR1 := hR1.ch0 hch240
              replace hO33 := hO33.ch0 hch240
              replace hO37 := hO37.ch0 hch240
              replace hB48 := hB48.ch0 hch240
              replace hO66 := hO66.ch0 hch240
              replace hB74 := hB74.ch0 hch240
              replace hO93 := hO93.ch0 hch240
              replace hB101 := hB101.ch0 hch240
              replace hR156 := hR156.ch0 hch240
              replace hO161 := hO161.ch0 hch240
              replace hB169 := hB169.ch0 hch240
              replace hR191 := hR191.ch0 hch240
              replace hB230 := hB230.ch0 hch240
              replace hc := hc.step0 hch240
              replace hr189 := hr189.step0 hch240
              have hub245 := hO243.lt
              have hcap246 : (runV (runM m28 xs29 (log30.take d145)) (runV m28 xs29 (log30.take d145)) (log30.drop d145)).length ≤ c242 := by obtain ⟨_, _, hv, h1, _⟩ := hO243.form; injection hv with _ _ h3; omega
              have hnt247 := runV_le (runM m28 xs29 (log30.take d145)) (runV m28 xs29 (log30.take d145)) (log30.drop d145)
              refine ⟨fun _ => hr189, ?_⟩
              refine tw_free rfl (w0 rfl) rfl rfl (fun u hu => (pv_move (v := (.tuple #[(.agg #[(.int .i64 (runM (runM m28 xs29 (log30.take d145)) (runV m28 xs29 (log30.take d145)) (log30.drop d145))), (.slice A241 (runV (runM m28 xs29 (log30.take d145)) (runV m28 xs29 (log30.take d145)) (log30.drop d145)).length c242)]), (.bool (dec (RunOK (runM m28 xs29 (log30.take d145)) (runV m28 xs29 (log30.take d145)) (log30.drop d145))))])) rfl rfl : PV _ _ _ _) u) ?_
              refine tw_free rfl (w0 rfl) rfl rfl (fun u hu => (pv_ext (v := (.agg #[(.int .i64 (runM (runM m28 xs29 (log30.take d145)) (runV m28 xs29 (log30.take d145)) (log30.drop d145))), (.slice A241 (runV (runM m28 xs29 (log30.take d145)) (runV m28 xs29 (log30.take d145)) (log30.drop d145)).length c242)])) rfl rfl rfl : PV _ _ _ _) u) ?_
              refine tw_free rfl (w0 rfl) rfl rfl (fun u hu => (pv_ext (v := (.bool (dec (RunOK (runM m28 xs29 (log30.take d145)) (runV m28 xs29 (log30.take d145)) (log30.drop d145))))) rfl rfl rfl : PV _ _ _ _) u) ?_
              refine tw_one rfl (op_store_blk T25 hB230 (w0 rfl) rfl rfl rfl rfl rfl (one_all rfl) (Nat.le_of_ble_eq_true rfl) ?_)
              rintro w248 hB250 hch249
              have hsz251 := hch249.size
              replace hR0 := hR0.ch hch249 (off1 (by omega))
              replace hR1 := hR1.ch hch249 (off1 (by omega))
              replace hO33 := hO33.ch hch249 (fun s hs => by have := dj_asg hdj234 s hs; simpa using this)
              replace hO37 := hO37.ch hch249 (fun s hs => by have := dj_asg hdj235 s hs; simpa using this)
              replace hB48 := hB48.ch hch249 (by simp; omega)
              replace hO66 := hO66.ch hch249 (fun s hs => by have := dj_asg hdj236 s hs; simpa using this)
              replace hB74 := hB74.ch hch249 (by simp; omega)
              replace hO93 := hO93.ch hch249 (fun s hs => by have := dj_asg hdj237 s hs; simpa using this)
              replace hB101 := hB101.ch hch249 (by simp; omega)
              replace hR156 := hR156.ch hch249 (off1 (by omega))
              replace hO161 := hO161.ch hch249 (fun s hs => by have := dj_asg hdj238 s hs; simpa using this)
              replace hB169 := hB169.ch hch249 (by simp; omega)
              replace hR191 := hR191.ch hch249 (off1 (by omega))
              replace hO243 := hO243.ch hch249 (fun s hs => by first | (have := hO243.off s hs; simp; omega) | (have := hub245 s hs; simp; omega))
              replace hc := (off1 (by omega)).step hc hch249
              replace hr189 := (off1 (by omega)).step hr189 hch249
              replace hB230 : Blk w248 g228 25 [(.int .i64 (runM (runM m28 xs29 (log30.take d145)) (runV m28 xs29 (log30.take d145)) (log30.drop d145))), (.slice A241 (runV (runM m28 xs29 (log30.take d145)) (runV m28 xs29 (log30.take d145)) (log30.drop d145)).length c242)] := hB250
              clear hB250
              refine ⟨fun _ => hr189, ?_⟩
              refine tw_free rfl (w0 rfl) rfl rfl (fun u hu => (pv_assign (v := (.bool (dec (RunOK (runM m28 xs29 (log30.take d145)) (runV m28 xs29 (log30.take d145)) (log30.drop d145))))) rfl rfl : PV _ _ _ _) u) ?_
              clear hB101_r
              clear hB169_r
              clear hB48_r
              clear hB74_r
              clear hO161_r
              clear hO33_r
              clear hO37_r
              clear hO66_r
              clear hO93_r
              clear hR0_r
              clear hR1_r
              clear hR156_r
              refine tw_done (hK188 _ _ ?_)
              refine hK183 _ _ ?_
              refine cw_seq fun K252 hK253 => ?_
              refine cw_region fun K254 hK255 => ?_
              refine rw_cons (op_pv (w0 rfl) rfl rfl (pv_move (v := (.bool (dec (RunOK m28 xs29 (log30.take d145))))) rfl rfl) ?_)
              refine rw_cons (op_pv (w0 rfl) rfl rfl (pv_move (v := (.bool (dec (RunOK m28 xs29 (log30.take d145))))) rfl rfl) ?_)
              refine rw_split 85 rfl (fun hb256 => ?_) (fun hb256 => ?_)
              · -- yes
                replace hb256 := dec_t hb256
                refine rw_cons (op_pv (w1y rfl rfl rfl rfl) rfl rfl (pv_move (v := (.bool (dec (RunOK (runM m28 xs29 (log30.take d145)) (runV m28 xs29 (log30.take d145)) (log30.drop d145))))) rfl rfl) ?_)
                refine rw_cons (op_pv (w0 rfl) rfl rfl (pv_pickT (v := (.bool (dec (RunOK (runM m28 xs29 (log30.take d145)) (runV m28 xs29 (log30.take d145)) (log30.drop d145))))) rfl rfl rfl) ?_)
                refine rw_cons (op_pv (w0 rfl) rfl rfl (pv_move (v := (.bool (dec (RunOK (runM m28 xs29 (log30.take d145)) (runV m28 xs29 (log30.take d145)) (log30.drop d145))))) rfl rfl) ?_)
                refine rw_split 88 rfl (fun hb257 => ?_) (fun hb257 => ?_)
                · -- yes
                  replace hb257 := dec_t hb257
                  refine rw_cons (op_lv (w1y rfl rfl rfl rfl) rfl rfl (lv_loadN T25 rfl rfl rfl (fun j v hv => hB230.cellA hv)) ?_)
                  refine rw_cons (op_lv (w1y rfl rfl rfl rfl) rfl rfl (lv_loadN T25 rfl rfl rfl (fun j v hv => hB74.cellA hv)) ?_)
                  refine rw_cons (op_call (w1y rfl rfl rfl rfl) rfl rfl (rc_call C17 rfl rfl) (sameBase_ok (runM (runM m28 xs29 (log30.take d145)) (runV m28 xs29 (log30.take d145)) (log30.drop d145)) _ (runV (runM m28 xs29 (log30.take d145)) (runV m28 xs29 (log30.take d145)) (log30.drop d145)).length _ (runV (runM m28 xs29 (log30.take d145)) (runV m28 xs29 (log30.take d145)) (log30.drop d145)) (runM m28 xs29 log30) _ (runV m28 xs29 log30).length _ (runV m28 xs29 log30) _ (hO243.rs (fun _ => rfl)) (by omega) (hO66.rs (fun _ => rfl)) (by omega)) ?_)
                  rintro _ w258 ⟨rfl, hch259⟩
                  have hsz260 := hch259.size
                  replace hR0 := hR0.ch0 hch259
                  replace hR1 := hR1.ch0 hch259
                  replace hO33 := hO33.ch0 hch259
                  replace hO37 := hO37.ch0 hch259
                  replace hB48 := hB48.ch0 hch259
                  replace hO66 := hO66.ch0 hch259
                  replace hB74 := hB74.ch0 hch259
                  replace hO93 := hO93.ch0 hch259
                  replace hB101 := hB101.ch0 hch259
                  replace hR156 := hR156.ch0 hch259
                  replace hO161 := hO161.ch0 hch259
                  replace hB169 := hB169.ch0 hch259
                  replace hR191 := hR191.ch0 hch259
                  replace hB230 := hB230.ch0 hch259
                  replace hO243 := hO243.ch0 hch259
                  replace hc := hc.step0 hch259
                  refine rw_cons (op_pv (w0 rfl) rfl rfl (pv_pickT (v := (.bool (dec ((runM (runM m28 xs29 (log30.take d145)) (runV m28 xs29 (log30.take d145)) (log30.drop d145)) = (runM m28 xs29 log30) ∧ (runV (runM m28 xs29 (log30.take d145)) (runV m28 xs29 (log30.take d145)) (log30.drop d145)) = (runV m28 xs29 log30))))) rfl rfl rfl) ?_)
                  refine rw_cons (op_pv (w0 rfl) rfl rfl (pv_assign (v := (.bool (dec ((runM (runM m28 xs29 (log30.take d145)) (runV m28 xs29 (log30.take d145)) (log30.drop d145)) = (runM m28 xs29 log30) ∧ (runV (runM m28 xs29 (log30.take d145)) (runV m28 xs29 (log30.take d145)) (log30.drop d145)) = (runV m28 xs29 log30))))) rfl rfl) ?_)
                  refine rw_nil (hK255 _ _ ?_)
                  refine hK253 _ _ ?_
                  refine cw_ret ?_
                  refine fin1 rfl ?_
                  first
                    | exact ⟨rfl, hc⟩
                    | exact absurd hr1 (by assumption)
                    | exact absurd hr2b (by assumption)
                    | exact ⟨congrArg Value.bool (dec_yes ⟨hr5, hr6⟩), hc⟩
                    | exact absurd ⟨rfl, rfl⟩ ‹¬(runM m28 xs29 log30 = runM m28 xs29 log30 ∧ runV m28 xs29 log30 = runV m28 xs29 log30)›
                    | exact ⟨congrArg Value.bool (dec_yes ⟨rfl, rfl⟩), hc⟩
                · -- no
                  replace hb257 := dec_f hb257
                  refine rw_cons (op_pass (w1n1 rfl rfl rfl rfl) rfl rfl ?_)
                  refine rw_cons (op_pass (w1n1 rfl rfl rfl rfl) rfl rfl ?_)
                  refine rw_cons (op_pass (w1n1 rfl rfl rfl rfl) rfl rfl ?_)
                  refine rw_cons (op_pv (w0 rfl) rfl rfl (pv_pickF (v := (.bool false)) rfl rfl rfl) ?_)
                  refine rw_cons (op_pv (w0 rfl) rfl rfl (pv_assign (v := (.bool false)) rfl rfl) ?_)
                  refine rw_nil (hK255 _ _ ?_)
                  refine hK253 _ _ ?_
                  refine cw_ret ?_
                  refine fin1 rfl ?_
                  first
                    | exact ⟨rfl, hc⟩
                    | exact absurd hr1 (by assumption)
                    | exact absurd hr2b (by assumption)
                    | exact ⟨congrArg Value.bool (dec_yes ⟨hr5, hr6⟩), hc⟩
                    | exact absurd ⟨rfl, rfl⟩ ‹¬(runM m28 xs29 log30 = runM m28 xs29 log30 ∧ runV m28 xs29 log30 = runV m28 xs29 log30)›
                    | exact ⟨congrArg Value.bool (dec_yes ⟨rfl, rfl⟩), hc⟩
              · -- no
                replace hb256 := dec_f hb256
                refine rw_cons (op_pass (w1n1 rfl rfl rfl rfl) rfl rfl ?_)
                refine rw_cons (op_pv (w0 rfl) rfl rfl (pv_pickF (v := (.bool false)) rfl rfl rfl) ?_)
                refine rw_cons (op_pv (w0 rfl) rfl rfl (pv_move (v := (.bool false)) rfl rfl) ?_)
                refine rw_cons (op_pass (w1n1 rfl rfl rfl rfl) rfl rfl ?_)
                refine rw_cons (op_pass (w1n1 rfl rfl rfl rfl) rfl rfl ?_)
                refine rw_cons (op_pass (w1n1 rfl rfl rfl rfl) rfl rfl ?_)
                refine rw_cons (op_pv (w0 rfl) rfl rfl (pv_pickF (v := (.bool false)) rfl rfl rfl) ?_)
                refine rw_cons (op_pv (w0 rfl) rfl rfl (pv_assign (v := (.bool false)) rfl rfl) ?_)
                refine rw_nil (hK255 _ _ ?_)
                refine hK253 _ _ ?_
                refine cw_ret ?_
                refine fin1 rfl ?_
                first
                  | exact ⟨rfl, hc⟩
                  | exact absurd hr1 (by assumption)
                  | exact absurd hr2b (by assumption)
                  | exact ⟨congrArg Value.bool (dec_yes ⟨hr5, hr6⟩), hc⟩
                  | exact absurd ⟨rfl, rfl⟩ ‹¬(runM m28 xs29 log30 = runM m28 xs29 log30 ∧ runV m28 xs29 log30 = runV m28 xs29 log30)›
                  | exact ⟨congrArg Value.bool (dec_yes ⟨rfl, rfl⟩), hc⟩
          · -- first 8
            refine  (op_alloc T25 (w0 rfl) rfl rfl rfl ?_)
            rintro g262 w261 hg265 hg266 hB264 hch263
            have hsz267 := hch263.size
            replace hR0 := hR0.ch0 hch263
            replace hR1 := hR1.ch0 hch263
            replace hO33 := hO33.ch0 hch263
            replace hO37 := hO37.ch0 hch263
            replace hB48 := hB48.ch0 hch263
            replace hO66 := hO66.ch0 hch263
            replace hB74 := hB74.ch0 hch263
            replace hO93 := hO93.ch0 hch263
            replace hB101 := hB101.ch0 hch263
            replace hR156 := hR156.ch0 hch263
            replace hc := hc.step0 hch263
            replace hr154 := hr154.step0 hch263
            replace hB264 : Blk w261 g262 25 [(.int .i64 0), (.slice none 0 0)] := hB264
            have hdj268 : ∀ s ∈ obl (.slice A31 xs29.length c32), s ≠ g262 := fun s hs => by have := hub34 s hs; omega
            have hdj269 : ∀ s ∈ obl (.slice A35 log30.length c36), s ≠ g262 := fun s hs => by have := hub38 s hs; omega
            have hdj270 : ∀ s ∈ obl (.slice A64 (runV m28 xs29 log30).length c65), s ≠ g262 := fun s hs => by have := hub68 s hs; omega
            have hdj271 : ∀ s ∈ obl (.slice A91 (runV m28 xs29 log30).length c92), s ≠ g262 := fun s hs => by have := hub95 s hs; omega
            refine ⟨fun _ => hr154, ?_⟩
            refine tw_one rfl (op_call (w0 rfl) rfl rfl (rc_call C15 rfl rfl) (BaseRun_i m28 _ xs29.length _ xs29 _ d145 _ (log30.take d145) _ (hO33.rs (fun _ => rfl)) (by omega) (hR156.more (by omega)) (by omega)) ?_)
            rintro _ w272 ⟨A274, c275, rfl, hO276, hch273⟩
            have hsz277 := hch273.size
            replace hR0 := hR0.ch0 hch273
            replace hR1 := hR1.ch0 hch273
            replace hO33 := hO33.ch0 hch273
            replace hO37 := hO37.ch0 hch273
            replace hB48 := hB48.ch0 hch273
            replace hO66 := hO66.ch0 hch273
            replace hB74 := hB74.ch0 hch273
            replace hO93 := hO93.ch0 hch273
            replace hB101 := hB101.ch0 hch273
            replace hR156 := hR156.ch0 hch273
            replace hB264 := hB264.ch0 hch273
            replace hc := hc.step0 hch273
            replace hr154 := hr154.step0 hch273
            have hub278 := hO276.lt
            have hcap279 : (runV m28 xs29 (log30.take d145)).length ≤ c275 := by obtain ⟨_, _, hv, h1, _⟩ := hO276.form; injection hv with _ _ h3; omega
            have hnt280 := runV_le m28 xs29 (log30.take d145)
            refine ⟨fun _ => hr154, ?_⟩
            refine tw_free rfl (w0 rfl) rfl rfl (fun u hu => (pv_move (v := (.tuple #[(.agg #[(.int .i64 (runM m28 xs29 (log30.take d145))), (.slice A274 (runV m28 xs29 (log30.take d145)).length c275)]), (.bool (dec (RunOK m28 xs29 (log30.take d145))))])) rfl rfl : PV _ _ _ _) u) ?_
            refine tw_free rfl (w0 rfl) rfl rfl (fun u hu => (pv_ext (v := (.agg #[(.int .i64 (runM m28 xs29 (log30.take d145))), (.slice A274 (runV m28 xs29 (log30.take d145)).length c275)])) rfl rfl rfl : PV _ _ _ _) u) ?_
            refine tw_free rfl (w0 rfl) rfl rfl (fun u hu => (pv_ext (v := (.bool (dec (RunOK m28 xs29 (log30.take d145))))) rfl rfl rfl : PV _ _ _ _) u) ?_
            refine tw_one rfl (op_store_blk T25 hB264 (w0 rfl) rfl rfl rfl rfl rfl (one_all rfl) (Nat.le_of_ble_eq_true rfl) ?_)
            rintro w281 hB283 hch282
            have hsz284 := hch282.size
            replace hR0 := hR0.ch hch282 (off1 (by omega))
            replace hR1 := hR1.ch hch282 (off1 (by omega))
            replace hO33 := hO33.ch hch282 (fun s hs => by have := dj_asg hdj268 s hs; simpa using this)
            replace hO37 := hO37.ch hch282 (fun s hs => by have := dj_asg hdj269 s hs; simpa using this)
            replace hB48 := hB48.ch hch282 (by simp; omega)
            replace hO66 := hO66.ch hch282 (fun s hs => by have := dj_asg hdj270 s hs; simpa using this)
            replace hB74 := hB74.ch hch282 (by simp; omega)
            replace hO93 := hO93.ch hch282 (fun s hs => by have := dj_asg hdj271 s hs; simpa using this)
            replace hB101 := hB101.ch hch282 (by simp; omega)
            replace hR156 := hR156.ch hch282 (off1 (by omega))
            replace hO276 := hO276.ch hch282 (fun s hs => by first | (have := hO276.off s hs; simp; omega) | (have := hub278 s hs; simp; omega))
            replace hc := (off1 (by omega)).step hc hch282
            replace hr154 := (off1 (by omega)).step hr154 hch282
            replace hB264 : Blk w281 g262 25 [(.int .i64 (runM m28 xs29 (log30.take d145))), (.slice A274 (runV m28 xs29 (log30.take d145)).length c275)] := hB283
            clear hB283
            refine ⟨fun _ => hr154, ?_⟩
            refine tw_free rfl (w0 rfl) rfl rfl (fun u hu => (pv_assign (v := (.bool (dec (RunOK m28 xs29 (log30.take d145))))) rfl rfl : PV _ _ _ _) u) ?_
            clear hB101_r
            clear hB48_r
            clear hB74_r
            clear hO33_r
            clear hO37_r
            clear hO66_r
            clear hO93_r
            clear hR0_r
            clear hR1_r
            refine tw_done (hK153 _ _ ?_)
            refine hK148 _ _ ?_
            refine cw_seq fun K285 hK286 => ?_
            refine cw_drawn (fun u => Ch [] w281 u) (.free 0 (.free 1 (.free 2 (.free 3 (.two 4 true (.free 5 (.free 6 (.free 7 (.one 8 true (.one 9 true (.free 10 (.done))))))) 8 true (.one 4 true (.free 5 (.free 6 (.free 7 (.one 9 true (.free 10 (.done)))))))))))) (by kernel_rfl) (by kernel_rfl) (Ch.refl _ _).drew fun K290 hK291 => ?_
            obtain ⟨w287, hw_, hch288, hsz289⟩ : ∃ w1 : World, w1 = w281.drew ∧ Ch [] w281 w1 ∧ w1.heap.size = w281.heap.size := ⟨_, rfl, (Ch.refl _ _).drew, rfl⟩
            rw [← hw_]; clear hw_
            have hr292 : Ch [] w281 w287 := hch288.sub (fun s hs => by cases hs)
            have hR0_r := hR0
            have hR1_r := hR1
            have hO33_r := hO33
            have hO37_r := hO37
            have hB48_r := hB48
            have hO66_r := hO66
            have hB74_r := hB74
            have hO93_r := hO93
            have hB101_r := hB101
            have hR156_r := hR156
            have hB264_r := hB264
            have hO276_r := hO276
            have hsz293 := hch288.size
            replace hR0 := hR0.ch0 hch288
            replace hR1 := hR1.ch0 hch288
            replace hO33 := hO33.ch0 hch288
            replace hO37 := hO37.ch0 hch288
            replace hB48 := hB48.ch0 hch288
            replace hO66 := hO66.ch0 hch288
            replace hB74 := hB74.ch0 hch288
            replace hO93 := hO93.ch0 hch288
            replace hB101 := hB101.ch0 hch288
            replace hR156 := hR156.ch0 hch288
            replace hB264 := hB264.ch0 hch288
            replace hO276 := hO276.ch0 hch288
            replace hc := hc.step0 hch288
            refine tw_free rfl (w0 rfl) rfl rfl (fun u hu => lv_loadN T25 rfl rfl rfl (fun j v hv => (hB264_r.ch hu (by simp)).cellA hv)) ?_
            refine tw_free rfl (w0 rfl) rfl rfl (fun u hu => (pv_move (v := (.slice A35 log30.length c36)) rfl rfl : PV _ _ _ _) u) ?_
            refine tw_free rfl (w0 rfl) rfl rfl (fun u hu => (pv_move (v := (.int .i64 (d145 : Int))) rfl rfl : PV _ _ _ _) u) ?_
            refine tw_free rfl (w0 rfl) rfl rfl (fun u hu => (pv_from Try.underlying34 T65 rfl rfl rfl (by omega) (by omega) : PV _ _ _ _) u) ?_
            have hR294 : RS encB 2 w287 w287.heap.size (if c36 = d145 then A35 else (A35 : Option Addr).map (·.add (d145 * 2))) (log30.length - d145) (log30.drop d145) := ((hO37.rs (fun _ => rfl))).from (by omega) (by omega)
            refine tw_two rfl rfl ?_ ?_
            · -- first 4
              refine  (op_call (w0 rfl) rfl rfl (rc_call C15 rfl rfl) (BaseRun_i (runM m28 xs29 (log30.take d145)) _ (runV m28 xs29 (log30.take d145)).length _ (runV m28 xs29 (log30.take d145)) _ (log30.length - d145) _ (log30.drop d145) _ (hO276.rs (fun _ => rfl)) (by omega) (hR294.more (by omega)) (by omega)) ?_)
              rintro _ w295 ⟨A297, c298, rfl, hO299, hch296⟩
              have hsz300 := hch296.size
              replace hR0 := hR0.ch0 hch296
              replace hR1 := hR1.ch0 hch296
              replace hO33 := hO33.ch0 hch296
              replace hO37 := hO37.ch0 hch296
              replace hB48 := hB48.ch0 hch296
              replace hO66 := hO66.ch0 hch296
              replace hB74 := hB74.ch0 hch296
              replace hO93 := hO93.ch0 hch296
              replace hB101 := hB101.ch0 hch296
              replace hR156 := hR156.ch0 hch296
              replace hB264 := hB264.ch0 hch296
              replace hO276 := hO276.ch0 hch296
              replace hR294 := hR294.ch0 hch296
              replace hc := hc.step0 hch296
              replace hr292 := hr292.step0 hch296
              have hub301 := hO299.lt
              have hcap302 : (runV (runM m28 xs29 (log30.take d145)) (runV m28 xs29 (log30.take d145)) (log30.drop d145)).length ≤ c298 := by obtain ⟨_, _, hv, h1, _⟩ := hO299.form; injection hv with _ _ h3; omega
              have hnt303 := runV_le (runM m28 xs29 (log30.take d145)) (runV m28 xs29 (log30.take d145)) (log30.drop d145)
              refine ⟨fun _ => hr292, ?_⟩
              refine tw_free rfl (w0 rfl) rfl rfl (fun u hu => (pv_move (v := (.tuple #[(.agg #[(.int .i64 (runM (runM m28 xs29 (log30.take d145)) (runV m28 xs29 (log30.take d145)) (log30.drop d145))), (.slice A297 (runV (runM m28 xs29 (log30.take d145)) (runV m28 xs29 (log30.take d145)) (log30.drop d145)).length c298)]), (.bool (dec (RunOK (runM m28 xs29 (log30.take d145)) (runV m28 xs29 (log30.take d145)) (log30.drop d145))))])) rfl rfl : PV _ _ _ _) u) ?_
              refine tw_free rfl (w0 rfl) rfl rfl (fun u hu => (pv_ext (v := (.agg #[(.int .i64 (runM (runM m28 xs29 (log30.take d145)) (runV m28 xs29 (log30.take d145)) (log30.drop d145))), (.slice A297 (runV (runM m28 xs29 (log30.take d145)) (runV m28 xs29 (log30.take d145)) (log30.drop d145)).length c298)])) rfl rfl rfl : PV _ _ _ _) u) ?_
              refine tw_free rfl (w0 rfl) rfl rfl (fun u hu => (pv_ext (v := (.bool (dec (RunOK (runM m28 xs29 (log30.take d145)) (runV m28 xs29 (log30.take d145)) (log30.drop d145))))) rfl rfl rfl : PV _ _ _ _) u) ?_
              refine tw_one rfl (op_alloc T25 (w0 rfl) rfl rfl rfl ?_)
              rintro g305 w304 hg308 hg309 hB307 hch306
              have hsz310 := hch306.size
              replace hR0 := hR0.ch0 hch306
              replace hR1 := hR1.ch0 hch306
              replace hO33 := hO33.ch0 hch306
              replace hO37 := hO37.ch0 hch306
              replace hB48 := hB48.ch0 hch306
              replace hO66 := hO66.ch0 hch306
              replace hB74 := hB74.ch0 hch306
              replace hO93 := hO93.ch0 hch306
              replace hB101 := hB101.ch0 hch306
              replace hR156 := hR156.ch0 hch306
              replace hB264 := hB264.ch0 hch306
              replace hO276 := hO276.ch0 hch306
              replace hR294 := hR294.ch0 hch306
              replace hO299 := hO299.ch0 hch306
              replace hc := hc.step0 hch306
              replace hr292 := hr292.step0 hch306
              replace hB307 : Blk w304 g305 25 [(.int .i64 0), (.slice none 0 0)] := hB307
              have hdj311 : ∀ s ∈ obl (.slice A31 xs29.length c32), s ≠ g305 := fun s hs => by have := hub34 s hs; omega
              have hdj312 : ∀ s ∈ obl (.slice A35 log30.length c36), s ≠ g305 := fun s hs => by have := hub38 s hs; omega
              have hdj313 : ∀ s ∈ obl (.slice A64 (runV m28 xs29 log30).length c65), s ≠ g305 := fun s hs => by have := hub68 s hs; omega
              have hdj314 : ∀ s ∈ obl (.slice A91 (runV m28 xs29 log30).length c92), s ≠ g305 := fun s hs => by have := hub95 s hs; omega
              have hdj315 : ∀ s ∈ obl (.slice A274 (runV m28 xs29 (log30.take d145)).length c275), s ≠ g305 := fun s hs => by have := hub278 s hs; omega
              have hdj316 : ∀ s ∈ obl (.slice A297 (runV (runM m28 xs29 (log30.take d145)) (runV m28 xs29 (log30.take d145)) (log30.drop d145)).length c298), s ≠ g305 := fun s hs => by have := hub301 s hs; omega
              refine ⟨fun _ => hr292, ?_⟩
              refine tw_one rfl (op_store_blk T25 hB307 (w0 rfl) rfl rfl rfl rfl rfl (one_all rfl) (Nat.le_of_ble_eq_true rfl) ?_)
              rintro w317 hB319 hch318
              have hsz320 := hch318.size
              replace hR0 := hR0.ch hch318 (off1 (by omega))
              replace hR1 := hR1.ch hch318 (off1 (by omega))
              replace hO33 := hO33.ch hch318 (fun s hs => by have := dj_asg hdj311 s hs; simpa using this)
              replace hO37 := hO37.ch hch318 (fun s hs => by have := dj_asg hdj312 s hs; simpa using this)
              replace hB48 := hB48.ch hch318 (by simp; omega)
              replace hO66 := hO66.ch hch318 (fun s hs => by have := dj_asg hdj313 s hs; simpa using this)
              replace hB74 := hB74.ch hch318 (by simp; omega)
              replace hO93 := hO93.ch hch318 (fun s hs => by have := dj_asg hdj314 s hs; simpa using this)
              replace hB101 := hB101.ch hch318 (by simp; omega)
              replace hR156 := hR156.ch hch318 (off1 (by omega))
              replace hB264 := hB264.ch hch318 (by simp; omega)
              replace hO276 := hO276.ch hch318 (fun s hs => by have := dj_asg hdj315 s hs; simpa using this)
              replace hR294 := hR294.ch hch318 (off1 (by omega))
              replace hO299 := hO299.ch hch318 (fun s hs => by have := dj_asg hdj316 s hs; simpa using this)
              replace hc := (off1 (by omega)).step hc hch318
              replace hr292 := (off1 (by omega)).step hr292 hch318
              replace hB307 : Blk w317 g305 25 [(.int .i64 (runM (runM m28 xs29 (log30.take d145)) (runV m28 xs29 (log30.take d145)) (log30.drop d145))), (.slice A297 (runV (runM m28 xs29 (log30.take d145)) (runV m28 xs29 (log30.take d145)) (log30.drop d145)).length c298)] := hB319
              clear hB319
              refine ⟨fun _ => hr292, ?_⟩
              refine tw_free rfl (w0 rfl) rfl rfl (fun u hu => (pv_assign (v := (.bool (dec (RunOK (runM m28 xs29 (log30.take d145)) (runV m28 xs29 (log30.take d145)) (log30.drop d145))))) rfl rfl : PV _ _ _ _) u) ?_
              clear hB101_r
              clear hB264_r
              clear hB48_r
              clear hB74_r
              clear hO276_r
              clear hO33_r
              clear hO37_r
              clear hO66_r
              clear hO93_r
              clear hR0_r
              clear hR1_r
              clear hR156_r
              refine tw_done (hK291 _ _ ?_)
              refine hK286 _ _ ?_
              refine cw_seq fun K321 hK322 => ?_
              refine cw_region fun K323 hK324 => ?_
              refine rw_cons (op_pv (w0 rfl) rfl rfl (pv_move (v := (.bool (dec (RunOK m28 xs29 (log30.take d145))))) rfl rfl) ?_)
              refine rw_cons (op_pv (w0 rfl) rfl rfl (pv_move (v := (.bool (dec (RunOK m28 xs29 (log30.take d145))))) rfl rfl) ?_)
              refine rw_split 85 rfl (fun hb325 => ?_) (fun hb325 => ?_)
              · -- yes
                replace hb325 := dec_t hb325
                refine rw_cons (op_pv (w1y rfl rfl rfl rfl) rfl rfl (pv_move (v := (.bool (dec (RunOK (runM m28 xs29 (log30.take d145)) (runV m28 xs29 (log30.take d145)) (log30.drop d145))))) rfl rfl) ?_)
                refine rw_cons (op_pv (w0 rfl) rfl rfl (pv_pickT (v := (.bool (dec (RunOK (runM m28 xs29 (log30.take d145)) (runV m28 xs29 (log30.take d145)) (log30.drop d145))))) rfl rfl rfl) ?_)
                refine rw_cons (op_pv (w0 rfl) rfl rfl (pv_move (v := (.bool (dec (RunOK (runM m28 xs29 (log30.take d145)) (runV m28 xs29 (log30.take d145)) (log30.drop d145))))) rfl rfl) ?_)
                refine rw_split 88 rfl (fun hb326 => ?_) (fun hb326 => ?_)
                · -- yes
                  replace hb326 := dec_t hb326
                  refine rw_cons (op_lv (w1y rfl rfl rfl rfl) rfl rfl (lv_loadN T25 rfl rfl rfl (fun j v hv => hB307.cellA hv)) ?_)
                  refine rw_cons (op_lv (w1y rfl rfl rfl rfl) rfl rfl (lv_loadN T25 rfl rfl rfl (fun j v hv => hB74.cellA hv)) ?_)
                  refine rw_cons (op_call (w1y rfl rfl rfl rfl) rfl rfl (rc_call C17 rfl rfl) (sameBase_ok (runM (runM m28 xs29 (log30.take d145)) (runV m28 xs29 (log30.take d145)) (log30.drop d145)) _ (runV (runM m28 xs29 (log30.take d145)) (runV m28 xs29 (log30.take d145)) (log30.drop d145)).length _ (runV (runM m28 xs29 (log30.take d145)) (runV m28 xs29 (log30.take d145)) (log30.drop d145)) (runM m28 xs29 log30) _ (runV m28 xs29 log30).length _ (runV m28 xs29 log30) _ (hO299.rs (fun _ => rfl)) (by omega) (hO66.rs (fun _ => rfl)) (by omega)) ?_)
                  rintro _ w327 ⟨rfl, hch328⟩
                  have hsz329 := hch328.size
                  replace hR0 := hR0.ch0 hch328
                  replace hR1 := hR1.ch0 hch328
                  replace hO33 := hO33.ch0 hch328
                  replace hO37 := hO37.ch0 hch328
                  replace hB48 := hB48.ch0 hch328
                  replace hO66 := hO66.ch0 hch328
                  replace hB74 := hB74.ch0 hch328
                  replace hO93 := hO93.ch0 hch328
                  replace hB101 := hB101.ch0 hch328
                  replace hR156 := hR156.ch0 hch328
                  replace hB264 := hB264.ch0 hch328
                  replace hO276 := hO276.ch0 hch328
                  replace hR294 := hR294.ch0 hch328
                  replace hO299 := hO299.ch0 hch328
                  replace hB307 := hB307.ch0 hch328
                  replace hc := hc.step0 hch328
                  refine rw_cons (op_pv (w0 rfl) rfl rfl (pv_pickT (v := (.bool (dec ((runM (runM m28 xs29 (log30.take d145)) (runV m28 xs29 (log30.take d145)) (log30.drop d145)) = (runM m28 xs29 log30) ∧ (runV (runM m28 xs29 (log30.take d145)) (runV m28 xs29 (log30.take d145)) (log30.drop d145)) = (runV m28 xs29 log30))))) rfl rfl rfl) ?_)
                  refine rw_cons (op_pv (w0 rfl) rfl rfl (pv_assign (v := (.bool (dec ((runM (runM m28 xs29 (log30.take d145)) (runV m28 xs29 (log30.take d145)) (log30.drop d145)) = (runM m28 xs29 log30) ∧ (runV (runM m28 xs29 (log30.take d145)) (runV m28 xs29 (log30.take d145)) (log30.drop d145)) = (runV m28 xs29 log30))))) rfl rfl) ?_)
                  refine rw_nil (hK324 _ _ ?_)
                  refine hK322 _ _ ?_
                  refine cw_ret ?_
                  refine fin1 rfl ?_
                  first
                    | exact ⟨rfl, hc⟩
                    | exact absurd hr1 (by assumption)
                    | exact absurd hr2b (by assumption)
                    | exact ⟨congrArg Value.bool (dec_yes ⟨hr5, hr6⟩), hc⟩
                    | exact absurd ⟨rfl, rfl⟩ ‹¬(runM m28 xs29 log30 = runM m28 xs29 log30 ∧ runV m28 xs29 log30 = runV m28 xs29 log30)›
                    | exact ⟨congrArg Value.bool (dec_yes ⟨rfl, rfl⟩), hc⟩
                · -- no
                  replace hb326 := dec_f hb326
                  refine rw_cons (op_pass (w1n1 rfl rfl rfl rfl) rfl rfl ?_)
                  refine rw_cons (op_pass (w1n1 rfl rfl rfl rfl) rfl rfl ?_)
                  refine rw_cons (op_pass (w1n1 rfl rfl rfl rfl) rfl rfl ?_)
                  refine rw_cons (op_pv (w0 rfl) rfl rfl (pv_pickF (v := (.bool false)) rfl rfl rfl) ?_)
                  refine rw_cons (op_pv (w0 rfl) rfl rfl (pv_assign (v := (.bool false)) rfl rfl) ?_)
                  refine rw_nil (hK324 _ _ ?_)
                  refine hK322 _ _ ?_
                  refine cw_ret ?_
                  refine fin1 rfl ?_
                  first
                    | exact ⟨rfl, hc⟩
                    | exact absurd hr1 (by assumption)
                    | exact absurd hr2b (by assumption)
                    | exact ⟨congrArg Value.bool (dec_yes ⟨hr5, hr6⟩), hc⟩
                    | exact absurd ⟨rfl, rfl⟩ ‹¬(runM m28 xs29 log30 = runM m28 xs29 log30 ∧ runV m28 xs29 log30 = runV m28 xs29 log30)›
                    | exact ⟨congrArg Value.bool (dec_yes ⟨rfl, rfl⟩), hc⟩
              · -- no
                replace hb325 := dec_f hb325
                refine rw_cons (op_pass (w1n1 rfl rfl rfl rfl) rfl rfl ?_)
                refine rw_cons (op_pv (w0 rfl) rfl rfl (pv_pickF (v := (.bool false)) rfl rfl rfl) ?_)
                refine rw_cons (op_pv (w0 rfl) rfl rfl (pv_move (v := (.bool false)) rfl rfl) ?_)
                refine rw_cons (op_pass (w1n1 rfl rfl rfl rfl) rfl rfl ?_)
                refine rw_cons (op_pass (w1n1 rfl rfl rfl rfl) rfl rfl ?_)
                refine rw_cons (op_pass (w1n1 rfl rfl rfl rfl) rfl rfl ?_)
                refine rw_cons (op_pv (w0 rfl) rfl rfl (pv_pickF (v := (.bool false)) rfl rfl rfl) ?_)
                refine rw_cons (op_pv (w0 rfl) rfl rfl (pv_assign (v := (.bool false)) rfl rfl) ?_)
                refine rw_nil (hK324 _ _ ?_)
                refine hK322 _ _ ?_
                refine cw_ret ?_
                refine fin1 rfl ?_
                first
                  | exact ⟨rfl, hc⟩
                  | exact absurd hr1 (by assumption)
                  | exact absurd hr2b (by assumption)
                  | exact ⟨congrArg Value.bool (dec_yes ⟨hr5, hr6⟩), hc⟩
                  | exact absurd ⟨rfl, rfl⟩ ‹¬(runM m28 xs29 log30 = runM m28 xs29 log30 ∧ runV m28 xs29 log30 = runV m28 xs29 log30)›
                  | exact ⟨congrArg Value.bool (dec_yes ⟨rfl, rfl⟩), hc⟩
            · -- first 8
              refine  (op_alloc T25 (w0 rfl) rfl rfl rfl ?_)
              rintro g331 w330 hg334 hg335 hB333 hch332
              have hsz336 := hch332.size
              replace hR0 := hR0.ch0 hch332
              replace hR1 := hR1.ch0 hch332
              replace hO33 := hO33.ch0 hch332
              replace hO37 := hO37.ch0 hch332
              replace hB48 := hB48.ch0 hch332
              replace hO66 := hO66.ch0 hch332
              replace hB74 := hB74.ch0 hch332
              replace hO93 := hO93.ch0 hch332
              replace hB101 := hB101.ch0 hch332
              replace hR156 := hR156.ch0 hch332
              replace hB264 := hB264.ch0 hch332
              replace hO276 := hO276.ch0 hch332
              replace hR294 := hR294.ch0 hch332
              replace hc := hc.step0 hch332
              replace hr292 := hr292.step0 hch332
              replace hB333 : Blk w330 g331 25 [(.int .i64 0), (.slice none 0 0)] := hB333
              have hdj337 : ∀ s ∈ obl (.slice A31 xs29.length c32), s ≠ g331 := fun s hs => by have := hub34 s hs; omega
              have hdj338 : ∀ s ∈ obl (.slice A35 log30.length c36), s ≠ g331 := fun s hs => by have := hub38 s hs; omega
              have hdj339 : ∀ s ∈ obl (.slice A64 (runV m28 xs29 log30).length c65), s ≠ g331 := fun s hs => by have := hub68 s hs; omega
              have hdj340 : ∀ s ∈ obl (.slice A91 (runV m28 xs29 log30).length c92), s ≠ g331 := fun s hs => by have := hub95 s hs; omega
              have hdj341 : ∀ s ∈ obl (.slice A274 (runV m28 xs29 (log30.take d145)).length c275), s ≠ g331 := fun s hs => by have := hub278 s hs; omega
              refine ⟨fun _ => hr292, ?_⟩
              refine tw_one rfl (op_call (w0 rfl) rfl rfl (rc_call C15 rfl rfl) (BaseRun_i (runM m28 xs29 (log30.take d145)) _ (runV m28 xs29 (log30.take d145)).length _ (runV m28 xs29 (log30.take d145)) _ (log30.length - d145) _ (log30.drop d145) _ (hO276.rs (fun _ => rfl)) (by omega) (hR294.more (by omega)) (by omega)) ?_)
              rintro _ w342 ⟨A344, c345, rfl, hO346, hch343⟩
              have hsz347 := hch343.size
              replace hR0 := hR0.ch0 hch343
              replace hR1 := hR1.ch0 hch343
              replace hO33 := hO33.ch0 hch343
              replace hO37 := hO37.ch0 hch343
              replace hB48 := hB48.ch0 hch343
              replace hO66 := hO66.ch0 hch343
              replace hB74 := hB74.ch0 hch343
              replace hO93 := hO93.ch0 hch343
              replace hB101 := hB101.ch0 hch343
              replace hR156 := hR156.ch0 hch343
              replace hB264 := hB264.ch0 hch343
              replace hO276 := hO276.ch0 hch343
              replace hR294 := hR294.ch0 hch343
              replace hB333 := hB333.ch0 hch343
              replace hc := hc.step0 hch343
              replace hr292 := hr292.step0 hch343
              have hub348 := hO346.lt
              have hcap349 : (runV (runM m28 xs29 (log30.take d145)) (runV m28 xs29 (log30.take d145)) (log30.drop d145)).length ≤ c345 := by obtain ⟨_, _, hv, h1, _⟩ := hO346.form; injection hv with _ _ h3; omega
              have hnt350 := runV_le (runM m28 xs29 (log30.take d145)) (runV m28 xs29 (log30.take d145)) (log30.drop d145)
              refine ⟨fun _ => hr292, ?_⟩
              refine tw_free rfl (w0 rfl) rfl rfl (fun u hu => (pv_move (v := (.tuple #[(.agg #[(.int .i64 (runM (runM m28 xs29 (log30.take d145)) (runV m28 xs29 (log30.take d145)) (log30.drop d145))), (.slice A344 (runV (runM m28 xs29 (log30.take d145)) (runV m28 xs29 (log30.take d145)) (log30.drop d145)).length c345)]), (.bool (dec (RunOK (runM m28 xs29 (log30.take d145)) (runV m28 xs29 (log30.take d145)) (log30.drop d145))))])) rfl rfl : PV _ _ _ _) u) ?_
              refine tw_free rfl (w0 rfl) rfl rfl (fun u hu => (pv_ext (v := (.agg #[(.int .i64 (runM (runM m28 xs29 (log30.take d145)) (runV m28 xs29 (log30.take d145)) (log30.drop d145))), (.slice A344 (runV (runM m28 xs29 (log30.take d145)) (runV m28 xs29 (log30.take d145)) (log30.drop d145)).length c345)])) rfl rfl rfl : PV _ _ _ _) u) ?_
              refine tw_free rfl (w0 rfl) rfl rfl (fun u hu => (pv_ext (v := (.bool (dec (RunOK (runM m28 xs29 (log30.take d145)) (runV m28 xs29 (log30.take d145)) (log30.drop d145))))) rfl rfl rfl : PV _ _ _ _) u) ?_
              refine tw_one rfl (op_store_blk T25 hB333 (w0 rfl) rfl rfl rfl rfl rfl (one_all rfl) (Nat.le_of_ble_eq_true rfl) ?_)
              rintro w351 hB353 hch352
              have hsz354 := hch352.size
              replace hR0 := hR0.ch hch352 (off1 (by omega))
              replace hR1 := hR1.ch hch352 (off1 (by omega))
              replace hO33 := hO33.ch hch352 (fun s hs => by have := dj_asg hdj337 s hs; simpa using this)
              replace hO37 := hO37.ch hch352 (fun s hs => by have := dj_asg hdj338 s hs; simpa using this)
              replace hB48 := hB48.ch hch352 (by simp; omega)
              replace hO66 := hO66.ch hch352 (fun s hs => by have := dj_asg hdj339 s hs; simpa using this)
              replace hB74 := hB74.ch hch352 (by simp; omega)
              replace hO93 := hO93.ch hch352 (fun s hs => by have := dj_asg hdj340 s hs; simpa using this)
              replace hB101 := hB101.ch hch352 (by simp; omega)
              replace hR156 := hR156.ch hch352 (off1 (by omega))
              replace hB264 := hB264.ch hch352 (by simp; omega)
              replace hO276 := hO276.ch hch352 (fun s hs => by have := dj_asg hdj341 s hs; simpa using this)
              replace hR294 := hR294.ch hch352 (off1 (by omega))
              replace hO346 := hO346.ch hch352 (fun s hs => by first | (have := hO346.off s hs; simp; omega) | (have := hub348 s hs; simp; omega))
              replace hc := (off1 (by omega)).step hc hch352
              replace hr292 := (off1 (by omega)).step hr292 hch352
              replace hB333 : Blk w351 g331 25 [(.int .i64 (runM (runM m28 xs29 (log30.take d145)) (runV m28 xs29 (log30.take d145)) (log30.drop d145))), (.slice A344 (runV (runM m28 xs29 (log30.take d145)) (runV m28 xs29 (log30.take d145)) (log30.drop d145)).length c345)] := hB353
              clear hB353
              refine ⟨fun _ => hr292, ?_⟩
              refine tw_free rfl (w0 rfl) rfl rfl (fun u hu => (pv_assign (v := (.bool (dec (RunOK (runM m28 xs29 (log30.take d145)) (runV m28 xs29 (log30.take d145)) (log30.drop d145))))) rfl rfl : PV _ _ _ _) u) ?_
              clear hB101_r
              clear hB264_r
              clear hB48_r
              clear hB74_r
              clear hO276_r
              clear hO33_r
              clear hO37_r
              clear hO66_r
              clear hO93_r
              clear hR0_r
              clear hR1_r
              clear hR156_r
              refine tw_done (hK291 _ _ ?_)
              refine hK286 _ _ ?_
              refine cw_seq fun K355 hK356 => ?_
              refine cw_region fun K357 hK358 => ?_
              refine rw_cons (op_pv (w0 rfl) rfl rfl (pv_move (v := (.bool (dec (RunOK m28 xs29 (log30.take d145))))) rfl rfl) ?_)
              refine rw_cons (op_pv (w0 rfl) rfl rfl (pv_move (v := (.bool (dec (RunOK m28 xs29 (log30.take d145))))) rfl rfl) ?_)
              refine rw_split 85 rfl (fun hb359 => ?_) (fun hb359 => ?_)
              · -- yes
                replace hb359 := dec_t hb359
                refine rw_cons (op_pv (w1y rfl rfl rfl rfl) rfl rfl (pv_move (v := (.bool (dec (RunOK (runM m28 xs29 (log30.take d145)) (runV m28 xs29 (log30.take d145)) (log30.drop d145))))) rfl rfl) ?_)
                refine rw_cons (op_pv (w0 rfl) rfl rfl (pv_pickT (v := (.bool (dec (RunOK (runM m28 xs29 (log30.take d145)) (runV m28 xs29 (log30.take d145)) (log30.drop d145))))) rfl rfl rfl) ?_)
                refine rw_cons (op_pv (w0 rfl) rfl rfl (pv_move (v := (.bool (dec (RunOK (runM m28 xs29 (log30.take d145)) (runV m28 xs29 (log30.take d145)) (log30.drop d145))))) rfl rfl) ?_)
                refine rw_split 88 rfl (fun hb360 => ?_) (fun hb360 => ?_)
                · -- yes
                  replace hb360 := dec_t hb360
                  refine rw_cons (op_lv (w1y rfl rfl rfl rfl) rfl rfl (lv_loadN T25 rfl rfl rfl (fun j v hv => hB333.cellA hv)) ?_)
                  refine rw_cons (op_lv (w1y rfl rfl rfl rfl) rfl rfl (lv_loadN T25 rfl rfl rfl (fun j v hv => hB74.cellA hv)) ?_)
                  refine rw_cons (op_call (w1y rfl rfl rfl rfl) rfl rfl (rc_call C17 rfl rfl) (sameBase_ok (runM (runM m28 xs29 (log30.take d145)) (runV m28 xs29 (log30.take d145)) (log30.drop d145)) _ (runV (runM m28 xs29 (log30.take d145)) (runV m28 xs29 (log30.take d145)) (log30.drop d145)).length _ (runV (runM m28 xs29 (log30.take d145)) (runV m28 xs29 (log30.take d145)) (log30.drop d145)) (runM m28 xs29 log30) _ (runV m28 xs29 log30).length _ (runV m28 xs29 log30) _ (hO346.rs (fun _ => rfl)) (by omega) (hO66.rs (fun _ => rfl)) (by omega)) ?_)
                  rintro _ w361 ⟨rfl, hch362⟩
                  have hsz363 := hch362.size
                  replace hR0 := hR0.ch0 hch362
                  replace hR1 := hR1.ch0 hch362
                  replace hO33 := hO33.ch0 hch362
                  replace hO37 := hO37.ch0 hch362
                  replace hB48 := hB48.ch0 hch362
                  replace hO66 := hO66.ch0 hch362
                  replace hB74 := hB74.ch0 hch362
                  replace hO93 := hO93.ch0 hch362
                  replace hB101 := hB101.ch0 hch362
                  replace hR156 := hR156.ch0 hch362
                  replace hB264 := hB264.ch0 hch362
                  replace hO276 := hO276.ch0 hch362
                  replace hR294 := hR294.ch0 hch362
                  replace hB333 := hB333.ch0 hch362
                  replace hO346 := hO346.ch0 hch362
                  replace hc := hc.step0 hch362
                  refine rw_cons (op_pv (w0 rfl) rfl rfl (pv_pickT (v := (.bool (dec ((runM (runM m28 xs29 (log30.take d145)) (runV m28 xs29 (log30.take d145)) (log30.drop d145)) = (runM m28 xs29 log30) ∧ (runV (runM m28 xs29 (log30.take d145)) (runV m28 xs29 (log30.take d145)) (log30.drop d145)) = (runV m28 xs29 log30))))) rfl rfl rfl) ?_)
                  refine rw_cons (op_pv (w0 rfl) rfl rfl (pv_assign (v := (.bool (dec ((runM (runM m28 xs29 (log30.take d145)) (runV m28 xs29 (log30.take d145)) (log30.drop d145)) = (runM m28 xs29 log30) ∧ (runV (runM m28 xs29 (log30.take d145)) (runV m28 xs29 (log30.take d145)) (log30.drop d145)) = (runV m28 xs29 log30))))) rfl rfl) ?_)
                  refine rw_nil (hK358 _ _ ?_)
                  refine hK356 _ _ ?_
                  refine cw_ret ?_
                  refine fin1 rfl ?_
                  first
                    | exact ⟨rfl, hc⟩
                    | exact absurd hr1 (by assumption)
                    | exact absurd hr2b (by assumption)
                    | exact ⟨congrArg Value.bool (dec_yes ⟨hr5, hr6⟩), hc⟩
                    | exact absurd ⟨rfl, rfl⟩ ‹¬(runM m28 xs29 log30 = runM m28 xs29 log30 ∧ runV m28 xs29 log30 = runV m28 xs29 log30)›
                    | exact ⟨congrArg Value.bool (dec_yes ⟨rfl, rfl⟩), hc⟩
                · -- no
                  replace hb360 := dec_f hb360
                  refine rw_cons (op_pass (w1n1 rfl rfl rfl rfl) rfl rfl ?_)
                  refine rw_cons (op_pass (w1n1 rfl rfl rfl rfl) rfl rfl ?_)
                  refine rw_cons (op_pass (w1n1 rfl rfl rfl rfl) rfl rfl ?_)
                  refine rw_cons (op_pv (w0 rfl) rfl rfl (pv_pickF (v := (.bool false)) rfl rfl rfl) ?_)
                  refine rw_cons (op_pv (w0 rfl) rfl rfl (pv_assign (v := (.bool false)) rfl rfl) ?_)
                  refine rw_nil (hK358 _ _ ?_)
                  refine hK356 _ _ ?_
                  refine cw_ret ?_
                  refine fin1 rfl ?_
                  first
                    | exact ⟨rfl, hc⟩
                    | exact absurd hr1 (by assumption)
                    | exact absurd hr2b (by assumption)
                    | exact ⟨congrArg Value.bool (dec_yes ⟨hr5, hr6⟩), hc⟩
                    | exact absurd ⟨rfl, rfl⟩ ‹¬(runM m28 xs29 log30 = runM m28 xs29 log30 ∧ runV m28 xs29 log30 = runV m28 xs29 log30)›
                    | exact ⟨congrArg Value.bool (dec_yes ⟨rfl, rfl⟩), hc⟩
              · -- no
                replace hb359 := dec_f hb359
                refine rw_cons (op_pass (w1n1 rfl rfl rfl rfl) rfl rfl ?_)
                refine rw_cons (op_pv (w0 rfl) rfl rfl (pv_pickF (v := (.bool false)) rfl rfl rfl) ?_)
                refine rw_cons (op_pv (w0 rfl) rfl rfl (pv_move (v := (.bool false)) rfl rfl) ?_)
                refine rw_cons (op_pass (w1n1 rfl rfl rfl rfl) rfl rfl ?_)
                refine rw_cons (op_pass (w1n1 rfl rfl rfl rfl) rfl rfl ?_)
                refine rw_cons (op_pass (w1n1 rfl rfl rfl rfl) rfl rfl ?_)
                refine rw_cons (op_pv (w0 rfl) rfl rfl (pv_pickF (v := (.bool false)) rfl rfl rfl) ?_)
                refine rw_cons (op_pv (w0 rfl) rfl rfl (pv_assign (v := (.bool false)) rfl rfl) ?_)
                refine rw_nil (hK358 _ _ ?_)
                refine hK356 _ _ ?_
                refine cw_ret ?_
                refine fin1 rfl ?_
                first
                  | exact ⟨rfl, hc⟩
                  | exact absurd hr1 (by assumption)
                  | exact absurd hr2b (by assumption)
                  | exact ⟨congrArg Value.bool (dec_yes ⟨hr5, hr6⟩), hc⟩
                  | exact absurd ⟨rfl, rfl⟩ ‹¬(runM m28 xs29 log30 = runM m28 xs29 log30 ∧ runV m28 xs29 log30 = runV m28 xs29 log30)›
                  | exact ⟨congrArg Value.bool (dec_yes ⟨rfl, rfl⟩), hc⟩
end Go.Proofs.Ytpnenfglogggmaa
