/-
  The walk of laws.FnBase, written by program: each line names the law of one operation. Conditions: those of the theorem.
-/
import Derived.Test.YtpnenfglogggmaaProg
import Derived.Test.YtpnenfglogggmaaNode
import Derived.Test.YtpnenfglogggmaaArr
import Derived.Test.YtpnenfglogggmaaFspecDrawBaseOf
import Derived.Test.YtpnenfglogggmaaFimplBaseOf
import Derived.Test.YtpnenfglogggmaaFspecBaseOf
import Derived.Test.YtpnenfglogggmaaFlawssameLog
import Derived.Test.YtpnenfglogggmaaFlawssameBase
import Derived.Test.YtpnenfglogggmaaFlawssameInts
import Derived.Test.YtpnenfglogggmaaFimplBaseValid
import Derived.Test.YtpnenfglogggmaaFimplStateAt
import Derived.Test.YtpnenfglogggmaaFimplNodePending
import Derived.KernelRfl
namespace Go.Proofs.Ytpnenfglogggmaa
open Go Go.RowKit
set_option linter.unusedVariables false
set_option linter.unusedSimpArgs false
namespace FnBase_okF
theorem T3 : TI Try.prog 3 false (.int .i64 0) 1 8 := TI.mk' Try.underlying3 rfl (by kernel_rfl)
theorem T23 : TI Try.prog 23 false (.slice none 0 0) 1 24 := TI.mk' Try.underlying23 rfl (by kernel_rfl)
theorem T25 : TI Try.prog 25 true (.agg #[.int .i64 0, .slice none 0 0]) 2 32 := TI.mk' Try.underlying25 rfl (by kernel_rfl)
theorem T34 : TI Try.prog 34 false (.slice none 0 0) 1 24 := TI.mk' Try.underlying34 rfl (by kernel_rfl)
theorem T41 : TI Try.prog 41 true (.agg #[.int .i64 0, .slice none 0 0, .int .i64 0]) 3 40 := TI.mk' Try.underlying41 rfl (by kernel_rfl)
theorem F25_0 : FldOK Try.prog 25 0 0 := ⟨_, _, 0, Try.underlying25, rfl, rfl, by kernel_rfl⟩
theorem F25_1 : FldOK Try.prog 25 1 1 := ⟨_, _, 0, Try.underlying25, rfl, rfl, by kernel_rfl⟩
theorem F41_1 : FldOK Try.prog 41 1 1 := ⟨_, _, 0, Try.underlying41, rfl, rfl, by kernel_rfl⟩
theorem F41_2 : FldOK Try.prog 41 2 2 := ⟨_, _, 0, Try.underlying41, rfl, rfl, by kernel_rfl⟩
theorem C9 : Callable Try.prog 9 := ⟨_, Try.func9, by kernel_rfl, by kernel_rfl⟩
theorem C17 : Callable Try.prog 17 := ⟨_, Try.func17, by kernel_rfl, by kernel_rfl⟩
theorem C18 : Callable Try.prog 18 := ⟨_, Try.func18, by kernel_rfl, by kernel_rfl⟩
theorem C19 : Callable Try.prog 19 := ⟨_, Try.func19, by kernel_rfl, by kernel_rfl⟩
theorem C20 : Callable Try.prog 20 := ⟨_, Try.func20, by kernel_rfl, by kernel_rfl⟩
theorem C21 : Callable Try.prog 21 := ⟨_, Try.func21, by kernel_rfl, by kernel_rfl⟩
theorem C22 : Callable Try.prog 22 := ⟨_, Try.func22, by kernel_rfl, by kernel_rfl⟩
theorem C23 : Callable Try.prog 23 := ⟨_, Try.func23, by kernel_rfl, by kernel_rfl⟩
theorem C24 : Callable Try.prog 24 := ⟨_, Try.func24, by kernel_rfl, by kernel_rfl⟩
end FnBase_okF
open FnBase_okF in
set_option maxHeartbeats 4000000 in
theorem FnBase_ok (A0 : Option Addr) (n0 c0 : Nat) (xs0 : List UInt8) (w : World) (hR0 : RS encU 1 w w.heap.size A0 n0 xs0) (hn0 : n0 ≤ c0) :
    Fn Try.prog 7 [(.slice A0 n0 c0)] w fun v w' => v = .bool true ∧ Ch [] w w' := by
  have hlen0 := hR0.len
  refine fn_of (n := 84) Try.func7 rfl rfl rfl rfl ?_
  have hc : Ch [] w w := Ch.refl _ _
  refine cw_seq fun K1 hK2 => ?_
  refine cw_region fun K3 hK4 => ?_
  refine rw_cons (op_pv (w0 rfl) rfl rfl (pv_assign (v := (.bool false)) rfl rfl) ?_)
  refine rw_nil (hK4 _ _ ?_)
  refine hK2 _ _ ?_
  refine cw_seq fun K5 hK6 => ?_
  refine cw_seq fun K7 hK8 => ?_
  refine cw_region fun K9 hK10 => ?_
  refine rw_cons (op_pv (w0 rfl) rfl rfl (pv_move (v := (.slice A0 n0 c0)) rfl rfl) ?_)
  refine rw_cons (op_pv (w0 rfl) rfl rfl (pv_len Try.underlying22 rfl rfl) ?_)
  refine rw_cons (op_pv (w0 rfl) rfl rfl (pv_gtr rfl rfl rfl) ?_)
  refine rw_nil (hK10 _ _ ?_)
  refine hK8 _ _ ?_
  refine cw_cond rfl (fun h11 => ?_) (fun h11 => ?_)
  · -- then
    replace h11 := of_decide_eq_true h11
    refine cw_seq fun K12 hK13 => ?_
    refine cw_region fun K14 hK15 => ?_
    refine rw_cons (op_pv (w0 rfl) rfl rfl (pv_assign (v := (.bool true)) rfl rfl) ?_)
    refine rw_nil (hK15 _ _ ?_)
    refine hK13 _ _ ?_
    refine cw_ret ?_
    refine fin1 rfl ?_
    exact ⟨rfl, hc⟩
  · -- else
    replace h11 := of_decide_eq_false h11
    refine cw_skip ?_
    refine hK6 _ _ ?_
    refine cw_seq fun K16 hK17 => ?_
    refine cw_region fun K18 hK19 => ?_
    refine rw_cons (op_pv (w0 rfl) rfl rfl (pv_move (v := (.slice A0 n0 c0)) rfl rfl) ?_)
    refine rw_cons (op_call (w0 rfl) rfl rfl (rc_call C18 rfl rfl) (DrawBaseOf_ok _ _ _ _ _ (hR0.more (by omega)) (by omega)) ?_)
    rintro _ w20 ⟨id22, A25, c26, log23, dn24, rfl, hO27, hl29, hch21⟩
    have hsz30 := hch21.size
    replace hR0 := hR0.ch0 hch21
    replace hc := hc.step0 hch21
    have hub28 := hO27.lt
    have hcap31 : log23.length ≤ c26 := by obtain ⟨_, _, hv, h1, _⟩ := hO27.form; injection hv with _ _ h3; omega
    refine rw_cons (op_alloc T41 (w0 rfl) rfl rfl rfl ?_)
    rintro g33 w32 hg36 hg37 hB35 hch34
    have hsz38 := hch34.size
    replace hR0 := hR0.ch0 hch34
    replace hO27 := hO27.ch0 hch34
    replace hc := hc.step0 hch34
    replace hB35 : Blk w32 g33 41 [(.int .i64 0), (.slice none 0 0), (.int .i64 0)] := hB35
    have hdj39 : ∀ s ∈ obl (.slice A25 log23.length c26), s ≠ g33 := fun s hs => by have := hub28 s hs; omega
    refine rw_cons (op_store_blk T41 hB35 (w0 rfl) rfl rfl rfl rfl rfl (one_all rfl) (Nat.le_of_ble_eq_true rfl) ?_)
    rintro w40 hB42 hch41
    have hsz43 := hch41.size
    replace hR0 := hR0.ch hch41 (off1 (by omega))
    replace hO27 := hO27.ch hch41 (fun s hs => by have := dj_asg hdj39 s hs; simpa using this)
    replace hc := (off1 (by omega)).step hc hch41
    replace hB35 : Blk w40 g33 41 [(.int .i64 id22), (.slice A25 log23.length c26), (.int .i64 dn24)] := hB42
    clear hB42
    refine rw_nil (hK19 _ _ ?_)
    refine hK17 _ _ ?_
    refine cw_seq fun K44 hK45 => ?_
    refine cw_region fun K46 hK47 => ?_
    refine rw_cons (op_lv (w0 rfl) rfl rfl (lv_loadN T41 rfl rfl rfl (fun j v hv => hB35.cellA hv)) ?_)
    refine rw_cons (op_call (w0 rfl) rfl rfl (rc_call C19 rfl rfl) (BaseOf_i id22 _ log23.length _ log23 dn24 _ (hO27.rs (fun _ => rfl)) (by omega) (by omega)) ?_)
    rintro _ w48 ⟨A50, c51, A53, c54, rfl, hO52, hO55, hdj56, hch49⟩
    have hsz57 := hch49.size
    replace hR0 := hR0.ch0 hch49
    replace hO27 := hO27.ch0 hch49
    replace hB35 := hB35.ch0 hch49
    replace hc := hc.step0 hch49
    have hub58 := hO52.lt
    have hcap59 : (baseV id22 log23 dn24).length ≤ c51 := by obtain ⟨_, _, hv, h1, _⟩ := hO52.form; injection hv with _ _ h3; omega
    have hub60 := hO55.lt
    have hcap61 : (restV id22 log23 dn24).length ≤ c54 := by obtain ⟨_, _, hv, h1, _⟩ := hO55.form; injection hv with _ _ h3; omega
    have hnt62 := baseV_le id22 log23 dn24
    have hnt63 := restV_le id22 log23 dn24
    refine rw_cons (op_pv (w0 rfl) rfl rfl (pv_move (v := (.tuple #[(.agg #[(.int .i64 (baseM id22 log23 dn24)), (.slice A50 (baseV id22 log23 dn24).length c51)]), (.slice A53 (restV id22 log23 dn24).length c54), (.bool (dec (NodeOK id22 log23 dn24)))])) rfl rfl) ?_)
    refine rw_cons (op_pv (w0 rfl) rfl rfl (pv_ext (v := (.agg #[(.int .i64 (baseM id22 log23 dn24)), (.slice A50 (baseV id22 log23 dn24).length c51)])) rfl rfl rfl) ?_)
    refine rw_cons (op_pv (w0 rfl) rfl rfl (pv_ext (v := (.slice A53 (restV id22 log23 dn24).length c54)) rfl rfl rfl) ?_)
    refine rw_cons (op_pv (w0 rfl) rfl rfl (pv_ext (v := (.bool (dec (NodeOK id22 log23 dn24)))) rfl rfl rfl) ?_)
    refine rw_cons (op_alloc T25 (w0 rfl) rfl rfl rfl ?_)
    rintro g65 w64 hg68 hg69 hB67 hch66
    have hsz70 := hch66.size
    replace hR0 := hR0.ch0 hch66
    replace hO27 := hO27.ch0 hch66
    replace hB35 := hB35.ch0 hch66
    replace hO52 := hO52.ch0 hch66
    replace hO55 := hO55.ch0 hch66
    replace hc := hc.step0 hch66
    replace hB67 : Blk w64 g65 25 [(.int .i64 0), (.slice none 0 0)] := hB67
    have hdj71 : ∀ s ∈ obl (.slice A25 log23.length c26), s ≠ g65 := fun s hs => by have := hub28 s hs; omega
    have hdj72 : ∀ s ∈ obl (.slice A50 (baseV id22 log23 dn24).length c51), s ≠ g65 := fun s hs => by have := hub58 s hs; omega
    have hdj73 : ∀ s ∈ obl (.slice A53 (restV id22 log23 dn24).length c54), s ≠ g65 := fun s hs => by have := hub60 s hs; omega
    refine rw_cons (op_store_blk T25 hB67 (w0 rfl) rfl rfl rfl rfl rfl (one_all rfl) (Nat.le_of_ble_eq_true rfl) ?_)
    rintro w74 hB76 hch75
    have hsz77 := hch75.size
    replace hR0 := hR0.ch hch75 (off1 (by omega))
    replace hO27 := hO27.ch hch75 (fun s hs => by have := dj_asg hdj71 s hs; simpa using this)
    replace hB35 := hB35.ch hch75 (by simp; omega)
    replace hO52 := hO52.ch hch75 (fun s hs => by have := dj_asg hdj72 s hs; simpa using this)
    replace hO55 := hO55.ch hch75 (fun s hs => by have := dj_asg hdj73 s hs; simpa using this)
    replace hc := (off1 (by omega)).step hc hch75
    replace hB67 : Blk w74 g65 25 [(.int .i64 (baseM id22 log23 dn24)), (.slice A50 (baseV id22 log23 dn24).length c51)] := hB76
    clear hB76
    refine rw_cons (op_pv (w0 rfl) rfl rfl (pv_assign (v := (.slice A53 (restV id22 log23 dn24).length c54)) rfl rfl) ?_)
    refine rw_cons (op_pv (w0 rfl) rfl rfl (pv_assign (v := (.bool (dec (NodeOK id22 log23 dn24)))) rfl rfl) ?_)
    refine rw_nil (hK47 _ _ ?_)
    refine hK45 _ _ ?_
    refine cw_seq fun K78 hK79 => ?_
    refine cw_region fun K80 hK81 => ?_
    refine rw_cons (op_lv (w0 rfl) rfl rfl (lv_loadN T41 rfl rfl rfl (fun j v hv => hB35.cellA hv)) ?_)
    refine rw_cons (op_call (w0 rfl) rfl rfl (rc_call C20 rfl rfl) (BaseOf_s id22 _ log23.length _ log23 dn24 _ (hO27.rs (fun _ => rfl)) (by omega) (by omega)) ?_)
    rintro _ w82 ⟨A84, c85, A87, c88, rfl, hO86, hO89, hdj90, hch83⟩
    have hsz91 := hch83.size
    replace hR0 := hR0.ch0 hch83
    replace hO27 := hO27.ch0 hch83
    replace hB35 := hB35.ch0 hch83
    replace hO52 := hO52.ch0 hch83
    replace hO55 := hO55.ch0 hch83
    replace hB67 := hB67.ch0 hch83
    replace hc := hc.step0 hch83
    have hub92 := hO86.lt
    have hcap93 : (baseV id22 log23 dn24).length ≤ c85 := by obtain ⟨_, _, hv, h1, _⟩ := hO86.form; injection hv with _ _ h3; omega
    have hub94 := hO89.lt
    have hcap95 : (restV id22 log23 dn24).length ≤ c88 := by obtain ⟨_, _, hv, h1, _⟩ := hO89.form; injection hv with _ _ h3; omega
    have hnt96 := baseV_le id22 log23 dn24
    have hnt97 := restV_le id22 log23 dn24
    refine rw_cons (op_pv (w0 rfl) rfl rfl (pv_move (v := (.tuple #[(.agg #[(.int .i64 (baseM id22 log23 dn24)), (.slice A84 (baseV id22 log23 dn24).length c85)]), (.slice A87 (restV id22 log23 dn24).length c88), (.bool (dec (NodeOK id22 log23 dn24)))])) rfl rfl) ?_)
    refine rw_cons (op_pv (w0 rfl) rfl rfl (pv_ext (v := (.agg #[(.int .i64 (baseM id22 log23 dn24)), (.slice A84 (baseV id22 log23 dn24).length c85)])) rfl rfl rfl) ?_)
    refine rw_cons (op_pv (w0 rfl) rfl rfl (pv_ext (v := (.slice A87 (restV id22 log23 dn24).length c88)) rfl rfl rfl) ?_)
    refine rw_cons (op_pv (w0 rfl) rfl rfl (pv_ext (v := (.bool (dec (NodeOK id22 log23 dn24)))) rfl rfl rfl) ?_)
    refine rw_cons (op_alloc T25 (w0 rfl) rfl rfl rfl ?_)
    rintro g99 w98 hg102 hg103 hB101 hch100
    have hsz104 := hch100.size
    replace hR0 := hR0.ch0 hch100
    replace hO27 := hO27.ch0 hch100
    replace hB35 := hB35.ch0 hch100
    replace hO52 := hO52.ch0 hch100
    replace hO55 := hO55.ch0 hch100
    replace hB67 := hB67.ch0 hch100
    replace hO86 := hO86.ch0 hch100
    replace hO89 := hO89.ch0 hch100
    replace hc := hc.step0 hch100
    replace hB101 : Blk w98 g99 25 [(.int .i64 0), (.slice none 0 0)] := hB101
    have hdj105 : ∀ s ∈ obl (.slice A25 log23.length c26), s ≠ g99 := fun s hs => by have := hub28 s hs; omega
    have hdj106 : ∀ s ∈ obl (.slice A50 (baseV id22 log23 dn24).length c51), s ≠ g99 := fun s hs => by have := hub58 s hs; omega
    have hdj107 : ∀ s ∈ obl (.slice A53 (restV id22 log23 dn24).length c54), s ≠ g99 := fun s hs => by have := hub60 s hs; omega
    have hdj108 : ∀ s ∈ obl (.slice A84 (baseV id22 log23 dn24).length c85), s ≠ g99 := fun s hs => by have := hub92 s hs; omega
    have hdj109 : ∀ s ∈ obl (.slice A87 (restV id22 log23 dn24).length c88), s ≠ g99 := fun s hs => by have := hub94 s hs; omega
    refine rw_cons (op_store_blk T25 hB101 (w0 rfl) rfl rfl rfl rfl rfl (one_all rfl) (Nat.le_of_ble_eq_true rfl) ?_)
    rintro w110 hB112 hch111
    have hsz113 := hch111.size
    replace hR0 := hR0.ch hch111 (off1 (by omega))
    replace hO27 := hO27.ch hch111 (fun s hs => by have := dj_asg hdj105 s hs; simpa using this)
    replace hB35 := hB35.ch hch111 (by simp; omega)
    replace hO52 := hO52.ch hch111 (fun s hs => by have := dj_asg hdj106 s hs; simpa using this)
    replace hO55 := hO55.ch hch111 (fun s hs => by have := dj_asg hdj107 s hs; simpa using this)
    replace hB67 := hB67.ch hch111 (by simp; omega)
    replace hO86 := hO86.ch hch111 (fun s hs => by have := dj_asg hdj108 s hs; simpa using this)
    replace hO89 := hO89.ch hch111 (fun s hs => by have := dj_asg hdj109 s hs; simpa using this)
    replace hc := (off1 (by omega)).step hc hch111
    replace hB101 : Blk w110 g99 25 [(.int .i64 (baseM id22 log23 dn24)), (.slice A84 (baseV id22 log23 dn24).length c85)] := hB112
    clear hB112
    refine rw_cons (op_pv (w0 rfl) rfl rfl (pv_assign (v := (.slice A87 (restV id22 log23 dn24).length c88)) rfl rfl) ?_)
    refine rw_cons (op_pv (w0 rfl) rfl rfl (pv_assign (v := (.bool (dec (NodeOK id22 log23 dn24)))) rfl rfl) ?_)
    refine rw_nil (hK81 _ _ ?_)
    refine hK79 _ _ ?_
    refine cw_seq fun K114 hK115 => ?_
    refine cw_seq fun K116 hK117 => ?_
    refine cw_region fun K118 hK119 => ?_
    refine rw_cons (op_pv (w0 rfl) rfl rfl (pv_move (v := (.bool (dec (NodeOK id22 log23 dn24)))) rfl rfl) ?_)
    refine rw_cons (op_pv (w0 rfl) rfl rfl (pv_move (v := (.bool (dec (NodeOK id22 log23 dn24)))) rfl rfl) ?_)
    refine rw_cons (op_pv (w0 rfl) rfl rfl (pv_neBs Try.underlying4 rfl rfl rfl) ?_)
    refine rw_cons (op_pv (w0 rfl) rfl rfl (pv_move (v := (.bool false)) rfl rfl) ?_)
    refine rw_cons (op_pv (w1y rfl rfl rfl rfl) rfl rfl (pv_move (v := (.slice A53 (restV id22 log23 dn24).length c54)) rfl rfl) ?_)
    refine rw_cons (op_pv (w1y rfl rfl rfl rfl) rfl rfl (pv_move (v := (.slice A87 (restV id22 log23 dn24).length c88)) rfl rfl) ?_)
    refine rw_cons (op_call (w1y rfl rfl rfl rfl) rfl rfl (rc_call C21 rfl rfl) (sameLog_same _ _ _ _ _ _ (restV id22 log23 dn24) _ (hO55.rs (fun _ => rfl)) (hO89.rs (fun _ => rfl)) (by omega)) ?_)
    rintro _ w120 ⟨rfl, hch121⟩
    have hsz122 := hch121.size
    replace hR0 := hR0.ch0 hch121
    replace hO27 := hO27.ch0 hch121
    replace hB35 := hB35.ch0 hch121
    replace hO52 := hO52.ch0 hch121
    replace hO55 := hO55.ch0 hch121
    replace hB67 := hB67.ch0 hch121
    replace hO86 := hO86.ch0 hch121
    replace hO89 := hO89.ch0 hch121
    replace hB101 := hB101.ch0 hch121
    replace hc := hc.step0 hch121
    refine rw_cons (op_pv (w1y rfl rfl rfl rfl) rfl rfl (pv_not rfl rfl) ?_)
    refine rw_cons (op_pv (w0 rfl) rfl rfl (pv_pickF (v := (.bool (!true))) rfl rfl rfl) ?_)
    refine rw_cons (op_pv (w0 rfl) rfl rfl (pv_move (v := (.bool (!true))) rfl rfl) ?_)
    refine rw_cons (op_lv (w1y rfl rfl rfl rfl) rfl rfl (lv_loadN T25 rfl rfl rfl (fun j v hv => hB67.cellA hv)) ?_)
    refine rw_cons (op_lv (w1y rfl rfl rfl rfl) rfl rfl (lv_loadN T25 rfl rfl rfl (fun j v hv => hB101.cellA hv)) ?_)
    refine rw_cons (op_call (w1y rfl rfl rfl rfl) rfl rfl (rc_call C17 rfl rfl) (sameBase_ok (baseM id22 log23 dn24) _ (baseV id22 log23 dn24).length _ (baseV id22 log23 dn24) (baseM id22 log23 dn24) _ (baseV id22 log23 dn24).length _ (baseV id22 log23 dn24) _ (hO52.rs (fun _ => rfl)) (by omega) (hO86.rs (fun _ => rfl)) (by omega)) ?_)
    rintro _ w123 ⟨rfl, hch124⟩
    have hsz125 := hch124.size
    replace hR0 := hR0.ch0 hch124
    replace hO27 := hO27.ch0 hch124
    replace hB35 := hB35.ch0 hch124
    replace hO52 := hO52.ch0 hch124
    replace hO55 := hO55.ch0 hch124
    replace hB67 := hB67.ch0 hch124
    replace hO86 := hO86.ch0 hch124
    replace hO89 := hO89.ch0 hch124
    replace hB101 := hB101.ch0 hch124
    replace hc := hc.step0 hch124
    refine rw_cons (op_pv (w1y rfl rfl rfl rfl) rfl rfl (pv_not rfl rfl) ?_)
    refine rw_cons (op_pv (w0 rfl) rfl rfl (pv_pickF (v := (.bool (!(dec ((baseM id22 log23 dn24) = (baseM id22 log23 dn24) ∧ (baseV id22 log23 dn24) = (baseV id22 log23 dn24)))))) rfl rfl rfl) ?_)
    refine rw_cons (op_pv (w0 rfl) rfl rfl (pv_move (v := (.bool (!(dec ((baseM id22 log23 dn24) = (baseM id22 log23 dn24) ∧ (baseV id22 log23 dn24) = (baseV id22 log23 dn24)))))) rfl rfl) ?_)
    refine rw_split 42 rfl (fun hb126 => ?_) (fun hb126 => ?_)
    · -- yes
      replace hb126 := not_t hb126
      replace hb126 := dec_f hb126
      refine rw_cons (op_pass (w1n2 rfl rfl rfl rfl) rfl rfl ?_)
      refine rw_cons (op_pass (w1n2 rfl rfl rfl rfl) rfl rfl ?_)
      refine rw_cons (op_pv (w0 rfl) rfl rfl (pv_pickT (v := (.bool true)) rfl rfl rfl) ?_)
      refine rw_nil (hK119 _ _ ?_)
      refine hK117 _ _ ?_
      refine cw_cond rfl (fun h127 => ?_) (fun h127 => ?_)
      · -- then
        clear h127
        refine cw_seq fun K128 hK129 => ?_
        refine cw_region fun K130 hK131 => ?_
        refine rw_cons (op_pv (w0 rfl) rfl rfl (pv_move (v := (.bool (dec (NodeOK id22 log23 dn24)))) rfl rfl) ?_)
        refine rw_cons (op_pv (w0 rfl) rfl rfl (pv_move (v := (.bool (dec (NodeOK id22 log23 dn24)))) rfl rfl) ?_)
        refine rw_cons (op_pv (w0 rfl) rfl rfl (pv_eqBs Try.underlying4 rfl rfl rfl) ?_)
        refine rw_cons (op_pv (w0 rfl) rfl rfl (pv_move (v := (.bool true)) rfl rfl) ?_)
        refine rw_cons (op_pv (w1y rfl rfl rfl rfl) rfl rfl (pv_move (v := (.slice A53 (restV id22 log23 dn24).length c54)) rfl rfl) ?_)
        refine rw_cons (op_pv (w1y rfl rfl rfl rfl) rfl rfl (pv_move (v := (.slice A87 (restV id22 log23 dn24).length c88)) rfl rfl) ?_)
        refine rw_cons (op_call (w1y rfl rfl rfl rfl) rfl rfl (rc_call C21 rfl rfl) (sameLog_same _ _ _ _ _ _ (restV id22 log23 dn24) _ (hO55.rs (fun _ => rfl)) (hO89.rs (fun _ => rfl)) (by omega)) ?_)
        rintro _ w132 ⟨rfl, hch133⟩
        have hsz134 := hch133.size
        replace hR0 := hR0.ch0 hch133
        replace hO27 := hO27.ch0 hch133
        replace hB35 := hB35.ch0 hch133
        replace hO52 := hO52.ch0 hch133
        replace hO55 := hO55.ch0 hch133
        replace hB67 := hB67.ch0 hch133
        replace hO86 := hO86.ch0 hch133
        replace hO89 := hO89.ch0 hch133
        replace hB101 := hB101.ch0 hch133
        replace hc := hc.step0 hch133
        refine rw_cons (op_pv (w0 rfl) rfl rfl (pv_pickT (v := (.bool true)) rfl rfl rfl) ?_)
        refine rw_cons (op_pv (w0 rfl) rfl rfl (pv_move (v := (.bool true)) rfl rfl) ?_)
        refine rw_cons (op_lv (w1y rfl rfl rfl rfl) rfl rfl (lv_loadN T25 rfl rfl rfl (fun j v hv => hB67.cellA hv)) ?_)
        refine rw_cons (op_lv (w1y rfl rfl rfl rfl) rfl rfl (lv_loadN T25 rfl rfl rfl (fun j v hv => hB101.cellA hv)) ?_)
        refine rw_cons (op_call (w1y rfl rfl rfl rfl) rfl rfl (rc_call C17 rfl rfl) (sameBase_ok (baseM id22 log23 dn24) _ (baseV id22 log23 dn24).length _ (baseV id22 log23 dn24) (baseM id22 log23 dn24) _ (baseV id22 log23 dn24).length _ (baseV id22 log23 dn24) _ (hO52.rs (fun _ => rfl)) (by omega) (hO86.rs (fun _ => rfl)) (by omega)) ?_)
        rintro _ w135 ⟨rfl, hch136⟩
        have hsz137 := hch136.size
        replace hR0 := hR0.ch0 hch136
        replace hO27 := hO27.ch0 hch136
        replace hB35 := hB35.ch0 hch136
        replace hO52 := hO52.ch0 hch136
        replace hO55 := hO55.ch0 hch136
        replace hB67 := hB67.ch0 hch136
        replace hO86 := hO86.ch0 hch136
        replace hO89 := hO89.ch0 hch136
        replace hB101 := hB101.ch0 hch136
        replace hc := hc.step0 hch136
        refine rw_cons (op_pv (w0 rfl) rfl rfl (pv_pickT (v := (.bool (dec ((baseM id22 log23 dn24) = (baseM id22 log23 dn24) ∧ (baseV id22 log23 dn24) = (baseV id22 log23 dn24))))) rfl rfl rfl) ?_)
        refine rw_cons (op_pv (w0 rfl) rfl rfl (pv_assign (v := (.bool (dec ((baseM id22 log23 dn24) = (baseM id22 log23 dn24) ∧ (baseV id22 log23 dn24) = (baseV id22 log23 dn24))))) rfl rfl) ?_)
        refine rw_nil (hK131 _ _ ?_)
        refine hK129 _ _ ?_
        refine cw_ret ?_
        refine fin1 rfl ?_
        first
          | exact ⟨rfl, hc⟩
          | exact absurd hb (by assumption)
          | exact absurd hbs (by assumption)
          | exact absurd rfl ‹¬(restV id22 log23 dn24 = restV id22 log23 dn24)›
          | exact ⟨congrArg Value.bool (dec_yes rfl), hc⟩
          | exact absurd ⟨rfl, rfl⟩ ‹¬(baseM id22 log23 dn24 = baseM id22 log23 dn24 ∧ baseV id22 log23 dn24 = baseV id22 log23 dn24)›
          | exact ⟨congrArg Value.bool (dec_yes ⟨rfl, rfl⟩), hc⟩
          | (exfalso; omega)
      · -- else
        cases h127
    · -- no
      replace hb126 := not_f hb126
      replace hb126 := dec_t hb126
      refine rw_cons (op_pv (w1y rfl rfl rfl rfl) rfl rfl (pv_move (v := (.bool (dec (NodeOK id22 log23 dn24)))) rfl rfl) ?_)
      refine rw_cons (op_pv (w1y rfl rfl rfl rfl) rfl rfl (pv_not rfl rfl) ?_)
      refine rw_cons (op_pv (w0 rfl) rfl rfl (pv_pickF (v := (.bool (!(dec (NodeOK id22 log23 dn24))))) rfl rfl rfl) ?_)
      refine rw_nil (hK119 _ _ ?_)
      refine hK117 _ _ ?_
      refine cw_cond rfl (fun h138 => ?_) (fun h138 => ?_)
      · -- then
        replace h138 := not_t h138
        replace h138 := dec_f h138
        refine cw_seq fun K139 hK140 => ?_
        refine cw_region fun K141 hK142 => ?_
        refine rw_cons (op_pv (w0 rfl) rfl rfl (pv_move (v := (.bool (dec (NodeOK id22 log23 dn24)))) rfl rfl) ?_)
        refine rw_cons (op_pv (w0 rfl) rfl rfl (pv_move (v := (.bool (dec (NodeOK id22 log23 dn24)))) rfl rfl) ?_)
        refine rw_cons (op_pv (w0 rfl) rfl rfl (pv_eqBs Try.underlying4 rfl rfl rfl) ?_)
        refine rw_cons (op_pv (w0 rfl) rfl rfl (pv_move (v := (.bool true)) rfl rfl) ?_)
        refine rw_cons (op_pv (w1y rfl rfl rfl rfl) rfl rfl (pv_move (v := (.slice A53 (restV id22 log23 dn24).length c54)) rfl rfl) ?_)
        refine rw_cons (op_pv (w1y rfl rfl rfl rfl) rfl rfl (pv_move (v := (.slice A87 (restV id22 log23 dn24).length c88)) rfl rfl) ?_)
        refine rw_cons (op_call (w1y rfl rfl rfl rfl) rfl rfl (rc_call C21 rfl rfl) (sameLog_same _ _ _ _ _ _ (restV id22 log23 dn24) _ (hO55.rs (fun _ => rfl)) (hO89.rs (fun _ => rfl)) (by omega)) ?_)
        rintro _ w143 ⟨rfl, hch144⟩
        have hsz145 := hch144.size
        replace hR0 := hR0.ch0 hch144
        replace hO27 := hO27.ch0 hch144
        replace hB35 := hB35.ch0 hch144
        replace hO52 := hO52.ch0 hch144
        replace hO55 := hO55.ch0 hch144
        replace hB67 := hB67.ch0 hch144
        replace hO86 := hO86.ch0 hch144
        replace hO89 := hO89.ch0 hch144
        replace hB101 := hB101.ch0 hch144
        replace hc := hc.step0 hch144
        refine rw_cons (op_pv (w0 rfl) rfl rfl (pv_pickT (v := (.bool true)) rfl rfl rfl) ?_)
        refine rw_cons (op_pv (w0 rfl) rfl rfl (pv_move (v := (.bool true)) rfl rfl) ?_)
        refine rw_cons (op_lv (w1y rfl rfl rfl rfl) rfl rfl (lv_loadN T25 rfl rfl rfl (fun j v hv => hB67.cellA hv)) ?_)
        refine rw_cons (op_lv (w1y rfl rfl rfl rfl) rfl rfl (lv_loadN T25 rfl rfl rfl (fun j v hv => hB101.cellA hv)) ?_)
        refine rw_cons (op_call (w1y rfl rfl rfl rfl) rfl rfl (rc_call C17 rfl rfl) (sameBase_ok (baseM id22 log23 dn24) _ (baseV id22 log23 dn24).length _ (baseV id22 log23 dn24) (baseM id22 log23 dn24) _ (baseV id22 log23 dn24).length _ (baseV id22 log23 dn24) _ (hO52.rs (fun _ => rfl)) (by omega) (hO86.rs (fun _ => rfl)) (by omega)) ?_)
        rintro _ w146 ⟨rfl, hch147⟩
        have hsz148 := hch147.size
        replace hR0 := hR0.ch0 hch147
        replace hO27 := hO27.ch0 hch147
        replace hB35 := hB35.ch0 hch147
        replace hO52 := hO52.ch0 hch147
        replace hO55 := hO55.ch0 hch147
        replace hB67 := hB67.ch0 hch147
        replace hO86 := hO86.ch0 hch147
        replace hO89 := hO89.ch0 hch147
        replace hB101 := hB101.ch0 hch147
        replace hc := hc.step0 hch147
        refine rw_cons (op_pv (w0 rfl) rfl rfl (pv_pickT (v := (.bool (dec ((baseM id22 log23 dn24) = (baseM id22 log23 dn24) ∧ (baseV id22 log23 dn24) = (baseV id22 log23 dn24))))) rfl rfl rfl) ?_)
        refine rw_cons (op_pv (w0 rfl) rfl rfl (pv_assign (v := (.bool (dec ((baseM id22 log23 dn24) = (baseM id22 log23 dn24) ∧ (baseV id22 log23 dn24) = (baseV id22 log23 dn24))))) rfl rfl) ?_)
        refine rw_nil (hK142 _ _ ?_)
        refine hK140 _ _ ?_
        refine cw_ret ?_
        refine fin1 rfl ?_
        first
          | exact ⟨rfl, hc⟩
          | exact absurd hb (by assumption)
          | exact absurd hbs (by assumption)
          | exact absurd rfl ‹¬(restV id22 log23 dn24 = restV id22 log23 dn24)›
          | exact ⟨congrArg Value.bool (dec_yes rfl), hc⟩
          | exact absurd ⟨rfl, rfl⟩ ‹¬(baseM id22 log23 dn24 = baseM id22 log23 dn24 ∧ baseV id22 log23 dn24 = baseV id22 log23 dn24)›
          | exact ⟨congrArg Value.bool (dec_yes ⟨rfl, rfl⟩), hc⟩
          | (exfalso; omega)
      · -- else
        replace h138 := not_f h138
        replace h138 := dec_t h138
        refine cw_skip ?_
        refine hK115 _ _ ?_
        refine cw_seq fun K149 hK150 => ?_
        have hok : NodeOK id22 log23 dn24 := by assumption
        have hb := base_node hok
        have hmy := baseM_yes hok
        have hbs := base_state hok
        have hdn := hok.2.2
        have hl12 := hok.2.1.1
        refine cw_drawn (fun u => Ch [] w123 u) (.free 0 (.one 1 true (.free 2 (.free 3 (.free 4 (.free 5 (.free 6 (.free 7 (.free 8 (.free 9 (.free 10 (.free 11 (.free 12 (.free 13 (.free 14 (.free 15 (.one 16 true (.one 17 true (.free 18 (.free 19 (.free 20 (.free 21 (.one 22 true (.one 23 true (.free 24 (.free 25 (.done))))))))))))))))))))))))))) (by kernel_rfl) (by kernel_rfl) (Ch.refl _ _).drew fun K154 hK155 => ?_
        obtain ⟨w151, hw_, hch152, hsz153⟩ : ∃ w1 : World, w1 = w123.drew ∧ Ch [] w123 w1 ∧ w1.heap.size = w123.heap.size := ⟨_, rfl, (Ch.refl _ _).drew, rfl⟩
        rw [← hw_]; clear hw_
        have hr156 : Ch [] w123 w151 := hch152.sub (fun s hs => by cases hs)
        have hR0_r := hR0
        have hO27_r := hO27
        have hB35_r := hB35
        have hO52_r := hO52
        have hO55_r := hO55
        have hB67_r := hB67
        have hO86_r := hO86
        have hO89_r := hO89
        have hB101_r := hB101
        have hsz157 := hch152.size
        replace hR0 := hR0.ch0 hch152
        replace hO27 := hO27.ch0 hch152
        replace hB35 := hB35.ch0 hch152
        replace hO52 := hO52.ch0 hch152
        replace hO55 := hO55.ch0 hch152
        replace hB67 := hB67.ch0 hch152
        replace hO86 := hO86.ch0 hch152
        replace hO89 := hO89.ch0 hch152
        replace hB101 := hB101.ch0 hch152
        replace hc := hc.step0 hch152
        refine tw_free rfl (w0 rfl) rfl rfl (fun u hu => lv_loadN T25 rfl rfl rfl (fun j v hv => (hB67_r.ch hu (by simp)).cellA hv)) ?_
        refine tw_one rfl (op_call (w0 rfl) rfl rfl (rc_call C9 rfl rfl) (BaseValid_i (baseM id22 log23 dn24) _ (baseV id22 log23 dn24).length _ (baseV id22 log23 dn24) _ (hO52.rs (fun _ => rfl)) (by omega)) ?_)
        rintro _ w158 ⟨rfl, hch159⟩
        have hsz160 := hch159.size
        replace hR0 := hR0.ch0 hch159
        replace hO27 := hO27.ch0 hch159
        replace hB35 := hB35.ch0 hch159
        replace hO52 := hO52.ch0 hch159
        replace hO55 := hO55.ch0 hch159
        replace hB67 := hB67.ch0 hch159
        replace hO86 := hO86.ch0 hch159
        replace hO89 := hO89.ch0 hch159
        replace hB101 := hB101.ch0 hch159
        replace hc := hc.step0 hch159
        replace hr156 := hr156.step0 hch159
        refine ⟨fun _ => hr156, ?_⟩
        refine tw_free rfl (w0 rfl) rfl rfl (fun u hu => (pv_move (v := (.bool (dec (BaseOK (baseM id22 log23 dn24) (baseV id22 log23 dn24))))) rfl rfl : PV _ _ _ _) u) ?_
        refine tw_split 61 rfl (fun hb161 => ?_) (fun hb161 => ?_)
        · -- yes
          replace hb161 := dec_t hb161
          refine tw_free rfl (w1y rfl rfl rfl rfl) rfl rfl (fun u hu => (pv_fld F25_0 rfl rfl : PV _ _ _ _) u) ?_
          refine tw_free rfl (w1y rfl rfl rfl rfl) rfl rfl (fun u hu => lv_load T3 rfl rfl ((hB67_r.ch hu (by simp)).cellA (i := 0) rfl)) ?_
          refine tw_free rfl (w1y rfl rfl rfl rfl) rfl rfl (fun u hu => (pv_fld F41_2 rfl rfl : PV _ _ _ _) u) ?_
          refine tw_free rfl (w1y rfl rfl rfl rfl) rfl rfl (fun u hu => lv_load T3 rfl rfl ((hB35_r.ch hu (by simp)).cellA (i := 2) rfl)) ?_
          refine tw_free rfl (w1y rfl rfl rfl rfl) rfl rfl (fun u hu => (pv_eql rfl rfl rfl : PV _ _ _ _) u) ?_
          refine tw_free rfl (w0 rfl) rfl rfl (fun u hu => (pv_pickT (v := (.bool (decide ((baseM id22 log23 dn24 : Int) = dn24)))) rfl rfl rfl : PV _ _ _ _) u) ?_
          refine tw_free rfl (w0 rfl) rfl rfl (fun u hu => (pv_move (v := (.bool (decide ((baseM id22 log23 dn24 : Int) = dn24)))) rfl rfl : PV _ _ _ _) u) ?_
          refine tw_split 68 rfl (fun hb162 => ?_) (fun hb162 => ?_)
          · -- yes
            replace hb162 := of_decide_eq_true hb162
            refine tw_free rfl (w1y rfl rfl rfl rfl) rfl rfl (fun u hu => (pv_fld F25_1 rfl rfl : PV _ _ _ _) u) ?_
            refine tw_free rfl (w1y rfl rfl rfl rfl) rfl rfl (fun u hu => lv_load T23 rfl rfl ((hB67_r.ch hu (by simp)).cellA (i := 1) rfl)) ?_
            refine tw_free rfl (w1y rfl rfl rfl rfl) rfl rfl (fun u hu => (pv_fld F41_1 rfl rfl : PV _ _ _ _) u) ?_
            refine tw_free rfl (w1y rfl rfl rfl rfl) rfl rfl (fun u hu => lv_load T34 rfl rfl ((hB35_r.ch hu (by simp)).cellA (i := 1) rfl)) ?_
            refine tw_free rfl (w1y rfl rfl rfl rfl) rfl rfl (fun u hu => (pv_fld F41_2 rfl rfl : PV _ _ _ _) u) ?_
            refine tw_free rfl (w1y rfl rfl rfl rfl) rfl rfl (fun u hu => lv_load T3 rfl rfl ((hB35_r.ch hu (by simp)).cellA (i := 2) rfl)) ?_
            refine tw_one rfl (op_call (w1y rfl rfl rfl rfl) rfl rfl (rc_call C23 rfl rfl) (StateAt_ok _ log23.length _ log23 dn24 _ (hO27.rs (fun _ => rfl)) (by omega) (by omega)) ?_)
            rintro _ w163 ⟨A165, c166, rfl, hO167, hch164⟩
            have hsz168 := hch164.size
            replace hR0 := hR0.ch0 hch164
            replace hO27 := hO27.ch0 hch164
            replace hB35 := hB35.ch0 hch164
            replace hO52 := hO52.ch0 hch164
            replace hO55 := hO55.ch0 hch164
            replace hB67 := hB67.ch0 hch164
            replace hO86 := hO86.ch0 hch164
            replace hO89 := hO89.ch0 hch164
            replace hB101 := hB101.ch0 hch164
            replace hc := hc.step0 hch164
            replace hr156 := hr156.step0 hch164
            have hub169 := hO167.lt
            have hcap170 : (stateV log23 dn24).length ≤ c166 := by obtain ⟨_, _, hv, h1, _⟩ := hO167.form; injection hv with _ _ h3; omega
            have hnt171 := stateV_le log23 dn24
            refine ⟨fun _ => hr156, ?_⟩
            refine tw_one rfl (op_call (w1y rfl rfl rfl rfl) rfl rfl (rc_call C22 rfl rfl) (sameInts_ok _ _ _ _ _ _ (baseV id22 log23 dn24) (stateV log23 dn24) _ (hO52.rs (fun _ => rfl)) (hO167.rs (fun _ => rfl)) (by omega)) ?_)
            rintro _ w172 ⟨rfl, hch173⟩
            have hsz174 := hch173.size
            replace hR0 := hR0.ch0 hch173
            replace hO27 := hO27.ch0 hch173
            replace hB35 := hB35.ch0 hch173
            replace hO52 := hO52.ch0 hch173
            replace hO55 := hO55.ch0 hch173
            replace hB67 := hB67.ch0 hch173
            replace hO86 := hO86.ch0 hch173
            replace hO89 := hO89.ch0 hch173
            replace hB101 := hB101.ch0 hch173
            replace hO167 := hO167.ch0 hch173
            replace hc := hc.step0 hch173
            replace hr156 := hr156.step0 hch173
            refine ⟨fun _ => hr156, ?_⟩
            refine tw_free rfl (w0 rfl) rfl rfl (fun u hu => (pv_pickT (v := (.bool (dec ((baseV id22 log23 dn24) = (stateV log23 dn24))))) rfl rfl rfl : PV _ _ _ _) u) ?_
            refine tw_free rfl (w0 rfl) rfl rfl (fun u hu => (pv_move (v := (.bool (dec ((baseV id22 log23 dn24) = (stateV log23 dn24))))) rfl rfl : PV _ _ _ _) u) ?_
            refine tw_split 78 rfl (fun hb175 => ?_) (fun hb175 => ?_)
            · -- yes
              replace hb175 := dec_t hb175
              refine tw_free rfl (w1y rfl rfl rfl rfl) rfl rfl (fun u hu => (pv_move (v := (.slice A53 (restV id22 log23 dn24).length c54)) rfl rfl : PV _ _ _ _) u) ?_
              refine tw_free rfl (w1y rfl rfl rfl rfl) rfl rfl (fun u hu => lv_loadN T41 rfl rfl rfl (fun j v hv => (hB35_r.ch hu (by simp)).cellA hv)) ?_
              refine tw_one rfl (op_call (w1y rfl rfl rfl rfl) rfl rfl (rc_call C24 rfl rfl) (NodePending_ok id22 _ log23.length _ log23 dn24 _ (hO27.rs (fun _ => rfl)) (by omega) (by omega)) ?_)
              rintro _ w176 ⟨A178, c179, rfl, hO180, hch177⟩
              have hsz181 := hch177.size
              replace hR0 := hR0.ch0 hch177
              replace hO27 := hO27.ch0 hch177
              replace hB35 := hB35.ch0 hch177
              replace hO52 := hO52.ch0 hch177
              replace hO55 := hO55.ch0 hch177
              replace hB67 := hB67.ch0 hch177
              replace hO86 := hO86.ch0 hch177
              replace hO89 := hO89.ch0 hch177
              replace hB101 := hB101.ch0 hch177
              replace hO167 := hO167.ch0 hch177
              replace hc := hc.step0 hch177
              replace hr156 := hr156.step0 hch177
              have hub182 := hO180.lt
              have hcap183 : (restV id22 log23 dn24).length ≤ c179 := by obtain ⟨_, _, hv, h1, _⟩ := hO180.form; injection hv with _ _ h3; omega
              have hnt184 := restV_le id22 log23 dn24
              refine ⟨fun _ => hr156, ?_⟩
              refine tw_one rfl (op_call (w1y rfl rfl rfl rfl) rfl rfl (rc_call C21 rfl rfl) (sameLog_same _ _ _ _ _ _ (restV id22 log23 dn24) _ (hO55.rs (fun _ => rfl)) (hO180.rs (fun _ => rfl)) (by omega)) ?_)
              rintro _ w185 ⟨rfl, hch186⟩
              have hsz187 := hch186.size
              replace hR0 := hR0.ch0 hch186
              replace hO27 := hO27.ch0 hch186
              replace hB35 := hB35.ch0 hch186
              replace hO52 := hO52.ch0 hch186
              replace hO55 := hO55.ch0 hch186
              replace hB67 := hB67.ch0 hch186
              replace hO86 := hO86.ch0 hch186
              replace hO89 := hO89.ch0 hch186
              replace hB101 := hB101.ch0 hch186
              replace hO167 := hO167.ch0 hch186
              replace hO180 := hO180.ch0 hch186
              replace hc := hc.step0 hch186
              replace hr156 := hr156.step0 hch186
              refine ⟨fun _ => hr156, ?_⟩
              refine tw_free rfl (w0 rfl) rfl rfl (fun u hu => (pv_pickT (v := (.bool true)) rfl rfl rfl : PV _ _ _ _) u) ?_
              refine tw_free rfl (w0 rfl) rfl rfl (fun u hu => (pv_assign (v := (.bool true)) rfl rfl : PV _ _ _ _) u) ?_
              clear hB101_r
              clear hB35_r
              clear hB67_r
              clear hO27_r
              clear hO52_r
              clear hO55_r
              clear hO86_r
              clear hO89_r
              clear hR0_r
              refine tw_done (hK155 _ _ ?_)
              refine hK150 _ _ ?_
              refine cw_ret ?_
              refine fin1 rfl ?_
              first
                | exact ⟨rfl, hc⟩
                | exact absurd hb (by assumption)
                | exact absurd hbs (by assumption)
                | exact absurd rfl ‹¬(restV id22 log23 dn24 = restV id22 log23 dn24)›
                | exact ⟨congrArg Value.bool (dec_yes rfl), hc⟩
                | exact absurd ⟨rfl, rfl⟩ ‹¬(baseM id22 log23 dn24 = baseM id22 log23 dn24 ∧ baseV id22 log23 dn24 = baseV id22 log23 dn24)›
                | exact ⟨congrArg Value.bool (dec_yes ⟨rfl, rfl⟩), hc⟩
                | (exfalso; omega)
            · -- no
              replace hb175 := dec_f hb175
              refine tw_pass rfl (w1n1 rfl rfl rfl rfl) rfl rfl ?_
              refine tw_pass rfl (w1n1 rfl rfl rfl rfl) rfl rfl ?_
              refine tw_one rfl (op_pass (w1n1 rfl rfl rfl rfl) rfl rfl ?_)
              refine ⟨fun _ => hr156, ?_⟩
              refine tw_one rfl (op_pass (w1n1 rfl rfl rfl rfl) rfl rfl ?_)
              refine ⟨fun _ => hr156, ?_⟩
              refine tw_free rfl (w0 rfl) rfl rfl (fun u hu => (pv_pickF (v := (.bool false)) rfl rfl rfl : PV _ _ _ _) u) ?_
              refine tw_free rfl (w0 rfl) rfl rfl (fun u hu => (pv_assign (v := (.bool false)) rfl rfl : PV _ _ _ _) u) ?_
              clear hB101_r
              clear hB35_r
              clear hB67_r
              clear hO27_r
              clear hO52_r
              clear hO55_r
              clear hO86_r
              clear hO89_r
              clear hR0_r
              refine tw_done (hK155 _ _ ?_)
              refine hK150 _ _ ?_
              refine cw_ret ?_
              refine fin1 rfl ?_
              first
                | exact ⟨rfl, hc⟩
                | exact absurd hb (by assumption)
                | exact absurd hbs (by assumption)
                | exact absurd rfl ‹¬(restV id22 log23 dn24 = restV id22 log23 dn24)›
                | exact ⟨congrArg Value.bool (dec_yes rfl), hc⟩
                | exact absurd ⟨rfl, rfl⟩ ‹¬(baseM id22 log23 dn24 = baseM id22 log23 dn24 ∧ baseV id22 log23 dn24 = baseV id22 log23 dn24)›
                | exact ⟨congrArg Value.bool (dec_yes ⟨rfl, rfl⟩), hc⟩
                | (exfalso; omega)
          · -- no
            replace hb162 := of_decide_eq_false hb162
            refine tw_pass rfl (w1n1 rfl rfl rfl rfl) rfl rfl ?_
            refine tw_pass rfl (w1n1 rfl rfl rfl rfl) rfl rfl ?_
            refine tw_pass rfl (w1n1 rfl rfl rfl rfl) rfl rfl ?_
            refine tw_pass rfl (w1n1 rfl rfl rfl rfl) rfl rfl ?_
            refine tw_pass rfl (w1n1 rfl rfl rfl rfl) rfl rfl ?_
            refine tw_pass rfl (w1n1 rfl rfl rfl rfl) rfl rfl ?_
            refine tw_one rfl (op_pass (w1n1 rfl rfl rfl rfl) rfl rfl ?_)
            refine ⟨fun _ => hr156, ?_⟩
            refine tw_one rfl (op_pass (w1n1 rfl rfl rfl rfl) rfl rfl ?_)
            refine ⟨fun _ => hr156, ?_⟩
            refine tw_free rfl (w0 rfl) rfl rfl (fun u hu => (pv_pickF (v := (.bool false)) rfl rfl rfl : PV _ _ _ _) u) ?_
            refine tw_free rfl (w0 rfl) rfl rfl (fun u hu => (pv_move (v := (.bool false)) rfl rfl : PV _ _ _ _) u) ?_
            refine tw_pass rfl (w1n1 rfl rfl rfl rfl) rfl rfl ?_
            refine tw_pass rfl (w1n1 rfl rfl rfl rfl) rfl rfl ?_
            refine tw_one rfl (op_pass (w1n1 rfl rfl rfl rfl) rfl rfl ?_)
            refine ⟨fun _ => hr156, ?_⟩
            refine tw_one rfl (op_pass (w1n1 rfl rfl rfl rfl) rfl rfl ?_)
            refine ⟨fun _ => hr156, ?_⟩
            refine tw_free rfl (w0 rfl) rfl rfl (fun u hu => (pv_pickF (v := (.bool false)) rfl rfl rfl : PV _ _ _ _) u) ?_
            refine tw_free rfl (w0 rfl) rfl rfl (fun u hu => (pv_assign (v := (.bool false)) rfl rfl : PV _ _ _ _) u) ?_
            clear hB101_r
            clear hB35_r
            clear hB67_r
            clear hO27_r
            clear hO52_r
            clear hO55_r
            clear hO86_r
            clear hO89_r
            clear hR0_r
            refine tw_done (hK155 _ _ ?_)
            refine hK150 _ _ ?_
            refine cw_ret ?_
            refine fin1 rfl ?_
            first
              | exact ⟨rfl, hc⟩
              | exact absurd hb (by assumption)
              | exact absurd hbs (by assumption)
              | exact absurd rfl ‹¬(restV id22 log23 dn24 = restV id22 log23 dn24)›
              | exact ⟨congrArg Value.bool (dec_yes rfl), hc⟩
              | exact absurd ⟨rfl, rfl⟩ ‹¬(baseM id22 log23 dn24 = baseM id22 log23 dn24 ∧ baseV id22 log23 dn24 = baseV id22 log23 dn24)›
              | exact ⟨congrArg Value.bool (dec_yes ⟨rfl, rfl⟩), hc⟩
              | (exfalso; omega)
        · -- no
          replace hb161 := dec_f hb161
          refine tw_pass rfl (w1n1 rfl rfl rfl rfl) rfl rfl ?_
          refine tw_pass rfl (w1n1 rfl rfl rfl rfl) rfl rfl ?_
          refine tw_pass rfl (w1n1 rfl rfl rfl rfl) rfl rfl ?_
          refine tw_pass rfl (w1n1 rfl rfl rfl rfl) rfl rfl ?_
          refine tw_pass rfl (w1n1 rfl rfl rfl rfl) rfl rfl ?_
          refine tw_free rfl (w0 rfl) rfl rfl (fun u hu => (pv_pickF (v := (.bool false)) rfl rfl rfl : PV _ _ _ _) u) ?_
          refine tw_free rfl (w0 rfl) rfl rfl (fun u hu => (pv_move (v := (.bool false)) rfl rfl : PV _ _ _ _) u) ?_
          refine tw_pass rfl (w1n1 rfl rfl rfl rfl) rfl rfl ?_
          refine tw_pass rfl (w1n1 rfl rfl rfl rfl) rfl rfl ?_
          refine tw_pass rfl (w1n1 rfl rfl rfl rfl) rfl rfl ?_
          refine tw_pass rfl (w1n1 rfl rfl rfl rfl) rfl rfl ?_
          refine tw_pass rfl (w1n1 rfl rfl rfl rfl) rfl rfl ?_
          refine tw_pass rfl (w1n1 rfl rfl rfl rfl) rfl rfl ?_
          refine tw_one rfl (op_pass (w1n1 rfl rfl rfl rfl) rfl rfl ?_)
          refine ⟨fun _ => hr156, ?_⟩
          refine tw_one rfl (op_pass (w1n1 rfl rfl rfl rfl) rfl rfl ?_)
          refine ⟨fun _ => hr156, ?_⟩
          refine tw_free rfl (w0 rfl) rfl rfl (fun u hu => (pv_pickF (v := (.bool false)) rfl rfl rfl : PV _ _ _ _) u) ?_
          refine tw_free rfl (w0 rfl) rfl rfl (fun u hu => (pv_move (v := (.bool false)) rfl rfl : PV _ _ _ _) u) ?_
          refine tw_pass rfl (w1n1 rfl rfl rfl rfl) rfl rfl ?_
          refine tw_pass rfl (w1n1 rfl rfl rfl rfl) rfl rfl ?_
          refine tw_one rfl (op_pass (w1n1 rfl rfl rfl rfl) rfl rfl ?_)
          refine ⟨fun _ => hr156, ?_⟩
          refine tw_one rfl (op_pass (w1n1 rfl rfl rfl rfl) rfl rfl ?_)
          refine ⟨fun _ => hr156, ?_⟩
          refine tw_free rfl (w0 rfl) rfl rfl (fun u hu => (pv_pickF (v := (.bool false)) rfl rfl rfl : PV _ _ _ _) u) ?_
          refine tw_free rfl (w0 rfl) rfl rfl (fun u hu => (pv_assign (v := (.bool false)) rfl rfl : PV _ _ _ _) u) ?_
          clear hB101_r
          clear hB35_r
          clear hB67_r
          clear hO27_r
          clear hO52_r
          clear hO55_r
          clear hO86_r
          clear hO89_r
          clear hR0_r
          refine tw_done (hK155 _ _ ?_)
          refine hK150 _ _ ?_
          refine cw_ret ?_
          refine fin1 rfl ?_
          first
            | exact ⟨rfl, hc⟩
            | exact absurd hb (by assumption)
            | exact absurd hbs (by assumption)
            | exact absurd rfl ‹¬(restV id22 log23 dn24 = restV id22 log23 dn24)›
            | exact ⟨congrArg Value.bool (dec_yes rfl), hc⟩
            | exact absurd ⟨rfl, rfl⟩ ‹¬(baseM id22 log23 dn24 = baseM id22 log23 dn24 ∧ baseV id22 log23 dn24 = baseV id22 log23 dn24)›
            | exact ⟨congrArg Value.bool (dec_yes ⟨rfl, rfl⟩), hc⟩
            | (exfalso; omega)
end Go.Proofs.Ytpnenfglogggmaa
