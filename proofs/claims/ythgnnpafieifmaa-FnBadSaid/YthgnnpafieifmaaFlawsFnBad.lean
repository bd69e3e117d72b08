/-
  The walk of laws.FnBad, written by program: each line names the law of one operation. Conditions: those of the theorem.
-/
import Derived.Test.YthgnnpafieifmaaProg
import Derived.Test.YthgnnpafieifmaaFspecDrawSumsBad
import Derived.Test.YthgnnpafieifmaaFimplSumsBad
import Derived.Test.YthgnnpafieifmaaFspecSumsBad
import Derived.Test.YthgnnpafieifmaaFimplSumsOf
import Derived.Test.YthgnnpafieifmaaFlawssameInts
import Derived.KernelRfl
namespace Go.Proofs.Ythgnnpafieifmaa
open Go Go.RowKit
set_option linter.unusedVariables false
set_option linter.unusedSimpArgs false
namespace FnBad_okF
theorem T3 : TI Try.prog 3 false (.int .i64 0) 1 8 := TI.mk' Try.underlying3 rfl (by kernel_rfl)
theorem C23 : Callable Try.prog 23 := ⟨_, Try.func23, by kernel_rfl, by kernel_rfl⟩
theorem C27 : Callable Try.prog 27 := ⟨_, Try.func27, by kernel_rfl, by kernel_rfl⟩
theorem C28 : Callable Try.prog 28 := ⟨_, Try.func28, by kernel_rfl, by kernel_rfl⟩
theorem C29 : Callable Try.prog 29 := ⟨_, Try.func29, by kernel_rfl, by kernel_rfl⟩
theorem C32 : Callable Try.prog 32 := ⟨_, Try.func32, by kernel_rfl, by kernel_rfl⟩
end FnBad_okF
open FnBad_okF in
set_option maxHeartbeats 4000000 in
theorem FnBad_ok (A0 : Option Addr) (n0 c0 : Nat) (xs0 : List UInt8) (w : World) (hR0 : RS encU 1 w w.heap.size A0 n0 xs0) (hn0 : n0 ≤ c0) :
    Fn Try.prog 11 [(.slice A0 n0 c0)] w fun v w' => v = .bool true ∧ Ch [] w w' := by
  have hlen0 := hR0.len
  refine fn_of (n := 104) Try.func11 rfl rfl rfl rfl ?_
  have hc : Ch [] w w := Ch.refl _ _
  refine cw_seq fun K1 hK2 => ?_
  refine cw_region fun K3 hK4 => ?_
  refine rw_cons (op_pv (w0 rfl) rfl rfl (pv_assign (v := (.bool false)) rfl rfl) ?_)
  refine rw_nil (hK4 _ _ ?_)
  refine hK2 _ _ ?_
  refine cw_seq fun K5 hK6 => ?_
  refine cw_seq fun K7 hK8 => ?_
  refine cw_region fun K9 hK10 => ?_
  refine rw_cons (op_pv (w0 rfl) rfl rfl (pv_move (v := (.slice A0 n0 c0)) rfl rfl) ?_)
  refine rw_cons (op_pv (w0 rfl) rfl rfl (pv_len Try.underlying26 rfl rfl) ?_)
  refine rw_cons (op_pv (w0 rfl) rfl rfl (pv_gtr rfl rfl rfl) ?_)
  refine rw_nil (hK10 _ _ ?_)
  refine hK8 _ _ ?_
  refine cw_cond rfl (fun h11 => ?_) (fun h11 => ?_)
  · -- then
    replace h11 := of_decide_eq_true h11
    refine cw_seq fun K12 hK13 => ?_
    refine cw_region fun K14 hK15 => ?_
    refine rw_cons (op_pv (w0 rfl) rfl rfl (pv_assign (v := (.bool true)) rfl rfl) ?_)
    refine rw_nil (hK15 _ _ ?_)
    refine hK13 _ _ ?_
    refine cw_ret ?_
    refine fin1 rfl ?_
    first
      | exact ⟨rfl, hc⟩
      | exact ⟨congrArg Value.bool (dec_yes hbo), hc⟩
      | (exfalso; have hsq := hsp (by omega); omega)
  · -- else
    replace h11 := of_decide_eq_false h11
    refine cw_skip ?_
    refine hK6 _ _ ?_
    refine cw_seq fun K16 hK17 => ?_
    refine cw_region fun K18 hK19 => ?_
    refine rw_cons (op_pv (w0 rfl) rfl rfl (pv_move (v := (.slice A0 n0 c0)) rfl rfl) ?_)
    refine rw_cons (op_call (w0 rfl) rfl rfl (rc_call C32 rfl rfl) (DrawSumsBad_ok _ _ _ _ _ (hR0.more (by omega)) (by omega)) ?_)
    rintro _ w20 ⟨A25, c26, xs27, A30, c31, xs32, rfl, hO28, hO33, hl21, hl22, hdr23, hch24⟩
    have hsz35 := hch24.size
    replace hR0 := hR0.ch0 hch24
    replace hc := hc.step0 hch24
    have hub29 := hO28.lt
    have hcap36 : xs27.length ≤ c26 := by obtain ⟨_, _, hv, h1, _⟩ := hO28.form; injection hv with _ _ h3; omega
    have hub34 := hO33.lt
    have hcap37 : xs32.length ≤ c31 := by obtain ⟨_, _, hv, h1, _⟩ := hO33.form; injection hv with _ _ h3; omega
    refine rw_cons (op_pv (w0 rfl) rfl rfl (pv_move (v := (.tuple #[(.slice A25 xs27.length c26), (.slice A30 xs32.length c31)])) rfl rfl) ?_)
    refine rw_cons (op_pv (w0 rfl) rfl rfl (pv_ext (v := (.slice A25 xs27.length c26)) rfl rfl rfl) ?_)
    refine rw_cons (op_pv (w0 rfl) rfl rfl (pv_ext (v := (.slice A30 xs32.length c31)) rfl rfl rfl) ?_)
    refine rw_cons (op_pv (w0 rfl) rfl rfl (pv_assign (v := (.slice A25 xs27.length c26)) rfl rfl) ?_)
    refine rw_cons (op_pv (w0 rfl) rfl rfl (pv_assign (v := (.slice A30 xs32.length c31)) rfl rfl) ?_)
    refine rw_nil (hK19 _ _ ?_)
    refine hK17 _ _ ?_
    refine cw_seq fun K38 hK39 => ?_
    refine cw_region fun K40 hK41 => ?_
    refine rw_cons (op_pv (w0 rfl) rfl rfl (pv_move (v := (.slice A25 xs27.length c26)) rfl rfl) ?_)
    refine rw_cons (op_pv (w0 rfl) rfl rfl (pv_move (v := (.slice A30 xs32.length c31)) rfl rfl) ?_)
    refine rw_cons (op_call (w0 rfl) rfl rfl (rc_call C29 rfl rfl) (SumsBad_i _ xs27.length _ xs27 _ xs32.length _ xs32 _ (hO28.rs (fun _ => rfl)) (by omega) (by omega) (hO33.rs (fun _ => rfl)) (by omega)) ?_)
    rintro _ w42 ⟨A44, c45, rfl, hO46, hch43⟩
    have hsz47 := hch43.size
    replace hR0 := hR0.ch0 hch43
    replace hO28 := hO28.ch0 hch43
    replace hO33 := hO33.ch0 hch43
    replace hc := hc.step0 hch43
    have hub48 := hO46.lt
    have hcap49 : (badV xs27 xs32).length ≤ c45 := by obtain ⟨_, _, hv, h1, _⟩ := hO46.form; injection hv with _ _ h3; omega
    have hnt50 := badV_le xs27 xs32
    refine rw_cons (op_pv (w0 rfl) rfl rfl (pv_assign (v := (.slice A44 (badV xs27 xs32).length c45)) rfl rfl) ?_)
    refine rw_nil (hK41 _ _ ?_)
    refine hK39 _ _ ?_
    refine cw_seq fun K51 hK52 => ?_
    refine cw_region fun K53 hK54 => ?_
    refine rw_cons (op_pv (w0 rfl) rfl rfl (pv_move (v := (.slice A25 xs27.length c26)) rfl rfl) ?_)
    refine rw_cons (op_pv (w0 rfl) rfl rfl (pv_move (v := (.slice A30 xs32.length c31)) rfl rfl) ?_)
    refine rw_cons (op_call (w0 rfl) rfl rfl (rc_call C28 rfl rfl) (SumsBad_s _ xs27.length _ xs27 _ xs32.length _ xs32 _ (hO28.rs (fun _ => rfl)) (by omega) (by omega) (hO33.rs (fun _ => rfl)) (by omega)) ?_)
    rintro _ w55 ⟨A57, c58, rfl, hO59, hch56⟩
    have hsz60 := hch56.size
    replace hR0 := hR0.ch0 hch56
    replace hO28 := hO28.ch0 hch56
    replace hO33 := hO33.ch0 hch56
    replace hO46 := hO46.ch0 hch56
    replace hc := hc.step0 hch56
    have hub61 := hO59.lt
    have hcap62 : (badV xs27 xs32).length ≤ c58 := by obtain ⟨_, _, hv, h1, _⟩ := hO59.form; injection hv with _ _ h3; omega
    have hnt63 := badV_le xs27 xs32
    refine rw_cons (op_pv (w0 rfl) rfl rfl (pv_assign (v := (.slice A57 (badV xs27 xs32).length c58)) rfl rfl) ?_)
    refine rw_nil (hK54 _ _ ?_)
    refine hK52 _ _ ?_
    refine cw_seq fun K64 hK65 => ?_
    refine cw_seq fun K66 hK67 => ?_
    refine cw_region fun K68 hK69 => ?_
    refine rw_cons (op_pv (w0 rfl) rfl rfl (pv_move (v := (.slice A44 (badV xs27 xs32).length c45)) rfl rfl) ?_)
    refine rw_cons (op_pv (w0 rfl) rfl rfl (pv_move (v := (.slice A57 (badV xs27 xs32).length c58)) rfl rfl) ?_)
    refine rw_cons (op_call (w0 rfl) rfl rfl (rc_call C27 rfl rfl) (sameInts_same _ _ _ _ _ _ (badV xs27 xs32) _ (hO46.rs (fun _ => rfl)) (hO59.rs (fun _ => rfl)) (by omega)) ?_)
    rintro _ w70 ⟨rfl, hch71⟩
    have hsz72 := hch71.size
    replace hR0 := hR0.ch0 hch71
    replace hO28 := hO28.ch0 hch71
    replace hO33 := hO33.ch0 hch71
    replace hO46 := hO46.ch0 hch71
    replace hO59 := hO59.ch0 hch71
    replace hc := hc.step0 hch71
    refine rw_cons (op_pv (w0 rfl) rfl rfl (pv_not rfl rfl) ?_)
    refine rw_cons (op_pv (w0 rfl) rfl rfl (pv_move (v := (.bool (!true))) rfl rfl) ?_)
    refine rw_cons (op_pv (w1y rfl rfl rfl rfl) rfl rfl (pv_move (v := (.slice A57 (badV xs27 xs32).length c58)) rfl rfl) ?_)
    refine rw_cons (op_pv (w1y rfl rfl rfl rfl) rfl rfl (pv_len Try.underlying22 rfl rfl) ?_)
    refine rw_cons (op_pv (w1y rfl rfl rfl rfl) rfl rfl (pv_eql rfl rfl rfl) ?_)
    refine rw_cons (op_pv (w0 rfl) rfl rfl (pv_pickF (v := (.bool (decide ((((badV xs27 xs32).length : Int) : Int) = 0)))) rfl rfl rfl) ?_)
    refine rw_nil (hK69 _ _ ?_)
    refine hK67 _ _ ?_
    refine cw_cond rfl (fun h73 => ?_) (fun h73 => ?_)
    · -- then
      replace h73 := of_decide_eq_true h73
      refine cw_seq fun K74 hK75 => ?_
      refine cw_region fun K76 hK77 => ?_
      refine rw_cons (op_pv (w0 rfl) rfl rfl (pv_move (v := (.slice A44 (badV xs27 xs32).length c45)) rfl rfl) ?_)
      refine rw_cons (op_pv (w0 rfl) rfl rfl (pv_move (v := (.slice A57 (badV xs27 xs32).length c58)) rfl rfl) ?_)
      refine rw_cons (op_call (w0 rfl) rfl rfl (rc_call C27 rfl rfl) (sameInts_same _ _ _ _ _ _ (badV xs27 xs32) _ (hO46.rs (fun _ => rfl)) (hO59.rs (fun _ => rfl)) (by omega)) ?_)
      rintro _ w78 ⟨rfl, hch79⟩
      have hsz80 := hch79.size
      replace hR0 := hR0.ch0 hch79
      replace hO28 := hO28.ch0 hch79
      replace hO33 := hO33.ch0 hch79
      replace hO46 := hO46.ch0 hch79
      replace hO59 := hO59.ch0 hch79
      replace hc := hc.step0 hch79
      refine rw_cons (op_pv (w0 rfl) rfl rfl (pv_assign (v := (.bool true)) rfl rfl) ?_)
      refine rw_nil (hK77 _ _ ?_)
      refine hK75 _ _ ?_
      refine cw_ret ?_
      refine fin1 rfl ?_
      first
        | exact ⟨rfl, hc⟩
        | exact ⟨congrArg Value.bool (dec_yes hbo), hc⟩
        | (exfalso; have hsq := hsp (by omega); omega)
    · -- else
      replace h73 := of_decide_eq_false h73
      refine cw_skip ?_
      refine hK65 _ _ ?_
      refine cw_seq fun K81 hK82 => ?_
      refine cw_region fun K83 hK84 => ?_
      refine rw_cons (op_pv (w0 rfl) rfl rfl (pv_move (v := (.slice A25 xs27.length c26)) rfl rfl) ?_)
      refine rw_cons (op_call (w0 rfl) rfl rfl (rc_call C23 rfl rfl) (SumsOf_i _ xs27.length _ xs27 _ (hO28.rs (fun _ => rfl)) (by omega) (by omega)) ?_)
      rintro _ w85 ⟨A87, c88, rfl, hO89, hch86⟩
      have hsz90 := hch86.size
      replace hR0 := hR0.ch0 hch86
      replace hO28 := hO28.ch0 hch86
      replace hO33 := hO33.ch0 hch86
      replace hO46 := hO46.ch0 hch86
      replace hO59 := hO59.ch0 hch86
      replace hc := hc.step0 hch86
      have hub91 := hO89.lt
      have hcap92 : (sumsV xs27).length ≤ c88 := by obtain ⟨_, _, hv, h1, _⟩ := hO89.form; injection hv with _ _ h3; omega
      have hnt93 := sumsV_le xs27
      refine rw_cons (op_pv (w0 rfl) rfl rfl (pv_move (v := (.tuple #[(.slice A87 (sumsV xs27).length c88), (.bool (dec (BytesOK xs27)))])) rfl rfl) ?_)
      refine rw_cons (op_pv (w0 rfl) rfl rfl (pv_ext (v := (.slice A87 (sumsV xs27).length c88)) rfl rfl rfl) ?_)
      refine rw_cons (op_pv (w0 rfl) rfl rfl (pv_ext (v := (.bool (dec (BytesOK xs27)))) rfl rfl rfl) ?_)
      refine rw_cons (op_pv (w0 rfl) rfl rfl (pv_assign (v := (.slice A87 (sumsV xs27).length c88)) rfl rfl) ?_)
      refine rw_cons (op_pv (w0 rfl) rfl rfl (pv_assign (v := (.bool (dec (BytesOK xs27)))) rfl rfl) ?_)
      refine rw_nil (hK84 _ _ ?_)
      refine hK82 _ _ ?_
      refine cw_seq fun K94 hK95 => ?_
      refine cw_seq fun K96 hK97 => ?_
      have hbo := badV_some (xs := xs27) (ss := xs32) (by omega)
      refine cw_region fun K98 hK99 => ?_
      refine rw_cons (op_pv (w0 rfl) rfl rfl (pv_assign (v := (.int .i64 0)) rfl rfl) ?_)
      refine rw_nil (hK99 _ _ ?_)
      refine hK97 _ _ ?_
      refine cw_block ?_
      refine cw_loop (σ := Nat) (fun k => [(9, (.int .i64 (k : Int))), (4, (.slice A30 xs32.length c31)), (5, (.slice A44 (badV xs27 xs32).length c45)), (7, (.slice A87 (sumsV xs27).length c88)), (8, (.bool (dec (BytesOK xs27))))]) (fun k W => (k ≤ (badV xs27 xs32).length) ∧ RS encU 1 W w.heap.size A0 n0 xs0 ∧ Own encI 1 W w.heap.size 3 (.slice A25 xs27.length c26) xs27 ∧ Own encI 1 W w.heap.size 3 (.slice A30 xs32.length c31) xs32 ∧ Own encI 1 W w20.heap.size 3 (.slice A44 (badV xs27 xs32).length c45) (badV xs27 xs32) ∧ Own encI 1 W w42.heap.size 3 (.slice A57 (badV xs27 xs32).length c58) (badV xs27 xs32) ∧ Own encI 1 W w70.heap.size 3 (.slice A87 (sumsV xs27).length c88) (sumsV xs27) ∧ Ch [] w W ∧ w20.heap.size ≤ W.heap.size ∧ w42.heap.size ≤ W.heap.size ∧ w70.heap.size ≤ W.heap.size) (fun k => (badV xs27 xs32).length - k) 0 ?_ ?_ ?_
      · exact ⟨rfl, rfl, rfl, rfl, rfl, trivial⟩
      · refine ⟨Nat.zero_le _, hR0, hO28, hO33, hO46, hO59, hO89, hc, (by omega), (by omega), (by omega)⟩
      · rintro k J107 w100 ⟨hk, hR0, hO28, hO33, hO46, hO59, hO89, hc, hmono101, hmono102, hmono103⟩ K104 hK105
        have hsz109 := hc.size
        have hub29 := hO28.lt
        have hub34 := hO33.lt
        have hub48 := hO46.lt
        have hub61 := hO59.lt
        have hub91 := hO89.lt
        have hsp := badV_spec xs32 hbo k
        refine cw_seq fun K110 hK111 => ?_
        refine cw_seq fun K112 hK113 => ?_
        refine cw_region fun K114 hK115 => ?_
        refine rw_cons (op_pv (w0 rfl) rfl rfl (pv_move (v := (.int .i64 (k : Int))) rfl rfl) ?_)
        refine rw_cons (op_pv (w0 rfl) rfl rfl (pv_move (v := (.slice A44 (badV xs27 xs32).length c45)) rfl rfl) ?_)
        refine rw_cons (op_pv (w0 rfl) rfl rfl (pv_len Try.underlying22 rfl rfl) ?_)
        refine rw_cons (op_pv (w0 rfl) rfl rfl (pv_lss rfl rfl rfl) ?_)
        refine rw_nil (hK115 _ _ ?_)
        refine hK113 _ _ ?_
        refine cw_cond rfl (fun h116 => ?_) (fun h116 => ?_)
        · -- then
          replace h116 := of_decide_eq_true h116
          refine cw_skip ?_
          refine hK111 _ _ ?_
          refine cw_seq fun K117 hK118 => ?_
          refine cw_block ?_
          refine cw_seq fun K119 hK120 => ?_
          have hsq := hsp (by omega)
          refine cw_drawn (fun u => Ch [] w100 u) (.free 0 (.free 1 (.free 2 (.free 3 (.free 4 (.free 5 (.free 6 (.free 7 (.free 8 (.free 9 (.free 10 (.free 11 (.free 12 (.free 13 (.free 14 (.free 15 (.free 16 (.free 17 (.free 18 (.free 19 (.free 20 (.free 21 (.free 22 (.free 23 (.free 24 (.free 25 (.free 26 (.free 27 (.free 28 (.free 29 (.free 30 (.free 31 (.free 32 (.free 33 (.free 34 (.free 35 (.free 36 (.free 37 (.free 38 (.free 39 (.free 40 (.free 41 (.free 42 (.free 43 (.free 44 (.free 45 (.free 46 (.free 47 (.free 48 (.free 49 (.free 50 (.free 51 (.free 52 (.free 53 (.free 54 (.free 55 (.done))))))))))))))))))))))))))))))))))))))))))))))))))))))))) (by kernel_rfl) (by kernel_rfl) (Ch.refl _ _).drew fun K124 hK125 => ?_
          obtain ⟨w121, hw_, hch122, hsz123⟩ : ∃ w1 : World, w1 = w100.drew ∧ Ch [] w100 w1 ∧ w1.heap.size = w100.heap.size := ⟨_, rfl, (Ch.refl _ _).drew, rfl⟩
          rw [← hw_]; clear hw_
          have hr126 : Ch [] w100 w121 := hch122.sub (fun s hs => by cases hs)
          have hR0_r := hR0
          have hO28_r := hO28
          have hO33_r := hO33
          have hO46_r := hO46
          have hO59_r := hO59
          have hO89_r := hO89
          have hsz127 := hch122.size
          replace hR0 := hR0.ch0 hch122
          replace hO28 := hO28.ch0 hch122
          replace hO33 := hO33.ch0 hch122
          replace hO46 := hO46.ch0 hch122
          replace hO59 := hO59.ch0 hch122
          replace hO89 := hO89.ch0 hch122
          replace hc := hc.step0 hch122
          refine tw_free rfl (w0 rfl) rfl rfl (fun u hu => (pv_move (v := (.int .i64 (k : Int))) rfl rfl : PV _ _ _ _) u) ?_
          refine tw_free rfl (w0 rfl) rfl rfl (fun u hu => (pv_gtr rfl rfl rfl : PV _ _ _ _) u) ?_
          refine tw_free rfl (w0 rfl) rfl rfl (fun u hu => (pv_move (v := (.bool (decide (0 < (k : Int))))) rfl rfl : PV _ _ _ _) u) ?_
          refine tw_split 49 rfl (fun hb128 => ?_) (fun hb128 => ?_)
          · -- yes
            replace hb128 := of_decide_eq_true hb128
            refine tw_free rfl (w1y rfl rfl rfl rfl) rfl rfl (fun u hu => (pv_move (v := (.slice A44 (badV xs27 xs32).length c45)) rfl rfl : PV _ _ _ _) u) ?_
            refine tw_free rfl (w1y rfl rfl rfl rfl) rfl rfl (fun u hu => (pv_move (v := (.int .i64 (k : Int))) rfl rfl : PV _ _ _ _) u) ?_
            refine tw_free rfl (w1y rfl rfl rfl rfl) rfl rfl (fun u hu => (pv_sub rfl rfl rfl (by omega) (by omega) : PV _ _ _ _) u) ?_
            refine tw_free rfl (w1y rfl rfl rfl rfl) rfl rfl (fun u hu => (pv_idx Try.underlying22 T3 rfl rfl rfl ((hO46.rs (fun _ => rfl)).some (k := ((k : Int) - 1).toNat) (by omega)) (by omega) (by omega) : PV _ _ _ _) u) ?_
            refine tw_free rfl (w1y rfl rfl rfl rfl) rfl rfl (fun u hu => lv_load T3 rfl rfl (((hO46_r.ch0 hu).rs (fun _ => rfl)).cell0 (k := ((k : Int) - 1).toNat) (by omega) rfl)) ?_
            refine tw_free rfl (w1y rfl rfl rfl rfl) rfl rfl (fun u hu => (pv_move (v := (.slice A44 (badV xs27 xs32).length c45)) rfl rfl : PV _ _ _ _) u) ?_
            refine tw_free rfl (w1y rfl rfl rfl rfl) rfl rfl (fun u hu => (pv_move (v := (.int .i64 (k : Int))) rfl rfl : PV _ _ _ _) u) ?_
            refine tw_free rfl (w1y rfl rfl rfl rfl) rfl rfl (fun u hu => (pv_idx Try.underlying22 T3 rfl rfl rfl ((hO46.rs (fun _ => rfl)).some (k := k) (by omega)) (by omega) (by omega) : PV _ _ _ _) u) ?_
            refine tw_free rfl (w1y rfl rfl rfl rfl) rfl rfl (fun u hu => lv_load T3 rfl rfl (((hO46_r.ch0 hu).rs (fun _ => rfl)).cell0 (k := k) (by omega) rfl)) ?_
            refine tw_free rfl (w1y rfl rfl rfl rfl) rfl rfl (fun u hu => (pv_geq rfl rfl rfl : PV _ _ _ _) u) ?_
            refine tw_free rfl (w0 rfl) rfl rfl (fun u hu => (pv_pickT (v := (.bool (decide ((el (badV xs27 xs32) k) ≤ (el (badV xs27 xs32) ((k : Int) - 1).toNat))))) rfl rfl rfl : PV _ _ _ _) u) ?_
            refine tw_free rfl (w0 rfl) rfl rfl (fun u hu => (pv_move (v := (.bool (decide ((el (badV xs27 xs32) k) ≤ (el (badV xs27 xs32) ((k : Int) - 1).toNat))))) rfl rfl : PV _ _ _ _) u) ?_
            refine tw_split 61 rfl (fun hb129 => ?_) (fun hb129 => ?_)
            · -- yes
              replace hb129 := of_decide_eq_true hb129
              refine tw_pass rfl (w1n2 rfl rfl rfl rfl) rfl rfl ?_
              refine tw_pass rfl (w1n2 rfl rfl rfl rfl) rfl rfl ?_
              refine tw_pass rfl (w1n2 rfl rfl rfl rfl) rfl rfl ?_
              refine tw_pass rfl (w1n2 rfl rfl rfl rfl) rfl rfl ?_
              refine tw_pass rfl (w1n2 rfl rfl rfl rfl) rfl rfl ?_
              refine tw_free rfl (w0 rfl) rfl rfl (fun u hu => (pv_pickT (v := (.bool true)) rfl rfl rfl : PV _ _ _ _) u) ?_
              refine tw_free rfl (w0 rfl) rfl rfl (fun u hu => (pv_move (v := (.bool true)) rfl rfl : PV _ _ _ _) u) ?_
              refine tw_pass rfl (w1n2 rfl rfl rfl rfl) rfl rfl ?_
              refine tw_pass rfl (w1n2 rfl rfl rfl rfl) rfl rfl ?_
              refine tw_pass rfl (w1n2 rfl rfl rfl rfl) rfl rfl ?_
              refine tw_pass rfl (w1n2 rfl rfl rfl rfl) rfl rfl ?_
              refine tw_pass rfl (w1n2 rfl rfl rfl rfl) rfl rfl ?_
              refine tw_pass rfl (w1n2 rfl rfl rfl rfl) rfl rfl ?_
              refine tw_pass rfl (w1n2 rfl rfl rfl rfl) rfl rfl ?_
              refine tw_free rfl (w0 rfl) rfl rfl (fun u hu => (pv_pickT (v := (.bool true)) rfl rfl rfl : PV _ _ _ _) u) ?_
              refine tw_free rfl (w0 rfl) rfl rfl (fun u hu => (pv_move (v := (.bool true)) rfl rfl : PV _ _ _ _) u) ?_
              refine tw_pass rfl (w1n2 rfl rfl rfl rfl) rfl rfl ?_
              refine tw_pass rfl (w1n2 rfl rfl rfl rfl) rfl rfl ?_
              refine tw_pass rfl (w1n2 rfl rfl rfl rfl) rfl rfl ?_
              refine tw_pass rfl (w1n2 rfl rfl rfl rfl) rfl rfl ?_
              refine tw_pass rfl (w1n2 rfl rfl rfl rfl) rfl rfl ?_
              refine tw_pass rfl (w1n2 rfl rfl rfl rfl) rfl rfl ?_
              refine tw_pass rfl (w1n2 rfl rfl rfl rfl) rfl rfl ?_
              refine tw_pass rfl (w1n2 rfl rfl rfl rfl) rfl rfl ?_
              refine tw_pass rfl (w1u rfl rfl rfl) rfl rfl ?_
              refine tw_pass rfl (w1u rfl rfl rfl) rfl rfl ?_
              refine tw_pass rfl (w1u rfl rfl rfl) rfl rfl ?_
              refine tw_pass rfl (w1u rfl rfl rfl) rfl rfl ?_
              refine tw_pass rfl (w1u rfl rfl rfl) rfl rfl ?_
              refine tw_pass rfl (w1u rfl rfl rfl) rfl rfl ?_
              refine tw_pass rfl (w1u rfl rfl rfl) rfl rfl ?_
              refine tw_pass rfl (w1u rfl rfl rfl) rfl rfl ?_
              refine tw_pass rfl (w1u rfl rfl rfl) rfl rfl ?_
              refine tw_pass rfl (w1u rfl rfl rfl) rfl rfl ?_
              refine tw_pass rfl (w1u rfl rfl rfl) rfl rfl ?_
              refine tw_pass rfl (w1u rfl rfl rfl) rfl rfl ?_
              refine tw_pass rfl (w1u rfl rfl rfl) rfl rfl ?_
              refine tw_pass rfl (w1u rfl rfl rfl) rfl rfl ?_
              refine tw_pass rfl (w1u rfl rfl rfl) rfl rfl ?_
              refine tw_pass rfl (w1n2 rfl rfl rfl rfl) rfl rfl ?_
              refine tw_free rfl (w0 rfl) rfl rfl (fun u hu => (pv_pickT (v := (.bool true)) rfl rfl rfl : PV _ _ _ _) u) ?_
              clear hO28_r
              clear hO33_r
              clear hO46_r
              clear hO59_r
              clear hO89_r
              clear hR0_r
              refine tw_done (hK125 _ _ ?_)
              refine hK120 _ _ ?_
              refine cw_cond rfl (fun h130 => ?_) (fun h130 => ?_)
              · -- then
                clear h130
                refine cw_seq fun K131 hK132 => ?_
                refine cw_region fun K133 hK134 => ?_
                refine rw_cons (op_pv (w0 rfl) rfl rfl (pv_assign (v := (.bool false)) rfl rfl) ?_)
                refine rw_nil (hK134 _ _ ?_)
                refine hK132 _ _ ?_
                refine cw_ret ?_
                refine fin1 rfl ?_
                first
                  | exact ⟨rfl, hc⟩
                  | exact ⟨congrArg Value.bool (dec_yes hbo), hc⟩
                  | (exfalso; have hsq := hsp (by omega); omega)
              · -- else
                cases h130
            · -- no
              replace hb129 := of_decide_eq_false hb129
              refine tw_free rfl (w1y rfl rfl rfl rfl) rfl rfl (fun u hu => (pv_move (v := (.slice A44 (badV xs27 xs32).length c45)) rfl rfl : PV _ _ _ _) u) ?_
              refine tw_free rfl (w1y rfl rfl rfl rfl) rfl rfl (fun u hu => (pv_move (v := (.int .i64 (k : Int))) rfl rfl : PV _ _ _ _) u) ?_
              refine tw_free rfl (w1y rfl rfl rfl rfl) rfl rfl (fun u hu => (pv_idx Try.underlying22 T3 rfl rfl rfl ((hO46.rs (fun _ => rfl)).some (k := k) (by omega)) (by omega) (by omega) : PV _ _ _ _) u) ?_
              refine tw_free rfl (w1y rfl rfl rfl rfl) rfl rfl (fun u hu => lv_load T3 rfl rfl (((hO46_r.ch0 hu).rs (fun _ => rfl)).cell0 (k := k) (by omega) rfl)) ?_
              refine tw_free rfl (w1y rfl rfl rfl rfl) rfl rfl (fun u hu => (pv_lss rfl rfl rfl : PV _ _ _ _) u) ?_
              refine tw_free rfl (w0 rfl) rfl rfl (fun u hu => (pv_pickF (v := (.bool (decide ((el (badV xs27 xs32) k) < 0)))) rfl rfl rfl : PV _ _ _ _) u) ?_
              refine tw_free rfl (w0 rfl) rfl rfl (fun u hu => (pv_move (v := (.bool (decide ((el (badV xs27 xs32) k) < 0)))) rfl rfl : PV _ _ _ _) u) ?_
              refine tw_split 68 rfl (fun hb135 => ?_) (fun hb135 => ?_)
              · -- yes
                replace hb135 := of_decide_eq_true hb135
                refine tw_pass rfl (w1n2 rfl rfl rfl rfl) rfl rfl ?_
                refine tw_pass rfl (w1n2 rfl rfl rfl rfl) rfl rfl ?_
                refine tw_pass rfl (w1n2 rfl rfl rfl rfl) rfl rfl ?_
                refine tw_pass rfl (w1n2 rfl rfl rfl rfl) rfl rfl ?_
                refine tw_pass rfl (w1n2 rfl rfl rfl rfl) rfl rfl ?_
                refine tw_pass rfl (w1n2 rfl rfl rfl rfl) rfl rfl ?_
                refine tw_pass rfl (w1n2 rfl rfl rfl rfl) rfl rfl ?_
                refine tw_free rfl (w0 rfl) rfl rfl (fun u hu => (pv_pickT (v := (.bool true)) rfl rfl rfl : PV _ _ _ _) u) ?_
                refine tw_free rfl (w0 rfl) rfl rfl (fun u hu => (pv_move (v := (.bool true)) rfl rfl : PV _ _ _ _) u) ?_
                refine tw_pass rfl (w1n2 rfl rfl rfl rfl) rfl rfl ?_
                refine tw_pass rfl (w1n2 rfl rfl rfl rfl) rfl rfl ?_
                refine tw_pass rfl (w1n2 rfl rfl rfl rfl) rfl rfl ?_
                refine tw_pass rfl (w1n2 rfl rfl rfl rfl) rfl rfl ?_
                refine tw_pass rfl (w1n2 rfl rfl rfl rfl) rfl rfl ?_
                refine tw_pass rfl (w1n2 rfl rfl rfl rfl) rfl rfl ?_
                refine tw_pass rfl (w1n2 rfl rfl rfl rfl) rfl rfl ?_
                refine tw_pass rfl (w1n2 rfl rfl rfl rfl) rfl rfl ?_
                refine tw_pass rfl (w1u rfl rfl rfl) rfl rfl ?_
                refine tw_pass rfl (w1u rfl rfl rfl) rfl rfl ?_
                refine tw_pass rfl (w1u rfl rfl rfl) rfl rfl ?_
                refine tw_pass rfl (w1u rfl rfl rfl) rfl rfl ?_
                refine tw_pass rfl (w1u rfl rfl rfl) rfl rfl ?_
                refine tw_pass rfl (w1u rfl rfl rfl) rfl rfl ?_
                refine tw_pass rfl (w1u rfl rfl rfl) rfl rfl ?_
                refine tw_pass rfl (w1u rfl rfl rfl) rfl rfl ?_
                refine tw_pass rfl (w1u rfl rfl rfl) rfl rfl ?_
                refine tw_pass rfl (w1u rfl rfl rfl) rfl rfl ?_
                refine tw_pass rfl (w1u rfl rfl rfl) rfl rfl ?_
                refine tw_pass rfl (w1u rfl rfl rfl) rfl rfl ?_
                refine tw_pass rfl (w1u rfl rfl rfl) rfl rfl ?_
                refine tw_pass rfl (w1u rfl rfl rfl) rfl rfl ?_
                refine tw_pass rfl (w1u rfl rfl rfl) rfl rfl ?_
                refine tw_pass rfl (w1n2 rfl rfl rfl rfl) rfl rfl ?_
                refine tw_free rfl (w0 rfl) rfl rfl (fun u hu => (pv_pickT (v := (.bool true)) rfl rfl rfl : PV _ _ _ _) u) ?_
                clear hO28_r
                clear hO33_r
                clear hO46_r
                clear hO59_r
                clear hO89_r
                clear hR0_r
                refine tw_done (hK125 _ _ ?_)
                refine hK120 _ _ ?_
                refine cw_cond rfl (fun h136 => ?_) (fun h136 => ?_)
                · -- then
                  clear h136
                  refine cw_seq fun K137 hK138 => ?_
                  refine cw_region fun K139 hK140 => ?_
                  refine rw_cons (op_pv (w0 rfl) rfl rfl (pv_assign (v := (.bool false)) rfl rfl) ?_)
                  refine rw_nil (hK140 _ _ ?_)
                  refine hK138 _ _ ?_
                  refine cw_ret ?_
                  refine fin1 rfl ?_
                  first
                    | exact ⟨rfl, hc⟩
                    | exact ⟨congrArg Value.bool (dec_yes hbo), hc⟩
                    | (exfalso; have hsq := hsp (by omega); omega)
                · -- else
                  cases h136
              · -- no
                replace hb135 := of_decide_eq_false hb135
                refine tw_free rfl (w1y rfl rfl rfl rfl) rfl rfl (fun u hu => (pv_move (v := (.slice A44 (badV xs27 xs32).length c45)) rfl rfl : PV _ _ _ _) u) ?_
                refine tw_free rfl (w1y rfl rfl rfl rfl) rfl rfl (fun u hu => (pv_move (v := (.int .i64 (k : Int))) rfl rfl : PV _ _ _ _) u) ?_
                refine tw_free rfl (w1y rfl rfl rfl rfl) rfl rfl (fun u hu => (pv_idx Try.underlying22 T3 rfl rfl rfl ((hO46.rs (fun _ => rfl)).some (k := k) (by omega)) (by omega) (by omega) : PV _ _ _ _) u) ?_
                refine tw_free rfl (w1y rfl rfl rfl rfl) rfl rfl (fun u hu => lv_load T3 rfl rfl (((hO46_r.ch0 hu).rs (fun _ => rfl)).cell0 (k := k) (by omega) rfl)) ?_
                refine tw_free rfl (w1y rfl rfl rfl rfl) rfl rfl (fun u hu => (pv_move (v := (.slice A87 (sumsV xs27).length c88)) rfl rfl : PV _ _ _ _) u) ?_
                refine tw_free rfl (w1y rfl rfl rfl rfl) rfl rfl (fun u hu => (pv_len Try.underlying22 rfl rfl : PV _ _ _ _) u) ?_
                refine tw_free rfl (w1y rfl rfl rfl rfl) rfl rfl (fun u hu => (pv_geq rfl rfl rfl : PV _ _ _ _) u) ?_
                refine tw_free rfl (w0 rfl) rfl rfl (fun u hu => (pv_pickF (v := (.bool (decide (((sumsV xs27).length : Int) ≤ (el (badV xs27 xs32) k))))) rfl rfl rfl : PV _ _ _ _) u) ?_
                refine tw_free rfl (w0 rfl) rfl rfl (fun u hu => (pv_move (v := (.bool (decide (((sumsV xs27).length : Int) ≤ (el (badV xs27 xs32) k))))) rfl rfl : PV _ _ _ _) u) ?_
                refine tw_split 77 rfl (fun hb141 => ?_) (fun hb141 => ?_)
                · -- yes
                  replace hb141 := of_decide_eq_true hb141
                  refine tw_pass rfl (w1n2 rfl rfl rfl rfl) rfl rfl ?_
                  refine tw_pass rfl (w1n2 rfl rfl rfl rfl) rfl rfl ?_
                  refine tw_pass rfl (w1n2 rfl rfl rfl rfl) rfl rfl ?_
                  refine tw_pass rfl (w1n2 rfl rfl rfl rfl) rfl rfl ?_
                  refine tw_pass rfl (w1n2 rfl rfl rfl rfl) rfl rfl ?_
                  refine tw_pass rfl (w1n2 rfl rfl rfl rfl) rfl rfl ?_
                  refine tw_pass rfl (w1n2 rfl rfl rfl rfl) rfl rfl ?_
                  refine tw_pass rfl (w1n2 rfl rfl rfl rfl) rfl rfl ?_
                  refine tw_pass rfl (w1u rfl rfl rfl) rfl rfl ?_
                  refine tw_pass rfl (w1u rfl rfl rfl) rfl rfl ?_
                  refine tw_pass rfl (w1u rfl rfl rfl) rfl rfl ?_
                  refine tw_pass rfl (w1u rfl rfl rfl) rfl rfl ?_
                  refine tw_pass rfl (w1u rfl rfl rfl) rfl rfl ?_
                  refine tw_pass rfl (w1u rfl rfl rfl) rfl rfl ?_
                  refine tw_pass rfl (w1u rfl rfl rfl) rfl rfl ?_
                  refine tw_pass rfl (w1u rfl rfl rfl) rfl rfl ?_
                  refine tw_pass rfl (w1u rfl rfl rfl) rfl rfl ?_
                  refine tw_pass rfl (w1u rfl rfl rfl) rfl rfl ?_
                  refine tw_pass rfl (w1u rfl rfl rfl) rfl rfl ?_
                  refine tw_pass rfl (w1u rfl rfl rfl) rfl rfl ?_
                  refine tw_pass rfl (w1u rfl rfl rfl) rfl rfl ?_
                  refine tw_pass rfl (w1u rfl rfl rfl) rfl rfl ?_
                  refine tw_pass rfl (w1u rfl rfl rfl) rfl rfl ?_
                  refine tw_pass rfl (w1n2 rfl rfl rfl rfl) rfl rfl ?_
                  refine tw_free rfl (w0 rfl) rfl rfl (fun u hu => (pv_pickT (v := (.bool true)) rfl rfl rfl : PV _ _ _ _) u) ?_
                  clear hO28_r
                  clear hO33_r
                  clear hO46_r
                  clear hO59_r
                  clear hO89_r
                  clear hR0_r
                  refine tw_done (hK125 _ _ ?_)
                  refine hK120 _ _ ?_
                  refine cw_cond rfl (fun h142 => ?_) (fun h142 => ?_)
                  · -- then
                    clear h142
                    refine cw_seq fun K143 hK144 => ?_
                    refine cw_region fun K145 hK146 => ?_
                    refine rw_cons (op_pv (w0 rfl) rfl rfl (pv_assign (v := (.bool false)) rfl rfl) ?_)
                    refine rw_nil (hK146 _ _ ?_)
                    refine hK144 _ _ ?_
                    refine cw_ret ?_
                    refine fin1 rfl ?_
                    first
                      | exact ⟨rfl, hc⟩
                      | exact ⟨congrArg Value.bool (dec_yes hbo), hc⟩
                      | (exfalso; have hsq := hsp (by omega); omega)
                  · -- else
                    cases h142
                · -- no
                  replace hb141 := of_decide_eq_false hb141
                  refine tw_free rfl (w1y rfl rfl rfl rfl) rfl rfl (fun u hu => (pv_move (v := (.slice A44 (badV xs27 xs32).length c45)) rfl rfl : PV _ _ _ _) u) ?_
                  refine tw_free rfl (w1y rfl rfl rfl rfl) rfl rfl (fun u hu => (pv_move (v := (.int .i64 (k : Int))) rfl rfl : PV _ _ _ _) u) ?_
                  refine tw_free rfl (w1y rfl rfl rfl rfl) rfl rfl (fun u hu => (pv_idx Try.underlying22 T3 rfl rfl rfl ((hO46.rs (fun _ => rfl)).some (k := k) (by omega)) (by omega) (by omega) : PV _ _ _ _) u) ?_
                  refine tw_free rfl (w1y rfl rfl rfl rfl) rfl rfl (fun u hu => lv_load T3 rfl rfl (((hO46_r.ch0 hu).rs (fun _ => rfl)).cell0 (k := k) (by omega) rfl)) ?_
                  refine tw_free rfl (w1y rfl rfl rfl rfl) rfl rfl (fun u hu => (pv_move (v := (.slice A30 xs32.length c31)) rfl rfl : PV _ _ _ _) u) ?_
                  refine tw_free rfl (w1y rfl rfl rfl rfl) rfl rfl (fun u hu => (pv_len Try.underlying22 rfl rfl : PV _ _ _ _) u) ?_
                  refine tw_free rfl (w1y rfl rfl rfl rfl) rfl rfl (fun u hu => (pv_lss rfl rfl rfl : PV _ _ _ _) u) ?_
                  refine tw_free rfl (w1y rfl rfl rfl rfl) rfl rfl (fun u hu => (pv_move (v := (.bool (decide ((el (badV xs27 xs32) k) < (xs32.length : Int))))) rfl rfl : PV _ _ _ _) u) ?_
                  refine tw_split 85 rfl (fun hb147 => ?_) (fun hb147 => ?_)
                  · -- yes
                    replace hb147 := of_decide_eq_true hb147
                    refine tw_free rfl (w1y rfl rfl rfl rfl) rfl rfl (fun u hu => (pv_move (v := (.slice A30 xs32.length c31)) rfl rfl : PV _ _ _ _) u) ?_
                    refine tw_free rfl (w1y rfl rfl rfl rfl) rfl rfl (fun u hu => (pv_move (v := (.slice A44 (badV xs27 xs32).length c45)) rfl rfl : PV _ _ _ _) u) ?_
                    refine tw_free rfl (w1y rfl rfl rfl rfl) rfl rfl (fun u hu => (pv_move (v := (.int .i64 (k : Int))) rfl rfl : PV _ _ _ _) u) ?_
                    refine tw_free rfl (w1y rfl rfl rfl rfl) rfl rfl (fun u hu => (pv_idx Try.underlying22 T3 rfl rfl rfl ((hO46.rs (fun _ => rfl)).some (k := k) (by omega)) (by omega) (by omega) : PV _ _ _ _) u) ?_
                    refine tw_free rfl (w1y rfl rfl rfl rfl) rfl rfl (fun u hu => lv_load T3 rfl rfl (((hO46_r.ch0 hu).rs (fun _ => rfl)).cell0 (k := k) (by omega) rfl)) ?_
                    refine tw_free rfl (w1y rfl rfl rfl rfl) rfl rfl (fun u hu => (pv_idx Try.underlying22 T3 rfl rfl rfl ((hO33.rs (fun _ => rfl)).some (k := ((el (badV xs27 xs32) k)).toNat) (by omega)) (by omega) (by omega) : PV _ _ _ _) u) ?_
                    refine tw_free rfl (w1y rfl rfl rfl rfl) rfl rfl (fun u hu => lv_load T3 rfl rfl (((hO33_r.ch0 hu).rs (fun _ => rfl)).cell0 (k := ((el (badV xs27 xs32) k)).toNat) (by omega) rfl)) ?_
                    refine tw_free rfl (w1y rfl rfl rfl rfl) rfl rfl (fun u hu => (pv_move (v := (.slice A87 (sumsV xs27).length c88)) rfl rfl : PV _ _ _ _) u) ?_
                    refine tw_free rfl (w1y rfl rfl rfl rfl) rfl rfl (fun u hu => (pv_move (v := (.slice A44 (badV xs27 xs32).length c45)) rfl rfl : PV _ _ _ _) u) ?_
                    refine tw_free rfl (w1y rfl rfl rfl rfl) rfl rfl (fun u hu => (pv_move (v := (.int .i64 (k : Int))) rfl rfl : PV _ _ _ _) u) ?_
                    refine tw_free rfl (w1y rfl rfl rfl rfl) rfl rfl (fun u hu => (pv_idx Try.underlying22 T3 rfl rfl rfl ((hO46.rs (fun _ => rfl)).some (k := k) (by omega)) (by omega) (by omega) : PV _ _ _ _) u) ?_
                    refine tw_free rfl (w1y rfl rfl rfl rfl) rfl rfl (fun u hu => lv_load T3 rfl rfl (((hO46_r.ch0 hu).rs (fun _ => rfl)).cell0 (k := k) (by omega) rfl)) ?_
                    refine tw_free rfl (w1y rfl rfl rfl rfl) rfl rfl (fun u hu => (pv_idx Try.underlying22 T3 rfl rfl rfl ((hO89.rs (fun _ => rfl)).some (k := ((el (badV xs27 xs32) k)).toNat) (by omega)) (by omega) (by omega) : PV _ _ _ _) u) ?_
                    refine tw_free rfl (w1y rfl rfl rfl rfl) rfl rfl (fun u hu => lv_load T3 rfl rfl (((hO89_r.ch0 hu).rs (fun _ => rfl)).cell0 (k := ((el (badV xs27 xs32) k)).toNat) (by omega) rfl)) ?_
                    refine tw_free rfl (w1y rfl rfl rfl rfl) rfl rfl (fun u hu => (pv_eql rfl rfl rfl : PV _ _ _ _) u) ?_
                    refine tw_free rfl (w1y rfl rfl rfl rfl) rfl rfl (fun u hu => (pv_pickT (v := (.bool (decide (((el xs32 ((el (badV xs27 xs32) k)).toNat) : Int) = (el (sumsV xs27) ((el (badV xs27 xs32) k)).toNat))))) rfl rfl rfl : PV _ _ _ _) u) ?_
                    refine tw_free rfl (w0 rfl) rfl rfl (fun u hu => (pv_pickF (v := (.bool (decide (((el xs32 ((el (badV xs27 xs32) k)).toNat) : Int) = (el (sumsV xs27) ((el (badV xs27 xs32) k)).toNat))))) rfl rfl rfl : PV _ _ _ _) u) ?_
                    clear hO28_r
                    clear hO33_r
                    clear hO46_r
                    clear hO59_r
                    clear hO89_r
                    clear hR0_r
                    refine tw_done (hK125 _ _ ?_)
                    refine hK120 _ _ ?_
                    refine cw_cond rfl (fun h148 => ?_) (fun h148 => ?_)
                    · -- then
                      replace h148 := of_decide_eq_true h148
                      refine cw_seq fun K149 hK150 => ?_
                      refine cw_region fun K151 hK152 => ?_
                      refine rw_cons (op_pv (w0 rfl) rfl rfl (pv_assign (v := (.bool false)) rfl rfl) ?_)
                      refine rw_nil (hK152 _ _ ?_)
                      refine hK150 _ _ ?_
                      refine cw_ret ?_
                      refine fin1 rfl ?_
                      first
                        | exact ⟨rfl, hc⟩
                        | exact ⟨congrArg Value.bool (dec_yes hbo), hc⟩
                        | (exfalso; have hsq := hsp (by omega); omega)
                    · -- else
                      replace h148 := of_decide_eq_false h148
                      refine cw_skip ?_
                      refine hK118 _ _ ?_
                      refine cw_region fun K153 hK154 => ?_
                      refine rw_cons (op_pv (w0 rfl) rfl rfl (pv_move (v := (.int .i64 (k : Int))) rfl rfl) ?_)
                      refine rw_cons (op_pv (w0 rfl) rfl rfl (pv_add rfl rfl rfl (by omega) (by omega)) ?_)
                      refine rw_cons (op_pv (w0 rfl) rfl rfl (pv_assign (v := (.int .i64 ((k : Int) + 1))) rfl rfl) ?_)
                      refine rw_nil (hK154 _ _ ?_)
                      refine hK105 _ _ (k + 1) ⟨(iv (by omega)), rfl, rfl, rfl, rfl, trivial⟩ ⟨?_, hR0, hO28, hO33, hO46, hO59, hO89, hc, (by omega), (by omega), (by omega)⟩ ?_
                      · omega
                      · (first | omega | (simp only []; omega))
                  · -- no
                    replace hb147 := of_decide_eq_false hb147
                    refine tw_pass rfl (w1n1 rfl rfl rfl rfl) rfl rfl ?_
                    refine tw_pass rfl (w1n1 rfl rfl rfl rfl) rfl rfl ?_
                    refine tw_pass rfl (w1n1 rfl rfl rfl rfl) rfl rfl ?_
                    refine tw_pass rfl (w1n1 rfl rfl rfl rfl) rfl rfl ?_
                    refine tw_pass rfl (w1n1 rfl rfl rfl rfl) rfl rfl ?_
                    refine tw_pass rfl (w1n1 rfl rfl rfl rfl) rfl rfl ?_
                    refine tw_pass rfl (w1n1 rfl rfl rfl rfl) rfl rfl ?_
                    refine tw_pass rfl (w1n1 rfl rfl rfl rfl) rfl rfl ?_
                    refine tw_pass rfl (w1n1 rfl rfl rfl rfl) rfl rfl ?_
                    refine tw_pass rfl (w1n1 rfl rfl rfl rfl) rfl rfl ?_
                    refine tw_pass rfl (w1n1 rfl rfl rfl rfl) rfl rfl ?_
                    refine tw_pass rfl (w1n1 rfl rfl rfl rfl) rfl rfl ?_
                    refine tw_pass rfl (w1n1 rfl rfl rfl rfl) rfl rfl ?_
                    refine tw_pass rfl (w1n1 rfl rfl rfl rfl) rfl rfl ?_
                    refine tw_pass rfl (w1n1 rfl rfl rfl rfl) rfl rfl ?_
                    refine tw_free rfl (w1y rfl rfl rfl rfl) rfl rfl (fun u hu => (pv_pickF (v := (.bool false)) rfl rfl rfl : PV _ _ _ _) u) ?_
                    refine tw_free rfl (w0 rfl) rfl rfl (fun u hu => (pv_pickF (v := (.bool false)) rfl rfl rfl : PV _ _ _ _) u) ?_
                    clear hO28_r
                    clear hO33_r
                    clear hO46_r
                    clear hO59_r
                    clear hO89_r
                    clear hR0_r
                    refine tw_done (hK125 _ _ ?_)
                    refine hK120 _ _ ?_
                    refine cw_cond rfl (fun h155 => ?_) (fun h155 => ?_)
                    · -- then
                      cases h155
                    · -- else
                      clear h155
                      refine cw_skip ?_
                      refine hK118 _ _ ?_
                      refine cw_region fun K156 hK157 => ?_
                      refine rw_cons (op_pv (w0 rfl) rfl rfl (pv_move (v := (.int .i64 (k : Int))) rfl rfl) ?_)
                      refine rw_cons (op_pv (w0 rfl) rfl rfl (pv_add rfl rfl rfl (by omega) (by omega)) ?_)
                      refine rw_cons (op_pv (w0 rfl) rfl rfl (pv_assign (v := (.int .i64 ((k : Int) + 1))) rfl rfl) ?_)
                      refine rw_nil (hK157 _ _ ?_)
                      refine hK105 _ _ (k + 1) ⟨(iv (by omega)), rfl, rfl, rfl, rfl, trivial⟩ ⟨?_, hR0, hO28, hO33, hO46, hO59, hO89, hc, (by omega), (by omega), (by omega)⟩ ?_
                      · omega
                      · (first | omega | (simp only []; omega))
          · -- no
            replace hb128 := of_decide_eq_false hb128
            refine tw_pass rfl (w1n1 rfl rfl rfl rfl) rfl rfl ?_
            refine tw_pass rfl (w1n1 rfl rfl rfl rfl) rfl rfl ?_
            refine tw_pass rfl (w1n1 rfl rfl rfl rfl) rfl rfl ?_
            refine tw_pass rfl (w1n1 rfl rfl rfl rfl) rfl rfl ?_
            refine tw_pass rfl (w1n1 rfl rfl rfl rfl) rfl rfl ?_
            refine tw_pass rfl (w1n1 rfl rfl rfl rfl) rfl rfl ?_
            refine tw_pass rfl (w1n1 rfl rfl rfl rfl) rfl rfl ?_
            refine tw_pass rfl (w1n1 rfl rfl rfl rfl) rfl rfl ?_
            refine tw_pass rfl (w1n1 rfl rfl rfl rfl) rfl rfl ?_
            refine tw_pass rfl (w1n1 rfl rfl rfl rfl) rfl rfl ?_
            refine tw_free rfl (w0 rfl) rfl rfl (fun u hu => (pv_pickF (v := (.bool false)) rfl rfl rfl : PV _ _ _ _) u) ?_
            refine tw_free rfl (w0 rfl) rfl rfl (fun u hu => (pv_move (v := (.bool false)) rfl rfl : PV _ _ _ _) u) ?_
            refine tw_free rfl (w1y rfl rfl rfl rfl) rfl rfl (fun u hu => (pv_move (v := (.slice A44 (badV xs27 xs32).length c45)) rfl rfl : PV _ _ _ _) u) ?_
            refine tw_free rfl (w1y rfl rfl rfl rfl) rfl rfl (fun u hu => (pv_move (v := (.int .i64 (k : Int))) rfl rfl : PV _ _ _ _) u) ?_
            refine tw_free rfl (w1y rfl rfl rfl rfl) rfl rfl (fun u hu => (pv_idx Try.underlying22 T3 rfl rfl rfl ((hO46.rs (fun _ => rfl)).some (k := k) (by omega)) (by omega) (by omega) : PV _ _ _ _) u) ?_
            refine tw_free rfl (w1y rfl rfl rfl rfl) rfl rfl (fun u hu => lv_load T3 rfl rfl (((hO46_r.ch0 hu).rs (fun _ => rfl)).cell0 (k := k) (by omega) rfl)) ?_
            refine tw_free rfl (w1y rfl rfl rfl rfl) rfl rfl (fun u hu => (pv_lss rfl rfl rfl : PV _ _ _ _) u) ?_
            refine tw_free rfl (w0 rfl) rfl rfl (fun u hu => (pv_pickF (v := (.bool (decide ((el (badV xs27 xs32) k) < 0)))) rfl rfl rfl : PV _ _ _ _) u) ?_
            refine tw_free rfl (w0 rfl) rfl rfl (fun u hu => (pv_move (v := (.bool (decide ((el (badV xs27 xs32) k) < 0)))) rfl rfl : PV _ _ _ _) u) ?_
            refine tw_split 68 rfl (fun hb158 => ?_) (fun hb158 => ?_)
            · -- yes
              replace hb158 := of_decide_eq_true hb158
              refine tw_pass rfl (w1n2 rfl rfl rfl rfl) rfl rfl ?_
              refine tw_pass rfl (w1n2 rfl rfl rfl rfl) rfl rfl ?_
              refine tw_pass rfl (w1n2 rfl rfl rfl rfl) rfl rfl ?_
              refine tw_pass rfl (w1n2 rfl rfl rfl rfl) rfl rfl ?_
              refine tw_pass rfl (w1n2 rfl rfl rfl rfl) rfl rfl ?_
              refine tw_pass rfl (w1n2 rfl rfl rfl rfl) rfl rfl ?_
              refine tw_pass rfl (w1n2 rfl rfl rfl rfl) rfl rfl ?_
              refine tw_free rfl (w0 rfl) rfl rfl (fun u hu => (pv_pickT (v := (.bool true)) rfl rfl rfl : PV _ _ _ _) u) ?_
              refine tw_free rfl (w0 rfl) rfl rfl (fun u hu => (pv_move (v := (.bool true)) rfl rfl : PV _ _ _ _) u) ?_
              refine tw_pass rfl (w1n2 rfl rfl rfl rfl) rfl rfl ?_
              refine tw_pass rfl (w1n2 rfl rfl rfl rfl) rfl rfl ?_
              refine tw_pass rfl (w1n2 rfl rfl rfl rfl) rfl rfl ?_
              refine tw_pass rfl (w1n2 rfl rfl rfl rfl) rfl rfl ?_
              refine tw_pass rfl (w1n2 rfl rfl rfl rfl) rfl rfl ?_
              refine tw_pass rfl (w1n2 rfl rfl rfl rfl) rfl rfl ?_
              refine tw_pass rfl (w1n2 rfl rfl rfl rfl) rfl rfl ?_
              refine tw_pass rfl (w1n2 rfl rfl rfl rfl) rfl rfl ?_
              refine tw_pass rfl (w1u rfl rfl rfl) rfl rfl ?_
              refine tw_pass rfl (w1u rfl rfl rfl) rfl rfl ?_
              refine tw_pass rfl (w1u rfl rfl rfl) rfl rfl ?_
              refine tw_pass rfl (w1u rfl rfl rfl) rfl rfl ?_
              refine tw_pass rfl (w1u rfl rfl rfl) rfl rfl ?_
              refine tw_pass rfl (w1u rfl rfl rfl) rfl rfl ?_
              refine tw_pass rfl (w1u rfl rfl rfl) rfl rfl ?_
              refine tw_pass rfl (w1u rfl rfl rfl) rfl rfl ?_
              refine tw_pass rfl (w1u rfl rfl rfl) rfl rfl ?_
              refine tw_pass rfl (w1u rfl rfl rfl) rfl rfl ?_
              refine tw_pass rfl (w1u rfl rfl rfl) rfl rfl ?_
              refine tw_pass rfl (w1u rfl rfl rfl) rfl rfl ?_
              refine tw_pass rfl (w1u rfl rfl rfl) rfl rfl ?_
              refine tw_pass rfl (w1u rfl rfl rfl) rfl rfl ?_
              refine tw_pass rfl (w1u rfl rfl rfl) rfl rfl ?_
              refine tw_pass rfl (w1n2 rfl rfl rfl rfl) rfl rfl ?_
              refine tw_free rfl (w0 rfl) rfl rfl (fun u hu => (pv_pickT (v := (.bool true)) rfl rfl rfl : PV _ _ _ _) u) ?_
              clear hO28_r
              clear hO33_r
              clear hO46_r
              clear hO59_r
              clear hO89_r
              clear hR0_r
              refine tw_done (hK125 _ _ ?_)
              refine hK120 _ _ ?_
              refine cw_cond rfl (fun h159 => ?_) (fun h159 => ?_)
              · -- then
                clear h159
                refine cw_seq fun K160 hK161 => ?_
                refine cw_region fun K162 hK163 => ?_
                refine rw_cons (op_pv (w0 rfl) rfl rfl (pv_assign (v := (.bool false)) rfl rfl) ?_)
                refine rw_nil (hK163 _ _ ?_)
                refine hK161 _ _ ?_
                refine cw_ret ?_
                refine fin1 rfl ?_
                first
                  | exact ⟨rfl, hc⟩
                  | exact ⟨congrArg Value.bool (dec_yes hbo), hc⟩
                  | (exfalso; have hsq := hsp (by omega); omega)
              · -- else
                cases h159
            · -- no
              replace hb158 := of_decide_eq_false hb158
              refine tw_free rfl (w1y rfl rfl rfl rfl) rfl rfl (fun u hu => (pv_move (v := (.slice A44 (badV xs27 xs32).length c45)) rfl rfl : PV _ _ _ _) u) ?_
              refine tw_free rfl (w1y rfl rfl rfl rfl) rfl rfl (fun u hu => (pv_move (v := (.int .i64 (k : Int))) rfl rfl : PV _ _ _ _) u) ?_
              refine tw_free rfl (w1y rfl rfl rfl rfl) rfl rfl (fun u hu => (pv_idx Try.underlying22 T3 rfl rfl rfl ((hO46.rs (fun _ => rfl)).some (k := k) (by omega)) (by omega) (by omega) : PV _ _ _ _) u) ?_
              refine tw_free rfl (w1y rfl rfl rfl rfl) rfl rfl (fun u hu => lv_load T3 rfl rfl (((hO46_r.ch0 hu).rs (fun _ => rfl)).cell0 (k := k) (by omega) rfl)) ?_
              refine tw_free rfl (w1y rfl rfl rfl rfl) rfl rfl (fun u hu => (pv_move (v := (.slice A87 (sumsV xs27).length c88)) rfl rfl : PV _ _ _ _) u) ?_
              refine tw_free rfl (w1y rfl rfl rfl rfl) rfl rfl (fun u hu => (pv_len Try.underlying22 rfl rfl : PV _ _ _ _) u) ?_
              refine tw_free rfl (w1y rfl rfl rfl rfl) rfl rfl (fun u hu => (pv_geq rfl rfl rfl : PV _ _ _ _) u) ?_
              refine tw_free rfl (w0 rfl) rfl rfl (fun u hu => (pv_pickF (v := (.bool (decide (((sumsV xs27).length : Int) ≤ (el (badV xs27 xs32) k))))) rfl rfl rfl : PV _ _ _ _) u) ?_
              refine tw_free rfl (w0 rfl) rfl rfl (fun u hu => (pv_move (v := (.bool (decide (((sumsV xs27).length : Int) ≤ (el (badV xs27 xs32) k))))) rfl rfl : PV _ _ _ _) u) ?_
              refine tw_split 77 rfl (fun hb164 => ?_) (fun hb164 => ?_)
              · -- yes
                replace hb164 := of_decide_eq_true hb164
                refine tw_pass rfl (w1n2 rfl rfl rfl rfl) rfl rfl ?_
                refine tw_pass rfl (w1n2 rfl rfl rfl rfl) rfl rfl ?_
                refine tw_pass rfl (w1n2 rfl rfl rfl rfl) rfl rfl ?_
                refine tw_pass rfl (w1n2 rfl rfl rfl rfl) rfl rfl ?_
                refine tw_pass rfl (w1n2 rfl rfl rfl rfl) rfl rfl ?_
                refine tw_pass rfl (w1n2 rfl rfl rfl rfl) rfl rfl ?_
                refine tw_pass rfl (w1n2 rfl rfl rfl rfl) rfl rfl ?_
                refine tw_pass rfl (w1n2 rfl rfl rfl rfl) rfl rfl ?_
                refine tw_pass rfl (w1u rfl rfl rfl) rfl rfl ?_
                refine tw_pass rfl (w1u rfl rfl rfl) rfl rfl ?_
                refine tw_pass rfl (w1u rfl rfl rfl) rfl rfl ?_
                refine tw_pass rfl (w1u rfl rfl rfl) rfl rfl ?_
                refine tw_pass rfl (w1u rfl rfl rfl) rfl rfl ?_
                refine tw_pass rfl (w1u rfl rfl rfl) rfl rfl ?_
                refine tw_pass rfl (w1u rfl rfl rfl) rfl rfl ?_
                refine tw_pass rfl (w1u rfl rfl rfl) rfl rfl ?_
                refine tw_pass rfl (w1u rfl rfl rfl) rfl rfl ?_
                refine tw_pass rfl (w1u rfl rfl rfl) rfl rfl ?_
                refine tw_pass rfl (w1u rfl rfl rfl) rfl rfl ?_
                refine tw_pass rfl (w1u rfl rfl rfl) rfl rfl ?_
                refine tw_pass rfl (w1u rfl rfl rfl) rfl rfl ?_
                refine tw_pass rfl (w1u rfl rfl rfl) rfl rfl ?_
                refine tw_pass rfl (w1u rfl rfl rfl) rfl rfl ?_
                refine tw_pass rfl (w1n2 rfl rfl rfl rfl) rfl rfl ?_
                refine tw_free rfl (w0 rfl) rfl rfl (fun u hu => (pv_pickT (v := (.bool true)) rfl rfl rfl : PV _ _ _ _) u) ?_
                clear hO28_r
                clear hO33_r
                clear hO46_r
                clear hO59_r
                clear hO89_r
                clear hR0_r
                refine tw_done (hK125 _ _ ?_)
                refine hK120 _ _ ?_
                refine cw_cond rfl (fun h165 => ?_) (fun h165 => ?_)
                · -- then
                  clear h165
                  refine cw_seq fun K166 hK167 => ?_
                  refine cw_region fun K168 hK169 => ?_
                  refine rw_cons (op_pv (w0 rfl) rfl rfl (pv_assign (v := (.bool false)) rfl rfl) ?_)
                  refine rw_nil (hK169 _ _ ?_)
                  refine hK167 _ _ ?_
                  refine cw_ret ?_
                  refine fin1 rfl ?_
                  first
                    | exact ⟨rfl, hc⟩
                    | exact ⟨congrArg Value.bool (dec_yes hbo), hc⟩
                    | (exfalso; have hsq := hsp (by omega); omega)
                · -- else
                  cases h165
              · -- no
                replace hb164 := of_decide_eq_false hb164
                refine tw_free rfl (w1y rfl rfl rfl rfl) rfl rfl (fun u hu => (pv_move (v := (.slice A44 (badV xs27 xs32).length c45)) rfl rfl : PV _ _ _ _) u) ?_
                refine tw_free rfl (w1y rfl rfl rfl rfl) rfl rfl (fun u hu => (pv_move (v := (.int .i64 (k : Int))) rfl rfl : PV _ _ _ _) u) ?_
                refine tw_free rfl (w1y rfl rfl rfl rfl) rfl rfl (fun u hu => (pv_idx Try.underlying22 T3 rfl rfl rfl ((hO46.rs (fun _ => rfl)).some (k := k) (by omega)) (by omega) (by omega) : PV _ _ _ _) u) ?_
                refine tw_free rfl (w1y rfl rfl rfl rfl) rfl rfl (fun u hu => lv_load T3 rfl rfl (((hO46_r.ch0 hu).rs (fun _ => rfl)).cell0 (k := k) (by omega) rfl)) ?_
                refine tw_free rfl (w1y rfl rfl rfl rfl) rfl rfl (fun u hu => (pv_move (v := (.slice A30 xs32.length c31)) rfl rfl : PV _ _ _ _) u) ?_
                refine tw_free rfl (w1y rfl rfl rfl rfl) rfl rfl (fun u hu => (pv_len Try.underlying22 rfl rfl : PV _ _ _ _) u) ?_
                refine tw_free rfl (w1y rfl rfl rfl rfl) rfl rfl (fun u hu => (pv_lss rfl rfl rfl : PV _ _ _ _) u) ?_
                refine tw_free rfl (w1y rfl rfl rfl rfl) rfl rfl (fun u hu => (pv_move (v := (.bool (decide ((el (badV xs27 xs32) k) < (xs32.length : Int))))) rfl rfl : PV _ _ _ _) u) ?_
                refine tw_split 85 rfl (fun hb170 => ?_) (fun hb170 => ?_)
                · -- yes
                  replace hb170 := of_decide_eq_true hb170
                  refine tw_free rfl (w1y rfl rfl rfl rfl) rfl rfl (fun u hu => (pv_move (v := (.slice A30 xs32.length c31)) rfl rfl : PV _ _ _ _) u) ?_
                  refine tw_free rfl (w1y rfl rfl rfl rfl) rfl rfl (fun u hu => (pv_move (v := (.slice A44 (badV xs27 xs32).length c45)) rfl rfl : PV _ _ _ _) u) ?_
                  refine tw_free rfl (w1y rfl rfl rfl rfl) rfl rfl (fun u hu => (pv_move (v := (.int .i64 (k : Int))) rfl rfl : PV _ _ _ _) u) ?_
                  refine tw_free rfl (w1y rfl rfl rfl rfl) rfl rfl (fun u hu => (pv_idx Try.underlying22 T3 rfl rfl rfl ((hO46.rs (fun _ => rfl)).some (k := k) (by omega)) (by omega) (by omega) : PV _ _ _ _) u) ?_
                  refine tw_free rfl (w1y rfl rfl rfl rfl) rfl rfl (fun u hu => lv_load T3 rfl rfl (((hO46_r.ch0 hu).rs (fun _ => rfl)).cell0 (k := k) (by omega) rfl)) ?_
                  refine tw_free rfl (w1y rfl rfl rfl rfl) rfl rfl (fun u hu => (pv_idx Try.underlying22 T3 rfl rfl rfl ((hO33.rs (fun _ => rfl)).some (k := ((el (badV xs27 xs32) k)).toNat) (by omega)) (by omega) (by omega) : PV _ _ _ _) u) ?_
                  refine tw_free rfl (w1y rfl rfl rfl rfl) rfl rfl (fun u hu => lv_load T3 rfl rfl (((hO33_r.ch0 hu).rs (fun _ => rfl)).cell0 (k := ((el (badV xs27 xs32) k)).toNat) (by omega) rfl)) ?_
                  refine tw_free rfl (w1y rfl rfl rfl rfl) rfl rfl (fun u hu => (pv_move (v := (.slice A87 (sumsV xs27).length c88)) rfl rfl : PV _ _ _ _) u) ?_
                  refine tw_free rfl (w1y rfl rfl rfl rfl) rfl rfl (fun u hu => (pv_move (v := (.slice A44 (badV xs27 xs32).length c45)) rfl rfl : PV _ _ _ _) u) ?_
                  refine tw_free rfl (w1y rfl rfl rfl rfl) rfl rfl (fun u hu => (pv_move (v := (.int .i64 (k : Int))) rfl rfl : PV _ _ _ _) u) ?_
                  refine tw_free rfl (w1y rfl rfl rfl rfl) rfl rfl (fun u hu => (pv_idx Try.underlying22 T3 rfl rfl rfl ((hO46.rs (fun _ => rfl)).some (k := k) (by omega)) (by omega) (by omega) : PV _ _ _ _) u) ?_
                  refine tw_free rfl (w1y rfl rfl rfl rfl) rfl rfl (fun u hu => lv_load T3 rfl rfl (((hO46_r.ch0 hu).rs (fun _ => rfl)).cell0 (k := k) (by omega) rfl)) ?_
                  refine tw_free rfl (w1y rfl rfl rfl rfl) rfl rfl (fun u hu => (pv_idx Try.underlying22 T3 rfl rfl rfl ((hO89.rs (fun _ => rfl)).some (k := ((el (badV xs27 xs32) k)).toNat) (by omega)) (by omega) (by omega) : PV _ _ _ _) u) ?_
                  refine tw_free rfl (w1y rfl rfl rfl rfl) rfl rfl (fun u hu => lv_load T3 rfl rfl (((hO89_r.ch0 hu).rs (fun _ => rfl)).cell0 (k := ((el (badV xs27 xs32) k)).toNat) (by omega) rfl)) ?_
                  refine tw_free rfl (w1y rfl rfl rfl rfl) rfl rfl (fun u hu => (pv_eql rfl rfl rfl : PV _ _ _ _) u) ?_
                  refine tw_free rfl (w1y rfl rfl rfl rfl) rfl rfl (fun u hu => (pv_pickT (v := (.bool (decide (((el xs32 ((el (badV xs27 xs32) k)).toNat) : Int) = (el (sumsV xs27) ((el (badV xs27 xs32) k)).toNat))))) rfl rfl rfl : PV _ _ _ _) u) ?_
                  refine tw_free rfl (w0 rfl) rfl rfl (fun u hu => (pv_pickF (v := (.bool (decide (((el xs32 ((el (badV xs27 xs32) k)).toNat) : Int) = (el (sumsV xs27) ((el (badV xs27 xs32) k)).toNat))))) rfl rfl rfl : PV _ _ _ _) u) ?_
                  clear hO28_r
                  clear hO33_r
                  clear hO46_r
                  clear hO59_r
                  clear hO89_r
                  clear hR0_r
                  refine tw_done (hK125 _ _ ?_)
                  refine hK120 _ _ ?_
                  refine cw_cond rfl (fun h171 => ?_) (fun h171 => ?_)
                  · -- then
                    replace h171 := of_decide_eq_true h171
                    refine cw_seq fun K172 hK173 => ?_
                    refine cw_region fun K174 hK175 => ?_
                    refine rw_cons (op_pv (w0 rfl) rfl rfl (pv_assign (v := (.bool false)) rfl rfl) ?_)
                    refine rw_nil (hK175 _ _ ?_)
                    refine hK173 _ _ ?_
                    refine cw_ret ?_
                    refine fin1 rfl ?_
                    first
                      | exact ⟨rfl, hc⟩
                      | exact ⟨congrArg Value.bool (dec_yes hbo), hc⟩
                      | (exfalso; have hsq := hsp (by omega); omega)
                  · -- else
                    replace h171 := of_decide_eq_false h171
                    refine cw_skip ?_
                    refine hK118 _ _ ?_
                    refine cw_region fun K176 hK177 => ?_
                    refine rw_cons (op_pv (w0 rfl) rfl rfl (pv_move (v := (.int .i64 (k : Int))) rfl rfl) ?_)
                    refine rw_cons (op_pv (w0 rfl) rfl rfl (pv_add rfl rfl rfl (by omega) (by omega)) ?_)
                    refine rw_cons (op_pv (w0 rfl) rfl rfl (pv_assign (v := (.int .i64 ((k : Int) + 1))) rfl rfl) ?_)
                    refine rw_nil (hK177 _ _ ?_)
                    refine hK105 _ _ (k + 1) ⟨(iv (by omega)), rfl, rfl, rfl, rfl, trivial⟩ ⟨?_, hR0, hO28, hO33, hO46, hO59, hO89, hc, (by omega), (by omega), (by omega)⟩ ?_
                    · omega
                    · (first | omega | (simp only []; omega))
                · -- no
                  replace hb170 := of_decide_eq_false hb170
                  refine tw_pass rfl (w1n1 rfl rfl rfl rfl) rfl rfl ?_
                  refine tw_pass rfl (w1n1 rfl rfl rfl rfl) rfl rfl ?_
                  refine tw_pass rfl (w1n1 rfl rfl rfl rfl) rfl rfl ?_
                  refine tw_pass rfl (w1n1 rfl rfl rfl rfl) rfl rfl ?_
                  refine tw_pass rfl (w1n1 rfl rfl rfl rfl) rfl rfl ?_
                  refine tw_pass rfl (w1n1 rfl rfl rfl rfl) rfl rfl ?_
                  refine tw_pass rfl (w1n1 rfl rfl rfl rfl) rfl rfl ?_
                  refine tw_pass rfl (w1n1 rfl rfl rfl rfl) rfl rfl ?_
                  refine tw_pass rfl (w1n1 rfl rfl rfl rfl) rfl rfl ?_
                  refine tw_pass rfl (w1n1 rfl rfl rfl rfl) rfl rfl ?_
                  refine tw_pass rfl (w1n1 rfl rfl rfl rfl) rfl rfl ?_
                  refine tw_pass rfl (w1n1 rfl rfl rfl rfl) rfl rfl ?_
                  refine tw_pass rfl (w1n1 rfl rfl rfl rfl) rfl rfl ?_
                  refine tw_pass rfl (w1n1 rfl rfl rfl rfl) rfl rfl ?_
                  refine tw_pass rfl (w1n1 rfl rfl rfl rfl) rfl rfl ?_
                  refine tw_free rfl (w1y rfl rfl rfl rfl) rfl rfl (fun u hu => (pv_pickF (v := (.bool false)) rfl rfl rfl : PV _ _ _ _) u) ?_
                  refine tw_free rfl (w0 rfl) rfl rfl (fun u hu => (pv_pickF (v := (.bool false)) rfl rfl rfl : PV _ _ _ _) u) ?_
                  clear hO28_r
                  clear hO33_r
                  clear hO46_r
                  clear hO59_r
                  clear hO89_r
                  clear hR0_r
                  refine tw_done (hK125 _ _ ?_)
                  refine hK120 _ _ ?_
                  refine cw_cond rfl (fun h178 => ?_) (fun h178 => ?_)
                  · -- then
                    cases h178
                  · -- else
                    clear h178
                    refine cw_skip ?_
                    refine hK118 _ _ ?_
                    refine cw_region fun K179 hK180 => ?_
                    refine rw_cons (op_pv (w0 rfl) rfl rfl (pv_move (v := (.int .i64 (k : Int))) rfl rfl) ?_)
                    refine rw_cons (op_pv (w0 rfl) rfl rfl (pv_add rfl rfl rfl (by omega) (by omega)) ?_)
                    refine rw_cons (op_pv (w0 rfl) rfl rfl (pv_assign (v := (.int .i64 ((k : Int) + 1))) rfl rfl) ?_)
                    refine rw_nil (hK180 _ _ ?_)
                    refine hK105 _ _ (k + 1) ⟨(iv (by omega)), rfl, rfl, rfl, rfl, trivial⟩ ⟨?_, hR0, hO28, hO33, hO46, hO59, hO89, hc, (by omega), (by omega), (by omega)⟩ ?_
                    · omega
                    · (first | omega | (simp only []; omega))
        · -- else
          replace h116 := of_decide_eq_false h116
          refine cw_exit ?_
          refine hK95 _ _ ?_
          refine cw_seq fun K181 hK182 => ?_
          refine cw_region fun K183 hK184 => ?_
          refine rw_cons (op_pv (w0 rfl) rfl rfl (pv_move (v := (.bool (dec (BytesOK xs27)))) rfl rfl) ?_)
          refine rw_cons (op_pv (w0 rfl) rfl rfl (pv_assign (v := (.bool (dec (BytesOK xs27)))) rfl rfl) ?_)
          refine rw_nil (hK184 _ _ ?_)
          refine hK182 _ _ ?_
          refine cw_ret ?_
          refine fin1 rfl ?_
          first
            | exact ⟨rfl, hc⟩
            | exact ⟨congrArg Value.bool (dec_yes hbo), hc⟩
            | (exfalso; have hsq := hsp (by omega); omega)
end Go.Proofs.Ythgnnpafieifmaa
