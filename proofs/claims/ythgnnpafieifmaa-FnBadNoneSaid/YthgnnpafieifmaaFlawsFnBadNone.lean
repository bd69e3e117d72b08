/-
  The walk of laws.FnBadNone, written by program: each line names the law of one operation. Conditions: those of the theorem.
-/
import Derived.Test.YthgnnpafieifmaaProg
import Derived.Test.YthgnnpafieifmaaFspecDrawSumsBad
import Derived.Test.YthgnnpafieifmaaFimplSumsBad
import Derived.Test.YthgnnpafieifmaaFspecSumsBad
import Derived.Test.YthgnnpafieifmaaFimplSumsOf
import Derived.Test.YthgnnpafieifmaaFspecBytesValid
import Derived.Test.YthgnnpafieifmaaFlawssameInts
import Derived.KernelRfl
namespace Go.Proofs.Ythgnnpafieifmaa
open Go Go.RowKit
set_option linter.unusedVariables false
set_option linter.unusedSimpArgs false
namespace FnBadNone_okF
theorem T3 : TI Try.prog 3 false (.int .i64 0) 1 8 := TI.mk' Try.underlying3 rfl (by kernel_rfl)
theorem C17 : Callable Try.prog 17 := ⟨_, Try.func17, by kernel_rfl, by kernel_rfl⟩
theorem C23 : Callable Try.prog 23 := ⟨_, Try.func23, by kernel_rfl, by kernel_rfl⟩
theorem C27 : Callable Try.prog 27 := ⟨_, Try.func27, by kernel_rfl, by kernel_rfl⟩
theorem C28 : Callable Try.prog 28 := ⟨_, Try.func28, by kernel_rfl, by kernel_rfl⟩
theorem C29 : Callable Try.prog 29 := ⟨_, Try.func29, by kernel_rfl, by kernel_rfl⟩
theorem C32 : Callable Try.prog 32 := ⟨_, Try.func32, by kernel_rfl, by kernel_rfl⟩
end FnBadNone_okF
open FnBadNone_okF in
set_option maxHeartbeats 4000000 in
theorem FnBadNone_ok (A0 : Option Addr) (n0 c0 : Nat) (xs0 : List UInt8) (w : World) (hR0 : RS encU 1 w w.heap.size A0 n0 xs0) (hn0 : n0 ≤ c0) :
    Fn Try.prog 12 [(.slice A0 n0 c0)] w fun v w' => v = .bool true ∧ Ch [] w w' := by
  have hlen0 := hR0.len
  refine fn_of (n := 68) Try.func12 rfl rfl rfl rfl ?_
  have hc : Ch [] w w := Ch.refl _ _
  refine cw_seq fun K1 hK2 => ?_
  refine cw_region fun K3 hK4 => ?_
  refine rw_cons (op_pv (w0 rfl) rfl rfl (pv_assign (v := (.bool false)) rfl rfl) ?_)
  refine rw_nil (hK4 _ _ ?_)
  refine hK2 _ _ ?_
  refine cw_seq fun K5 hK6 => ?_
  refine cw_seq fun K7 hK8 => ?_
  refine cw_region fun K9 hK10 => ?_
  refine rw_cons (op_pv (w0 rfl) rfl rfl (pv_move (v := (.slice A0 n0 c0)) rfl rfl) ?_)
  refine rw_cons (op_pv (w0 rfl) rfl rfl (pv_len Try.underlying26 rfl rfl) ?_)
  refine rw_cons (op_pv (w0 rfl) rfl rfl (pv_gtr rfl rfl rfl) ?_)
  refine rw_nil (hK10 _ _ ?_)
  refine hK8 _ _ ?_
  refine cw_cond rfl (fun h11 => ?_) (fun h11 => ?_)
  · -- then
    replace h11 := of_decide_eq_true h11
    refine cw_seq fun K12 hK13 => ?_
    refine cw_region fun K14 hK15 => ?_
    refine rw_cons (op_pv (w0 rfl) rfl rfl (pv_assign (v := (.bool true)) rfl rfl) ?_)
    refine rw_nil (hK15 _ _ ?_)
    refine hK13 _ _ ?_
    refine cw_ret ?_
    refine fin1 rfl ?_
    exact ⟨rfl, hc⟩
  · -- else
    replace h11 := of_decide_eq_false h11
    refine cw_skip ?_
    refine hK6 _ _ ?_
    refine cw_seq fun K16 hK17 => ?_
    refine cw_region fun K18 hK19 => ?_
    refine rw_cons (op_pv (w0 rfl) rfl rfl (pv_move (v := (.slice A0 n0 c0)) rfl rfl) ?_)
    refine rw_cons (op_call (w0 rfl) rfl rfl (rc_call C32 rfl rfl) (DrawSumsBad_ok _ _ _ _ _ (hR0.more (by omega)) (by omega)) ?_)
    rintro _ w20 ⟨A25, c26, xs27, A30, c31, xs32, rfl, hO28, hO33, hl21, hl22, hdr23, hch24⟩
    have hsz35 := hch24.size
    replace hR0 := hR0.ch0 hch24
    replace hc := hc.step0 hch24
    have hub29 := hO28.lt
    have hcap36 : xs27.length ≤ c26 := by obtain ⟨_, _, hv, h1, _⟩ := hO28.form; injection hv with _ _ h3; omega
    have hub34 := hO33.lt
    have hcap37 : xs32.length ≤ c31 := by obtain ⟨_, _, hv, h1, _⟩ := hO33.form; injection hv with _ _ h3; omega
    refine rw_cons (op_pv (w0 rfl) rfl rfl (pv_move (v := (.tuple #[(.slice A25 xs27.length c26), (.slice A30 xs32.length c31)])) rfl rfl) ?_)
    refine rw_cons (op_pv (w0 rfl) rfl rfl (pv_ext (v := (.slice A25 xs27.length c26)) rfl rfl rfl) ?_)
    refine rw_cons (op_pv (w0 rfl) rfl rfl (pv_ext (v := (.slice A30 xs32.length c31)) rfl rfl rfl) ?_)
    refine rw_cons (op_pv (w0 rfl) rfl rfl (pv_assign (v := (.slice A25 xs27.length c26)) rfl rfl) ?_)
    refine rw_cons (op_pv (w0 rfl) rfl rfl (pv_assign (v := (.slice A30 xs32.length c31)) rfl rfl) ?_)
    refine rw_nil (hK19 _ _ ?_)
    refine hK17 _ _ ?_
    refine cw_seq fun K38 hK39 => ?_
    refine cw_region fun K40 hK41 => ?_
    refine rw_cons (op_pv (w0 rfl) rfl rfl (pv_move (v := (.slice A25 xs27.length c26)) rfl rfl) ?_)
    refine rw_cons (op_pv (w0 rfl) rfl rfl (pv_move (v := (.slice A30 xs32.length c31)) rfl rfl) ?_)
    refine rw_cons (op_call (w0 rfl) rfl rfl (rc_call C29 rfl rfl) (SumsBad_i _ xs27.length _ xs27 _ xs32.length _ xs32 _ (hO28.rs (fun _ => rfl)) (by omega) (by omega) (hO33.rs (fun _ => rfl)) (by omega)) ?_)
    rintro _ w42 ⟨A44, c45, rfl, hO46, hch43⟩
    have hsz47 := hch43.size
    replace hR0 := hR0.ch0 hch43
    replace hO28 := hO28.ch0 hch43
    replace hO33 := hO33.ch0 hch43
    replace hc := hc.step0 hch43
    have hub48 := hO46.lt
    have hcap49 : (badV xs27 xs32).length ≤ c45 := by obtain ⟨_, _, hv, h1, _⟩ := hO46.form; injection hv with _ _ h3; omega
    have hnt50 := badV_le xs27 xs32
    refine rw_cons (op_pv (w0 rfl) rfl rfl (pv_assign (v := (.slice A44 (badV xs27 xs32).length c45)) rfl rfl) ?_)
    refine rw_nil (hK41 _ _ ?_)
    refine hK39 _ _ ?_
    refine cw_seq fun K51 hK52 => ?_
    refine cw_region fun K53 hK54 => ?_
    refine rw_cons (op_pv (w0 rfl) rfl rfl (pv_move (v := (.slice A25 xs27.length c26)) rfl rfl) ?_)
    refine rw_cons (op_pv (w0 rfl) rfl rfl (pv_move (v := (.slice A30 xs32.length c31)) rfl rfl) ?_)
    refine rw_cons (op_call (w0 rfl) rfl rfl (rc_call C28 rfl rfl) (SumsBad_s _ xs27.length _ xs27 _ xs32.length _ xs32 _ (hO28.rs (fun _ => rfl)) (by omega) (by omega) (hO33.rs (fun _ => rfl)) (by omega)) ?_)
    rintro _ w55 ⟨A57, c58, rfl, hO59, hch56⟩
    have hsz60 := hch56.size
    replace hR0 := hR0.ch0 hch56
    replace hO28 := hO28.ch0 hch56
    replace hO33 := hO33.ch0 hch56
    replace hO46 := hO46.ch0 hch56
    replace hc := hc.step0 hch56
    have hub61 := hO59.lt
    have hcap62 : (badV xs27 xs32).length ≤ c58 := by obtain ⟨_, _, hv, h1, _⟩ := hO59.form; injection hv with _ _ h3; omega
    have hnt63 := badV_le xs27 xs32
    refine rw_cons (op_pv (w0 rfl) rfl rfl (pv_assign (v := (.slice A57 (badV xs27 xs32).length c58)) rfl rfl) ?_)
    refine rw_nil (hK54 _ _ ?_)
    refine hK52 _ _ ?_
    refine cw_seq fun K64 hK65 => ?_
    refine cw_seq fun K66 hK67 => ?_
    refine cw_region fun K68 hK69 => ?_
    refine rw_cons (op_pv (w0 rfl) rfl rfl (pv_move (v := (.slice A44 (badV xs27 xs32).length c45)) rfl rfl) ?_)
    refine rw_cons (op_pv (w0 rfl) rfl rfl (pv_move (v := (.slice A57 (badV xs27 xs32).length c58)) rfl rfl) ?_)
    refine rw_cons (op_call (w0 rfl) rfl rfl (rc_call C27 rfl rfl) (sameInts_same _ _ _ _ _ _ (badV xs27 xs32) _ (hO46.rs (fun _ => rfl)) (hO59.rs (fun _ => rfl)) (by omega)) ?_)
    rintro _ w70 ⟨rfl, hch71⟩
    have hsz72 := hch71.size
    replace hR0 := hR0.ch0 hch71
    replace hO28 := hO28.ch0 hch71
    replace hO33 := hO33.ch0 hch71
    replace hO46 := hO46.ch0 hch71
    replace hO59 := hO59.ch0 hch71
    replace hc := hc.step0 hch71
    refine rw_cons (op_pv (w0 rfl) rfl rfl (pv_not rfl rfl) ?_)
    refine rw_cons (op_pv (w0 rfl) rfl rfl (pv_move (v := (.bool (!true))) rfl rfl) ?_)
    refine rw_cons (op_pv (w1y rfl rfl rfl rfl) rfl rfl (pv_move (v := (.slice A25 xs27.length c26)) rfl rfl) ?_)
    refine rw_cons (op_call (w1y rfl rfl rfl rfl) rfl rfl (rc_call C17 rfl rfl) (BytesValid_s _ _ _ xs27 _ (hO28.rs (fun _ => rfl)) (by omega)) ?_)
    rintro _ w73 ⟨rfl, hch74⟩
    have hsz75 := hch74.size
    replace hR0 := hR0.ch0 hch74
    replace hO28 := hO28.ch0 hch74
    replace hO33 := hO33.ch0 hch74
    replace hO46 := hO46.ch0 hch74
    replace hO59 := hO59.ch0 hch74
    replace hc := hc.step0 hch74
    refine rw_cons (op_pv (w1y rfl rfl rfl rfl) rfl rfl (pv_not rfl rfl) ?_)
    refine rw_cons (op_pv (w0 rfl) rfl rfl (pv_pickF (v := (.bool (!(dec (BytesOK xs27))))) rfl rfl rfl) ?_)
    refine rw_nil (hK69 _ _ ?_)
    refine hK67 _ _ ?_
    refine cw_cond rfl (fun h76 => ?_) (fun h76 => ?_)
    · -- then
      replace h76 := not_t h76
      replace h76 := dec_f h76
      refine cw_seq fun K77 hK78 => ?_
      refine cw_region fun K79 hK80 => ?_
      refine rw_cons (op_pv (w0 rfl) rfl rfl (pv_move (v := (.slice A44 (badV xs27 xs32).length c45)) rfl rfl) ?_)
      refine rw_cons (op_pv (w0 rfl) rfl rfl (pv_move (v := (.slice A57 (badV xs27 xs32).length c58)) rfl rfl) ?_)
      refine rw_cons (op_call (w0 rfl) rfl rfl (rc_call C27 rfl rfl) (sameInts_same _ _ _ _ _ _ (badV xs27 xs32) _ (hO46.rs (fun _ => rfl)) (hO59.rs (fun _ => rfl)) (by omega)) ?_)
      rintro _ w81 ⟨rfl, hch82⟩
      have hsz83 := hch82.size
      replace hR0 := hR0.ch0 hch82
      replace hO28 := hO28.ch0 hch82
      replace hO33 := hO33.ch0 hch82
      replace hO46 := hO46.ch0 hch82
      replace hO59 := hO59.ch0 hch82
      replace hc := hc.step0 hch82
      refine rw_cons (op_pv (w0 rfl) rfl rfl (pv_assign (v := (.bool true)) rfl rfl) ?_)
      refine rw_nil (hK80 _ _ ?_)
      refine hK78 _ _ ?_
      refine cw_ret ?_
      refine fin1 rfl ?_
      exact ⟨rfl, hc⟩
    · -- else
      replace h76 := not_f h76
      replace h76 := dec_t h76
      refine cw_skip ?_
      refine hK65 _ _ ?_
      refine cw_seq fun K84 hK85 => ?_
      refine cw_region fun K86 hK87 => ?_
      refine rw_cons (op_pv (w0 rfl) rfl rfl (pv_move (v := (.slice A25 xs27.length c26)) rfl rfl) ?_)
      refine rw_cons (op_call (w0 rfl) rfl rfl (rc_call C23 rfl rfl) (SumsOf_i _ xs27.length _ xs27 _ (hO28.rs (fun _ => rfl)) (by omega) (by omega)) ?_)
      rintro _ w88 ⟨A90, c91, rfl, hO92, hch89⟩
      have hsz93 := hch89.size
      replace hR0 := hR0.ch0 hch89
      replace hO28 := hO28.ch0 hch89
      replace hO33 := hO33.ch0 hch89
      replace hO46 := hO46.ch0 hch89
      replace hO59 := hO59.ch0 hch89
      replace hc := hc.step0 hch89
      have hub94 := hO92.lt
      have hcap95 : (sumsV xs27).length ≤ c91 := by obtain ⟨_, _, hv, h1, _⟩ := hO92.form; injection hv with _ _ h3; omega
      have hnt96 := sumsV_le xs27
      refine rw_cons (op_pv (w0 rfl) rfl rfl (pv_move (v := (.tuple #[(.slice A90 (sumsV xs27).length c91), (.bool (dec (BytesOK xs27)))])) rfl rfl) ?_)
      refine rw_cons (op_pv (w0 rfl) rfl rfl (pv_ext (v := (.slice A90 (sumsV xs27).length c91)) rfl rfl rfl) ?_)
      refine rw_cons (op_pv (w0 rfl) rfl rfl (pv_ext (v := (.bool (dec (BytesOK xs27)))) rfl rfl rfl) ?_)
      refine rw_cons (op_pv (w0 rfl) rfl rfl (pv_assign (v := (.slice A90 (sumsV xs27).length c91)) rfl rfl) ?_)
      refine rw_cons (op_pv (w0 rfl) rfl rfl (pv_assign (v := (.bool (dec (BytesOK xs27)))) rfl rfl) ?_)
      refine rw_nil (hK87 _ _ ?_)
      refine hK85 _ _ ?_
      refine cw_seq fun K97 hK98 => ?_
      refine cw_region fun K99 hK100 => ?_
      refine rw_cons (op_pv (w0 rfl) rfl rfl (pv_move (v := (.bool (dec (BytesOK xs27)))) rfl rfl) ?_)
      refine rw_cons (op_pv (w0 rfl) rfl rfl (pv_move (v := (.bool (dec (BytesOK xs27)))) rfl rfl) ?_)
      refine rw_split 41 rfl (fun hb101 => ?_) (fun hb101 => ?_)
      · -- yes
        replace hb101 := dec_t hb101
        refine rw_cons (op_pv (w1y rfl rfl rfl rfl) rfl rfl (pv_move (v := (.slice A25 xs27.length c26)) rfl rfl) ?_)
        refine rw_cons (op_bslice [] Try.underlying22 T3 (w1y rfl rfl rfl rfl) rfl rfl rfl rfl rfl (by simp [Value.cells]) (by decide) ?_)
        intro g103 w102 hg106 hg107 hK105 hch104
        have hO108 : Own encI 1 w102 w88.heap.size 3 (.slice (some ⟨g103, 0, none⟩) 0 0) ([] : List Int) := Blk.own (xs := ([] : List Int)) hK105 (by omega) rfl (by decide) rfl
        have hsz109 := hch104.size
        replace hR0 := hR0.ch0 hch104
        replace hO28 := hO28.ch0 hch104
        replace hO33 := hO33.ch0 hch104
        replace hO46 := hO46.ch0 hch104
        replace hO59 := hO59.ch0 hch104
        replace hO92 := hO92.ch0 hch104
        replace hc := hc.step0 hch104
        have hub110 := hO108.lt
        refine rw_cons (op_call (w1y rfl rfl rfl rfl) rfl rfl (rc_call C29 rfl rfl) (SumsBad_i _ xs27.length _ xs27 _ 0 _ ([] : List Int) _ (hO28.rs (fun _ => rfl)) (by omega) (by omega) (hO108.rs (fun _ => rfl)) (by omega)) ?_)
        rintro _ w111 ⟨A113, c114, rfl, hO115, hch112⟩
        have hsz116 := hch112.size
        replace hR0 := hR0.ch0 hch112
        replace hO28 := hO28.ch0 hch112
        replace hO33 := hO33.ch0 hch112
        replace hO46 := hO46.ch0 hch112
        replace hO59 := hO59.ch0 hch112
        replace hO92 := hO92.ch0 hch112
        replace hO108 := hO108.ch0 hch112
        replace hc := hc.step0 hch112
        have hub117 := hO115.lt
        have hcap118 : (badV xs27 ([] : List Int)).length ≤ c114 := by obtain ⟨_, _, hv, h1, _⟩ := hO115.form; injection hv with _ _ h3; omega
        have hnt119 := badV_le xs27 ([] : List Int)
        refine rw_cons (op_pv (w1y rfl rfl rfl rfl) rfl rfl (pv_len Try.underlying22 rfl rfl) ?_)
        refine rw_cons (op_pv (w1y rfl rfl rfl rfl) rfl rfl (pv_move (v := (.slice A90 (sumsV xs27).length c91)) rfl rfl) ?_)
        refine rw_cons (op_pv (w1y rfl rfl rfl rfl) rfl rfl (pv_len Try.underlying22 rfl rfl) ?_)
        refine rw_cons (op_pv (w1y rfl rfl rfl rfl) rfl rfl (pv_eql rfl rfl rfl) ?_)
        refine rw_cons (op_pv (w0 rfl) rfl rfl (pv_pickT (v := (.bool (decide ((((badV xs27 ([] : List Int)).length : Int) : Int) = ((sumsV xs27).length : Int))))) rfl rfl rfl) ?_)
        refine rw_cons (op_pv (w0 rfl) rfl rfl (pv_move (v := (.bool (decide ((((badV xs27 ([] : List Int)).length : Int) : Int) = ((sumsV xs27).length : Int))))) rfl rfl) ?_)
        refine rw_split 50 rfl (fun hb120 => ?_) (fun hb120 => ?_)
        · -- yes
          replace hb120 := of_decide_eq_true hb120
          refine rw_cons (op_pv (w1y rfl rfl rfl rfl) rfl rfl (pv_move (v := (.slice A25 xs27.length c26)) rfl rfl) ?_)
          refine rw_cons (op_bslice [] Try.underlying22 T3 (w1y rfl rfl rfl rfl) rfl rfl rfl rfl rfl (by simp [Value.cells]) (by decide) ?_)
          intro g122 w121 hg125 hg126 hK124 hch123
          have hO127 : Own encI 1 w121 w111.heap.size 3 (.slice (some ⟨g122, 0, none⟩) 0 0) ([] : List Int) := Blk.own (xs := ([] : List Int)) hK124 (by omega) rfl (by decide) rfl
          have hsz128 := hch123.size
          replace hR0 := hR0.ch0 hch123
          replace hO28 := hO28.ch0 hch123
          replace hO33 := hO33.ch0 hch123
          replace hO46 := hO46.ch0 hch123
          replace hO59 := hO59.ch0 hch123
          replace hO92 := hO92.ch0 hch123
          replace hO108 := hO108.ch0 hch123
          replace hO115 := hO115.ch0 hch123
          replace hc := hc.step0 hch123
          have hub129 := hO127.lt
          refine rw_cons (op_pv (w1y rfl rfl rfl rfl) rfl rfl (pv_move (v := (.slice A90 (sumsV xs27).length c91)) rfl rfl) ?_)
          refine rw_cons (op_append Try.underlying22 T3 (fun _ => rfl) rfl (by decide) (fun _ => one_all rfl) (w1y rfl rfl rfl rfl) rfl rfl rfl rfl rfl hO127 (hO92.rs (fun _ => rfl)) (by unfold maxLen; first | omega | (simp; omega)) (by first | omega | (simp; omega)) (by omega) ?_)
          rintro v130 w131 hO132 hch133 hs134
          replace hO132 : Own encI 1 w131 w111.heap.size 3 v130 (sumsV xs27) := hO132
          have hl135 : (sumsV xs27).length = 0 + (sumsV xs27).length := by first | (have hl0 := (hO92.rs (fun _ => rfl)).len; omega) | (have hl0 := (hO92.rs (fun _ => rfl)).len; simp only [List.length_append, List.length_cons, List.length_nil] at hl0 ⊢; omega) | simp | rfl
          have hsz136 := hch133.size
          replace hR0 := hR0.ch hch133 (hO127.off.le (by omega))
          replace hO28 := hO28.ch hch133 (fun s hs hs2 => by first | (have h1 := hO28.off s hs; have h2 := hub129 s hs2; omega) | (have h1 := hub29 s hs; have h2 := hO127.off s hs2; omega) | (have h2 := hub129 s hs2; simp [obl, Value.ownBlock] at hs; omega) | (have h1 := hub29 s hs; simp [obl, Value.ownBlock] at hs2; omega))
          replace hO33 := hO33.ch hch133 (fun s hs hs2 => by first | (have h1 := hO33.off s hs; have h2 := hub129 s hs2; omega) | (have h1 := hub34 s hs; have h2 := hO127.off s hs2; omega) | (have h2 := hub129 s hs2; simp [obl, Value.ownBlock] at hs; omega) | (have h1 := hub34 s hs; simp [obl, Value.ownBlock] at hs2; omega))
          replace hO46 := hO46.ch hch133 (fun s hs hs2 => by first | (have h1 := hO46.off s hs; have h2 := hub129 s hs2; omega) | (have h1 := hub48 s hs; have h2 := hO127.off s hs2; omega) | (have h2 := hub129 s hs2; simp [obl, Value.ownBlock] at hs; omega) | (have h1 := hub48 s hs; simp [obl, Value.ownBlock] at hs2; omega))
          replace hO59 := hO59.ch hch133 (fun s hs hs2 => by first | (have h1 := hO59.off s hs; have h2 := hub129 s hs2; omega) | (have h1 := hub61 s hs; have h2 := hO127.off s hs2; omega) | (have h2 := hub129 s hs2; simp [obl, Value.ownBlock] at hs; omega) | (have h1 := hub61 s hs; simp [obl, Value.ownBlock] at hs2; omega))
          replace hO92 := hO92.ch hch133 (fun s hs hs2 => by first | (have h1 := hO92.off s hs; have h2 := hub129 s hs2; omega) | (have h1 := hub94 s hs; have h2 := hO127.off s hs2; omega) | (have h2 := hub129 s hs2; simp [obl, Value.ownBlock] at hs; omega) | (have h1 := hub94 s hs; simp [obl, Value.ownBlock] at hs2; omega))
          replace hO108 := hO108.ch hch133 (fun s hs hs2 => by first | (have h1 := hO108.off s hs; have h2 := hub129 s hs2; omega) | (have h1 := hub110 s hs; have h2 := hO127.off s hs2; omega) | (have h2 := hub129 s hs2; simp [obl, Value.ownBlock] at hs; omega) | (have h1 := hub110 s hs; simp [obl, Value.ownBlock] at hs2; omega))
          replace hO115 := hO115.ch hch133 (fun s hs hs2 => by first | (have h1 := hO115.off s hs; have h2 := hub129 s hs2; omega) | (have h1 := hub117 s hs; have h2 := hO127.off s hs2; omega) | (have h2 := hub129 s hs2; simp [obl, Value.ownBlock] at hs; omega) | (have h1 := hub117 s hs; simp [obl, Value.ownBlock] at hs2; omega))
          replace hc := (hO127.off.le (by omega)).step hc hch133
          have hub137 := hO132.lt
          obtain ⟨A138, c139, hv140, hcap141, hcap142⟩ := hO132.form; subst hv140
          refine rw_cons (op_bslice [(.int .i64 1)] Try.underlying22 T3 (w1y rfl rfl rfl rfl) rfl rfl rfl rfl rfl (by simp [Value.cells]) (by decide) ?_)
          intro g144 w143 hg147 hg148 hK146 hch145
          have hO149 : Own encI 1 w143 w131.heap.size 3 (.slice (some ⟨g144, 0, none⟩) 1 1) ([1] : List Int) := Blk.own (xs := ([1] : List Int)) hK146 (by omega) rfl (by decide) rfl
          have hsz150 := hch145.size
          replace hR0 := hR0.ch0 hch145
          replace hO28 := hO28.ch0 hch145
          replace hO33 := hO33.ch0 hch145
          replace hO46 := hO46.ch0 hch145
          replace hO59 := hO59.ch0 hch145
          replace hO92 := hO92.ch0 hch145
          replace hO108 := hO108.ch0 hch145
          replace hO115 := hO115.ch0 hch145
          replace hO132 := hO132.ch0 hch145
          replace hc := hc.step0 hch145
          have hub151 := hO149.lt
          refine rw_cons (op_append Try.underlying22 T3 (fun _ => rfl) rfl (by decide) (fun _ => one_all rfl) (w1y rfl rfl rfl rfl) rfl rfl rfl rfl rfl hO132 (hO149.rs (fun _ => rfl)) (by unfold maxLen; first | omega | (simp; omega)) (by first | omega | (simp; omega)) (by omega) ?_)
          rintro v152 w153 hO154 hch155 hs156
          have hl157 : ((sumsV xs27) ++ ([1] : List Int)).length = (sumsV xs27).length + 1 := by first | (have hl0 := (hO149.rs (fun _ => rfl)).len; omega) | (have hl0 := (hO149.rs (fun _ => rfl)).len; simp only [List.length_append, List.length_cons, List.length_nil] at hl0 ⊢; omega) | simp | rfl
          clear hO149
          have hsz158 := hch155.size
          replace hR0 := hR0.ch hch155 (hO132.off.le (by omega))
          replace hO28 := hO28.ch hch155 (fun s hs hs2 => by first | (have h1 := hO28.off s hs; have h2 := hub137 s hs2; omega) | (have h1 := hub29 s hs; have h2 := hO132.off s hs2; omega) | (have h2 := hub137 s hs2; simp [obl, Value.ownBlock] at hs; omega) | (have h1 := hub29 s hs; simp [obl, Value.ownBlock] at hs2; omega))
          replace hO33 := hO33.ch hch155 (fun s hs hs2 => by first | (have h1 := hO33.off s hs; have h2 := hub137 s hs2; omega) | (have h1 := hub34 s hs; have h2 := hO132.off s hs2; omega) | (have h2 := hub137 s hs2; simp [obl, Value.ownBlock] at hs; omega) | (have h1 := hub34 s hs; simp [obl, Value.ownBlock] at hs2; omega))
          replace hO46 := hO46.ch hch155 (fun s hs hs2 => by first | (have h1 := hO46.off s hs; have h2 := hub137 s hs2; omega) | (have h1 := hub48 s hs; have h2 := hO132.off s hs2; omega) | (have h2 := hub137 s hs2; simp [obl, Value.ownBlock] at hs; omega) | (have h1 := hub48 s hs; simp [obl, Value.ownBlock] at hs2; omega))
          replace hO59 := hO59.ch hch155 (fun s hs hs2 => by first | (have h1 := hO59.off s hs; have h2 := hub137 s hs2; omega) | (have h1 := hub61 s hs; have h2 := hO132.off s hs2; omega) | (have h2 := hub137 s hs2; simp [obl, Value.ownBlock] at hs; omega) | (have h1 := hub61 s hs; simp [obl, Value.ownBlock] at hs2; omega))
          replace hO92 := hO92.ch hch155 (fun s hs hs2 => by first | (have h1 := hO92.off s hs; have h2 := hub137 s hs2; omega) | (have h1 := hub94 s hs; have h2 := hO132.off s hs2; omega) | (have h2 := hub137 s hs2; simp [obl, Value.ownBlock] at hs; omega) | (have h1 := hub94 s hs; simp [obl, Value.ownBlock] at hs2; omega))
          replace hO108 := hO108.ch hch155 (fun s hs hs2 => by first | (have h1 := hO108.off s hs; have h2 := hub137 s hs2; omega) | (have h1 := hub110 s hs; have h2 := hO132.off s hs2; omega) | (have h2 := hub137 s hs2; simp [obl, Value.ownBlock] at hs; omega) | (have h1 := hub110 s hs; simp [obl, Value.ownBlock] at hs2; omega))
          replace hO115 := hO115.ch hch155 (fun s hs hs2 => by first | (have h1 := hO115.off s hs; have h2 := hub137 s hs2; omega) | (have h1 := hub117 s hs; have h2 := hO132.off s hs2; omega) | (have h2 := hub137 s hs2; simp [obl, Value.ownBlock] at hs; omega) | (have h1 := hub117 s hs; simp [obl, Value.ownBlock] at hs2; omega))
          replace hc := (hO132.off.le (by omega)).step hc hch155
          have hub159 := hO154.lt
          obtain ⟨A160, c161, hv162, hcap163, hcap164⟩ := hO154.form; subst hv162
          refine rw_cons (op_call (w1y rfl rfl rfl rfl) rfl rfl (rc_call C29 rfl rfl) (SumsBad_i _ xs27.length _ xs27 _ ((sumsV xs27) ++ ([1] : List Int)).length _ ((sumsV xs27) ++ ([1] : List Int)) _ (hO28.rs (fun _ => rfl)) (by omega) (by omega) (hO154.rs (fun _ => rfl)) (by omega)) ?_)
          rintro _ w165 ⟨A167, c168, rfl, hO169, hch166⟩
          have hsz170 := hch166.size
          replace hR0 := hR0.ch0 hch166
          replace hO28 := hO28.ch0 hch166
          replace hO33 := hO33.ch0 hch166
          replace hO46 := hO46.ch0 hch166
          replace hO59 := hO59.ch0 hch166
          replace hO92 := hO92.ch0 hch166
          replace hO108 := hO108.ch0 hch166
          replace hO115 := hO115.ch0 hch166
          replace hO154 := hO154.ch0 hch166
          replace hc := hc.step0 hch166
          have hub171 := hO169.lt
          have hcap172 : (badV xs27 ((sumsV xs27) ++ ([1] : List Int))).length ≤ c168 := by obtain ⟨_, _, hv, h1, _⟩ := hO169.form; injection hv with _ _ h3; omega
          have hnt173 := badV_le xs27 ((sumsV xs27) ++ ([1] : List Int))
          refine rw_cons (op_pv (w1y rfl rfl rfl rfl) rfl rfl (pv_len Try.underlying22 rfl rfl) ?_)
          refine rw_cons (op_pv (w1y rfl rfl rfl rfl) rfl rfl (pv_eql rfl rfl rfl) ?_)
          refine rw_cons (op_pv (w0 rfl) rfl rfl (pv_pickT (v := (.bool (decide ((((badV xs27 ((sumsV xs27) ++ ([1] : List Int))).length : Int) : Int) = 0)))) rfl rfl rfl) ?_)
          refine rw_cons (op_pv (w0 rfl) rfl rfl (pv_move (v := (.bool (decide ((((badV xs27 ((sumsV xs27) ++ ([1] : List Int))).length : Int) : Int) = 0)))) rfl rfl) ?_)
          refine rw_split 61 rfl (fun hb174 => ?_) (fun hb174 => ?_)
          · -- yes
            replace hb174 := of_decide_eq_true hb174
            refine rw_cons (op_pv (w1y rfl rfl rfl rfl) rfl rfl (pv_move (v := (.slice A44 (badV xs27 xs32).length c45)) rfl rfl) ?_)
            refine rw_cons (op_pv (w1y rfl rfl rfl rfl) rfl rfl (pv_len Try.underlying22 rfl rfl) ?_)
            refine rw_cons (op_pv (w1y rfl rfl rfl rfl) rfl rfl (pv_move (v := (.slice A90 (sumsV xs27).length c91)) rfl rfl) ?_)
            refine rw_cons (op_pv (w1y rfl rfl rfl rfl) rfl rfl (pv_len Try.underlying22 rfl rfl) ?_)
            refine rw_cons (op_pv (w1y rfl rfl rfl rfl) rfl rfl (pv_leq rfl rfl rfl) ?_)
            refine rw_cons (op_pv (w0 rfl) rfl rfl (pv_pickT (v := (.bool (decide (((badV xs27 xs32).length : Int) ≤ ((sumsV xs27).length : Int))))) rfl rfl rfl) ?_)
            refine rw_cons (op_pv (w0 rfl) rfl rfl (pv_assign (v := (.bool (decide (((badV xs27 xs32).length : Int) ≤ ((sumsV xs27).length : Int))))) rfl rfl) ?_)
            refine rw_nil (hK100 _ _ ?_)
            refine hK98 _ _ ?_
            refine cw_ret ?_
            refine fin1 rfl ?_
            rcases Classical.em (BytesOK xs27) with hbo | hbo
            · have e1 := sumsV_yes hbo; have e2 := sumsL_len xs27; have e3 : nparts xs27 = (xs27.length + 3) / 4 := rfl
              have e5 : (sumsV xs27).length = (xs27.length + 3) / 4 := by rw [e1, e2, e3]
              have e6 : (badV xs27 []).length = (sumsV xs27).length := by rw [e1, badV_yes hbo]; exact badL_empty _
              have e7 : (badV xs27 (sumsV xs27 ++ [1])).length = 0 := by rw [e1, badV_yes hbo, badL_more]; rfl
              have e8 : (badV xs27 xs32).length ≤ (sumsV xs27).length := by rw [e1, badV_yes hbo]; exact badL_le _ _
              first
                | exact ⟨rfl, hc⟩
                | (exfalso; omega)
                | exact absurd hbo (by assumption)
                | exact ⟨congrArg Value.bool (decide_eq_true (by omega)), hc⟩
            · first
                | exact absurd ‹BytesOK xs27› hbo
                | exact ⟨rfl, hc⟩
          · -- no
            replace hb174 := of_decide_eq_false hb174
            refine rw_cons (op_pass (w1n1 rfl rfl rfl rfl) rfl rfl ?_)
            refine rw_cons (op_pass (w1n1 rfl rfl rfl rfl) rfl rfl ?_)
            refine rw_cons (op_pass (w1n1 rfl rfl rfl rfl) rfl rfl ?_)
            refine rw_cons (op_pass (w1n1 rfl rfl rfl rfl) rfl rfl ?_)
            refine rw_cons (op_pass (w1n1 rfl rfl rfl rfl) rfl rfl ?_)
            refine rw_cons (op_pv (w0 rfl) rfl rfl (pv_pickF (v := (.bool false)) rfl rfl rfl) ?_)
            refine rw_cons (op_pv (w0 rfl) rfl rfl (pv_assign (v := (.bool false)) rfl rfl) ?_)
            refine rw_nil (hK100 _ _ ?_)
            refine hK98 _ _ ?_
            refine cw_ret ?_
            refine fin1 rfl ?_
            rcases Classical.em (BytesOK xs27) with hbo | hbo
            · have e1 := sumsV_yes hbo; have e2 := sumsL_len xs27; have e3 : nparts xs27 = (xs27.length + 3) / 4 := rfl
              have e5 : (sumsV xs27).length = (xs27.length + 3) / 4 := by rw [e1, e2, e3]
              have e6 : (badV xs27 []).length = (sumsV xs27).length := by rw [e1, badV_yes hbo]; exact badL_empty _
              have e7 : (badV xs27 (sumsV xs27 ++ [1])).length = 0 := by rw [e1, badV_yes hbo, badL_more]; rfl
              have e8 : (badV xs27 xs32).length ≤ (sumsV xs27).length := by rw [e1, badV_yes hbo]; exact badL_le _ _
              first
                | exact ⟨rfl, hc⟩
                | (exfalso; omega)
                | exact absurd hbo (by assumption)
                | exact ⟨congrArg Value.bool (decide_eq_true (by omega)), hc⟩
            · first
                | exact absurd ‹BytesOK xs27› hbo
                | exact ⟨rfl, hc⟩
        · -- no
          replace hb120 := of_decide_eq_false hb120
          refine rw_cons (op_pass (w1n1 rfl rfl rfl rfl) rfl rfl ?_)
          refine rw_cons (op_pass (w1n1 rfl rfl rfl rfl) rfl rfl ?_)
          refine rw_cons (op_pass (w1n1 rfl rfl rfl rfl) rfl rfl ?_)
          refine rw_cons (op_pass (w1n1 rfl rfl rfl rfl) rfl rfl ?_)
          refine rw_cons (op_pass (w1n1 rfl rfl rfl rfl) rfl rfl ?_)
          refine rw_cons (op_pass (w1n1 rfl rfl rfl rfl) rfl rfl ?_)
          refine rw_cons (op_pass (w1n1 rfl rfl rfl rfl) rfl rfl ?_)
          refine rw_cons (op_pass (w1n1 rfl rfl rfl rfl) rfl rfl ?_)
          refine rw_cons (op_pass (w1n1 rfl rfl rfl rfl) rfl rfl ?_)
          refine rw_cons (op_pv (w0 rfl) rfl rfl (pv_pickF (v := (.bool false)) rfl rfl rfl) ?_)
          refine rw_cons (op_pv (w0 rfl) rfl rfl (pv_move (v := (.bool false)) rfl rfl) ?_)
          refine rw_cons (op_pass (w1n1 rfl rfl rfl rfl) rfl rfl ?_)
          refine rw_cons (op_pass (w1n1 rfl rfl rfl rfl) rfl rfl ?_)
          refine rw_cons (op_pass (w1n1 rfl rfl rfl rfl) rfl rfl ?_)
          refine rw_cons (op_pass (w1n1 rfl rfl rfl rfl) rfl rfl ?_)
          refine rw_cons (op_pass (w1n1 rfl rfl rfl rfl) rfl rfl ?_)
          refine rw_cons (op_pv (w0 rfl) rfl rfl (pv_pickF (v := (.bool false)) rfl rfl rfl) ?_)
          refine rw_cons (op_pv (w0 rfl) rfl rfl (pv_assign (v := (.bool false)) rfl rfl) ?_)
          refine rw_nil (hK100 _ _ ?_)
          refine hK98 _ _ ?_
          refine cw_ret ?_
          refine fin1 rfl ?_
          rcases Classical.em (BytesOK xs27) with hbo | hbo
          · have e1 := sumsV_yes hbo; have e2 := sumsL_len xs27; have e3 : nparts xs27 = (xs27.length + 3) / 4 := rfl
            have e5 : (sumsV xs27).length = (xs27.length + 3) / 4 := by rw [e1, e2, e3]
            have e6 : (badV xs27 []).length = (sumsV xs27).length := by rw [e1, badV_yes hbo]; exact badL_empty _
            have e7 : (badV xs27 (sumsV xs27 ++ [1])).length = 0 := by rw [e1, badV_yes hbo, badL_more]; rfl
            have e8 : (badV xs27 xs32).length ≤ (sumsV xs27).length := by rw [e1, badV_yes hbo]; exact badL_le _ _
            first
              | exact ⟨rfl, hc⟩
              | (exfalso; omega)
              | exact absurd hbo (by assumption)
              | exact ⟨congrArg Value.bool (decide_eq_true (by omega)), hc⟩
          · first
              | exact absurd ‹BytesOK xs27› hbo
              | exact ⟨rfl, hc⟩
      · -- no
        replace hb101 := dec_f hb101
        refine rw_cons (op_pass (w1n1 rfl rfl rfl rfl) rfl rfl ?_)
        refine rw_cons (op_pass (w1n1 rfl rfl rfl rfl) rfl rfl ?_)
        refine rw_cons (op_pass (w1n1 rfl rfl rfl rfl) rfl rfl ?_)
        refine rw_cons (op_pass (w1n1 rfl rfl rfl rfl) rfl rfl ?_)
        refine rw_cons (op_pass (w1n1 rfl rfl rfl rfl) rfl rfl ?_)
        refine rw_cons (op_pass (w1n1 rfl rfl rfl rfl) rfl rfl ?_)
        refine rw_cons (op_pass (w1n1 rfl rfl rfl rfl) rfl rfl ?_)
        refine rw_cons (op_pv (w0 rfl) rfl rfl (pv_pickF (v := (.bool false)) rfl rfl rfl) ?_)
        refine rw_cons (op_pv (w0 rfl) rfl rfl (pv_move (v := (.bool false)) rfl rfl) ?_)
        refine rw_cons (op_pass (w1n1 rfl rfl rfl rfl) rfl rfl ?_)
        refine rw_cons (op_pass (w1n1 rfl rfl rfl rfl) rfl rfl ?_)
        refine rw_cons (op_pass (w1n1 rfl rfl rfl rfl) rfl rfl ?_)
        refine rw_cons (op_pass (w1n1 rfl rfl rfl rfl) rfl rfl ?_)
        refine rw_cons (op_pass (w1n1 rfl rfl rfl rfl) rfl rfl ?_)
        refine rw_cons (op_pass (w1n1 rfl rfl rfl rfl) rfl rfl ?_)
        refine rw_cons (op_pass (w1n1 rfl rfl rfl rfl) rfl rfl ?_)
        refine rw_cons (op_pass (w1n1 rfl rfl rfl rfl) rfl rfl ?_)
        refine rw_cons (op_pass (w1n1 rfl rfl rfl rfl) rfl rfl ?_)
        refine rw_cons (op_pv (w0 rfl) rfl rfl (pv_pickF (v := (.bool false)) rfl rfl rfl) ?_)
        refine rw_cons (op_pv (w0 rfl) rfl rfl (pv_move (v := (.bool false)) rfl rfl) ?_)
        refine rw_cons (op_pass (w1n1 rfl rfl rfl rfl) rfl rfl ?_)
        refine rw_cons (op_pass (w1n1 rfl rfl rfl rfl) rfl rfl ?_)
        refine rw_cons (op_pass (w1n1 rfl rfl rfl rfl) rfl rfl ?_)
        refine rw_cons (op_pass (w1n1 rfl rfl rfl rfl) rfl rfl ?_)
        refine rw_cons (op_pass (w1n1 rfl rfl rfl rfl) rfl rfl ?_)
        refine rw_cons (op_pv (w0 rfl) rfl rfl (pv_pickF (v := (.bool false)) rfl rfl rfl) ?_)
        refine rw_cons (op_pv (w0 rfl) rfl rfl (pv_assign (v := (.bool false)) rfl rfl) ?_)
        refine rw_nil (hK100 _ _ ?_)
        refine hK98 _ _ ?_
        refine cw_ret ?_
        refine fin1 rfl ?_
        rcases Classical.em (BytesOK xs27) with hbo | hbo
        · have e1 := sumsV_yes hbo; have e2 := sumsL_len xs27; have e3 : nparts xs27 = (xs27.length + 3) / 4 := rfl
          have e5 : (sumsV xs27).length = (xs27.length + 3) / 4 := by rw [e1, e2, e3]
          have e6 : (badV xs27 []).length = (sumsV xs27).length := by rw [e1, badV_yes hbo]; exact badL_empty _
          have e7 : (badV xs27 (sumsV xs27 ++ [1])).length = 0 := by rw [e1, badV_yes hbo, badL_more]; rfl
          have e8 : (badV xs27 xs32).length ≤ (sumsV xs27).length := by rw [e1, badV_yes hbo]; exact badL_le _ _
          first
            | exact ⟨rfl, hc⟩
            | (exfalso; omega)
            | exact absurd hbo (by assumption)
            | exact ⟨congrArg Value.bool (decide_eq_true (by omega)), hc⟩
        · first
            | exact absurd ‹BytesOK xs27› hbo
            | exact ⟨rfl, hc⟩
end Go.Proofs.Ythgnnpafieifmaa
