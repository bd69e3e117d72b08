/-
  The walk of laws.FnSumsWriteGood, written by program: each line names the law of one operation. Conditions: those of the theorem.
-/
import Derived.Test.YthgnnpafieifmaaProg
import Derived.Test.YthgnnpafieifmaaFspecDrawSumsWrite
import Derived.Test.YthgnnpafieifmaaFimplSumsWrite
import Derived.Test.YthgnnpafieifmaaFspecSumsWrite
import Derived.Test.YthgnnpafieifmaaFimplSumsOf
import Derived.Test.YthgnnpafieifmaaFimplBytesValid
import Derived.Test.YthgnnpafieifmaaFlawssameInts
import Derived.KernelRfl
namespace Go.Proofs.Ythgnnpafieifmaa
open Go Go.RowKit
set_option linter.unusedVariables false
set_option linter.unusedSimpArgs false
namespace FnSumsWriteGood_okF
theorem C19 : Callable Try.prog 19 := ⟨_, Try.func19, by kernel_rfl, by kernel_rfl⟩
theorem C23 : Callable Try.prog 23 := ⟨_, Try.func23, by kernel_rfl, by kernel_rfl⟩
theorem C27 : Callable Try.prog 27 := ⟨_, Try.func27, by kernel_rfl, by kernel_rfl⟩
theorem C30 : Callable Try.prog 30 := ⟨_, Try.func30, by kernel_rfl, by kernel_rfl⟩
theorem C31 : Callable Try.prog 31 := ⟨_, Try.func31, by kernel_rfl, by kernel_rfl⟩
theorem C33 : Callable Try.prog 33 := ⟨_, Try.func33, by kernel_rfl, by kernel_rfl⟩
end FnSumsWriteGood_okF
open FnSumsWriteGood_okF in
set_option maxHeartbeats 4000000 in
theorem FnSumsWriteGood_ok (A0 : Option Addr) (n0 c0 : Nat) (xs0 : List UInt8) (w : World) (hR0 : RS encU 1 w w.heap.size A0 n0 xs0) (hn0 : n0 ≤ c0) :
    Fn Try.prog 16 [(.slice A0 n0 c0)] w fun v w' => v = .bool true ∧ Ch [] w w' := by
  have hlen0 := hR0.len
  refine fn_of (n := 90) Try.func16 rfl rfl rfl rfl ?_
  have hc : Ch [] w w := Ch.refl _ _
  refine cw_seq fun K1 hK2 => ?_
  refine cw_region fun K3 hK4 => ?_
  refine rw_cons (op_pv (w0 rfl) rfl rfl (pv_assign (v := (.bool false)) rfl rfl) ?_)
  refine rw_nil (hK4 _ _ ?_)
  refine hK2 _ _ ?_
  refine cw_seq fun K5 hK6 => ?_
  refine cw_seq fun K7 hK8 => ?_
  refine cw_region fun K9 hK10 => ?_
  refine rw_cons (op_pv (w0 rfl) rfl rfl (pv_move (v := (.slice A0 n0 c0)) rfl rfl) ?_)
  refine rw_cons (op_pv (w0 rfl) rfl rfl (pv_len Try.underlying26 rfl rfl) ?_)
  refine rw_cons (op_pv (w0 rfl) rfl rfl (pv_gtr rfl rfl rfl) ?_)
  refine rw_nil (hK10 _ _ ?_)
  refine hK8 _ _ ?_
  refine cw_cond rfl (fun h11 => ?_) (fun h11 => ?_)
  · -- then
    replace h11 := of_decide_eq_true h11
    refine cw_seq fun K12 hK13 => ?_
    refine cw_region fun K14 hK15 => ?_
    refine rw_cons (op_pv (w0 rfl) rfl rfl (pv_assign (v := (.bool true)) rfl rfl) ?_)
    refine rw_nil (hK15 _ _ ?_)
    refine hK13 _ _ ?_
    refine cw_ret ?_
    refine fin1 rfl ?_
    exact ⟨rfl, hc⟩
  · -- else
    replace h11 := of_decide_eq_false h11
    refine cw_skip ?_
    refine hK6 _ _ ?_
    refine cw_seq fun K16 hK17 => ?_
    refine cw_region fun K18 hK19 => ?_
    refine rw_cons (op_pv (w0 rfl) rfl rfl (pv_move (v := (.slice A0 n0 c0)) rfl rfl) ?_)
    refine rw_cons (op_call (w0 rfl) rfl rfl (rc_call C33 rfl rfl) (DrawSumsWrite_ok _ _ _ _ _ (hR0.more (by omega)) (by omega)) ?_)
    rintro _ w20 ⟨A30, c31, xs32, A35, c36, xs37, a21, A40, c41, xs42, rfl, hO33, hO38, hO43, hx23, hx24, hx25, hx26, hx27, hx28, hx29, hch22⟩
    have hsz45 := hch22.size
    replace hR0 := hR0.ch0 hch22
    replace hc := hc.step0 hch22
    have hub34 := hO33.lt
    have hcap46 : xs32.length ≤ c31 := by obtain ⟨_, _, hv, h1, _⟩ := hO33.form; injection hv with _ _ h3; omega
    have hub39 := hO38.lt
    have hcap47 : xs37.length ≤ c36 := by obtain ⟨_, _, hv, h1, _⟩ := hO38.form; injection hv with _ _ h3; omega
    have hub44 := hO43.lt
    have hcap48 : xs42.length ≤ c41 := by obtain ⟨_, _, hv, h1, _⟩ := hO43.form; injection hv with _ _ h3; omega
    refine rw_cons (op_pv (w0 rfl) rfl rfl (pv_move (v := (.tuple #[(.slice A30 xs32.length c31), (.slice A35 xs37.length c36), (.int .i64 a21), (.slice A40 xs42.length c41)])) rfl rfl) ?_)
    refine rw_cons (op_pv (w0 rfl) rfl rfl (pv_ext (v := (.slice A30 xs32.length c31)) rfl rfl rfl) ?_)
    refine rw_cons (op_pv (w0 rfl) rfl rfl (pv_ext (v := (.slice A35 xs37.length c36)) rfl rfl rfl) ?_)
    refine rw_cons (op_pv (w0 rfl) rfl rfl (pv_ext (v := (.int .i64 a21)) rfl rfl rfl) ?_)
    refine rw_cons (op_pv (w0 rfl) rfl rfl (pv_ext (v := (.slice A40 xs42.length c41)) rfl rfl rfl) ?_)
    refine rw_cons (op_pv (w0 rfl) rfl rfl (pv_assign (v := (.slice A30 xs32.length c31)) rfl rfl) ?_)
    refine rw_cons (op_pv (w0 rfl) rfl rfl (pv_assign (v := (.slice A35 xs37.length c36)) rfl rfl) ?_)
    refine rw_cons (op_pv (w0 rfl) rfl rfl (pv_assign (v := (.int .i64 a21)) rfl rfl) ?_)
    refine rw_cons (op_pv (w0 rfl) rfl rfl (pv_assign (v := (.slice A40 xs42.length c41)) rfl rfl) ?_)
    refine rw_nil (hK19 _ _ ?_)
    refine hK17 _ _ ?_
    refine cw_seq fun K49 hK50 => ?_
    refine cw_region fun K51 hK52 => ?_
    refine rw_cons (op_pv (w0 rfl) rfl rfl (pv_move (v := (.slice A30 xs32.length c31)) rfl rfl) ?_)
    refine rw_cons (op_pv (w0 rfl) rfl rfl (pv_move (v := (.slice A35 xs37.length c36)) rfl rfl) ?_)
    refine rw_cons (op_pv (w0 rfl) rfl rfl (pv_move (v := (.int .i64 a21)) rfl rfl) ?_)
    refine rw_cons (op_pv (w0 rfl) rfl rfl (pv_move (v := (.slice A40 xs42.length c41)) rfl rfl) ?_)
    refine rw_cons (op_call (w0 rfl) rfl rfl (rc_call C31 rfl rfl) (SumsWrite_i _ xs32.length _ xs32 _ xs37.length _ xs37 a21 _ xs42.length _ xs42 _ (hO33.rs (fun _ => rfl)) (by omega) (by omega) (hO38.rs (fun _ => rfl)) (by omega) (hO43.rs (fun _ => rfl)) (by omega)) ?_)
    rintro _ w53 ⟨A55, c56, A58, c59, rfl, hO57, hO60, hdj61, hch54⟩
    have hsz62 := hch54.size
    replace hR0 := hR0.ch0 hch54
    replace hO33 := hO33.ch0 hch54
    replace hO38 := hO38.ch0 hch54
    replace hO43 := hO43.ch0 hch54
    replace hc := hc.step0 hch54
    have hub63 := hO57.lt
    have hcap64 : (writeV xs32 xs37 a21 xs42).length ≤ c56 := by obtain ⟨_, _, hv, h1, _⟩ := hO57.form; injection hv with _ _ h3; omega
    have hub65 := hO60.lt
    have hcap66 : (writeS xs32 xs37 a21 xs42).length ≤ c59 := by obtain ⟨_, _, hv, h1, _⟩ := hO60.form; injection hv with _ _ h3; omega
    have hnt67 := writeV_le xs32 xs37 a21 xs42
    have hnt68 := writeS_le xs32 xs37 a21 xs42
    refine rw_cons (op_pv (w0 rfl) rfl rfl (pv_move (v := (.tuple #[(.slice A55 (writeV xs32 xs37 a21 xs42).length c56), (.slice A58 (writeS xs32 xs37 a21 xs42).length c59), (.bool (dec (WriteOK xs32 xs37 a21 xs42)))])) rfl rfl) ?_)
    refine rw_cons (op_pv (w0 rfl) rfl rfl (pv_ext (v := (.slice A55 (writeV xs32 xs37 a21 xs42).length c56)) rfl rfl rfl) ?_)
    refine rw_cons (op_pv (w0 rfl) rfl rfl (pv_ext (v := (.slice A58 (writeS xs32 xs37 a21 xs42).length c59)) rfl rfl rfl) ?_)
    refine rw_cons (op_pv (w0 rfl) rfl rfl (pv_ext (v := (.bool (dec (WriteOK xs32 xs37 a21 xs42)))) rfl rfl rfl) ?_)
    refine rw_cons (op_pv (w0 rfl) rfl rfl (pv_assign (v := (.slice A55 (writeV xs32 xs37 a21 xs42).length c56)) rfl rfl) ?_)
    refine rw_cons (op_pv (w0 rfl) rfl rfl (pv_assign (v := (.slice A58 (writeS xs32 xs37 a21 xs42).length c59)) rfl rfl) ?_)
    refine rw_cons (op_pv (w0 rfl) rfl rfl (pv_assign (v := (.bool (dec (WriteOK xs32 xs37 a21 xs42)))) rfl rfl) ?_)
    refine rw_nil (hK52 _ _ ?_)
    refine hK50 _ _ ?_
    refine cw_seq fun K69 hK70 => ?_
    refine cw_region fun K71 hK72 => ?_
    refine rw_cons (op_pv (w0 rfl) rfl rfl (pv_move (v := (.slice A30 xs32.length c31)) rfl rfl) ?_)
    refine rw_cons (op_pv (w0 rfl) rfl rfl (pv_move (v := (.slice A35 xs37.length c36)) rfl rfl) ?_)
    refine rw_cons (op_pv (w0 rfl) rfl rfl (pv_move (v := (.int .i64 a21)) rfl rfl) ?_)
    refine rw_cons (op_pv (w0 rfl) rfl rfl (pv_move (v := (.slice A40 xs42.length c41)) rfl rfl) ?_)
    refine rw_cons (op_call (w0 rfl) rfl rfl (rc_call C30 rfl rfl) (SumsWrite_s _ xs32.length _ xs32 _ xs37.length _ xs37 a21 _ xs42.length _ xs42 _ (hO33.rs (fun _ => rfl)) (by omega) (by omega) (hO38.rs (fun _ => rfl)) (by omega) (hO43.rs (fun _ => rfl)) (by omega)) ?_)
    rintro _ w73 ⟨A75, c76, A78, c79, rfl, hO77, hO80, hdj81, hch74⟩
    have hsz82 := hch74.size
    replace hR0 := hR0.ch0 hch74
    replace hO33 := hO33.ch0 hch74
    replace hO38 := hO38.ch0 hch74
    replace hO43 := hO43.ch0 hch74
    replace hO57 := hO57.ch0 hch74
    replace hO60 := hO60.ch0 hch74
    replace hc := hc.step0 hch74
    have hub83 := hO77.lt
    have hcap84 : (writeV xs32 xs37 a21 xs42).length ≤ c76 := by obtain ⟨_, _, hv, h1, _⟩ := hO77.form; injection hv with _ _ h3; omega
    have hub85 := hO80.lt
    have hcap86 : (writeS xs32 xs37 a21 xs42).length ≤ c79 := by obtain ⟨_, _, hv, h1, _⟩ := hO80.form; injection hv with _ _ h3; omega
    have hnt87 := writeV_le xs32 xs37 a21 xs42
    have hnt88 := writeS_le xs32 xs37 a21 xs42
    refine rw_cons (op_pv (w0 rfl) rfl rfl (pv_move (v := (.tuple #[(.slice A75 (writeV xs32 xs37 a21 xs42).length c76), (.slice A78 (writeS xs32 xs37 a21 xs42).length c79), (.bool (dec (WriteOK xs32 xs37 a21 xs42)))])) rfl rfl) ?_)
    refine rw_cons (op_pv (w0 rfl) rfl rfl (pv_ext (v := (.slice A75 (writeV xs32 xs37 a21 xs42).length c76)) rfl rfl rfl) ?_)
    refine rw_cons (op_pv (w0 rfl) rfl rfl (pv_ext (v := (.slice A78 (writeS xs32 xs37 a21 xs42).length c79)) rfl rfl rfl) ?_)
    refine rw_cons (op_pv (w0 rfl) rfl rfl (pv_ext (v := (.bool (dec (WriteOK xs32 xs37 a21 xs42)))) rfl rfl rfl) ?_)
    refine rw_cons (op_pv (w0 rfl) rfl rfl (pv_assign (v := (.slice A75 (writeV xs32 xs37 a21 xs42).length c76)) rfl rfl) ?_)
    refine rw_cons (op_pv (w0 rfl) rfl rfl (pv_assign (v := (.slice A78 (writeS xs32 xs37 a21 xs42).length c79)) rfl rfl) ?_)
    refine rw_cons (op_pv (w0 rfl) rfl rfl (pv_assign (v := (.bool (dec (WriteOK xs32 xs37 a21 xs42)))) rfl rfl) ?_)
    refine rw_nil (hK72 _ _ ?_)
    refine hK70 _ _ ?_
    refine cw_seq fun K89 hK90 => ?_
    refine cw_seq fun K91 hK92 => ?_
    refine cw_region fun K93 hK94 => ?_
    refine rw_cons (op_pv (w0 rfl) rfl rfl (pv_move (v := (.bool (dec (WriteOK xs32 xs37 a21 xs42)))) rfl rfl) ?_)
    refine rw_cons (op_pv (w0 rfl) rfl rfl (pv_move (v := (.bool (dec (WriteOK xs32 xs37 a21 xs42)))) rfl rfl) ?_)
    refine rw_cons (op_pv (w0 rfl) rfl rfl (pv_neBs Try.underlying4 rfl rfl rfl) ?_)
    refine rw_cons (op_pv (w0 rfl) rfl rfl (pv_move (v := (.bool false)) rfl rfl) ?_)
    refine rw_cons (op_pv (w1y rfl rfl rfl rfl) rfl rfl (pv_move (v := (.slice A58 (writeS xs32 xs37 a21 xs42).length c59)) rfl rfl) ?_)
    refine rw_cons (op_pv (w1y rfl rfl rfl rfl) rfl rfl (pv_move (v := (.slice A78 (writeS xs32 xs37 a21 xs42).length c79)) rfl rfl) ?_)
    refine rw_cons (op_call (w1y rfl rfl rfl rfl) rfl rfl (rc_call C27 rfl rfl) (sameInts_same _ _ _ _ _ _ (writeS xs32 xs37 a21 xs42) _ (hO60.rs (fun _ => rfl)) (hO80.rs (fun _ => rfl)) (by omega)) ?_)
    rintro _ w95 ⟨rfl, hch96⟩
    have hsz97 := hch96.size
    replace hR0 := hR0.ch0 hch96
    replace hO33 := hO33.ch0 hch96
    replace hO38 := hO38.ch0 hch96
    replace hO43 := hO43.ch0 hch96
    replace hO57 := hO57.ch0 hch96
    replace hO60 := hO60.ch0 hch96
    replace hO77 := hO77.ch0 hch96
    replace hO80 := hO80.ch0 hch96
    replace hc := hc.step0 hch96
    refine rw_cons (op_pv (w1y rfl rfl rfl rfl) rfl rfl (pv_not rfl rfl) ?_)
    refine rw_cons (op_pv (w0 rfl) rfl rfl (pv_pickF (v := (.bool (!true))) rfl rfl rfl) ?_)
    refine rw_cons (op_pv (w0 rfl) rfl rfl (pv_move (v := (.bool (!true))) rfl rfl) ?_)
    refine rw_cons (op_pv (w1y rfl rfl rfl rfl) rfl rfl (pv_move (v := (.slice A55 (writeV xs32 xs37 a21 xs42).length c56)) rfl rfl) ?_)
    refine rw_cons (op_pv (w1y rfl rfl rfl rfl) rfl rfl (pv_move (v := (.slice A75 (writeV xs32 xs37 a21 xs42).length c76)) rfl rfl) ?_)
    refine rw_cons (op_call (w1y rfl rfl rfl rfl) rfl rfl (rc_call C27 rfl rfl) (sameInts_same _ _ _ _ _ _ (writeV xs32 xs37 a21 xs42) _ (hO57.rs (fun _ => rfl)) (hO77.rs (fun _ => rfl)) (by omega)) ?_)
    rintro _ w98 ⟨rfl, hch99⟩
    have hsz100 := hch99.size
    replace hR0 := hR0.ch0 hch99
    replace hO33 := hO33.ch0 hch99
    replace hO38 := hO38.ch0 hch99
    replace hO43 := hO43.ch0 hch99
    replace hO57 := hO57.ch0 hch99
    replace hO60 := hO60.ch0 hch99
    replace hO77 := hO77.ch0 hch99
    replace hO80 := hO80.ch0 hch99
    replace hc := hc.step0 hch99
    refine rw_cons (op_pv (w1y rfl rfl rfl rfl) rfl rfl (pv_not rfl rfl) ?_)
    refine rw_cons (op_pv (w0 rfl) rfl rfl (pv_pickF (v := (.bool (!true))) rfl rfl rfl) ?_)
    refine rw_cons (op_pv (w0 rfl) rfl rfl (pv_move (v := (.bool (!true))) rfl rfl) ?_)
    refine rw_cons (op_pv (w1y rfl rfl rfl rfl) rfl rfl (pv_move (v := (.bool (dec (WriteOK xs32 xs37 a21 xs42)))) rfl rfl) ?_)
    refine rw_cons (op_pv (w1y rfl rfl rfl rfl) rfl rfl (pv_not rfl rfl) ?_)
    refine rw_cons (op_pv (w0 rfl) rfl rfl (pv_pickF (v := (.bool (!(dec (WriteOK xs32 xs37 a21 xs42))))) rfl rfl rfl) ?_)
    refine rw_nil (hK94 _ _ ?_)
    refine hK92 _ _ ?_
    refine cw_cond rfl (fun h101 => ?_) (fun h101 => ?_)
    · -- then
      replace h101 := not_t h101
      replace h101 := dec_f h101
      refine cw_seq fun K102 hK103 => ?_
      refine cw_region fun K104 hK105 => ?_
      refine rw_cons (op_pv (w0 rfl) rfl rfl (pv_move (v := (.bool (dec (WriteOK xs32 xs37 a21 xs42)))) rfl rfl) ?_)
      refine rw_cons (op_pv (w0 rfl) rfl rfl (pv_move (v := (.bool (dec (WriteOK xs32 xs37 a21 xs42)))) rfl rfl) ?_)
      refine rw_cons (op_pv (w0 rfl) rfl rfl (pv_eqBs Try.underlying4 rfl rfl rfl) ?_)
      refine rw_cons (op_pv (w0 rfl) rfl rfl (pv_move (v := (.bool true)) rfl rfl) ?_)
      refine rw_cons (op_pv (w1y rfl rfl rfl rfl) rfl rfl (pv_move (v := (.slice A58 (writeS xs32 xs37 a21 xs42).length c59)) rfl rfl) ?_)
      refine rw_cons (op_pv (w1y rfl rfl rfl rfl) rfl rfl (pv_move (v := (.slice A78 (writeS xs32 xs37 a21 xs42).length c79)) rfl rfl) ?_)
      refine rw_cons (op_call (w1y rfl rfl rfl rfl) rfl rfl (rc_call C27 rfl rfl) (sameInts_same _ _ _ _ _ _ (writeS xs32 xs37 a21 xs42) _ (hO60.rs (fun _ => rfl)) (hO80.rs (fun _ => rfl)) (by omega)) ?_)
      rintro _ w106 ⟨rfl, hch107⟩
      have hsz108 := hch107.size
      replace hR0 := hR0.ch0 hch107
      replace hO33 := hO33.ch0 hch107
      replace hO38 := hO38.ch0 hch107
      replace hO43 := hO43.ch0 hch107
      replace hO57 := hO57.ch0 hch107
      replace hO60 := hO60.ch0 hch107
      replace hO77 := hO77.ch0 hch107
      replace hO80 := hO80.ch0 hch107
      replace hc := hc.step0 hch107
      refine rw_cons (op_pv (w0 rfl) rfl rfl (pv_pickT (v := (.bool true)) rfl rfl rfl) ?_)
      refine rw_cons (op_pv (w0 rfl) rfl rfl (pv_move (v := (.bool true)) rfl rfl) ?_)
      refine rw_cons (op_pv (w1y rfl rfl rfl rfl) rfl rfl (pv_move (v := (.slice A55 (writeV xs32 xs37 a21 xs42).length c56)) rfl rfl) ?_)
      refine rw_cons (op_pv (w1y rfl rfl rfl rfl) rfl rfl (pv_move (v := (.slice A75 (writeV xs32 xs37 a21 xs42).length c76)) rfl rfl) ?_)
      refine rw_cons (op_call (w1y rfl rfl rfl rfl) rfl rfl (rc_call C27 rfl rfl) (sameInts_same _ _ _ _ _ _ (writeV xs32 xs37 a21 xs42) _ (hO57.rs (fun _ => rfl)) (hO77.rs (fun _ => rfl)) (by omega)) ?_)
      rintro _ w109 ⟨rfl, hch110⟩
      have hsz111 := hch110.size
      replace hR0 := hR0.ch0 hch110
      replace hO33 := hO33.ch0 hch110
      replace hO38 := hO38.ch0 hch110
      replace hO43 := hO43.ch0 hch110
      replace hO57 := hO57.ch0 hch110
      replace hO60 := hO60.ch0 hch110
      replace hO77 := hO77.ch0 hch110
      replace hO80 := hO80.ch0 hch110
      replace hc := hc.step0 hch110
      refine rw_cons (op_pv (w0 rfl) rfl rfl (pv_pickT (v := (.bool true)) rfl rfl rfl) ?_)
      refine rw_cons (op_pv (w0 rfl) rfl rfl (pv_assign (v := (.bool true)) rfl rfl) ?_)
      refine rw_nil (hK105 _ _ ?_)
      refine hK103 _ _ ?_
      refine cw_ret ?_
      refine fin1 rfl ?_
      exact ⟨rfl, hc⟩
    · -- else
      replace h101 := not_f h101
      replace h101 := dec_t h101
      refine cw_skip ?_
      refine hK90 _ _ ?_
      refine cw_seq fun K112 hK113 => ?_
      refine cw_region fun K114 hK115 => ?_
      refine rw_cons (op_pv (w0 rfl) rfl rfl (pv_move (v := (.slice A55 (writeV xs32 xs37 a21 xs42).length c56)) rfl rfl) ?_)
      refine rw_cons (op_call (w0 rfl) rfl rfl (rc_call C23 rfl rfl) (SumsOf_i _ (writeV xs32 xs37 a21 xs42).length _ (writeV xs32 xs37 a21 xs42) _ (hO57.rs (fun _ => rfl)) (by omega) (by omega)) ?_)
      rintro _ w116 ⟨A118, c119, rfl, hO120, hch117⟩
      have hsz121 := hch117.size
      replace hR0 := hR0.ch0 hch117
      replace hO33 := hO33.ch0 hch117
      replace hO38 := hO38.ch0 hch117
      replace hO43 := hO43.ch0 hch117
      replace hO57 := hO57.ch0 hch117
      replace hO60 := hO60.ch0 hch117
      replace hO77 := hO77.ch0 hch117
      replace hO80 := hO80.ch0 hch117
      replace hc := hc.step0 hch117
      have hub122 := hO120.lt
      have hcap123 : (sumsV (writeV xs32 xs37 a21 xs42)).length ≤ c119 := by obtain ⟨_, _, hv, h1, _⟩ := hO120.form; injection hv with _ _ h3; omega
      have hnt124 := sumsV_le (writeV xs32 xs37 a21 xs42)
      refine rw_cons (op_pv (w0 rfl) rfl rfl (pv_move (v := (.tuple #[(.slice A118 (sumsV (writeV xs32 xs37 a21 xs42)).length c119), (.bool (dec (BytesOK (writeV xs32 xs37 a21 xs42))))])) rfl rfl) ?_)
      refine rw_cons (op_pv (w0 rfl) rfl rfl (pv_ext (v := (.slice A118 (sumsV (writeV xs32 xs37 a21 xs42)).length c119)) rfl rfl rfl) ?_)
      refine rw_cons (op_pv (w0 rfl) rfl rfl (pv_ext (v := (.bool (dec (BytesOK (writeV xs32 xs37 a21 xs42))))) rfl rfl rfl) ?_)
      refine rw_cons (op_pv (w0 rfl) rfl rfl (pv_assign (v := (.slice A118 (sumsV (writeV xs32 xs37 a21 xs42)).length c119)) rfl rfl) ?_)
      refine rw_cons (op_pv (w0 rfl) rfl rfl (pv_assign (v := (.bool (dec (BytesOK (writeV xs32 xs37 a21 xs42))))) rfl rfl) ?_)
      refine rw_nil (hK115 _ _ ?_)
      refine hK113 _ _ ?_
      refine cw_seq fun K125 hK126 => ?_
      refine cw_region fun K127 hK128 => ?_
      refine rw_cons (op_pv (w0 rfl) rfl rfl (pv_move (v := (.slice A55 (writeV xs32 xs37 a21 xs42).length c56)) rfl rfl) ?_)
      refine rw_cons (op_call (w0 rfl) rfl rfl (rc_call C19 rfl rfl) (BytesValid_i _ _ _ (writeV xs32 xs37 a21 xs42) _ (hO57.rs (fun _ => rfl)) (by omega)) ?_)
      rintro _ w129 ⟨rfl, hch130⟩
      have hsz131 := hch130.size
      replace hR0 := hR0.ch0 hch130
      replace hO33 := hO33.ch0 hch130
      replace hO38 := hO38.ch0 hch130
      replace hO43 := hO43.ch0 hch130
      replace hO57 := hO57.ch0 hch130
      replace hO60 := hO60.ch0 hch130
      replace hO77 := hO77.ch0 hch130
      replace hO80 := hO80.ch0 hch130
      replace hO120 := hO120.ch0 hch130
      replace hc := hc.step0 hch130
      refine rw_cons (op_pv (w0 rfl) rfl rfl (pv_move (v := (.bool (dec (BytesOK (writeV xs32 xs37 a21 xs42))))) rfl rfl) ?_)
      refine rw_split 82 rfl (fun hb132 => ?_) (fun hb132 => ?_)
      · -- yes
        replace hb132 := dec_t hb132
        refine rw_cons (op_pv (w1y rfl rfl rfl rfl) rfl rfl (pv_move (v := (.bool (dec (BytesOK (writeV xs32 xs37 a21 xs42))))) rfl rfl) ?_)
        refine rw_cons (op_pv (w0 rfl) rfl rfl (pv_pickT (v := (.bool (dec (BytesOK (writeV xs32 xs37 a21 xs42))))) rfl rfl rfl) ?_)
        refine rw_cons (op_pv (w0 rfl) rfl rfl (pv_move (v := (.bool (dec (BytesOK (writeV xs32 xs37 a21 xs42))))) rfl rfl) ?_)
        refine rw_split 85 rfl (fun hb133 => ?_) (fun hb133 => ?_)
        · -- yes
          replace hb133 := dec_t hb133
          refine rw_cons (op_pv (w1y rfl rfl rfl rfl) rfl rfl (pv_move (v := (.slice A118 (sumsV (writeV xs32 xs37 a21 xs42)).length c119)) rfl rfl) ?_)
          refine rw_cons (op_pv (w1y rfl rfl rfl rfl) rfl rfl (pv_move (v := (.slice A58 (writeS xs32 xs37 a21 xs42).length c59)) rfl rfl) ?_)
          refine rw_cons (op_call (w1y rfl rfl rfl rfl) rfl rfl (rc_call C27 rfl rfl) (sameInts_ok _ _ _ _ _ _ (sumsV (writeV xs32 xs37 a21 xs42)) (writeS xs32 xs37 a21 xs42) _ (hO120.rs (fun _ => rfl)) (hO60.rs (fun _ => rfl)) (by omega)) ?_)
          rintro _ w134 ⟨rfl, hch135⟩
          have hsz136 := hch135.size
          replace hR0 := hR0.ch0 hch135
          replace hO33 := hO33.ch0 hch135
          replace hO38 := hO38.ch0 hch135
          replace hO43 := hO43.ch0 hch135
          replace hO57 := hO57.ch0 hch135
          replace hO60 := hO60.ch0 hch135
          replace hO77 := hO77.ch0 hch135
          replace hO80 := hO80.ch0 hch135
          replace hO120 := hO120.ch0 hch135
          replace hc := hc.step0 hch135
          refine rw_cons (op_pv (w0 rfl) rfl rfl (pv_pickT (v := (.bool (dec ((sumsV (writeV xs32 xs37 a21 xs42)) = (writeS xs32 xs37 a21 xs42))))) rfl rfl rfl) ?_)
          refine rw_cons (op_pv (w0 rfl) rfl rfl (pv_assign (v := (.bool (dec ((sumsV (writeV xs32 xs37 a21 xs42)) = (writeS xs32 xs37 a21 xs42))))) rfl rfl) ?_)
          refine rw_nil (hK128 _ _ ?_)
          refine hK126 _ _ ?_
          refine cw_ret ?_
          refine fin1 rfl ?_
          rcases Classical.em (WriteOK xs32 xs37 a21 xs42) with hbo | hbo
          · have e1 := writeV_yes hbo; have e2 := writeS_yes hbo
            obtain ⟨q1, q2, q3, q4, q5, q6⟩ := id hbo
            have e3 := writeL_ok q1 q2 (a := a21.toNat) (by omega) (by omega)
            have e4 := writeL_len (bs := xs32) (fr := xs42) (a := a21.toNat) (by omega)
            have e5 := q1.1; have e6 := q2.1
            have e8 : BytesOK (writeV xs32 xs37 a21 xs42) := by rw [e1]; exact e3
            have e7 : sumsV (writeV xs32 xs37 a21 xs42) = writeS xs32 xs37 a21 xs42 := by rw [e1, e2, sumsV_yes e3]
            first
              | exact ⟨rfl, hc⟩
              | (exfalso; omega)
              | exact absurd hbo (by assumption)
              | exact ⟨congrArg Value.bool (decide_eq_true (by omega)), hc⟩
              | exact absurd e8 (by assumption)
              | exact ⟨congrArg Value.bool (dec_yes e7), hc⟩
          · first
              | exact absurd ‹WriteOK xs32 xs37 a21 xs42› hbo
              | exact ⟨rfl, hc⟩
        · -- no
          replace hb133 := dec_f hb133
          refine rw_cons (op_pass (w1n1 rfl rfl rfl rfl) rfl rfl ?_)
          refine rw_cons (op_pass (w1n1 rfl rfl rfl rfl) rfl rfl ?_)
          refine rw_cons (op_pass (w1n1 rfl rfl rfl rfl) rfl rfl ?_)
          refine rw_cons (op_pv (w0 rfl) rfl rfl (pv_pickF (v := (.bool false)) rfl rfl rfl) ?_)
          refine rw_cons (op_pv (w0 rfl) rfl rfl (pv_assign (v := (.bool false)) rfl rfl) ?_)
          refine rw_nil (hK128 _ _ ?_)
          refine hK126 _ _ ?_
          refine cw_ret ?_
          refine fin1 rfl ?_
          rcases Classical.em (WriteOK xs32 xs37 a21 xs42) with hbo | hbo
          · have e1 := writeV_yes hbo; have e2 := writeS_yes hbo
            obtain ⟨q1, q2, q3, q4, q5, q6⟩ := id hbo
            have e3 := writeL_ok q1 q2 (a := a21.toNat) (by omega) (by omega)
            have e4 := writeL_len (bs := xs32) (fr := xs42) (a := a21.toNat) (by omega)
            have e5 := q1.1; have e6 := q2.1
            have e8 : BytesOK (writeV xs32 xs37 a21 xs42) := by rw [e1]; exact e3
            have e7 : sumsV (writeV xs32 xs37 a21 xs42) = writeS xs32 xs37 a21 xs42 := by rw [e1, e2, sumsV_yes e3]
            first
              | exact ⟨rfl, hc⟩
              | (exfalso; omega)
              | exact absurd hbo (by assumption)
              | exact ⟨congrArg Value.bool (decide_eq_true (by omega)), hc⟩
              | exact absurd e8 (by assumption)
              | exact ⟨congrArg Value.bool (dec_yes e7), hc⟩
          · first
              | exact absurd ‹WriteOK xs32 xs37 a21 xs42› hbo
              | exact ⟨rfl, hc⟩
      · -- no
        replace hb132 := dec_f hb132
        refine rw_cons (op_pass (w1n1 rfl rfl rfl rfl) rfl rfl ?_)
        refine rw_cons (op_pv (w0 rfl) rfl rfl (pv_pickF (v := (.bool false)) rfl rfl rfl) ?_)
        refine rw_cons (op_pv (w0 rfl) rfl rfl (pv_move (v := (.bool false)) rfl rfl) ?_)
        refine rw_cons (op_pass (w1n1 rfl rfl rfl rfl) rfl rfl ?_)
        refine rw_cons (op_pass (w1n1 rfl rfl rfl rfl) rfl rfl ?_)
        refine rw_cons (op_pass (w1n1 rfl rfl rfl rfl) rfl rfl ?_)
        refine rw_cons (op_pv (w0 rfl) rfl rfl (pv_pickF (v := (.bool false)) rfl rfl rfl) ?_)
        refine rw_cons (op_pv (w0 rfl) rfl rfl (pv_assign (v := (.bool false)) rfl rfl) ?_)
        refine rw_nil (hK128 _ _ ?_)
        refine hK126 _ _ ?_
        refine cw_ret ?_
        refine fin1 rfl ?_
        rcases Classical.em (WriteOK xs32 xs37 a21 xs42) with hbo | hbo
        · have e1 := writeV_yes hbo; have e2 := writeS_yes hbo
          obtain ⟨q1, q2, q3, q4, q5, q6⟩ := id hbo
          have e3 := writeL_ok q1 q2 (a := a21.toNat) (by omega) (by omega)
          have e4 := writeL_len (bs := xs32) (fr := xs42) (a := a21.toNat) (by omega)
          have e5 := q1.1; have e6 := q2.1
          have e8 : BytesOK (writeV xs32 xs37 a21 xs42) := by rw [e1]; exact e3
          have e7 : sumsV (writeV xs32 xs37 a21 xs42) = writeS xs32 xs37 a21 xs42 := by rw [e1, e2, sumsV_yes e3]
          first
            | exact ⟨rfl, hc⟩
            | (exfalso; omega)
            | exact absurd hbo (by assumption)
            | exact ⟨congrArg Value.bool (decide_eq_true (by omega)), hc⟩
            | exact absurd e8 (by assumption)
            | exact ⟨congrArg Value.bool (dec_yes e7), hc⟩
        · first
            | exact absurd ‹WriteOK xs32 xs37 a21 xs42› hbo
            | exact ⟨rfl, hc⟩
end Go.Proofs.Ythgnnpafieifmaa
