/-
  The walk of laws.FnSumsWriteBack, written by program: each line names the law of one operation. Conditions: those of the theorem.
-/
import Derived.Test.YthgnnpafieifmaaProg
import Derived.Test.YthgnnpafieifmaaFspecDrawSumsWrite
import Derived.Test.YthgnnpafieifmaaFimplSumsWrite
import Derived.Test.YthgnnpafieifmaaFspecSumsWrite
import Derived.Test.YthgnnpafieifmaaFlawssameInts
import Derived.KernelRfl
namespace Go.Proofs.Ythgnnpafieifmaa
open Go Go.RowKit
set_option linter.unusedVariables false
set_option linter.unusedSimpArgs false
namespace FnSumsWriteBack_okF
theorem T3 : TI Try.prog 3 false (.int .i64 0) 1 8 := TI.mk' Try.underlying3 rfl (by kernel_rfl)
theorem C27 : Callable Try.prog 27 := ⟨_, Try.func27, by kernel_rfl, by kernel_rfl⟩
theorem C30 : Callable Try.prog 30 := ⟨_, Try.func30, by kernel_rfl, by kernel_rfl⟩
theorem C31 : Callable Try.prog 31 := ⟨_, Try.func31, by kernel_rfl, by kernel_rfl⟩
theorem C33 : Callable Try.prog 33 := ⟨_, Try.func33, by kernel_rfl, by kernel_rfl⟩
end FnSumsWriteBack_okF
open FnSumsWriteBack_okF in
set_option maxHeartbeats 4000000 in
theorem FnSumsWriteBack_ok (A0 : Option Addr) (n0 c0 : Nat) (xs0 : List UInt8) (w : World) (hR0 : RS encU 1 w w.heap.size A0 n0 xs0) (hn0 : n0 ≤ c0) :
    Fn Try.prog 14 [(.slice A0 n0 c0)] w fun v w' => v = .bool true ∧ Ch [] w w' := by
  have hlen0 := hR0.len
  refine fn_of (n := 111) Try.func14 rfl rfl rfl rfl ?_
  have hc : Ch [] w w := Ch.refl _ _
  refine cw_seq fun K1 hK2 => ?_
  refine cw_region fun K3 hK4 => ?_
  refine rw_cons (op_pv (w0 rfl) rfl rfl (pv_assign (v := (.bool false)) rfl rfl) ?_)
  refine rw_nil (hK4 _ _ ?_)
  refine hK2 _ _ ?_
  refine cw_seq fun K5 hK6 => ?_
  refine cw_seq fun K7 hK8 => ?_
  refine cw_region fun K9 hK10 => ?_
  refine rw_cons (op_pv (w0 rfl) rfl rfl (pv_move (v := (.slice A0 n0 c0)) rfl rfl) ?_)
  refine rw_cons (op_pv (w0 rfl) rfl rfl (pv_len Try.underlying26 rfl rfl) ?_)
  refine rw_cons (op_pv (w0 rfl) rfl rfl (pv_gtr rfl rfl rfl) ?_)
  refine rw_nil (hK10 _ _ ?_)
  refine hK8 _ _ ?_
  refine cw_cond rfl (fun h11 => ?_) (fun h11 => ?_)
  · -- then
    replace h11 := of_decide_eq_true h11
    refine cw_seq fun K12 hK13 => ?_
    refine cw_region fun K14 hK15 => ?_
    refine rw_cons (op_pv (w0 rfl) rfl rfl (pv_assign (v := (.bool true)) rfl rfl) ?_)
    refine rw_nil (hK15 _ _ ?_)
    refine hK13 _ _ ?_
    refine cw_ret ?_
    refine fin1 rfl ?_
    exact ⟨rfl, hc⟩
  · -- else
    replace h11 := of_decide_eq_false h11
    refine cw_skip ?_
    refine hK6 _ _ ?_
    refine cw_seq fun K16 hK17 => ?_
    refine cw_region fun K18 hK19 => ?_
    refine rw_cons (op_pv (w0 rfl) rfl rfl (pv_move (v := (.slice A0 n0 c0)) rfl rfl) ?_)
    refine rw_cons (op_call (w0 rfl) rfl rfl (rc_call C33 rfl rfl) (DrawSumsWrite_ok _ _ _ _ _ (hR0.more (by omega)) (by omega)) ?_)
    rintro _ w20 ⟨A30, c31, xs32, A35, c36, xs37, a21, A40, c41, xs42, rfl, hO33, hO38, hO43, hx23, hx24, hx25, hx26, hx27, hx28, hx29, hch22⟩
    have hsz45 := hch22.size
    replace hR0 := hR0.ch0 hch22
    replace hc := hc.step0 hch22
    have hub34 := hO33.lt
    have hcap46 : xs32.length ≤ c31 := by obtain ⟨_, _, hv, h1, _⟩ := hO33.form; injection hv with _ _ h3; omega
    have hub39 := hO38.lt
    have hcap47 : xs37.length ≤ c36 := by obtain ⟨_, _, hv, h1, _⟩ := hO38.form; injection hv with _ _ h3; omega
    have hub44 := hO43.lt
    have hcap48 : xs42.length ≤ c41 := by obtain ⟨_, _, hv, h1, _⟩ := hO43.form; injection hv with _ _ h3; omega
    refine rw_cons (op_pv (w0 rfl) rfl rfl (pv_move (v := (.tuple #[(.slice A30 xs32.length c31), (.slice A35 xs37.length c36), (.int .i64 a21), (.slice A40 xs42.length c41)])) rfl rfl) ?_)
    refine rw_cons (op_pv (w0 rfl) rfl rfl (pv_ext (v := (.slice A30 xs32.length c31)) rfl rfl rfl) ?_)
    refine rw_cons (op_pv (w0 rfl) rfl rfl (pv_ext (v := (.slice A35 xs37.length c36)) rfl rfl rfl) ?_)
    refine rw_cons (op_pv (w0 rfl) rfl rfl (pv_ext (v := (.int .i64 a21)) rfl rfl rfl) ?_)
    refine rw_cons (op_pv (w0 rfl) rfl rfl (pv_ext (v := (.slice A40 xs42.length c41)) rfl rfl rfl) ?_)
    refine rw_cons (op_pv (w0 rfl) rfl rfl (pv_assign (v := (.slice A30 xs32.length c31)) rfl rfl) ?_)
    refine rw_cons (op_pv (w0 rfl) rfl rfl (pv_assign (v := (.slice A35 xs37.length c36)) rfl rfl) ?_)
    refine rw_cons (op_pv (w0 rfl) rfl rfl (pv_assign (v := (.int .i64 a21)) rfl rfl) ?_)
    refine rw_cons (op_pv (w0 rfl) rfl rfl (pv_assign (v := (.slice A40 xs42.length c41)) rfl rfl) ?_)
    refine rw_nil (hK19 _ _ ?_)
    refine hK17 _ _ ?_
    refine cw_seq fun K49 hK50 => ?_
    refine cw_region fun K51 hK52 => ?_
    refine rw_cons (op_pv (w0 rfl) rfl rfl (pv_move (v := (.slice A30 xs32.length c31)) rfl rfl) ?_)
    refine rw_cons (op_pv (w0 rfl) rfl rfl (pv_move (v := (.slice A35 xs37.length c36)) rfl rfl) ?_)
    refine rw_cons (op_pv (w0 rfl) rfl rfl (pv_move (v := (.int .i64 a21)) rfl rfl) ?_)
    refine rw_cons (op_pv (w0 rfl) rfl rfl (pv_move (v := (.slice A40 xs42.length c41)) rfl rfl) ?_)
    refine rw_cons (op_call (w0 rfl) rfl rfl (rc_call C31 rfl rfl) (SumsWrite_i _ xs32.length _ xs32 _ xs37.length _ xs37 a21 _ xs42.length _ xs42 _ (hO33.rs (fun _ => rfl)) (by omega) (by omega) (hO38.rs (fun _ => rfl)) (by omega) (hO43.rs (fun _ => rfl)) (by omega)) ?_)
    rintro _ w53 ⟨A55, c56, A58, c59, rfl, hO57, hO60, hdj61, hch54⟩
    have hsz62 := hch54.size
    replace hR0 := hR0.ch0 hch54
    replace hO33 := hO33.ch0 hch54
    replace hO38 := hO38.ch0 hch54
    replace hO43 := hO43.ch0 hch54
    replace hc := hc.step0 hch54
    have hub63 := hO57.lt
    have hcap64 : (writeV xs32 xs37 a21 xs42).length ≤ c56 := by obtain ⟨_, _, hv, h1, _⟩ := hO57.form; injection hv with _ _ h3; omega
    have hub65 := hO60.lt
    have hcap66 : (writeS xs32 xs37 a21 xs42).length ≤ c59 := by obtain ⟨_, _, hv, h1, _⟩ := hO60.form; injection hv with _ _ h3; omega
    have hnt67 := writeV_le xs32 xs37 a21 xs42
    have hnt68 := writeS_le xs32 xs37 a21 xs42
    refine rw_cons (op_pv (w0 rfl) rfl rfl (pv_move (v := (.tuple #[(.slice A55 (writeV xs32 xs37 a21 xs42).length c56), (.slice A58 (writeS xs32 xs37 a21 xs42).length c59), (.bool (dec (WriteOK xs32 xs37 a21 xs42)))])) rfl rfl) ?_)
    refine rw_cons (op_pv (w0 rfl) rfl rfl (pv_ext (v := (.slice A55 (writeV xs32 xs37 a21 xs42).length c56)) rfl rfl rfl) ?_)
    refine rw_cons (op_pv (w0 rfl) rfl rfl (pv_ext (v := (.slice A58 (writeS xs32 xs37 a21 xs42).length c59)) rfl rfl rfl) ?_)
    refine rw_cons (op_pv (w0 rfl) rfl rfl (pv_ext (v := (.bool (dec (WriteOK xs32 xs37 a21 xs42)))) rfl rfl rfl) ?_)
    refine rw_cons (op_pv (w0 rfl) rfl rfl (pv_assign (v := (.slice A55 (writeV xs32 xs37 a21 xs42).length c56)) rfl rfl) ?_)
    refine rw_cons (op_pv (w0 rfl) rfl rfl (pv_assign (v := (.slice A58 (writeS xs32 xs37 a21 xs42).length c59)) rfl rfl) ?_)
    refine rw_cons (op_pv (w0 rfl) rfl rfl (pv_assign (v := (.bool (dec (WriteOK xs32 xs37 a21 xs42)))) rfl rfl) ?_)
    refine rw_nil (hK52 _ _ ?_)
    refine hK50 _ _ ?_
    refine cw_seq fun K69 hK70 => ?_
    refine cw_region fun K71 hK72 => ?_
    refine rw_cons (op_pv (w0 rfl) rfl rfl (pv_move (v := (.slice A30 xs32.length c31)) rfl rfl) ?_)
    refine rw_cons (op_pv (w0 rfl) rfl rfl (pv_move (v := (.slice A35 xs37.length c36)) rfl rfl) ?_)
    refine rw_cons (op_pv (w0 rfl) rfl rfl (pv_move (v := (.int .i64 a21)) rfl rfl) ?_)
    refine rw_cons (op_pv (w0 rfl) rfl rfl (pv_move (v := (.slice A40 xs42.length c41)) rfl rfl) ?_)
    refine rw_cons (op_call (w0 rfl) rfl rfl (rc_call C30 rfl rfl) (SumsWrite_s _ xs32.length _ xs32 _ xs37.length _ xs37 a21 _ xs42.length _ xs42 _ (hO33.rs (fun _ => rfl)) (by omega) (by omega) (hO38.rs (fun _ => rfl)) (by omega) (hO43.rs (fun _ => rfl)) (by omega)) ?_)
    rintro _ w73 ⟨A75, c76, A78, c79, rfl, hO77, hO80, hdj81, hch74⟩
    have hsz82 := hch74.size
    replace hR0 := hR0.ch0 hch74
    replace hO33 := hO33.ch0 hch74
    replace hO38 := hO38.ch0 hch74
    replace hO43 := hO43.ch0 hch74
    replace hO57 := hO57.ch0 hch74
    replace hO60 := hO60.ch0 hch74
    replace hc := hc.step0 hch74
    have hub83 := hO77.lt
    have hcap84 : (writeV xs32 xs37 a21 xs42).length ≤ c76 := by obtain ⟨_, _, hv, h1, _⟩ := hO77.form; injection hv with _ _ h3; omega
    have hub85 := hO80.lt
    have hcap86 : (writeS xs32 xs37 a21 xs42).length ≤ c79 := by obtain ⟨_, _, hv, h1, _⟩ := hO80.form; injection hv with _ _ h3; omega
    have hnt87 := writeV_le xs32 xs37 a21 xs42
    have hnt88 := writeS_le xs32 xs37 a21 xs42
    refine rw_cons (op_pv (w0 rfl) rfl rfl (pv_move (v := (.tuple #[(.slice A75 (writeV xs32 xs37 a21 xs42).length c76), (.slice A78 (writeS xs32 xs37 a21 xs42).length c79), (.bool (dec (WriteOK xs32 xs37 a21 xs42)))])) rfl rfl) ?_)
    refine rw_cons (op_pv (w0 rfl) rfl rfl (pv_ext (v := (.slice A75 (writeV xs32 xs37 a21 xs42).length c76)) rfl rfl rfl) ?_)
    refine rw_cons (op_pv (w0 rfl) rfl rfl (pv_ext (v := (.slice A78 (writeS xs32 xs37 a21 xs42).length c79)) rfl rfl rfl) ?_)
    refine rw_cons (op_pv (w0 rfl) rfl rfl (pv_ext (v := (.bool (dec (WriteOK xs32 xs37 a21 xs42)))) rfl rfl rfl) ?_)
    refine rw_cons (op_pv (w0 rfl) rfl rfl (pv_assign (v := (.slice A75 (writeV xs32 xs37 a21 xs42).length c76)) rfl rfl) ?_)
    refine rw_cons (op_pv (w0 rfl) rfl rfl (pv_assign (v := (.slice A78 (writeS xs32 xs37 a21 xs42).length c79)) rfl rfl) ?_)
    refine rw_cons (op_pv (w0 rfl) rfl rfl (pv_assign (v := (.bool (dec (WriteOK xs32 xs37 a21 xs42)))) rfl rfl) ?_)
    refine rw_nil (hK72 _ _ ?_)
    refine hK70 _ _ ?_
    refine cw_seq fun K89 hK90 => ?_
    refine cw_seq fun K91 hK92 => ?_
    refine cw_region fun K93 hK94 => ?_
    refine rw_cons (op_pv (w0 rfl) rfl rfl (pv_move (v := (.bool (dec (WriteOK xs32 xs37 a21 xs42)))) rfl rfl) ?_)
    refine rw_cons (op_pv (w0 rfl) rfl rfl (pv_move (v := (.bool (dec (WriteOK xs32 xs37 a21 xs42)))) rfl rfl) ?_)
    refine rw_cons (op_pv (w0 rfl) rfl rfl (pv_neBs Try.underlying4 rfl rfl rfl) ?_)
    refine rw_cons (op_pv (w0 rfl) rfl rfl (pv_move (v := (.bool false)) rfl rfl) ?_)
    refine rw_cons (op_pv (w1y rfl rfl rfl rfl) rfl rfl (pv_move (v := (.slice A58 (writeS xs32 xs37 a21 xs42).length c59)) rfl rfl) ?_)
    refine rw_cons (op_pv (w1y rfl rfl rfl rfl) rfl rfl (pv_move (v := (.slice A78 (writeS xs32 xs37 a21 xs42).length c79)) rfl rfl) ?_)
    refine rw_cons (op_call (w1y rfl rfl rfl rfl) rfl rfl (rc_call C27 rfl rfl) (sameInts_same _ _ _ _ _ _ (writeS xs32 xs37 a21 xs42) _ (hO60.rs (fun _ => rfl)) (hO80.rs (fun _ => rfl)) (by omega)) ?_)
    rintro _ w95 ⟨rfl, hch96⟩
    have hsz97 := hch96.size
    replace hR0 := hR0.ch0 hch96
    replace hO33 := hO33.ch0 hch96
    replace hO38 := hO38.ch0 hch96
    replace hO43 := hO43.ch0 hch96
    replace hO57 := hO57.ch0 hch96
    replace hO60 := hO60.ch0 hch96
    replace hO77 := hO77.ch0 hch96
    replace hO80 := hO80.ch0 hch96
    replace hc := hc.step0 hch96
    refine rw_cons (op_pv (w1y rfl rfl rfl rfl) rfl rfl (pv_not rfl rfl) ?_)
    refine rw_cons (op_pv (w0 rfl) rfl rfl (pv_pickF (v := (.bool (!true))) rfl rfl rfl) ?_)
    refine rw_cons (op_pv (w0 rfl) rfl rfl (pv_move (v := (.bool (!true))) rfl rfl) ?_)
    refine rw_cons (op_pv (w1y rfl rfl rfl rfl) rfl rfl (pv_move (v := (.slice A55 (writeV xs32 xs37 a21 xs42).length c56)) rfl rfl) ?_)
    refine rw_cons (op_pv (w1y rfl rfl rfl rfl) rfl rfl (pv_move (v := (.slice A75 (writeV xs32 xs37 a21 xs42).length c76)) rfl rfl) ?_)
    refine rw_cons (op_call (w1y rfl rfl rfl rfl) rfl rfl (rc_call C27 rfl rfl) (sameInts_same _ _ _ _ _ _ (writeV xs32 xs37 a21 xs42) _ (hO57.rs (fun _ => rfl)) (hO77.rs (fun _ => rfl)) (by omega)) ?_)
    rintro _ w98 ⟨rfl, hch99⟩
    have hsz100 := hch99.size
    replace hR0 := hR0.ch0 hch99
    replace hO33 := hO33.ch0 hch99
    replace hO38 := hO38.ch0 hch99
    replace hO43 := hO43.ch0 hch99
    replace hO57 := hO57.ch0 hch99
    replace hO60 := hO60.ch0 hch99
    replace hO77 := hO77.ch0 hch99
    replace hO80 := hO80.ch0 hch99
    replace hc := hc.step0 hch99
    refine rw_cons (op_pv (w1y rfl rfl rfl rfl) rfl rfl (pv_not rfl rfl) ?_)
    refine rw_cons (op_pv (w0 rfl) rfl rfl (pv_pickF (v := (.bool (!true))) rfl rfl rfl) ?_)
    refine rw_cons (op_pv (w0 rfl) rfl rfl (pv_move (v := (.bool (!true))) rfl rfl) ?_)
    refine rw_cons (op_pv (w1y rfl rfl rfl rfl) rfl rfl (pv_move (v := (.bool (dec (WriteOK xs32 xs37 a21 xs42)))) rfl rfl) ?_)
    refine rw_cons (op_pv (w1y rfl rfl rfl rfl) rfl rfl (pv_not rfl rfl) ?_)
    refine rw_cons (op_pv (w0 rfl) rfl rfl (pv_pickF (v := (.bool (!(dec (WriteOK xs32 xs37 a21 xs42))))) rfl rfl rfl) ?_)
    refine rw_cons (op_pv (w0 rfl) rfl rfl (pv_move (v := (.bool (!(dec (WriteOK xs32 xs37 a21 xs42))))) rfl rfl) ?_)
    refine rw_split 63 rfl (fun hb101 => ?_) (fun hb101 => ?_)
    · -- yes
      replace hb101 := not_t hb101
      replace hb101 := dec_f hb101
      refine rw_cons (op_pass (w1n2 rfl rfl rfl rfl) rfl rfl ?_)
      refine rw_cons (op_pass (w1n2 rfl rfl rfl rfl) rfl rfl ?_)
      refine rw_cons (op_pass (w1n2 rfl rfl rfl rfl) rfl rfl ?_)
      refine rw_cons (op_pass (w1n2 rfl rfl rfl rfl) rfl rfl ?_)
      refine rw_cons (op_pass (w1n2 rfl rfl rfl rfl) rfl rfl ?_)
      refine rw_cons (op_pass (w1n2 rfl rfl rfl rfl) rfl rfl ?_)
      refine rw_cons (op_pass (w1n2 rfl rfl rfl rfl) rfl rfl ?_)
      refine rw_cons (op_pv (w0 rfl) rfl rfl (pv_pickT (v := (.bool true)) rfl rfl rfl) ?_)
      refine rw_nil (hK94 _ _ ?_)
      refine hK92 _ _ ?_
      refine cw_cond rfl (fun h102 => ?_) (fun h102 => ?_)
      · -- then
        clear h102
        refine cw_seq fun K103 hK104 => ?_
        refine cw_region fun K105 hK106 => ?_
        refine rw_cons (op_pv (w0 rfl) rfl rfl (pv_move (v := (.bool (dec (WriteOK xs32 xs37 a21 xs42)))) rfl rfl) ?_)
        refine rw_cons (op_pv (w0 rfl) rfl rfl (pv_move (v := (.bool (dec (WriteOK xs32 xs37 a21 xs42)))) rfl rfl) ?_)
        refine rw_cons (op_pv (w0 rfl) rfl rfl (pv_eqBs Try.underlying4 rfl rfl rfl) ?_)
        refine rw_cons (op_pv (w0 rfl) rfl rfl (pv_move (v := (.bool true)) rfl rfl) ?_)
        refine rw_cons (op_pv (w1y rfl rfl rfl rfl) rfl rfl (pv_move (v := (.slice A58 (writeS xs32 xs37 a21 xs42).length c59)) rfl rfl) ?_)
        refine rw_cons (op_pv (w1y rfl rfl rfl rfl) rfl rfl (pv_move (v := (.slice A78 (writeS xs32 xs37 a21 xs42).length c79)) rfl rfl) ?_)
        refine rw_cons (op_call (w1y rfl rfl rfl rfl) rfl rfl (rc_call C27 rfl rfl) (sameInts_same _ _ _ _ _ _ (writeS xs32 xs37 a21 xs42) _ (hO60.rs (fun _ => rfl)) (hO80.rs (fun _ => rfl)) (by omega)) ?_)
        rintro _ w107 ⟨rfl, hch108⟩
        have hsz109 := hch108.size
        replace hR0 := hR0.ch0 hch108
        replace hO33 := hO33.ch0 hch108
        replace hO38 := hO38.ch0 hch108
        replace hO43 := hO43.ch0 hch108
        replace hO57 := hO57.ch0 hch108
        replace hO60 := hO60.ch0 hch108
        replace hO77 := hO77.ch0 hch108
        replace hO80 := hO80.ch0 hch108
        replace hc := hc.step0 hch108
        refine rw_cons (op_pv (w0 rfl) rfl rfl (pv_pickT (v := (.bool true)) rfl rfl rfl) ?_)
        refine rw_cons (op_pv (w0 rfl) rfl rfl (pv_move (v := (.bool true)) rfl rfl) ?_)
        refine rw_cons (op_pv (w1y rfl rfl rfl rfl) rfl rfl (pv_move (v := (.slice A55 (writeV xs32 xs37 a21 xs42).length c56)) rfl rfl) ?_)
        refine rw_cons (op_pv (w1y rfl rfl rfl rfl) rfl rfl (pv_move (v := (.slice A75 (writeV xs32 xs37 a21 xs42).length c76)) rfl rfl) ?_)
        refine rw_cons (op_call (w1y rfl rfl rfl rfl) rfl rfl (rc_call C27 rfl rfl) (sameInts_same _ _ _ _ _ _ (writeV xs32 xs37 a21 xs42) _ (hO57.rs (fun _ => rfl)) (hO77.rs (fun _ => rfl)) (by omega)) ?_)
        rintro _ w110 ⟨rfl, hch111⟩
        have hsz112 := hch111.size
        replace hR0 := hR0.ch0 hch111
        replace hO33 := hO33.ch0 hch111
        replace hO38 := hO38.ch0 hch111
        replace hO43 := hO43.ch0 hch111
        replace hO57 := hO57.ch0 hch111
        replace hO60 := hO60.ch0 hch111
        replace hO77 := hO77.ch0 hch111
        replace hO80 := hO80.ch0 hch111
        replace hc := hc.step0 hch111
        refine rw_cons (op_pv (w0 rfl) rfl rfl (pv_pickT (v := (.bool true)) rfl rfl rfl) ?_)
        refine rw_cons (op_pv (w0 rfl) rfl rfl (pv_assign (v := (.bool true)) rfl rfl) ?_)
        refine rw_nil (hK106 _ _ ?_)
        refine hK104 _ _ ?_
        refine cw_ret ?_
        refine fin1 rfl ?_
        exact ⟨rfl, hc⟩
      · -- else
        cases h102
    · -- no
      replace hb101 := not_f hb101
      replace hb101 := dec_t hb101
      refine rw_cons (op_pv (w1y rfl rfl rfl rfl) rfl rfl (pv_move (v := (.int .i64 a21)) rfl rfl) ?_)
      refine rw_cons (op_pv (w1y rfl rfl rfl rfl) rfl rfl (pv_move (v := (.slice A40 xs42.length c41)) rfl rfl) ?_)
      refine rw_cons (op_pv (w1y rfl rfl rfl rfl) rfl rfl (pv_len Try.underlying22 rfl rfl) ?_)
      refine rw_cons (op_pv (w1y rfl rfl rfl rfl) rfl rfl (pv_add rfl rfl rfl (by omega) (by omega)) ?_)
      refine rw_cons (op_pv (w1y rfl rfl rfl rfl) rfl rfl (pv_move (v := (.slice A30 xs32.length c31)) rfl rfl) ?_)
      refine rw_cons (op_pv (w1y rfl rfl rfl rfl) rfl rfl (pv_len Try.underlying22 rfl rfl) ?_)
      refine rw_cons (op_pv (w1y rfl rfl rfl rfl) rfl rfl (pv_gtr rfl rfl rfl) ?_)
      refine rw_cons (op_pv (w0 rfl) rfl rfl (pv_pickF (v := (.bool (decide ((xs32.length : Int) < (a21 + (xs42.length : Int)))))) rfl rfl rfl) ?_)
      refine rw_nil (hK94 _ _ ?_)
      refine hK92 _ _ ?_
      refine cw_cond rfl (fun h113 => ?_) (fun h113 => ?_)
      · -- then
        replace h113 := of_decide_eq_true h113
        refine cw_seq fun K114 hK115 => ?_
        refine cw_region fun K116 hK117 => ?_
        refine rw_cons (op_pv (w0 rfl) rfl rfl (pv_move (v := (.bool (dec (WriteOK xs32 xs37 a21 xs42)))) rfl rfl) ?_)
        refine rw_cons (op_pv (w0 rfl) rfl rfl (pv_move (v := (.bool (dec (WriteOK xs32 xs37 a21 xs42)))) rfl rfl) ?_)
        refine rw_cons (op_pv (w0 rfl) rfl rfl (pv_eqBs Try.underlying4 rfl rfl rfl) ?_)
        refine rw_cons (op_pv (w0 rfl) rfl rfl (pv_move (v := (.bool true)) rfl rfl) ?_)
        refine rw_cons (op_pv (w1y rfl rfl rfl rfl) rfl rfl (pv_move (v := (.slice A58 (writeS xs32 xs37 a21 xs42).length c59)) rfl rfl) ?_)
        refine rw_cons (op_pv (w1y rfl rfl rfl rfl) rfl rfl (pv_move (v := (.slice A78 (writeS xs32 xs37 a21 xs42).length c79)) rfl rfl) ?_)
        refine rw_cons (op_call (w1y rfl rfl rfl rfl) rfl rfl (rc_call C27 rfl rfl) (sameInts_same _ _ _ _ _ _ (writeS xs32 xs37 a21 xs42) _ (hO60.rs (fun _ => rfl)) (hO80.rs (fun _ => rfl)) (by omega)) ?_)
        rintro _ w118 ⟨rfl, hch119⟩
        have hsz120 := hch119.size
        replace hR0 := hR0.ch0 hch119
        replace hO33 := hO33.ch0 hch119
        replace hO38 := hO38.ch0 hch119
        replace hO43 := hO43.ch0 hch119
        replace hO57 := hO57.ch0 hch119
        replace hO60 := hO60.ch0 hch119
        replace hO77 := hO77.ch0 hch119
        replace hO80 := hO80.ch0 hch119
        replace hc := hc.step0 hch119
        refine rw_cons (op_pv (w0 rfl) rfl rfl (pv_pickT (v := (.bool true)) rfl rfl rfl) ?_)
        refine rw_cons (op_pv (w0 rfl) rfl rfl (pv_move (v := (.bool true)) rfl rfl) ?_)
        refine rw_cons (op_pv (w1y rfl rfl rfl rfl) rfl rfl (pv_move (v := (.slice A55 (writeV xs32 xs37 a21 xs42).length c56)) rfl rfl) ?_)
        refine rw_cons (op_pv (w1y rfl rfl rfl rfl) rfl rfl (pv_move (v := (.slice A75 (writeV xs32 xs37 a21 xs42).length c76)) rfl rfl) ?_)
        refine rw_cons (op_call (w1y rfl rfl rfl rfl) rfl rfl (rc_call C27 rfl rfl) (sameInts_same _ _ _ _ _ _ (writeV xs32 xs37 a21 xs42) _ (hO57.rs (fun _ => rfl)) (hO77.rs (fun _ => rfl)) (by omega)) ?_)
        rintro _ w121 ⟨rfl, hch122⟩
        have hsz123 := hch122.size
        replace hR0 := hR0.ch0 hch122
        replace hO33 := hO33.ch0 hch122
        replace hO38 := hO38.ch0 hch122
        replace hO43 := hO43.ch0 hch122
        replace hO57 := hO57.ch0 hch122
        replace hO60 := hO60.ch0 hch122
        replace hO77 := hO77.ch0 hch122
        replace hO80 := hO80.ch0 hch122
        replace hc := hc.step0 hch122
        refine rw_cons (op_pv (w0 rfl) rfl rfl (pv_pickT (v := (.bool true)) rfl rfl rfl) ?_)
        refine rw_cons (op_pv (w0 rfl) rfl rfl (pv_assign (v := (.bool true)) rfl rfl) ?_)
        refine rw_nil (hK117 _ _ ?_)
        refine hK115 _ _ ?_
        refine cw_ret ?_
        refine fin1 rfl ?_
        exact ⟨rfl, hc⟩
      · -- else
        replace h113 := of_decide_eq_false h113
        refine cw_skip ?_
        refine hK90 _ _ ?_
        refine cw_seq fun K124 hK125 => ?_
        obtain ⟨k1, k2, k3, k4, k5, k6⟩ := (by assumption : WriteOK xs32 xs37 a21 xs42)
        have k7 := k1.1; have k8 := k2.1
        refine cw_region fun K126 hK127 => ?_
        refine rw_cons (op_pv (w0 rfl) rfl rfl (pv_move (v := (.slice A55 (writeV xs32 xs37 a21 xs42).length c56)) rfl rfl) ?_)
        refine rw_cons (op_pv (w0 rfl) rfl rfl (pv_move (v := (.slice A58 (writeS xs32 xs37 a21 xs42).length c59)) rfl rfl) ?_)
        refine rw_cons (op_pv (w0 rfl) rfl rfl (pv_move (v := (.int .i64 a21)) rfl rfl) ?_)
        refine rw_cons (op_pv (w0 rfl) rfl rfl (pv_move (v := (.slice A30 xs32.length c31)) rfl rfl) ?_)
        refine rw_cons (op_pv (w0 rfl) rfl rfl (pv_move (v := (.int .i64 a21)) rfl rfl) ?_)
        refine rw_cons (op_pv (w0 rfl) rfl rfl (pv_move (v := (.int .i64 a21)) rfl rfl) ?_)
        refine rw_cons (op_pv (w0 rfl) rfl rfl (pv_move (v := (.slice A40 xs42.length c41)) rfl rfl) ?_)
        refine rw_cons (op_pv (w0 rfl) rfl rfl (pv_len Try.underlying22 rfl rfl) ?_)
        refine rw_cons (op_pv (w0 rfl) rfl rfl (pv_add rfl rfl rfl (by omega) (by omega)) ?_)
        refine rw_cons (op_pv (w0 rfl) rfl rfl (pv_mid Try.underlying22 T3 rfl rfl rfl rfl (by omega) (by omega) (by omega)) ?_)
        have hR128 : RS encI 1 w98 w98.heap.size A30 (a21 + (xs42.length : Int)).toNat (xs32.take (a21 + (xs42.length : Int)).toNat) := ((hO33.rs (fun _ => rfl))).upto (by omega)
        have hR129 : RS encI 1 w98 w98.heap.size (if c31 = (a21).toNat then A30 else (A30 : Option Addr).map (·.add ((a21).toNat * 1))) ((a21 + (xs42.length : Int)).toNat - (a21).toNat) ((xs32.take (a21 + (xs42.length : Int)).toNat).drop (a21).toNat) := (hR128).from (by omega) (by omega)
        refine rw_cons (op_call (w0 rfl) rfl rfl (rc_call C31 rfl rfl) (SumsWrite_i _ (writeV xs32 xs37 a21 xs42).length _ (writeV xs32 xs37 a21 xs42) _ (writeS xs32 xs37 a21 xs42).length _ (writeS xs32 xs37 a21 xs42) a21 _ ((a21 + (xs42.length : Int)).toNat - (a21).toNat) _ ((xs32.take (a21 + (xs42.length : Int)).toNat).drop (a21).toNat) _ (hO57.rs (fun _ => rfl)) (by omega) (by omega) (hO60.rs (fun _ => rfl)) (by omega) (hR129.more (by omega)) (by omega)) ?_)
        rintro _ w130 ⟨A132, c133, A135, c136, rfl, hO134, hO137, hdj138, hch131⟩
        have hsz139 := hch131.size
        replace hR0 := hR0.ch0 hch131
        replace hO33 := hO33.ch0 hch131
        replace hO38 := hO38.ch0 hch131
        replace hO43 := hO43.ch0 hch131
        replace hO57 := hO57.ch0 hch131
        replace hO60 := hO60.ch0 hch131
        replace hO77 := hO77.ch0 hch131
        replace hO80 := hO80.ch0 hch131
        replace hR128 := hR128.ch0 hch131
        replace hR129 := hR129.ch0 hch131
        replace hc := hc.step0 hch131
        have hub140 := hO134.lt
        have hcap141 : (writeV (writeV xs32 xs37 a21 xs42) (writeS xs32 xs37 a21 xs42) a21 ((xs32.take (a21 + (xs42.length : Int)).toNat).drop (a21).toNat)).length ≤ c133 := by obtain ⟨_, _, hv, h1, _⟩ := hO134.form; injection hv with _ _ h3; omega
        have hub142 := hO137.lt
        have hcap143 : (writeS (writeV xs32 xs37 a21 xs42) (writeS xs32 xs37 a21 xs42) a21 ((xs32.take (a21 + (xs42.length : Int)).toNat).drop (a21).toNat)).length ≤ c136 := by obtain ⟨_, _, hv, h1, _⟩ := hO137.form; injection hv with _ _ h3; omega
        have hnt144 := writeV_le (writeV xs32 xs37 a21 xs42) (writeS xs32 xs37 a21 xs42) a21 ((xs32.take (a21 + (xs42.length : Int)).toNat).drop (a21).toNat)
        have hnt145 := writeS_le (writeV xs32 xs37 a21 xs42) (writeS xs32 xs37 a21 xs42) a21 ((xs32.take (a21 + (xs42.length : Int)).toNat).drop (a21).toNat)
        refine rw_cons (op_pv (w0 rfl) rfl rfl (pv_move (v := (.tuple #[(.slice A132 (writeV (writeV xs32 xs37 a21 xs42) (writeS xs32 xs37 a21 xs42) a21 ((xs32.take (a21 + (xs42.length : Int)).toNat).drop (a21).toNat)).length c133), (.slice A135 (writeS (writeV xs32 xs37 a21 xs42) (writeS xs32 xs37 a21 xs42) a21 ((xs32.take (a21 + (xs42.length : Int)).toNat).drop (a21).toNat)).length c136), (.bool (dec (WriteOK (writeV xs32 xs37 a21 xs42) (writeS xs32 xs37 a21 xs42) a21 ((xs32.take (a21 + (xs42.length : Int)).toNat).drop (a21).toNat))))])) rfl rfl) ?_)
        refine rw_cons (op_pv (w0 rfl) rfl rfl (pv_ext (v := (.slice A132 (writeV (writeV xs32 xs37 a21 xs42) (writeS xs32 xs37 a21 xs42) a21 ((xs32.take (a21 + (xs42.length : Int)).toNat).drop (a21).toNat)).length c133)) rfl rfl rfl) ?_)
        refine rw_cons (op_pv (w0 rfl) rfl rfl (pv_ext (v := (.slice A135 (writeS (writeV xs32 xs37 a21 xs42) (writeS xs32 xs37 a21 xs42) a21 ((xs32.take (a21 + (xs42.length : Int)).toNat).drop (a21).toNat)).length c136)) rfl rfl rfl) ?_)
        refine rw_cons (op_pv (w0 rfl) rfl rfl (pv_ext (v := (.bool (dec (WriteOK (writeV xs32 xs37 a21 xs42) (writeS xs32 xs37 a21 xs42) a21 ((xs32.take (a21 + (xs42.length : Int)).toNat).drop (a21).toNat))))) rfl rfl rfl) ?_)
        refine rw_cons (op_pv (w0 rfl) rfl rfl (pv_assign (v := (.slice A132 (writeV (writeV xs32 xs37 a21 xs42) (writeS xs32 xs37 a21 xs42) a21 ((xs32.take (a21 + (xs42.length : Int)).toNat).drop (a21).toNat)).length c133)) rfl rfl) ?_)
        refine rw_cons (op_pv (w0 rfl) rfl rfl (pv_assign (v := (.slice A135 (writeS (writeV xs32 xs37 a21 xs42) (writeS xs32 xs37 a21 xs42) a21 ((xs32.take (a21 + (xs42.length : Int)).toNat).drop (a21).toNat)).length c136)) rfl rfl) ?_)
        refine rw_cons (op_pv (w0 rfl) rfl rfl (pv_assign (v := (.bool (dec (WriteOK (writeV xs32 xs37 a21 xs42) (writeS xs32 xs37 a21 xs42) a21 ((xs32.take (a21 + (xs42.length : Int)).toNat).drop (a21).toNat))))) rfl rfl) ?_)
        refine rw_nil (hK127 _ _ ?_)
        refine hK125 _ _ ?_
        refine cw_seq fun K146 hK147 => ?_
        refine cw_region fun K148 hK149 => ?_
        refine rw_cons (op_pv (w0 rfl) rfl rfl (pv_move (v := (.bool (dec (WriteOK (writeV xs32 xs37 a21 xs42) (writeS xs32 xs37 a21 xs42) a21 ((xs32.take (a21 + (xs42.length : Int)).toNat).drop (a21).toNat))))) rfl rfl) ?_)
        refine rw_cons (op_pv (w0 rfl) rfl rfl (pv_move (v := (.bool (dec (WriteOK (writeV xs32 xs37 a21 xs42) (writeS xs32 xs37 a21 xs42) a21 ((xs32.take (a21 + (xs42.length : Int)).toNat).drop (a21).toNat))))) rfl rfl) ?_)
        refine rw_split 101 rfl (fun hb150 => ?_) (fun hb150 => ?_)
        · -- yes
          replace hb150 := dec_t hb150
          refine rw_cons (op_pv (w1y rfl rfl rfl rfl) rfl rfl (pv_move (v := (.slice A132 (writeV (writeV xs32 xs37 a21 xs42) (writeS xs32 xs37 a21 xs42) a21 ((xs32.take (a21 + (xs42.length : Int)).toNat).drop (a21).toNat)).length c133)) rfl rfl) ?_)
          refine rw_cons (op_pv (w1y rfl rfl rfl rfl) rfl rfl (pv_move (v := (.slice A30 xs32.length c31)) rfl rfl) ?_)
          refine rw_cons (op_call (w1y rfl rfl rfl rfl) rfl rfl (rc_call C27 rfl rfl) (sameInts_ok _ _ _ _ _ _ (writeV (writeV xs32 xs37 a21 xs42) (writeS xs32 xs37 a21 xs42) a21 ((xs32.take (a21 + (xs42.length : Int)).toNat).drop (a21).toNat)) xs32 _ (hO134.rs (fun _ => rfl)) (hO33.rs (fun _ => rfl)) (by omega)) ?_)
          rintro _ w151 ⟨rfl, hch152⟩
          have hsz153 := hch152.size
          replace hR0 := hR0.ch0 hch152
          replace hO33 := hO33.ch0 hch152
          replace hO38 := hO38.ch0 hch152
          replace hO43 := hO43.ch0 hch152
          replace hO57 := hO57.ch0 hch152
          replace hO60 := hO60.ch0 hch152
          replace hO77 := hO77.ch0 hch152
          replace hO80 := hO80.ch0 hch152
          replace hR128 := hR128.ch0 hch152
          replace hR129 := hR129.ch0 hch152
          replace hO134 := hO134.ch0 hch152
          replace hO137 := hO137.ch0 hch152
          replace hc := hc.step0 hch152
          refine rw_cons (op_pv (w0 rfl) rfl rfl (pv_pickT (v := (.bool (dec ((writeV (writeV xs32 xs37 a21 xs42) (writeS xs32 xs37 a21 xs42) a21 ((xs32.take (a21 + (xs42.length : Int)).toNat).drop (a21).toNat)) = xs32)))) rfl rfl rfl) ?_)
          refine rw_cons (op_pv (w0 rfl) rfl rfl (pv_move (v := (.bool (dec ((writeV (writeV xs32 xs37 a21 xs42) (writeS xs32 xs37 a21 xs42) a21 ((xs32.take (a21 + (xs42.length : Int)).toNat).drop (a21).toNat)) = xs32)))) rfl rfl) ?_)
          refine rw_split 106 rfl (fun hb154 => ?_) (fun hb154 => ?_)
          · -- yes
            replace hb154 := dec_t hb154
            refine rw_cons (op_pv (w1y rfl rfl rfl rfl) rfl rfl (pv_move (v := (.slice A135 (writeS (writeV xs32 xs37 a21 xs42) (writeS xs32 xs37 a21 xs42) a21 ((xs32.take (a21 + (xs42.length : Int)).toNat).drop (a21).toNat)).length c136)) rfl rfl) ?_)
            refine rw_cons (op_pv (w1y rfl rfl rfl rfl) rfl rfl (pv_move (v := (.slice A35 xs37.length c36)) rfl rfl) ?_)
            refine rw_cons (op_call (w1y rfl rfl rfl rfl) rfl rfl (rc_call C27 rfl rfl) (sameInts_ok _ _ _ _ _ _ (writeS (writeV xs32 xs37 a21 xs42) (writeS xs32 xs37 a21 xs42) a21 ((xs32.take (a21 + (xs42.length : Int)).toNat).drop (a21).toNat)) xs37 _ (hO137.rs (fun _ => rfl)) (hO38.rs (fun _ => rfl)) (by omega)) ?_)
            rintro _ w155 ⟨rfl, hch156⟩
            have hsz157 := hch156.size
            replace hR0 := hR0.ch0 hch156
            replace hO33 := hO33.ch0 hch156
            replace hO38 := hO38.ch0 hch156
            replace hO43 := hO43.ch0 hch156
            replace hO57 := hO57.ch0 hch156
            replace hO60 := hO60.ch0 hch156
            replace hO77 := hO77.ch0 hch156
            replace hO80 := hO80.ch0 hch156
            replace hR128 := hR128.ch0 hch156
            replace hR129 := hR129.ch0 hch156
            replace hO134 := hO134.ch0 hch156
            replace hO137 := hO137.ch0 hch156
            replace hc := hc.step0 hch156
            refine rw_cons (op_pv (w0 rfl) rfl rfl (pv_pickT (v := (.bool (dec ((writeS (writeV xs32 xs37 a21 xs42) (writeS xs32 xs37 a21 xs42) a21 ((xs32.take (a21 + (xs42.length : Int)).toNat).drop (a21).toNat)) = xs37)))) rfl rfl rfl) ?_)
            refine rw_cons (op_pv (w0 rfl) rfl rfl (pv_assign (v := (.bool (dec ((writeS (writeV xs32 xs37 a21 xs42) (writeS xs32 xs37 a21 xs42) a21 ((xs32.take (a21 + (xs42.length : Int)).toNat).drop (a21).toNat)) = xs37)))) rfl rfl) ?_)
            refine rw_nil (hK149 _ _ ?_)
            refine hK147 _ _ ?_
            refine cw_ret ?_
            refine fin1 rfl ?_
            rcases Classical.em (WriteOK xs32 xs37 a21 xs42) with hbo | hbo
            · have e1 := writeV_yes hbo; have e2 := writeS_yes hbo
              obtain ⟨q1, q2, q3, q4, q5, q6⟩ := id hbo
              have e3 := writeL_ok q1 q2 (a := a21.toNat) (by omega) (by omega)
              have e4 := writeL_len (bs := xs32) (fr := xs42) (a := a21.toNat) (by omega)
              have e5 := q1.1; have e6 := q2.1
              have e8 : BytesOK (writeV xs32 xs37 a21 xs42) := by rw [e1]; exact e3
              have hsh : (a21 + (xs42.length : Int)).toNat = a21.toNat + xs42.length := by omega
              have b0 : a21.toNat + xs42.length ≤ xs32.length → WriteOK (writeV xs32 xs37 a21 xs42) (writeS xs32 xs37 a21 xs42) a21 ((xs32.take (a21 + (xs42.length : Int)).toNat).drop a21.toNat) := fun hle => by
                rw [e1, e2, hsh]
                have hml : ((xs32.take (a21.toNat + xs42.length)).drop a21.toNat).length = xs42.length := by simp; omega
                exact ⟨e3, bytes_drop (bytes_take q1 _) _, by omega, by omega, by omega, rfl⟩
              have b1 : a21.toNat + xs42.length ≤ xs32.length → writeV (writeV xs32 xs37 a21 xs42) (writeS xs32 xs37 a21 xs42) a21 ((xs32.take (a21 + (xs42.length : Int)).toNat).drop a21.toNat) = xs32 := fun hle => by
                rw [writeV_yes (b0 hle), e1, hsh]; exact write_back hle
              have b2 : a21.toNat + xs42.length ≤ xs32.length → writeS (writeV xs32 xs37 a21 xs42) (writeS xs32 xs37 a21 xs42) a21 ((xs32.take (a21 + (xs42.length : Int)).toNat).drop a21.toNat) = xs37 := fun hle => by
                rw [writeS_yes (b0 hle), e1, hsh, write_back hle]; exact q6
              first
                | exact ⟨rfl, hc⟩
                | (exfalso; omega)
                | exact absurd hbo (by assumption)
                | exact ⟨congrArg Value.bool (decide_eq_true (by omega)), hc⟩
                | exact absurd (b0 (by omega)) (by assumption)
                | exact absurd (b1 (by omega)) (by assumption)
                | exact ⟨congrArg Value.bool (dec_yes (b2 (by omega))), hc⟩
            · first
                | exact absurd ‹WriteOK xs32 xs37 a21 xs42› hbo
                | exact ⟨rfl, hc⟩
          · -- no
            replace hb154 := dec_f hb154
            refine rw_cons (op_pass (w1n1 rfl rfl rfl rfl) rfl rfl ?_)
            refine rw_cons (op_pass (w1n1 rfl rfl rfl rfl) rfl rfl ?_)
            refine rw_cons (op_pass (w1n1 rfl rfl rfl rfl) rfl rfl ?_)
            refine rw_cons (op_pv (w0 rfl) rfl rfl (pv_pickF (v := (.bool false)) rfl rfl rfl) ?_)
            refine rw_cons (op_pv (w0 rfl) rfl rfl (pv_assign (v := (.bool false)) rfl rfl) ?_)
            refine rw_nil (hK149 _ _ ?_)
            refine hK147 _ _ ?_
            refine cw_ret ?_
            refine fin1 rfl ?_
            rcases Classical.em (WriteOK xs32 xs37 a21 xs42) with hbo | hbo
            · have e1 := writeV_yes hbo; have e2 := writeS_yes hbo
              obtain ⟨q1, q2, q3, q4, q5, q6⟩ := id hbo
              have e3 := writeL_ok q1 q2 (a := a21.toNat) (by omega) (by omega)
              have e4 := writeL_len (bs := xs32) (fr := xs42) (a := a21.toNat) (by omega)
              have e5 := q1.1; have e6 := q2.1
              have e8 : BytesOK (writeV xs32 xs37 a21 xs42) := by rw [e1]; exact e3
              have hsh : (a21 + (xs42.length : Int)).toNat = a21.toNat + xs42.length := by omega
              have b0 : a21.toNat + xs42.length ≤ xs32.length → WriteOK (writeV xs32 xs37 a21 xs42) (writeS xs32 xs37 a21 xs42) a21 ((xs32.take (a21 + (xs42.length : Int)).toNat).drop a21.toNat) := fun hle => by
                rw [e1, e2, hsh]
                have hml : ((xs32.take (a21.toNat + xs42.length)).drop a21.toNat).length = xs42.length := by simp; omega
                exact ⟨e3, bytes_drop (bytes_take q1 _) _, by omega, by omega, by omega, rfl⟩
              have b1 : a21.toNat + xs42.length ≤ xs32.length → writeV (writeV xs32 xs37 a21 xs42) (writeS xs32 xs37 a21 xs42) a21 ((xs32.take (a21 + (xs42.length : Int)).toNat).drop a21.toNat) = xs32 := fun hle => by
                rw [writeV_yes (b0 hle), e1, hsh]; exact write_back hle
              have b2 : a21.toNat + xs42.length ≤ xs32.length → writeS (writeV xs32 xs37 a21 xs42) (writeS xs32 xs37 a21 xs42) a21 ((xs32.take (a21 + (xs42.length : Int)).toNat).drop a21.toNat) = xs37 := fun hle => by
                rw [writeS_yes (b0 hle), e1, hsh, write_back hle]; exact q6
              first
                | exact ⟨rfl, hc⟩
                | (exfalso; omega)
                | exact absurd hbo (by assumption)
                | exact ⟨congrArg Value.bool (decide_eq_true (by omega)), hc⟩
                | exact absurd (b0 (by omega)) (by assumption)
                | exact absurd (b1 (by omega)) (by assumption)
                | exact ⟨congrArg Value.bool (dec_yes (b2 (by omega))), hc⟩
            · first
                | exact absurd ‹WriteOK xs32 xs37 a21 xs42› hbo
                | exact ⟨rfl, hc⟩
        · -- no
          replace hb150 := dec_f hb150
          refine rw_cons (op_pass (w1n1 rfl rfl rfl rfl) rfl rfl ?_)
          refine rw_cons (op_pass (w1n1 rfl rfl rfl rfl) rfl rfl ?_)
          refine rw_cons (op_pass (w1n1 rfl rfl rfl rfl) rfl rfl ?_)
          refine rw_cons (op_pv (w0 rfl) rfl rfl (pv_pickF (v := (.bool false)) rfl rfl rfl) ?_)
          refine rw_cons (op_pv (w0 rfl) rfl rfl (pv_move (v := (.bool false)) rfl rfl) ?_)
          refine rw_cons (op_pass (w1n1 rfl rfl rfl rfl) rfl rfl ?_)
          refine rw_cons (op_pass (w1n1 rfl rfl rfl rfl) rfl rfl ?_)
          refine rw_cons (op_pass (w1n1 rfl rfl rfl rfl) rfl rfl ?_)
          refine rw_cons (op_pv (w0 rfl) rfl rfl (pv_pickF (v := (.bool false)) rfl rfl rfl) ?_)
          refine rw_cons (op_pv (w0 rfl) rfl rfl (pv_assign (v := (.bool false)) rfl rfl) ?_)
          refine rw_nil (hK149 _ _ ?_)
          refine hK147 _ _ ?_
          refine cw_ret ?_
          refine fin1 rfl ?_
          rcases Classical.em (WriteOK xs32 xs37 a21 xs42) with hbo | hbo
          · have e1 := writeV_yes hbo; have e2 := writeS_yes hbo
            obtain ⟨q1, q2, q3, q4, q5, q6⟩ := id hbo
            have e3 := writeL_ok q1 q2 (a := a21.toNat) (by omega) (by omega)
            have e4 := writeL_len (bs := xs32) (fr := xs42) (a := a21.toNat) (by omega)
            have e5 := q1.1; have e6 := q2.1
            have e8 : BytesOK (writeV xs32 xs37 a21 xs42) := by rw [e1]; exact e3
            have hsh : (a21 + (xs42.length : Int)).toNat = a21.toNat + xs42.length := by omega
            have b0 : a21.toNat + xs42.length ≤ xs32.length → WriteOK (writeV xs32 xs37 a21 xs42) (writeS xs32 xs37 a21 xs42) a21 ((xs32.take (a21 + (xs42.length : Int)).toNat).drop a21.toNat) := fun hle => by
              rw [e1, e2, hsh]
              have hml : ((xs32.take (a21.toNat + xs42.length)).drop a21.toNat).length = xs42.length := by simp; omega
              exact ⟨e3, bytes_drop (bytes_take q1 _) _, by omega, by omega, by omega, rfl⟩
            have b1 : a21.toNat + xs42.length ≤ xs32.length → writeV (writeV xs32 xs37 a21 xs42) (writeS xs32 xs37 a21 xs42) a21 ((xs32.take (a21 + (xs42.length : Int)).toNat).drop a21.toNat) = xs32 := fun hle => by
              rw [writeV_yes (b0 hle), e1, hsh]; exact write_back hle
            have b2 : a21.toNat + xs42.length ≤ xs32.length → writeS (writeV xs32 xs37 a21 xs42) (writeS xs32 xs37 a21 xs42) a21 ((xs32.take (a21 + (xs42.length : Int)).toNat).drop a21.toNat) = xs37 := fun hle => by
              rw [writeS_yes (b0 hle), e1, hsh, write_back hle]; exact q6
            first
              | exact ⟨rfl, hc⟩
              | (exfalso; omega)
              | exact absurd hbo (by assumption)
              | exact ⟨congrArg Value.bool (decide_eq_true (by omega)), hc⟩
              | exact absurd (b0 (by omega)) (by assumption)
              | exact absurd (b1 (by omega)) (by assumption)
              | exact ⟨congrArg Value.bool (dec_yes (b2 (by omega))), hc⟩
          · first
              | exact absurd ‹WriteOK xs32 xs37 a21 xs42› hbo
              | exact ⟨rfl, hc⟩
end Go.Proofs.Ythgnnpafieifmaa
