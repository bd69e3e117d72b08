/-
  The walk of laws.FnSumsWrite, written by program: each line names the law of one operation. Conditions: those of the theorem.
-/
import Derived.Test.YthgnnpafieifmaaProg
import Derived.Test.YthgnnpafieifmaaFspecDrawSumsWrite
import Derived.Test.YthgnnpafieifmaaFimplSumsWrite
import Derived.Test.YthgnnpafieifmaaFspecSumsWrite
import Derived.Test.YthgnnpafieifmaaFlawssameInts
import Derived.KernelRfl
namespace Go.Proofs.Ythgnnpafieifmaa
open Go Go.RowKit
set_option linter.unusedVariables false
set_option linter.unusedSimpArgs false
namespace FnSumsWrite_okF
theorem T3 : TI Try.prog 3 false (.int .i64 0) 1 8 := TI.mk' Try.underlying3 rfl (by kernel_rfl)
theorem C27 : Callable Try.prog 27 := ⟨_, Try.func27, by kernel_rfl, by kernel_rfl⟩
theorem C30 : Callable Try.prog 30 := ⟨_, Try.func30, by kernel_rfl, by kernel_rfl⟩
theorem C31 : Callable Try.prog 31 := ⟨_, Try.func31, by kernel_rfl, by kernel_rfl⟩
theorem C33 : Callable Try.prog 33 := ⟨_, Try.func33, by kernel_rfl, by kernel_rfl⟩
end FnSumsWrite_okF
open FnSumsWrite_okF in
set_option maxHeartbeats 4000000 in
theorem FnSumsWrite_ok (A0 : Option Addr) (n0 c0 : Nat) (xs0 : List UInt8) (w : World) (hR0 : RS encU 1 w w.heap.size A0 n0 xs0) (hn0 : n0 ≤ c0) :
    Fn Try.prog 13 [(.slice A0 n0 c0)] w fun v w' => v = .bool true ∧ Ch [] w w' := by
  have hlen0 := hR0.len
  refine fn_of (n := 117) Try.func13 rfl rfl rfl rfl ?_
  have hc : Ch [] w w := Ch.refl _ _
  refine cw_seq fun K1 hK2 => ?_
  refine cw_region fun K3 hK4 => ?_
  refine rw_cons (op_pv (w0 rfl) rfl rfl (pv_assign (v := (.bool false)) rfl rfl) ?_)
  refine rw_nil (hK4 _ _ ?_)
  refine hK2 _ _ ?_
  refine cw_seq fun K5 hK6 => ?_
  refine cw_seq fun K7 hK8 => ?_
  refine cw_region fun K9 hK10 => ?_
  refine rw_cons (op_pv (w0 rfl) rfl rfl (pv_move (v := (.slice A0 n0 c0)) rfl rfl) ?_)
  refine rw_cons (op_pv (w0 rfl) rfl rfl (pv_len Try.underlying26 rfl rfl) ?_)
  refine rw_cons (op_pv (w0 rfl) rfl rfl (pv_gtr rfl rfl rfl) ?_)
  refine rw_nil (hK10 _ _ ?_)
  refine hK8 _ _ ?_
  refine cw_cond rfl (fun h11 => ?_) (fun h11 => ?_)
  · -- then
    replace h11 := of_decide_eq_true h11
    refine cw_seq fun K12 hK13 => ?_
    refine cw_region fun K14 hK15 => ?_
    refine rw_cons (op_pv (w0 rfl) rfl rfl (pv_assign (v := (.bool true)) rfl rfl) ?_)
    refine rw_nil (hK15 _ _ ?_)
    refine hK13 _ _ ?_
    refine cw_ret ?_
    refine fin1 rfl ?_
    exact ⟨rfl, hc⟩
  · -- else
    replace h11 := of_decide_eq_false h11
    refine cw_skip ?_
    refine hK6 _ _ ?_
    refine cw_seq fun K16 hK17 => ?_
    refine cw_region fun K18 hK19 => ?_
    refine rw_cons (op_pv (w0 rfl) rfl rfl (pv_move (v := (.slice A0 n0 c0)) rfl rfl) ?_)
    refine rw_cons (op_call (w0 rfl) rfl rfl (rc_call C33 rfl rfl) (DrawSumsWrite_ok _ _ _ _ _ (hR0.more (by omega)) (by omega)) ?_)
    rintro _ w20 ⟨A30, c31, xs32, A35, c36, xs37, a21, A40, c41, xs42, rfl, hO33, hO38, hO43, hx23, hx24, hx25, hx26, hx27, hx28, hx29, hch22⟩
    have hsz45 := hch22.size
    replace hR0 := hR0.ch0 hch22
    replace hc := hc.step0 hch22
    have hub34 := hO33.lt
    have hcap46 : xs32.length ≤ c31 := by obtain ⟨_, _, hv, h1, _⟩ := hO33.form; injection hv with _ _ h3; omega
    have hub39 := hO38.lt
    have hcap47 : xs37.length ≤ c36 := by obtain ⟨_, _, hv, h1, _⟩ := hO38.form; injection hv with _ _ h3; omega
    have hub44 := hO43.lt
    have hcap48 : xs42.length ≤ c41 := by obtain ⟨_, _, hv, h1, _⟩ := hO43.form; injection hv with _ _ h3; omega
    refine rw_cons (op_pv (w0 rfl) rfl rfl (pv_move (v := (.tuple #[(.slice A30 xs32.length c31), (.slice A35 xs37.length c36), (.int .i64 a21), (.slice A40 xs42.length c41)])) rfl rfl) ?_)
    refine rw_cons (op_pv (w0 rfl) rfl rfl (pv_ext (v := (.slice A30 xs32.length c31)) rfl rfl rfl) ?_)
    refine rw_cons (op_pv (w0 rfl) rfl rfl (pv_ext (v := (.slice A35 xs37.length c36)) rfl rfl rfl) ?_)
    refine rw_cons (op_pv (w0 rfl) rfl rfl (pv_ext (v := (.int .i64 a21)) rfl rfl rfl) ?_)
    refine rw_cons (op_pv (w0 rfl) rfl rfl (pv_ext (v := (.slice A40 xs42.length c41)) rfl rfl rfl) ?_)
    refine rw_cons (op_pv (w0 rfl) rfl rfl (pv_assign (v := (.slice A30 xs32.length c31)) rfl rfl) ?_)
    refine rw_cons (op_pv (w0 rfl) rfl rfl (pv_assign (v := (.slice A35 xs37.length c36)) rfl rfl) ?_)
    refine rw_cons (op_pv (w0 rfl) rfl rfl (pv_assign (v := (.int .i64 a21)) rfl rfl) ?_)
    refine rw_cons (op_pv (w0 rfl) rfl rfl (pv_assign (v := (.slice A40 xs42.length c41)) rfl rfl) ?_)
    refine rw_nil (hK19 _ _ ?_)
    refine hK17 _ _ ?_
    refine cw_seq fun K49 hK50 => ?_
    refine cw_region fun K51 hK52 => ?_
    refine rw_cons (op_pv (w0 rfl) rfl rfl (pv_move (v := (.slice A30 xs32.length c31)) rfl rfl) ?_)
    refine rw_cons (op_pv (w0 rfl) rfl rfl (pv_move (v := (.slice A35 xs37.length c36)) rfl rfl) ?_)
    refine rw_cons (op_pv (w0 rfl) rfl rfl (pv_move (v := (.int .i64 a21)) rfl rfl) ?_)
    refine rw_cons (op_pv (w0 rfl) rfl rfl (pv_move (v := (.slice A40 xs42.length c41)) rfl rfl) ?_)
    refine rw_cons (op_call (w0 rfl) rfl rfl (rc_call C31 rfl rfl) (SumsWrite_i _ xs32.length _ xs32 _ xs37.length _ xs37 a21 _ xs42.length _ xs42 _ (hO33.rs (fun _ => rfl)) (by omega) (by omega) (hO38.rs (fun _ => rfl)) (by omega) (hO43.rs (fun _ => rfl)) (by omega)) ?_)
    rintro _ w53 ⟨A55, c56, A58, c59, rfl, hO57, hO60, hdj61, hch54⟩
    have hsz62 := hch54.size
    replace hR0 := hR0.ch0 hch54
    replace hO33 := hO33.ch0 hch54
    replace hO38 := hO38.ch0 hch54
    replace hO43 := hO43.ch0 hch54
    replace hc := hc.step0 hch54
    have hub63 := hO57.lt
    have hcap64 : (writeV xs32 xs37 a21 xs42).length ≤ c56 := by obtain ⟨_, _, hv, h1, _⟩ := hO57.form; injection hv with _ _ h3; omega
    have hub65 := hO60.lt
    have hcap66 : (writeS xs32 xs37 a21 xs42).length ≤ c59 := by obtain ⟨_, _, hv, h1, _⟩ := hO60.form; injection hv with _ _ h3; omega
    have hnt67 := writeV_le xs32 xs37 a21 xs42
    have hnt68 := writeS_le xs32 xs37 a21 xs42
    refine rw_cons (op_pv (w0 rfl) rfl rfl (pv_move (v := (.tuple #[(.slice A55 (writeV xs32 xs37 a21 xs42).length c56), (.slice A58 (writeS xs32 xs37 a21 xs42).length c59), (.bool (dec (WriteOK xs32 xs37 a21 xs42)))])) rfl rfl) ?_)
    refine rw_cons (op_pv (w0 rfl) rfl rfl (pv_ext (v := (.slice A55 (writeV xs32 xs37 a21 xs42).length c56)) rfl rfl rfl) ?_)
    refine rw_cons (op_pv (w0 rfl) rfl rfl (pv_ext (v := (.slice A58 (writeS xs32 xs37 a21 xs42).length c59)) rfl rfl rfl) ?_)
    refine rw_cons (op_pv (w0 rfl) rfl rfl (pv_ext (v := (.bool (dec (WriteOK xs32 xs37 a21 xs42)))) rfl rfl rfl) ?_)
    refine rw_cons (op_pv (w0 rfl) rfl rfl (pv_assign (v := (.slice A55 (writeV xs32 xs37 a21 xs42).length c56)) rfl rfl) ?_)
    refine rw_cons (op_pv (w0 rfl) rfl rfl (pv_assign (v := (.slice A58 (writeS xs32 xs37 a21 xs42).length c59)) rfl rfl) ?_)
    refine rw_cons (op_pv (w0 rfl) rfl rfl (pv_assign (v := (.bool (dec (WriteOK xs32 xs37 a21 xs42)))) rfl rfl) ?_)
    refine rw_nil (hK52 _ _ ?_)
    refine hK50 _ _ ?_
    refine cw_seq fun K69 hK70 => ?_
    refine cw_region fun K71 hK72 => ?_
    refine rw_cons (op_pv (w0 rfl) rfl rfl (pv_move (v := (.slice A30 xs32.length c31)) rfl rfl) ?_)
    refine rw_cons (op_pv (w0 rfl) rfl rfl (pv_move (v := (.slice A35 xs37.length c36)) rfl rfl) ?_)
    refine rw_cons (op_pv (w0 rfl) rfl rfl (pv_move (v := (.int .i64 a21)) rfl rfl) ?_)
    refine rw_cons (op_pv (w0 rfl) rfl rfl (pv_move (v := (.slice A40 xs42.length c41)) rfl rfl) ?_)
    refine rw_cons (op_call (w0 rfl) rfl rfl (rc_call C30 rfl rfl) (SumsWrite_s _ xs32.length _ xs32 _ xs37.length _ xs37 a21 _ xs42.length _ xs42 _ (hO33.rs (fun _ => rfl)) (by omega) (by omega) (hO38.rs (fun _ => rfl)) (by omega) (hO43.rs (fun _ => rfl)) (by omega)) ?_)
    rintro _ w73 ⟨A75, c76, A78, c79, rfl, hO77, hO80, hdj81, hch74⟩
    have hsz82 := hch74.size
    replace hR0 := hR0.ch0 hch74
    replace hO33 := hO33.ch0 hch74
    replace hO38 := hO38.ch0 hch74
    replace hO43 := hO43.ch0 hch74
    replace hO57 := hO57.ch0 hch74
    replace hO60 := hO60.ch0 hch74
    replace hc := hc.step0 hch74
    have hub83 := hO77.lt
    have hcap84 : (writeV xs32 xs37 a21 xs42).length ≤ c76 := by obtain ⟨_, _, hv, h1, _⟩ := hO77.form; injection hv with _ _ h3; omega
    have hub85 := hO80.lt
    have hcap86 : (writeS xs32 xs37 a21 xs42).length ≤ c79 := by obtain ⟨_, _, hv, h1, _⟩ := hO80.form; injection hv with _ _ h3; omega
    have hnt87 := writeV_le xs32 xs37 a21 xs42
    have hnt88 := writeS_le xs32 xs37 a21 xs42
    refine rw_cons (op_pv (w0 rfl) rfl rfl (pv_move (v := (.tuple #[(.slice A75 (writeV xs32 xs37 a21 xs42).length c76), (.slice A78 (writeS xs32 xs37 a21 xs42).length c79), (.bool (dec (WriteOK xs32 xs37 a21 xs42)))])) rfl rfl) ?_)
    refine rw_cons (op_pv (w0 rfl) rfl rfl (pv_ext (v := (.slice A75 (writeV xs32 xs37 a21 xs42).length c76)) rfl rfl rfl) ?_)
    refine rw_cons (op_pv (w0 rfl) rfl rfl (pv_ext (v := (.slice A78 (writeS xs32 xs37 a21 xs42).length c79)) rfl rfl rfl) ?_)
    refine rw_cons (op_pv (w0 rfl) rfl rfl (pv_ext (v := (.bool (dec (WriteOK xs32 xs37 a21 xs42)))) rfl rfl rfl) ?_)
    refine rw_cons (op_pv (w0 rfl) rfl rfl (pv_assign (v := (.slice A75 (writeV xs32 xs37 a21 xs42).length c76)) rfl rfl) ?_)
    refine rw_cons (op_pv (w0 rfl) rfl rfl (pv_assign (v := (.slice A78 (writeS xs32 xs37 a21 xs42).length c79)) rfl rfl) ?_)
    refine rw_cons (op_pv (w0 rfl) rfl rfl (pv_assign (v := (.bool (dec (WriteOK xs32 xs37 a21 xs42)))) rfl rfl) ?_)
    refine rw_nil (hK72 _ _ ?_)
    refine hK70 _ _ ?_
    refine cw_seq fun K89 hK90 => ?_
    refine cw_seq fun K91 hK92 => ?_
    refine cw_region fun K93 hK94 => ?_
    refine rw_cons (op_pv (w0 rfl) rfl rfl (pv_move (v := (.bool (dec (WriteOK xs32 xs37 a21 xs42)))) rfl rfl) ?_)
    refine rw_cons (op_pv (w0 rfl) rfl rfl (pv_move (v := (.bool (dec (WriteOK xs32 xs37 a21 xs42)))) rfl rfl) ?_)
    refine rw_cons (op_pv (w0 rfl) rfl rfl (pv_neBs Try.underlying4 rfl rfl rfl) ?_)
    refine rw_cons (op_pv (w0 rfl) rfl rfl (pv_move (v := (.bool false)) rfl rfl) ?_)
    refine rw_cons (op_pv (w1y rfl rfl rfl rfl) rfl rfl (pv_move (v := (.slice A58 (writeS xs32 xs37 a21 xs42).length c59)) rfl rfl) ?_)
    refine rw_cons (op_pv (w1y rfl rfl rfl rfl) rfl rfl (pv_move (v := (.slice A78 (writeS xs32 xs37 a21 xs42).length c79)) rfl rfl) ?_)
    refine rw_cons (op_call (w1y rfl rfl rfl rfl) rfl rfl (rc_call C27 rfl rfl) (sameInts_same _ _ _ _ _ _ (writeS xs32 xs37 a21 xs42) _ (hO60.rs (fun _ => rfl)) (hO80.rs (fun _ => rfl)) (by omega)) ?_)
    rintro _ w95 ⟨rfl, hch96⟩
    have hsz97 := hch96.size
    replace hR0 := hR0.ch0 hch96
    replace hO33 := hO33.ch0 hch96
    replace hO38 := hO38.ch0 hch96
    replace hO43 := hO43.ch0 hch96
    replace hO57 := hO57.ch0 hch96
    replace hO60 := hO60.ch0 hch96
    replace hO77 := hO77.ch0 hch96
    replace hO80 := hO80.ch0 hch96
    replace hc := hc.step0 hch96
    refine rw_cons (op_pv (w1y rfl rfl rfl rfl) rfl rfl (pv_not rfl rfl) ?_)
    refine rw_cons (op_pv (w0 rfl) rfl rfl (pv_pickF (v := (.bool (!true))) rfl rfl rfl) ?_)
    refine rw_cons (op_pv (w0 rfl) rfl rfl (pv_move (v := (.bool (!true))) rfl rfl) ?_)
    refine rw_cons (op_pv (w1y rfl rfl rfl rfl) rfl rfl (pv_move (v := (.slice A55 (writeV xs32 xs37 a21 xs42).length c56)) rfl rfl) ?_)
    refine rw_cons (op_pv (w1y rfl rfl rfl rfl) rfl rfl (pv_move (v := (.slice A75 (writeV xs32 xs37 a21 xs42).length c76)) rfl rfl) ?_)
    refine rw_cons (op_call (w1y rfl rfl rfl rfl) rfl rfl (rc_call C27 rfl rfl) (sameInts_same _ _ _ _ _ _ (writeV xs32 xs37 a21 xs42) _ (hO57.rs (fun _ => rfl)) (hO77.rs (fun _ => rfl)) (by omega)) ?_)
    rintro _ w98 ⟨rfl, hch99⟩
    have hsz100 := hch99.size
    replace hR0 := hR0.ch0 hch99
    replace hO33 := hO33.ch0 hch99
    replace hO38 := hO38.ch0 hch99
    replace hO43 := hO43.ch0 hch99
    replace hO57 := hO57.ch0 hch99
    replace hO60 := hO60.ch0 hch99
    replace hO77 := hO77.ch0 hch99
    replace hO80 := hO80.ch0 hch99
    replace hc := hc.step0 hch99
    refine rw_cons (op_pv (w1y rfl rfl rfl rfl) rfl rfl (pv_not rfl rfl) ?_)
    refine rw_cons (op_pv (w0 rfl) rfl rfl (pv_pickF (v := (.bool (!true))) rfl rfl rfl) ?_)
    refine rw_cons (op_pv (w0 rfl) rfl rfl (pv_move (v := (.bool (!true))) rfl rfl) ?_)
    refine rw_cons (op_pv (w1y rfl rfl rfl rfl) rfl rfl (pv_move (v := (.bool (dec (WriteOK xs32 xs37 a21 xs42)))) rfl rfl) ?_)
    refine rw_cons (op_pv (w1y rfl rfl rfl rfl) rfl rfl (pv_not rfl rfl) ?_)
    refine rw_cons (op_pv (w0 rfl) rfl rfl (pv_pickF (v := (.bool (!(dec (WriteOK xs32 xs37 a21 xs42))))) rfl rfl rfl) ?_)
    refine rw_nil (hK94 _ _ ?_)
    refine hK92 _ _ ?_
    refine cw_cond rfl (fun h101 => ?_) (fun h101 => ?_)
    · -- then
      replace h101 := not_t h101
      replace h101 := dec_f h101
      refine cw_seq fun K102 hK103 => ?_
      refine cw_region fun K104 hK105 => ?_
      refine rw_cons (op_pv (w0 rfl) rfl rfl (pv_move (v := (.bool (dec (WriteOK xs32 xs37 a21 xs42)))) rfl rfl) ?_)
      refine rw_cons (op_pv (w0 rfl) rfl rfl (pv_move (v := (.bool (dec (WriteOK xs32 xs37 a21 xs42)))) rfl rfl) ?_)
      refine rw_cons (op_pv (w0 rfl) rfl rfl (pv_eqBs Try.underlying4 rfl rfl rfl) ?_)
      refine rw_cons (op_pv (w0 rfl) rfl rfl (pv_move (v := (.bool true)) rfl rfl) ?_)
      refine rw_cons (op_pv (w1y rfl rfl rfl rfl) rfl rfl (pv_move (v := (.slice A58 (writeS xs32 xs37 a21 xs42).length c59)) rfl rfl) ?_)
      refine rw_cons (op_pv (w1y rfl rfl rfl rfl) rfl rfl (pv_move (v := (.slice A78 (writeS xs32 xs37 a21 xs42).length c79)) rfl rfl) ?_)
      refine rw_cons (op_call (w1y rfl rfl rfl rfl) rfl rfl (rc_call C27 rfl rfl) (sameInts_same _ _ _ _ _ _ (writeS xs32 xs37 a21 xs42) _ (hO60.rs (fun _ => rfl)) (hO80.rs (fun _ => rfl)) (by omega)) ?_)
      rintro _ w106 ⟨rfl, hch107⟩
      have hsz108 := hch107.size
      replace hR0 := hR0.ch0 hch107
      replace hO33 := hO33.ch0 hch107
      replace hO38 := hO38.ch0 hch107
      replace hO43 := hO43.ch0 hch107
      replace hO57 := hO57.ch0 hch107
      replace hO60 := hO60.ch0 hch107
      replace hO77 := hO77.ch0 hch107
      replace hO80 := hO80.ch0 hch107
      replace hc := hc.step0 hch107
      refine rw_cons (op_pv (w0 rfl) rfl rfl (pv_pickT (v := (.bool true)) rfl rfl rfl) ?_)
      refine rw_cons (op_pv (w0 rfl) rfl rfl (pv_move (v := (.bool true)) rfl rfl) ?_)
      refine rw_cons (op_pv (w1y rfl rfl rfl rfl) rfl rfl (pv_move (v := (.slice A55 (writeV xs32 xs37 a21 xs42).length c56)) rfl rfl) ?_)
      refine rw_cons (op_pv (w1y rfl rfl rfl rfl) rfl rfl (pv_move (v := (.slice A75 (writeV xs32 xs37 a21 xs42).length c76)) rfl rfl) ?_)
      refine rw_cons (op_call (w1y rfl rfl rfl rfl) rfl rfl (rc_call C27 rfl rfl) (sameInts_same _ _ _ _ _ _ (writeV xs32 xs37 a21 xs42) _ (hO57.rs (fun _ => rfl)) (hO77.rs (fun _ => rfl)) (by omega)) ?_)
      rintro _ w109 ⟨rfl, hch110⟩
      have hsz111 := hch110.size
      replace hR0 := hR0.ch0 hch110
      replace hO33 := hO33.ch0 hch110
      replace hO38 := hO38.ch0 hch110
      replace hO43 := hO43.ch0 hch110
      replace hO57 := hO57.ch0 hch110
      replace hO60 := hO60.ch0 hch110
      replace hO77 := hO77.ch0 hch110
      replace hO80 := hO80.ch0 hch110
      replace hc := hc.step0 hch110
      refine rw_cons (op_pv (w0 rfl) rfl rfl (pv_pickT (v := (.bool true)) rfl rfl rfl) ?_)
      refine rw_cons (op_pv (w0 rfl) rfl rfl (pv_assign (v := (.bool true)) rfl rfl) ?_)
      refine rw_nil (hK105 _ _ ?_)
      refine hK103 _ _ ?_
      refine cw_ret ?_
      refine fin1 rfl ?_
      exact ⟨rfl, hc⟩
    · -- else
      replace h101 := not_f h101
      replace h101 := dec_t h101
      refine cw_skip ?_
      refine hK90 _ _ ?_
      refine cw_seq fun K112 hK113 => ?_
      obtain ⟨k1, k2, k3, k4, k5, k6⟩ := (by assumption : WriteOK xs32 xs37 a21 xs42)
      have k7 := k1.1; have k8 := k2.1
      have kW := writeV_yes (by assumption : WriteOK xs32 xs37 a21 xs42)
      have kL : (writeV xs32 xs37 a21 xs42).length = max xs32.length (a21.toNat + xs42.length) := by rw [kW]; exact writeL_len (by omega)
      refine cw_region fun K114 hK115 => ?_
      refine rw_cons (op_pv (w0 rfl) rfl rfl (pv_move (v := (.int .i64 a21)) rfl rfl) ?_)
      refine rw_cons (op_pv (w0 rfl) rfl rfl (pv_move (v := (.slice A40 xs42.length c41)) rfl rfl) ?_)
      refine rw_cons (op_pv (w0 rfl) rfl rfl (pv_len Try.underlying22 rfl rfl) ?_)
      refine rw_cons (op_pv (w0 rfl) rfl rfl (pv_add rfl rfl rfl (by omega) (by omega)) ?_)
      refine rw_cons (op_pv (w0 rfl) rfl rfl (pv_assign (v := (.int .i64 (a21 + (xs42.length : Int)))) rfl rfl) ?_)
      refine rw_nil (hK115 _ _ ?_)
      refine hK113 _ _ ?_
      refine cw_seq fun K116 hK117 => ?_
      refine cw_seq fun K118 hK119 => ?_
      refine cw_drawn (fun u => Ch [] w98 u) (.free 0 (.free 1 (.free 2 (.free 3 (.free 4 (.one 5 true (.free 6 (.free 7 (.free 8 (.free 9 (.free 10 (.free 11 (.free 12 (.free 13 (.one 14 true (.free 15 (.free 16 (.done)))))))))))))))))) (by kernel_rfl) (by kernel_rfl) (Ch.refl _ _).drew fun K123 hK124 => ?_
      obtain ⟨w120, hw_, hch121, hsz122⟩ : ∃ w1 : World, w1 = w98.drew ∧ Ch [] w98 w1 ∧ w1.heap.size = w98.heap.size := ⟨_, rfl, (Ch.refl _ _).drew, rfl⟩
      rw [← hw_]; clear hw_
      have hr125 : Ch [] w98 w120 := hch121.sub (fun s hs => by cases hs)
      have hR0_r := hR0
      have hO33_r := hO33
      have hO38_r := hO38
      have hO43_r := hO43
      have hO57_r := hO57
      have hO60_r := hO60
      have hO77_r := hO77
      have hO80_r := hO80
      have hsz126 := hch121.size
      replace hR0 := hR0.ch0 hch121
      replace hO33 := hO33.ch0 hch121
      replace hO38 := hO38.ch0 hch121
      replace hO43 := hO43.ch0 hch121
      replace hO57 := hO57.ch0 hch121
      replace hO60 := hO60.ch0 hch121
      replace hO77 := hO77.ch0 hch121
      replace hO80 := hO80.ch0 hch121
      replace hc := hc.step0 hch121
      refine tw_free rfl (w0 rfl) rfl rfl (fun u hu => (pv_move (v := (.slice A55 (writeV xs32 xs37 a21 xs42).length c56)) rfl rfl : PV _ _ _ _) u) ?_
      refine tw_free rfl (w0 rfl) rfl rfl (fun u hu => (pv_move (v := (.int .i64 a21)) rfl rfl : PV _ _ _ _) u) ?_
      refine tw_free rfl (w0 rfl) rfl rfl (fun u hu => (pv_move (v := (.int .i64 (a21 + (xs42.length : Int)))) rfl rfl : PV _ _ _ _) u) ?_
      refine tw_free rfl (w0 rfl) rfl rfl (fun u hu => (pv_mid Try.underlying22 T3 rfl rfl rfl rfl (by omega) (by omega) (by omega) : PV _ _ _ _) u) ?_
      have hR127 : RS encI 1 w120 w120.heap.size A55 (a21 + (xs42.length : Int)).toNat ((writeV xs32 xs37 a21 xs42).take (a21 + (xs42.length : Int)).toNat) := ((hO57.rs (fun _ => rfl))).upto (by omega)
      have hR128 : RS encI 1 w120 w120.heap.size (if c56 = (a21).toNat then A55 else (A55 : Option Addr).map (·.add ((a21).toNat * 1))) ((a21 + (xs42.length : Int)).toNat - (a21).toNat) (((writeV xs32 xs37 a21 xs42).take (a21 + (xs42.length : Int)).toNat).drop (a21).toNat) := (hR127).from (by omega) (by omega)
      refine tw_free rfl (w0 rfl) rfl rfl (fun u hu => (pv_move (v := (.slice A40 xs42.length c41)) rfl rfl : PV _ _ _ _) u) ?_
      refine tw_one rfl (op_call (w0 rfl) rfl rfl (rc_call C27 rfl rfl) (sameInts_ok _ _ _ _ _ _ (((writeV xs32 xs37 a21 xs42).take (a21 + (xs42.length : Int)).toNat).drop (a21).toNat) xs42 _ (hR128.more (by omega)) (hO43.rs (fun _ => rfl)) (by omega)) ?_)
      rintro _ w129 ⟨rfl, hch130⟩
      have hsz131 := hch130.size
      replace hR0 := hR0.ch0 hch130
      replace hO33 := hO33.ch0 hch130
      replace hO38 := hO38.ch0 hch130
      replace hO43 := hO43.ch0 hch130
      replace hO57 := hO57.ch0 hch130
      replace hO60 := hO60.ch0 hch130
      replace hO77 := hO77.ch0 hch130
      replace hO80 := hO80.ch0 hch130
      replace hR127 := hR127.ch0 hch130
      replace hR128 := hR128.ch0 hch130
      replace hc := hc.step0 hch130
      replace hr125 := hr125.step0 hch130
      refine ⟨fun _ => hr125, ?_⟩
      refine tw_free rfl (w0 rfl) rfl rfl (fun u hu => (pv_not rfl rfl : PV _ _ _ _) u) ?_
      refine tw_free rfl (w0 rfl) rfl rfl (fun u hu => (pv_move (v := (.bool (!(dec ((((writeV xs32 xs37 a21 xs42).take (a21 + (xs42.length : Int)).toNat).drop (a21).toNat) = xs42))))) rfl rfl : PV _ _ _ _) u) ?_
      refine tw_split 85 rfl (fun hb132 => ?_) (fun hb132 => ?_)
      · -- yes
        replace hb132 := not_t hb132
        replace hb132 := dec_f hb132
        refine tw_pass rfl (w1n2 rfl rfl rfl rfl) rfl rfl ?_
        refine tw_pass rfl (w1n2 rfl rfl rfl rfl) rfl rfl ?_
        refine tw_pass rfl (w1n2 rfl rfl rfl rfl) rfl rfl ?_
        refine tw_pass rfl (w1n2 rfl rfl rfl rfl) rfl rfl ?_
        refine tw_pass rfl (w1n2 rfl rfl rfl rfl) rfl rfl ?_
        refine tw_pass rfl (w1n2 rfl rfl rfl rfl) rfl rfl ?_
        refine tw_one rfl (op_pass (w1n2 rfl rfl rfl rfl) rfl rfl ?_)
        refine ⟨fun _ => hr125, ?_⟩
        refine tw_pass rfl (w1n2 rfl rfl rfl rfl) rfl rfl ?_
        refine tw_free rfl (w0 rfl) rfl rfl (fun u hu => (pv_pickT (v := (.bool true)) rfl rfl rfl : PV _ _ _ _) u) ?_
        clear hO33_r
        clear hO38_r
        clear hO43_r
        clear hO57_r
        clear hO60_r
        clear hO77_r
        clear hO80_r
        clear hR0_r
        refine tw_done (hK124 _ _ ?_)
        refine hK119 _ _ ?_
        refine cw_cond rfl (fun h133 => ?_) (fun h133 => ?_)
        · -- then
          clear h133
          refine cw_seq fun K134 hK135 => ?_
          refine cw_region fun K136 hK137 => ?_
          refine rw_cons (op_pv (w0 rfl) rfl rfl (pv_assign (v := (.bool false)) rfl rfl) ?_)
          refine rw_nil (hK137 _ _ ?_)
          refine hK135 _ _ ?_
          refine cw_ret ?_
          refine fin1 rfl ?_
          rcases Classical.em (WriteOK xs32 xs37 a21 xs42) with hbo | hbo
          · have e1 := writeV_yes hbo; have e2 := writeS_yes hbo
            obtain ⟨q1, q2, q3, q4, q5, q6⟩ := id hbo
            have e3 := writeL_ok q1 q2 (a := a21.toNat) (by omega) (by omega)
            have e4 := writeL_len (bs := xs32) (fr := xs42) (a := a21.toNat) (by omega)
            have e5 := q1.1; have e6 := q2.1
            have e8 : BytesOK (writeV xs32 xs37 a21 xs42) := by rw [e1]; exact e3
            have hsh : (a21 + (xs42.length : Int)).toNat = a21.toNat + xs42.length := by omega
            have f1 : ((writeV xs32 xs37 a21 xs42).take (a21 + (xs42.length : Int)).toNat).drop a21.toNat = xs42 := by rw [e1, hsh]; exact writeL_mid (by omega)
            have f2 : (writeV xs32 xs37 a21 xs42).take a21.toNat = xs32.take a21.toNat := by rw [e1]; exact writeL_head (by omega)
            have f3 : (writeV xs32 xs37 a21 xs42).length = max xs32.length (a21.toNat + xs42.length) := by rw [e1]; exact e4
            have f4 : (writeV xs32 xs37 a21 xs42).drop (a21 + (xs42.length : Int)).toNat = xs32.drop (a21 + (xs42.length : Int)).toNat := by rw [e1, hsh]; exact writeL_tail (by omega)
            first
              | exact ⟨rfl, hc⟩
              | (exfalso; omega)
              | exact absurd hbo (by assumption)
              | exact ⟨congrArg Value.bool (decide_eq_true (by omega)), hc⟩
              | exact absurd f1 (by assumption)
              | exact absurd f2 (by assumption)
              | exact ⟨congrArg Value.bool (dec_yes f4), hc⟩
          · first
              | exact absurd ‹WriteOK xs32 xs37 a21 xs42› hbo
              | exact ⟨rfl, hc⟩
        · -- else
          cases h133
      · -- no
        replace hb132 := not_f hb132
        replace hb132 := dec_t hb132
        refine tw_free rfl (w1y rfl rfl rfl rfl) rfl rfl (fun u hu => (pv_move (v := (.slice A55 (writeV xs32 xs37 a21 xs42).length c56)) rfl rfl : PV _ _ _ _) u) ?_
        refine tw_free rfl (w1y rfl rfl rfl rfl) rfl rfl (fun u hu => (pv_move (v := (.int .i64 a21)) rfl rfl : PV _ _ _ _) u) ?_
        refine tw_free rfl (w1y rfl rfl rfl rfl) rfl rfl (fun u hu => (pv_upto Try.underlying22 T3 rfl rfl rfl (by omega) (by omega) : PV _ _ _ _) u) ?_
        have hR138 : RS encI 1 w129 w129.heap.size A55 (a21).toNat ((writeV xs32 xs37 a21 xs42).take (a21).toNat) := ((hO57.rs (fun _ => rfl))).upto (by omega)
        refine tw_free rfl (w1y rfl rfl rfl rfl) rfl rfl (fun u hu => (pv_move (v := (.slice A30 xs32.length c31)) rfl rfl : PV _ _ _ _) u) ?_
        refine tw_free rfl (w1y rfl rfl rfl rfl) rfl rfl (fun u hu => (pv_move (v := (.int .i64 a21)) rfl rfl : PV _ _ _ _) u) ?_
        refine tw_free rfl (w1y rfl rfl rfl rfl) rfl rfl (fun u hu => (pv_upto Try.underlying22 T3 rfl rfl rfl (by omega) (by omega) : PV _ _ _ _) u) ?_
        have hR139 : RS encI 1 w129 w129.heap.size A30 (a21).toNat (xs32.take (a21).toNat) := ((hO33.rs (fun _ => rfl))).upto (by omega)
        refine tw_one rfl (op_call (w1y rfl rfl rfl rfl) rfl rfl (rc_call C27 rfl rfl) (sameInts_ok _ _ _ _ _ _ ((writeV xs32 xs37 a21 xs42).take (a21).toNat) (xs32.take (a21).toNat) _ (hR138.more (by omega)) (hR139.more (by omega)) (by omega)) ?_)
        rintro _ w140 ⟨rfl, hch141⟩
        have hsz142 := hch141.size
        replace hR0 := hR0.ch0 hch141
        replace hO33 := hO33.ch0 hch141
        replace hO38 := hO38.ch0 hch141
        replace hO43 := hO43.ch0 hch141
        replace hO57 := hO57.ch0 hch141
        replace hO60 := hO60.ch0 hch141
        replace hO77 := hO77.ch0 hch141
        replace hO80 := hO80.ch0 hch141
        replace hR127 := hR127.ch0 hch141
        replace hR128 := hR128.ch0 hch141
        replace hR138 := hR138.ch0 hch141
        replace hR139 := hR139.ch0 hch141
        replace hc := hc.step0 hch141
        replace hr125 := hr125.step0 hch141
        refine ⟨fun _ => hr125, ?_⟩
        refine tw_free rfl (w1y rfl rfl rfl rfl) rfl rfl (fun u hu => (pv_not rfl rfl : PV _ _ _ _) u) ?_
        refine tw_free rfl (w0 rfl) rfl rfl (fun u hu => (pv_pickF (v := (.bool (!(dec (((writeV xs32 xs37 a21 xs42).take (a21).toNat) = (xs32.take (a21).toNat)))))) rfl rfl rfl : PV _ _ _ _) u) ?_
        clear hO33_r
        clear hO38_r
        clear hO43_r
        clear hO57_r
        clear hO60_r
        clear hO77_r
        clear hO80_r
        clear hR0_r
        refine tw_done (hK124 _ _ ?_)
        refine hK119 _ _ ?_
        refine cw_cond rfl (fun h143 => ?_) (fun h143 => ?_)
        · -- then
          replace h143 := not_t h143
          replace h143 := dec_f h143
          refine cw_seq fun K144 hK145 => ?_
          refine cw_region fun K146 hK147 => ?_
          refine rw_cons (op_pv (w0 rfl) rfl rfl (pv_assign (v := (.bool false)) rfl rfl) ?_)
          refine rw_nil (hK147 _ _ ?_)
          refine hK145 _ _ ?_
          refine cw_ret ?_
          refine fin1 rfl ?_
          rcases Classical.em (WriteOK xs32 xs37 a21 xs42) with hbo | hbo
          · have e1 := writeV_yes hbo; have e2 := writeS_yes hbo
            obtain ⟨q1, q2, q3, q4, q5, q6⟩ := id hbo
            have e3 := writeL_ok q1 q2 (a := a21.toNat) (by omega) (by omega)
            have e4 := writeL_len (bs := xs32) (fr := xs42) (a := a21.toNat) (by omega)
            have e5 := q1.1; have e6 := q2.1
            have e8 : BytesOK (writeV xs32 xs37 a21 xs42) := by rw [e1]; exact e3
            have hsh : (a21 + (xs42.length : Int)).toNat = a21.toNat + xs42.length := by omega
            have f1 : ((writeV xs32 xs37 a21 xs42).take (a21 + (xs42.length : Int)).toNat).drop a21.toNat = xs42 := by rw [e1, hsh]; exact writeL_mid (by omega)
            have f2 : (writeV xs32 xs37 a21 xs42).take a21.toNat = xs32.take a21.toNat := by rw [e1]; exact writeL_head (by omega)
            have f3 : (writeV xs32 xs37 a21 xs42).length = max xs32.length (a21.toNat + xs42.length) := by rw [e1]; exact e4
            have f4 : (writeV xs32 xs37 a21 xs42).drop (a21 + (xs42.length : Int)).toNat = xs32.drop (a21 + (xs42.length : Int)).toNat := by rw [e1, hsh]; exact writeL_tail (by omega)
            first
              | exact ⟨rfl, hc⟩
              | (exfalso; omega)
              | exact absurd hbo (by assumption)
              | exact ⟨congrArg Value.bool (decide_eq_true (by omega)), hc⟩
              | exact absurd f1 (by assumption)
              | exact absurd f2 (by assumption)
              | exact ⟨congrArg Value.bool (dec_yes f4), hc⟩
          · first
              | exact absurd ‹WriteOK xs32 xs37 a21 xs42› hbo
              | exact ⟨rfl, hc⟩
        · -- else
          replace h143 := not_f h143
          replace h143 := dec_t h143
          refine cw_skip ?_
          refine hK117 _ _ ?_
          refine cw_seq fun K148 hK149 => ?_
          refine cw_drawn (fun u => Ch [] w140 u) (.free 0 (.free 1 (.free 2 (.free 3 (.free 4 (.free 5 (.free 6 (.free 7 (.free 8 (.free 9 (.free 10 (.free 11 (.free 12 (.free 13 (.free 14 (.free 15 (.free 16 (.free 17 (.free 18 (.one 19 true (.free 20 (.free 21 (.free 22 (.done)))))))))))))))))))))))) (by kernel_rfl) (by kernel_rfl) (Ch.refl _ _).drew fun K153 hK154 => ?_
          obtain ⟨w150, hw_, hch151, hsz152⟩ : ∃ w1 : World, w1 = w140.drew ∧ Ch [] w140 w1 ∧ w1.heap.size = w140.heap.size := ⟨_, rfl, (Ch.refl _ _).drew, rfl⟩
          rw [← hw_]; clear hw_
          have hr155 : Ch [] w140 w150 := hch151.sub (fun s hs => by cases hs)
          have hR0_r := hR0
          have hO33_r := hO33
          have hO38_r := hO38
          have hO43_r := hO43
          have hO57_r := hO57
          have hO60_r := hO60
          have hO77_r := hO77
          have hO80_r := hO80
          have hR127_r := hR127
          have hR128_r := hR128
          have hR138_r := hR138
          have hR139_r := hR139
          have hsz156 := hch151.size
          replace hR0 := hR0.ch0 hch151
          replace hO33 := hO33.ch0 hch151
          replace hO38 := hO38.ch0 hch151
          replace hO43 := hO43.ch0 hch151
          replace hO57 := hO57.ch0 hch151
          replace hO60 := hO60.ch0 hch151
          replace hO77 := hO77.ch0 hch151
          replace hO80 := hO80.ch0 hch151
          replace hR127 := hR127.ch0 hch151
          replace hR128 := hR128.ch0 hch151
          replace hR138 := hR138.ch0 hch151
          replace hR139 := hR139.ch0 hch151
          replace hc := hc.step0 hch151
          refine tw_free rfl (w0 rfl) rfl rfl (fun u hu => (pv_move (v := (.slice A55 (writeV xs32 xs37 a21 xs42).length c56)) rfl rfl : PV _ _ _ _) u) ?_
          refine tw_free rfl (w0 rfl) rfl rfl (fun u hu => (pv_len Try.underlying22 rfl rfl : PV _ _ _ _) u) ?_
          refine tw_free rfl (w0 rfl) rfl rfl (fun u hu => (pv_move (v := (.int .i64 (a21 + (xs42.length : Int)))) rfl rfl : PV _ _ _ _) u) ?_
          refine tw_free rfl (w0 rfl) rfl rfl (fun u hu => (pv_move (v := (.slice A30 xs32.length c31)) rfl rfl : PV _ _ _ _) u) ?_
          refine tw_free rfl (w0 rfl) rfl rfl (fun u hu => (pv_len Try.underlying22 rfl rfl : PV _ _ _ _) u) ?_
          refine tw_free rfl (w0 rfl) rfl rfl (fun u hu => (pv_max rfl rfl rfl : PV _ _ _ _) u) ?_
          refine tw_free rfl (w0 rfl) rfl rfl (fun u hu => (pv_eql rfl rfl rfl : PV _ _ _ _) u) ?_
          refine tw_free rfl (w0 rfl) rfl rfl (fun u hu => (pv_move (v := (.bool (decide ((((writeV xs32 xs37 a21 xs42).length : Int) : Int) = (max (a21 + (xs42.length : Int)) (xs32.length : Int)))))) rfl rfl : PV _ _ _ _) u) ?_
          refine tw_split 102 rfl (fun hb157 => ?_) (fun hb157 => ?_)
          · -- yes
            replace hb157 := of_decide_eq_true hb157
            refine tw_free rfl (w1y rfl rfl rfl rfl) rfl rfl (fun u hu => (pv_move (v := (.int .i64 (a21 + (xs42.length : Int)))) rfl rfl : PV _ _ _ _) u) ?_
            refine tw_free rfl (w1y rfl rfl rfl rfl) rfl rfl (fun u hu => (pv_move (v := (.slice A30 xs32.length c31)) rfl rfl : PV _ _ _ _) u) ?_
            refine tw_free rfl (w1y rfl rfl rfl rfl) rfl rfl (fun u hu => (pv_len Try.underlying22 rfl rfl : PV _ _ _ _) u) ?_
            refine tw_free rfl (w1y rfl rfl rfl rfl) rfl rfl (fun u hu => (pv_geq rfl rfl rfl : PV _ _ _ _) u) ?_
            refine tw_free rfl (w1y rfl rfl rfl rfl) rfl rfl (fun u hu => (pv_move (v := (.bool (decide ((xs32.length : Int) ≤ (a21 + (xs42.length : Int)))))) rfl rfl : PV _ _ _ _) u) ?_
            refine tw_split 107 rfl (fun hb158 => ?_) (fun hb158 => ?_)
            · -- yes
              replace hb158 := of_decide_eq_true hb158
              refine tw_pass rfl (w1n2 rfl rfl rfl rfl) rfl rfl ?_
              refine tw_pass rfl (w1n2 rfl rfl rfl rfl) rfl rfl ?_
              refine tw_pass rfl (w1n2 rfl rfl rfl rfl) rfl rfl ?_
              refine tw_pass rfl (w1n2 rfl rfl rfl rfl) rfl rfl ?_
              refine tw_pass rfl (w1n2 rfl rfl rfl rfl) rfl rfl ?_
              refine tw_pass rfl (w1n2 rfl rfl rfl rfl) rfl rfl ?_
              refine tw_one rfl (op_pass (w1n2 rfl rfl rfl rfl) rfl rfl ?_)
              refine ⟨fun _ => hr155, ?_⟩
              refine tw_free rfl (w1y rfl rfl rfl rfl) rfl rfl (fun u hu => (pv_pickT (v := (.bool true)) rfl rfl rfl : PV _ _ _ _) u) ?_
              refine tw_free rfl (w0 rfl) rfl rfl (fun u hu => (pv_pickT (v := (.bool true)) rfl rfl rfl : PV _ _ _ _) u) ?_
              refine tw_free rfl (w0 rfl) rfl rfl (fun u hu => (pv_assign (v := (.bool true)) rfl rfl : PV _ _ _ _) u) ?_
              clear hO33_r
              clear hO38_r
              clear hO43_r
              clear hO57_r
              clear hO60_r
              clear hO77_r
              clear hO80_r
              clear hR0_r
              clear hR127_r
              clear hR128_r
              clear hR138_r
              clear hR139_r
              refine tw_done (hK154 _ _ ?_)
              refine hK149 _ _ ?_
              refine cw_ret ?_
              refine fin1 rfl ?_
              exact ⟨rfl, hc⟩
            · -- no
              replace hb158 := of_decide_eq_false hb158
              refine tw_free rfl (w1y rfl rfl rfl rfl) rfl rfl (fun u hu => (pv_move (v := (.slice A55 (writeV xs32 xs37 a21 xs42).length c56)) rfl rfl : PV _ _ _ _) u) ?_
              refine tw_free rfl (w1y rfl rfl rfl rfl) rfl rfl (fun u hu => (pv_move (v := (.int .i64 (a21 + (xs42.length : Int)))) rfl rfl : PV _ _ _ _) u) ?_
              refine tw_free rfl (w1y rfl rfl rfl rfl) rfl rfl (fun u hu => (pv_from Try.underlying22 T3 rfl rfl rfl (by omega) (by omega) : PV _ _ _ _) u) ?_
              have hR159 : RS encI 1 w150 w150.heap.size (if c56 = (a21 + (xs42.length : Int)).toNat then A55 else (A55 : Option Addr).map (·.add ((a21 + (xs42.length : Int)).toNat * 1))) ((writeV xs32 xs37 a21 xs42).length - (a21 + (xs42.length : Int)).toNat) ((writeV xs32 xs37 a21 xs42).drop (a21 + (xs42.length : Int)).toNat) := ((hO57.rs (fun _ => rfl))).from (by omega) (by omega)
              refine tw_free rfl (w1y rfl rfl rfl rfl) rfl rfl (fun u hu => (pv_move (v := (.slice A30 xs32.length c31)) rfl rfl : PV _ _ _ _) u) ?_
              refine tw_free rfl (w1y rfl rfl rfl rfl) rfl rfl (fun u hu => (pv_move (v := (.int .i64 (a21 + (xs42.length : Int)))) rfl rfl : PV _ _ _ _) u) ?_
              refine tw_free rfl (w1y rfl rfl rfl rfl) rfl rfl (fun u hu => (pv_from Try.underlying22 T3 rfl rfl rfl (by omega) (by omega) : PV _ _ _ _) u) ?_
              have hR160 : RS encI 1 w150 w150.heap.size (if c31 = (a21 + (xs42.length : Int)).toNat then A30 else (A30 : Option Addr).map (·.add ((a21 + (xs42.length : Int)).toNat * 1))) (xs32.length - (a21 + (xs42.length : Int)).toNat) (xs32.drop (a21 + (xs42.length : Int)).toNat) := ((hO33.rs (fun _ => rfl))).from (by omega) (by omega)
              refine tw_one rfl (op_call (w1y rfl rfl rfl rfl) rfl rfl (rc_call C27 rfl rfl) (sameInts_ok _ _ _ _ _ _ ((writeV xs32 xs37 a21 xs42).drop (a21 + (xs42.length : Int)).toNat) (xs32.drop (a21 + (xs42.length : Int)).toNat) _ (hR159.more (by omega)) (hR160.more (by omega)) (by omega)) ?_)
              rintro _ w161 ⟨rfl, hch162⟩
              have hsz163 := hch162.size
              replace hR0 := hR0.ch0 hch162
              replace hO33 := hO33.ch0 hch162
              replace hO38 := hO38.ch0 hch162
              replace hO43 := hO43.ch0 hch162
              replace hO57 := hO57.ch0 hch162
              replace hO60 := hO60.ch0 hch162
              replace hO77 := hO77.ch0 hch162
              replace hO80 := hO80.ch0 hch162
              replace hR127 := hR127.ch0 hch162
              replace hR128 := hR128.ch0 hch162
              replace hR138 := hR138.ch0 hch162
              replace hR139 := hR139.ch0 hch162
              replace hR159 := hR159.ch0 hch162
              replace hR160 := hR160.ch0 hch162
              replace hc := hc.step0 hch162
              replace hr155 := hr155.step0 hch162
              refine ⟨fun _ => hr155, ?_⟩
              refine tw_free rfl (w1y rfl rfl rfl rfl) rfl rfl (fun u hu => (pv_pickF (v := (.bool (dec (((writeV xs32 xs37 a21 xs42).drop (a21 + (xs42.length : Int)).toNat) = (xs32.drop (a21 + (xs42.length : Int)).toNat))))) rfl rfl rfl : PV _ _ _ _) u) ?_
              refine tw_free rfl (w0 rfl) rfl rfl (fun u hu => (pv_pickT (v := (.bool (dec (((writeV xs32 xs37 a21 xs42).drop (a21 + (xs42.length : Int)).toNat) = (xs32.drop (a21 + (xs42.length : Int)).toNat))))) rfl rfl rfl : PV _ _ _ _) u) ?_
              refine tw_free rfl (w0 rfl) rfl rfl (fun u hu => (pv_assign (v := (.bool (dec (((writeV xs32 xs37 a21 xs42).drop (a21 + (xs42.length : Int)).toNat) = (xs32.drop (a21 + (xs42.length : Int)).toNat))))) rfl rfl : PV _ _ _ _) u) ?_
              clear hO33_r
              clear hO38_r
              clear hO43_r
              clear hO57_r
              clear hO60_r
              clear hO77_r
              clear hO80_r
              clear hR0_r
              clear hR127_r
              clear hR128_r
              clear hR138_r
              clear hR139_r
              refine tw_done (hK154 _ _ ?_)
              refine hK149 _ _ ?_
              refine cw_ret ?_
              refine fin1 rfl ?_
              rcases Classical.em (WriteOK xs32 xs37 a21 xs42) with hbo | hbo
              · have e1 := writeV_yes hbo; have e2 := writeS_yes hbo
                obtain ⟨q1, q2, q3, q4, q5, q6⟩ := id hbo
                have e3 := writeL_ok q1 q2 (a := a21.toNat) (by omega) (by omega)
                have e4 := writeL_len (bs := xs32) (fr := xs42) (a := a21.toNat) (by omega)
                have e5 := q1.1; have e6 := q2.1
                have e8 : BytesOK (writeV xs32 xs37 a21 xs42) := by rw [e1]; exact e3
                have hsh : (a21 + (xs42.length : Int)).toNat = a21.toNat + xs42.length := by omega
                have f1 : ((writeV xs32 xs37 a21 xs42).take (a21 + (xs42.length : Int)).toNat).drop a21.toNat = xs42 := by rw [e1, hsh]; exact writeL_mid (by omega)
                have f2 : (writeV xs32 xs37 a21 xs42).take a21.toNat = xs32.take a21.toNat := by rw [e1]; exact writeL_head (by omega)
                have f3 : (writeV xs32 xs37 a21 xs42).length = max xs32.length (a21.toNat + xs42.length) := by rw [e1]; exact e4
                have f4 : (writeV xs32 xs37 a21 xs42).drop (a21 + (xs42.length : Int)).toNat = xs32.drop (a21 + (xs42.length : Int)).toNat := by rw [e1, hsh]; exact writeL_tail (by omega)
                first
                  | exact ⟨rfl, hc⟩
                  | (exfalso; omega)
                  | exact absurd hbo (by assumption)
                  | exact ⟨congrArg Value.bool (decide_eq_true (by omega)), hc⟩
                  | exact absurd f1 (by assumption)
                  | exact absurd f2 (by assumption)
                  | exact ⟨congrArg Value.bool (dec_yes f4), hc⟩
              · first
                  | exact absurd ‹WriteOK xs32 xs37 a21 xs42› hbo
                  | exact ⟨rfl, hc⟩
          · -- no
            replace hb157 := of_decide_eq_false hb157
            refine tw_pass rfl (w1n1 rfl rfl rfl rfl) rfl rfl ?_
            refine tw_pass rfl (w1n1 rfl rfl rfl rfl) rfl rfl ?_
            refine tw_pass rfl (w1n1 rfl rfl rfl rfl) rfl rfl ?_
            refine tw_pass rfl (w1n1 rfl rfl rfl rfl) rfl rfl ?_
            refine tw_pass rfl (w1n1 rfl rfl rfl rfl) rfl rfl ?_
            refine tw_pass rfl (w1u rfl rfl rfl) rfl rfl ?_
            refine tw_pass rfl (w1u rfl rfl rfl) rfl rfl ?_
            refine tw_pass rfl (w1u rfl rfl rfl) rfl rfl ?_
            refine tw_pass rfl (w1u rfl rfl rfl) rfl rfl ?_
            refine tw_pass rfl (w1u rfl rfl rfl) rfl rfl ?_
            refine tw_pass rfl (w1u rfl rfl rfl) rfl rfl ?_
            refine tw_one rfl (op_pass (w1u rfl rfl rfl) rfl rfl ?_)
            refine ⟨fun _ => hr155, ?_⟩
            refine tw_pass rfl (w1n1 rfl rfl rfl rfl) rfl rfl ?_
            refine tw_free rfl (w0 rfl) rfl rfl (fun u hu => (pv_pickF (v := (.bool false)) rfl rfl rfl : PV _ _ _ _) u) ?_
            refine tw_free rfl (w0 rfl) rfl rfl (fun u hu => (pv_assign (v := (.bool false)) rfl rfl : PV _ _ _ _) u) ?_
            clear hO33_r
            clear hO38_r
            clear hO43_r
            clear hO57_r
            clear hO60_r
            clear hO77_r
            clear hO80_r
            clear hR0_r
            clear hR127_r
            clear hR128_r
            clear hR138_r
            clear hR139_r
            refine tw_done (hK154 _ _ ?_)
            refine hK149 _ _ ?_
            refine cw_ret ?_
            refine fin1 rfl ?_
            rcases Classical.em (WriteOK xs32 xs37 a21 xs42) with hbo | hbo
            · have e1 := writeV_yes hbo; have e2 := writeS_yes hbo
              obtain ⟨q1, q2, q3, q4, q5, q6⟩ := id hbo
              have e3 := writeL_ok q1 q2 (a := a21.toNat) (by omega) (by omega)
              have e4 := writeL_len (bs := xs32) (fr := xs42) (a := a21.toNat) (by omega)
              have e5 := q1.1; have e6 := q2.1
              have e8 : BytesOK (writeV xs32 xs37 a21 xs42) := by rw [e1]; exact e3
              have hsh : (a21 + (xs42.length : Int)).toNat = a21.toNat + xs42.length := by omega
              have f1 : ((writeV xs32 xs37 a21 xs42).take (a21 + (xs42.length : Int)).toNat).drop a21.toNat = xs42 := by rw [e1, hsh]; exact writeL_mid (by omega)
              have f2 : (writeV xs32 xs37 a21 xs42).take a21.toNat = xs32.take a21.toNat := by rw [e1]; exact writeL_head (by omega)
              have f3 : (writeV xs32 xs37 a21 xs42).length = max xs32.length (a21.toNat + xs42.length) := by rw [e1]; exact e4
              have f4 : (writeV xs32 xs37 a21 xs42).drop (a21 + (xs42.length : Int)).toNat = xs32.drop (a21 + (xs42.length : Int)).toNat := by rw [e1, hsh]; exact writeL_tail (by omega)
              first
                | exact ⟨rfl, hc⟩
                | (exfalso; omega)
                | exact absurd hbo (by assumption)
                | exact ⟨congrArg Value.bool (decide_eq_true (by omega)), hc⟩
                | exact absurd f1 (by assumption)
                | exact absurd f2 (by assumption)
                | exact ⟨congrArg Value.bool (dec_yes f4), hc⟩
            · first
                | exact absurd ‹WriteOK xs32 xs37 a21 xs42› hbo
                | exact ⟨rfl, hc⟩
end Go.Proofs.Ythgnnpafieifmaa
