/-
  The walk of laws.FnSumsWriteBad, written by program: each line names the law of one operation. Conditions: those of the theorem.
-/
import Derived.Test.YthgnnpafieifmaaProg
import Derived.Test.YthgnnpafieifmaaFspecDrawSumsWrite
import Derived.Test.YthgnnpafieifmaaFimplSumsWrite
import Derived.Test.YthgnnpafieifmaaFspecSumsWrite
import Derived.Test.YthgnnpafieifmaaFlawssameInts
import Derived.KernelRfl
namespace Go.Proofs.Ythgnnpafieifmaa
open Go Go.RowKit
set_option linter.unusedVariables false
set_option linter.unusedSimpArgs false
namespace FnSumsWriteBad_okF
theorem T3 : TI Try.prog 3 false (.int .i64 0) 1 8 := TI.mk' Try.underlying3 rfl (by kernel_rfl)
theorem C27 : Callable Try.prog 27 := ⟨_, Try.func27, by kernel_rfl, by kernel_rfl⟩
theorem C30 : Callable Try.prog 30 := ⟨_, Try.func30, by kernel_rfl, by kernel_rfl⟩
theorem C31 : Callable Try.prog 31 := ⟨_, Try.func31, by kernel_rfl, by kernel_rfl⟩
theorem C33 : Callable Try.prog 33 := ⟨_, Try.func33, by kernel_rfl, by kernel_rfl⟩
end FnSumsWriteBad_okF
open FnSumsWriteBad_okF in
set_option maxHeartbeats 4000000 in
theorem FnSumsWriteBad_ok (A0 : Option Addr) (n0 c0 : Nat) (xs0 : List UInt8) (A1 : Option Addr) (n1 c1 : Nat) (xs1 : List UInt8) (w : World) (hR0 : RS encU 1 w w.heap.size A0 n0 xs0) (hn0 : n0 ≤ c0) (hR1 : RS encU 1 w w.heap.size A1 n1 xs1) (hn1 : n1 ≤ c1) :
    Fn Try.prog 15 [(.slice A0 n0 c0), (.slice A1 n1 c1)] w fun v w' => v = .bool true ∧ Ch [] w w' := by
  have hlen0 := hR0.len
  have hlen1 := hR1.len
  refine fn_of (n := 138) Try.func15 rfl rfl rfl rfl ?_
  have hc : Ch [] w w := Ch.refl _ _
  refine cw_seq fun K1 hK2 => ?_
  refine cw_region fun K3 hK4 => ?_
  refine rw_cons (op_pv (w0 rfl) rfl rfl (pv_assign (v := (.bool false)) rfl rfl) ?_)
  refine rw_nil (hK4 _ _ ?_)
  refine hK2 _ _ ?_
  refine cw_seq fun K5 hK6 => ?_
  refine cw_seq fun K7 hK8 => ?_
  refine cw_region fun K9 hK10 => ?_
  refine rw_cons (op_pv (w0 rfl) rfl rfl (pv_move (v := (.slice A0 n0 c0)) rfl rfl) ?_)
  refine rw_cons (op_pv (w0 rfl) rfl rfl (pv_len Try.underlying26 rfl rfl) ?_)
  refine rw_cons (op_pv (w0 rfl) rfl rfl (pv_gtr rfl rfl rfl) ?_)
  refine rw_cons (op_pv (w0 rfl) rfl rfl (pv_move (v := (.bool (decide (1048576 < (n0 : Int))))) rfl rfl) ?_)
  refine rw_split 26 rfl (fun hb11 => ?_) (fun hb11 => ?_)
  · -- yes
    replace hb11 := of_decide_eq_true hb11
    refine rw_cons (op_pass (w1n2 rfl rfl rfl rfl) rfl rfl ?_)
    refine rw_cons (op_pass (w1n2 rfl rfl rfl rfl) rfl rfl ?_)
    refine rw_cons (op_pass (w1n2 rfl rfl rfl rfl) rfl rfl ?_)
    refine rw_cons (op_pv (w0 rfl) rfl rfl (pv_pickT (v := (.bool true)) rfl rfl rfl) ?_)
    refine rw_nil (hK10 _ _ ?_)
    refine hK8 _ _ ?_
    refine cw_cond rfl (fun h12 => ?_) (fun h12 => ?_)
    · -- then
      clear h12
      refine cw_seq fun K13 hK14 => ?_
      refine cw_region fun K15 hK16 => ?_
      refine rw_cons (op_pv (w0 rfl) rfl rfl (pv_assign (v := (.bool true)) rfl rfl) ?_)
      refine rw_nil (hK16 _ _ ?_)
      refine hK14 _ _ ?_
      refine cw_ret ?_
      refine fin1 rfl ?_
      exact ⟨rfl, hc⟩
    · -- else
      cases h12
  · -- no
    replace hb11 := of_decide_eq_false hb11
    refine rw_cons (op_pv (w1y rfl rfl rfl rfl) rfl rfl (pv_move (v := (.slice A1 n1 c1)) rfl rfl) ?_)
    refine rw_cons (op_pv (w1y rfl rfl rfl rfl) rfl rfl (pv_len Try.underlying26 rfl rfl) ?_)
    refine rw_cons (op_pv (w1y rfl rfl rfl rfl) rfl rfl (pv_gtr rfl rfl rfl) ?_)
    refine rw_cons (op_pv (w0 rfl) rfl rfl (pv_pickF (v := (.bool (decide (1048576 < (n1 : Int))))) rfl rfl rfl) ?_)
    refine rw_nil (hK10 _ _ ?_)
    refine hK8 _ _ ?_
    refine cw_cond rfl (fun h17 => ?_) (fun h17 => ?_)
    · -- then
      replace h17 := of_decide_eq_true h17
      refine cw_seq fun K18 hK19 => ?_
      refine cw_region fun K20 hK21 => ?_
      refine rw_cons (op_pv (w0 rfl) rfl rfl (pv_assign (v := (.bool true)) rfl rfl) ?_)
      refine rw_nil (hK21 _ _ ?_)
      refine hK19 _ _ ?_
      refine cw_ret ?_
      refine fin1 rfl ?_
      exact ⟨rfl, hc⟩
    · -- else
      replace h17 := of_decide_eq_false h17
      refine cw_skip ?_
      refine hK6 _ _ ?_
      refine cw_seq fun K22 hK23 => ?_
      refine cw_region fun K24 hK25 => ?_
      refine rw_cons (op_pv (w0 rfl) rfl rfl (pv_move (v := (.slice A0 n0 c0)) rfl rfl) ?_)
      refine rw_cons (op_call (w0 rfl) rfl rfl (rc_call C33 rfl rfl) (DrawSumsWrite_ok _ _ _ _ _ (hR0.more (by omega)) (by omega)) ?_)
      rintro _ w26 ⟨A36, c37, xs38, A41, c42, xs43, a27, A46, c47, xs48, rfl, hO39, hO44, hO49, hx29, hx30, hx31, hx32, hx33, hx34, hx35, hch28⟩
      have hsz51 := hch28.size
      replace hR0 := hR0.ch0 hch28
      replace hR1 := hR1.ch0 hch28
      replace hc := hc.step0 hch28
      have hub40 := hO39.lt
      have hcap52 : xs38.length ≤ c37 := by obtain ⟨_, _, hv, h1, _⟩ := hO39.form; injection hv with _ _ h3; omega
      have hub45 := hO44.lt
      have hcap53 : xs43.length ≤ c42 := by obtain ⟨_, _, hv, h1, _⟩ := hO44.form; injection hv with _ _ h3; omega
      have hub50 := hO49.lt
      have hcap54 : xs48.length ≤ c47 := by obtain ⟨_, _, hv, h1, _⟩ := hO49.form; injection hv with _ _ h3; omega
      refine rw_cons (op_pv (w0 rfl) rfl rfl (pv_move (v := (.tuple #[(.slice A36 xs38.length c37), (.slice A41 xs43.length c42), (.int .i64 a27), (.slice A46 xs48.length c47)])) rfl rfl) ?_)
      refine rw_cons (op_pv (w0 rfl) rfl rfl (pv_ext (v := (.slice A36 xs38.length c37)) rfl rfl rfl) ?_)
      refine rw_cons (op_pv (w0 rfl) rfl rfl (pv_ext (v := (.slice A41 xs43.length c42)) rfl rfl rfl) ?_)
      refine rw_cons (op_pv (w0 rfl) rfl rfl (pv_ext (v := (.int .i64 a27)) rfl rfl rfl) ?_)
      refine rw_cons (op_pv (w0 rfl) rfl rfl (pv_ext (v := (.slice A46 xs48.length c47)) rfl rfl rfl) ?_)
      refine rw_cons (op_pv (w0 rfl) rfl rfl (pv_assign (v := (.slice A36 xs38.length c37)) rfl rfl) ?_)
      refine rw_cons (op_pv (w0 rfl) rfl rfl (pv_assign (v := (.slice A41 xs43.length c42)) rfl rfl) ?_)
      refine rw_cons (op_pv (w0 rfl) rfl rfl (pv_assign (v := (.int .i64 a27)) rfl rfl) ?_)
      refine rw_cons (op_pv (w0 rfl) rfl rfl (pv_assign (v := (.slice A46 xs48.length c47)) rfl rfl) ?_)
      refine rw_nil (hK25 _ _ ?_)
      refine hK23 _ _ ?_
      refine cw_seq fun K55 hK56 => ?_
      refine cw_region fun K57 hK58 => ?_
      refine rw_cons (op_pv (w0 rfl) rfl rfl (pv_move (v := (.slice A36 xs38.length c37)) rfl rfl) ?_)
      refine rw_cons (op_pv (w0 rfl) rfl rfl (pv_move (v := (.slice A41 xs43.length c42)) rfl rfl) ?_)
      refine rw_cons (op_pv (w0 rfl) rfl rfl (pv_move (v := (.int .i64 a27)) rfl rfl) ?_)
      refine rw_cons (op_pv (w0 rfl) rfl rfl (pv_move (v := (.slice A46 xs48.length c47)) rfl rfl) ?_)
      refine rw_cons (op_call (w0 rfl) rfl rfl (rc_call C31 rfl rfl) (SumsWrite_i _ xs38.length _ xs38 _ xs43.length _ xs43 a27 _ xs48.length _ xs48 _ (hO39.rs (fun _ => rfl)) (by omega) (by omega) (hO44.rs (fun _ => rfl)) (by omega) (hO49.rs (fun _ => rfl)) (by omega)) ?_)
      rintro _ w59 ⟨A61, c62, A64, c65, rfl, hO63, hO66, hdj67, hch60⟩
      have hsz68 := hch60.size
      replace hR0 := hR0.ch0 hch60
      replace hR1 := hR1.ch0 hch60
      replace hO39 := hO39.ch0 hch60
      replace hO44 := hO44.ch0 hch60
      replace hO49 := hO49.ch0 hch60
      replace hc := hc.step0 hch60
      have hub69 := hO63.lt
      have hcap70 : (writeV xs38 xs43 a27 xs48).length ≤ c62 := by obtain ⟨_, _, hv, h1, _⟩ := hO63.form; injection hv with _ _ h3; omega
      have hub71 := hO66.lt
      have hcap72 : (writeS xs38 xs43 a27 xs48).length ≤ c65 := by obtain ⟨_, _, hv, h1, _⟩ := hO66.form; injection hv with _ _ h3; omega
      have hnt73 := writeV_le xs38 xs43 a27 xs48
      have hnt74 := writeS_le xs38 xs43 a27 xs48
      refine rw_cons (op_pv (w0 rfl) rfl rfl (pv_move (v := (.tuple #[(.slice A61 (writeV xs38 xs43 a27 xs48).length c62), (.slice A64 (writeS xs38 xs43 a27 xs48).length c65), (.bool (dec (WriteOK xs38 xs43 a27 xs48)))])) rfl rfl) ?_)
      refine rw_cons (op_pv (w0 rfl) rfl rfl (pv_ext (v := (.slice A61 (writeV xs38 xs43 a27 xs48).length c62)) rfl rfl rfl) ?_)
      refine rw_cons (op_pv (w0 rfl) rfl rfl (pv_ext (v := (.slice A64 (writeS xs38 xs43 a27 xs48).length c65)) rfl rfl rfl) ?_)
      refine rw_cons (op_pv (w0 rfl) rfl rfl (pv_ext (v := (.bool (dec (WriteOK xs38 xs43 a27 xs48)))) rfl rfl rfl) ?_)
      refine rw_cons (op_pv (w0 rfl) rfl rfl (pv_assign (v := (.slice A61 (writeV xs38 xs43 a27 xs48).length c62)) rfl rfl) ?_)
      refine rw_cons (op_pv (w0 rfl) rfl rfl (pv_assign (v := (.slice A64 (writeS xs38 xs43 a27 xs48).length c65)) rfl rfl) ?_)
      refine rw_cons (op_pv (w0 rfl) rfl rfl (pv_assign (v := (.bool (dec (WriteOK xs38 xs43 a27 xs48)))) rfl rfl) ?_)
      refine rw_nil (hK58 _ _ ?_)
      refine hK56 _ _ ?_
      refine cw_seq fun K75 hK76 => ?_
      refine cw_region fun K77 hK78 => ?_
      refine rw_cons (op_pv (w0 rfl) rfl rfl (pv_move (v := (.slice A36 xs38.length c37)) rfl rfl) ?_)
      refine rw_cons (op_pv (w0 rfl) rfl rfl (pv_move (v := (.slice A41 xs43.length c42)) rfl rfl) ?_)
      refine rw_cons (op_pv (w0 rfl) rfl rfl (pv_move (v := (.int .i64 a27)) rfl rfl) ?_)
      refine rw_cons (op_pv (w0 rfl) rfl rfl (pv_move (v := (.slice A46 xs48.length c47)) rfl rfl) ?_)
      refine rw_cons (op_call (w0 rfl) rfl rfl (rc_call C30 rfl rfl) (SumsWrite_s _ xs38.length _ xs38 _ xs43.length _ xs43 a27 _ xs48.length _ xs48 _ (hO39.rs (fun _ => rfl)) (by omega) (by omega) (hO44.rs (fun _ => rfl)) (by omega) (hO49.rs (fun _ => rfl)) (by omega)) ?_)
      rintro _ w79 ⟨A81, c82, A84, c85, rfl, hO83, hO86, hdj87, hch80⟩
      have hsz88 := hch80.size
      replace hR0 := hR0.ch0 hch80
      replace hR1 := hR1.ch0 hch80
      replace hO39 := hO39.ch0 hch80
      replace hO44 := hO44.ch0 hch80
      replace hO49 := hO49.ch0 hch80
      replace hO63 := hO63.ch0 hch80
      replace hO66 := hO66.ch0 hch80
      replace hc := hc.step0 hch80
      have hub89 := hO83.lt
      have hcap90 : (writeV xs38 xs43 a27 xs48).length ≤ c82 := by obtain ⟨_, _, hv, h1, _⟩ := hO83.form; injection hv with _ _ h3; omega
      have hub91 := hO86.lt
      have hcap92 : (writeS xs38 xs43 a27 xs48).length ≤ c85 := by obtain ⟨_, _, hv, h1, _⟩ := hO86.form; injection hv with _ _ h3; omega
      have hnt93 := writeV_le xs38 xs43 a27 xs48
      have hnt94 := writeS_le xs38 xs43 a27 xs48
      refine rw_cons (op_pv (w0 rfl) rfl rfl (pv_move (v := (.tuple #[(.slice A81 (writeV xs38 xs43 a27 xs48).length c82), (.slice A84 (writeS xs38 xs43 a27 xs48).length c85), (.bool (dec (WriteOK xs38 xs43 a27 xs48)))])) rfl rfl) ?_)
      refine rw_cons (op_pv (w0 rfl) rfl rfl (pv_ext (v := (.slice A81 (writeV xs38 xs43 a27 xs48).length c82)) rfl rfl rfl) ?_)
      refine rw_cons (op_pv (w0 rfl) rfl rfl (pv_ext (v := (.slice A84 (writeS xs38 xs43 a27 xs48).length c85)) rfl rfl rfl) ?_)
      refine rw_cons (op_pv (w0 rfl) rfl rfl (pv_ext (v := (.bool (dec (WriteOK xs38 xs43 a27 xs48)))) rfl rfl rfl) ?_)
      refine rw_cons (op_pv (w0 rfl) rfl rfl (pv_assign (v := (.slice A81 (writeV xs38 xs43 a27 xs48).length c82)) rfl rfl) ?_)
      refine rw_cons (op_pv (w0 rfl) rfl rfl (pv_assign (v := (.slice A84 (writeS xs38 xs43 a27 xs48).length c85)) rfl rfl) ?_)
      refine rw_cons (op_pv (w0 rfl) rfl rfl (pv_assign (v := (.bool (dec (WriteOK xs38 xs43 a27 xs48)))) rfl rfl) ?_)
      refine rw_nil (hK78 _ _ ?_)
      refine hK76 _ _ ?_
      refine cw_seq fun K95 hK96 => ?_
      refine cw_seq fun K97 hK98 => ?_
      refine cw_region fun K99 hK100 => ?_
      refine rw_cons (op_pv (w0 rfl) rfl rfl (pv_move (v := (.bool (dec (WriteOK xs38 xs43 a27 xs48)))) rfl rfl) ?_)
      refine rw_cons (op_pv (w0 rfl) rfl rfl (pv_move (v := (.bool (dec (WriteOK xs38 xs43 a27 xs48)))) rfl rfl) ?_)
      refine rw_cons (op_pv (w0 rfl) rfl rfl (pv_neBs Try.underlying4 rfl rfl rfl) ?_)
      refine rw_cons (op_pv (w0 rfl) rfl rfl (pv_move (v := (.bool false)) rfl rfl) ?_)
      refine rw_cons (op_pv (w1y rfl rfl rfl rfl) rfl rfl (pv_move (v := (.slice A64 (writeS xs38 xs43 a27 xs48).length c65)) rfl rfl) ?_)
      refine rw_cons (op_pv (w1y rfl rfl rfl rfl) rfl rfl (pv_move (v := (.slice A84 (writeS xs38 xs43 a27 xs48).length c85)) rfl rfl) ?_)
      refine rw_cons (op_call (w1y rfl rfl rfl rfl) rfl rfl (rc_call C27 rfl rfl) (sameInts_same _ _ _ _ _ _ (writeS xs38 xs43 a27 xs48) _ (hO66.rs (fun _ => rfl)) (hO86.rs (fun _ => rfl)) (by omega)) ?_)
      rintro _ w101 ⟨rfl, hch102⟩
      have hsz103 := hch102.size
      replace hR0 := hR0.ch0 hch102
      replace hR1 := hR1.ch0 hch102
      replace hO39 := hO39.ch0 hch102
      replace hO44 := hO44.ch0 hch102
      replace hO49 := hO49.ch0 hch102
      replace hO63 := hO63.ch0 hch102
      replace hO66 := hO66.ch0 hch102
      replace hO83 := hO83.ch0 hch102
      replace hO86 := hO86.ch0 hch102
      replace hc := hc.step0 hch102
      refine rw_cons (op_pv (w1y rfl rfl rfl rfl) rfl rfl (pv_not rfl rfl) ?_)
      refine rw_cons (op_pv (w0 rfl) rfl rfl (pv_pickF (v := (.bool (!true))) rfl rfl rfl) ?_)
      refine rw_cons (op_pv (w0 rfl) rfl rfl (pv_move (v := (.bool (!true))) rfl rfl) ?_)
      refine rw_cons (op_pv (w1y rfl rfl rfl rfl) rfl rfl (pv_move (v := (.slice A61 (writeV xs38 xs43 a27 xs48).length c62)) rfl rfl) ?_)
      refine rw_cons (op_pv (w1y rfl rfl rfl rfl) rfl rfl (pv_move (v := (.slice A81 (writeV xs38 xs43 a27 xs48).length c82)) rfl rfl) ?_)
      refine rw_cons (op_call (w1y rfl rfl rfl rfl) rfl rfl (rc_call C27 rfl rfl) (sameInts_same _ _ _ _ _ _ (writeV xs38 xs43 a27 xs48) _ (hO63.rs (fun _ => rfl)) (hO83.rs (fun _ => rfl)) (by omega)) ?_)
      rintro _ w104 ⟨rfl, hch105⟩
      have hsz106 := hch105.size
      replace hR0 := hR0.ch0 hch105
      replace hR1 := hR1.ch0 hch105
      replace hO39 := hO39.ch0 hch105
      replace hO44 := hO44.ch0 hch105
      replace hO49 := hO49.ch0 hch105
      replace hO63 := hO63.ch0 hch105
      replace hO66 := hO66.ch0 hch105
      replace hO83 := hO83.ch0 hch105
      replace hO86 := hO86.ch0 hch105
      replace hc := hc.step0 hch105
      refine rw_cons (op_pv (w1y rfl rfl rfl rfl) rfl rfl (pv_not rfl rfl) ?_)
      refine rw_cons (op_pv (w0 rfl) rfl rfl (pv_pickF (v := (.bool (!true))) rfl rfl rfl) ?_)
      refine rw_cons (op_pv (w0 rfl) rfl rfl (pv_move (v := (.bool (!true))) rfl rfl) ?_)
      refine rw_cons (op_pv (w1y rfl rfl rfl rfl) rfl rfl (pv_move (v := (.bool (dec (WriteOK xs38 xs43 a27 xs48)))) rfl rfl) ?_)
      refine rw_cons (op_pv (w1y rfl rfl rfl rfl) rfl rfl (pv_not rfl rfl) ?_)
      refine rw_cons (op_pv (w0 rfl) rfl rfl (pv_pickF (v := (.bool (!(dec (WriteOK xs38 xs43 a27 xs48))))) rfl rfl rfl) ?_)
      refine rw_cons (op_pv (w0 rfl) rfl rfl (pv_move (v := (.bool (!(dec (WriteOK xs38 xs43 a27 xs48))))) rfl rfl) ?_)
      refine rw_split 75 rfl (fun hb107 => ?_) (fun hb107 => ?_)
      · -- yes
        replace hb107 := not_t hb107
        replace hb107 := dec_f hb107
        refine rw_cons (op_pass (w1n2 rfl rfl rfl rfl) rfl rfl ?_)
        refine rw_cons (op_pass (w1n2 rfl rfl rfl rfl) rfl rfl ?_)
        refine rw_cons (op_pass (w1n2 rfl rfl rfl rfl) rfl rfl ?_)
        refine rw_cons (op_pv (w0 rfl) rfl rfl (pv_pickT (v := (.bool true)) rfl rfl rfl) ?_)
        refine rw_nil (hK100 _ _ ?_)
        refine hK98 _ _ ?_
        refine cw_cond rfl (fun h108 => ?_) (fun h108 => ?_)
        · -- then
          clear h108
          refine cw_seq fun K109 hK110 => ?_
          refine cw_region fun K111 hK112 => ?_
          refine rw_cons (op_pv (w0 rfl) rfl rfl (pv_move (v := (.bool (dec (WriteOK xs38 xs43 a27 xs48)))) rfl rfl) ?_)
          refine rw_cons (op_pv (w0 rfl) rfl rfl (pv_move (v := (.bool (dec (WriteOK xs38 xs43 a27 xs48)))) rfl rfl) ?_)
          refine rw_cons (op_pv (w0 rfl) rfl rfl (pv_eqBs Try.underlying4 rfl rfl rfl) ?_)
          refine rw_cons (op_pv (w0 rfl) rfl rfl (pv_move (v := (.bool true)) rfl rfl) ?_)
          refine rw_cons (op_pv (w1y rfl rfl rfl rfl) rfl rfl (pv_move (v := (.slice A64 (writeS xs38 xs43 a27 xs48).length c65)) rfl rfl) ?_)
          refine rw_cons (op_pv (w1y rfl rfl rfl rfl) rfl rfl (pv_move (v := (.slice A84 (writeS xs38 xs43 a27 xs48).length c85)) rfl rfl) ?_)
          refine rw_cons (op_call (w1y rfl rfl rfl rfl) rfl rfl (rc_call C27 rfl rfl) (sameInts_same _ _ _ _ _ _ (writeS xs38 xs43 a27 xs48) _ (hO66.rs (fun _ => rfl)) (hO86.rs (fun _ => rfl)) (by omega)) ?_)
          rintro _ w113 ⟨rfl, hch114⟩
          have hsz115 := hch114.size
          replace hR0 := hR0.ch0 hch114
          replace hR1 := hR1.ch0 hch114
          replace hO39 := hO39.ch0 hch114
          replace hO44 := hO44.ch0 hch114
          replace hO49 := hO49.ch0 hch114
          replace hO63 := hO63.ch0 hch114
          replace hO66 := hO66.ch0 hch114
          replace hO83 := hO83.ch0 hch114
          replace hO86 := hO86.ch0 hch114
          replace hc := hc.step0 hch114
          refine rw_cons (op_pv (w0 rfl) rfl rfl (pv_pickT (v := (.bool true)) rfl rfl rfl) ?_)
          refine rw_cons (op_pv (w0 rfl) rfl rfl (pv_move (v := (.bool true)) rfl rfl) ?_)
          refine rw_cons (op_pv (w1y rfl rfl rfl rfl) rfl rfl (pv_move (v := (.slice A61 (writeV xs38 xs43 a27 xs48).length c62)) rfl rfl) ?_)
          refine rw_cons (op_pv (w1y rfl rfl rfl rfl) rfl rfl (pv_move (v := (.slice A81 (writeV xs38 xs43 a27 xs48).length c82)) rfl rfl) ?_)
          refine rw_cons (op_call (w1y rfl rfl rfl rfl) rfl rfl (rc_call C27 rfl rfl) (sameInts_same _ _ _ _ _ _ (writeV xs38 xs43 a27 xs48) _ (hO63.rs (fun _ => rfl)) (hO83.rs (fun _ => rfl)) (by omega)) ?_)
          rintro _ w116 ⟨rfl, hch117⟩
          have hsz118 := hch117.size
          replace hR0 := hR0.ch0 hch117
          replace hR1 := hR1.ch0 hch117
          replace hO39 := hO39.ch0 hch117
          replace hO44 := hO44.ch0 hch117
          replace hO49 := hO49.ch0 hch117
          replace hO63 := hO63.ch0 hch117
          replace hO66 := hO66.ch0 hch117
          replace hO83 := hO83.ch0 hch117
          replace hO86 := hO86.ch0 hch117
          replace hc := hc.step0 hch117
          refine rw_cons (op_pv (w0 rfl) rfl rfl (pv_pickT (v := (.bool true)) rfl rfl rfl) ?_)
          refine rw_cons (op_pv (w0 rfl) rfl rfl (pv_assign (v := (.bool true)) rfl rfl) ?_)
          refine rw_nil (hK112 _ _ ?_)
          refine hK110 _ _ ?_
          refine cw_ret ?_
          refine fin1 rfl ?_
          exact ⟨rfl, hc⟩
        · -- else
          cases h108
      · -- no
        replace hb107 := not_f hb107
        replace hb107 := dec_t hb107
        refine rw_cons (op_pv (w1y rfl rfl rfl rfl) rfl rfl (pv_move (v := (.slice A36 xs38.length c37)) rfl rfl) ?_)
        refine rw_cons (op_pv (w1y rfl rfl rfl rfl) rfl rfl (pv_len Try.underlying22 rfl rfl) ?_)
        refine rw_cons (op_pv (w1y rfl rfl rfl rfl) rfl rfl (pv_eql rfl rfl rfl) ?_)
        refine rw_cons (op_pv (w0 rfl) rfl rfl (pv_pickF (v := (.bool (decide (((xs38.length : Int) : Int) = 0)))) rfl rfl rfl) ?_)
        refine rw_nil (hK100 _ _ ?_)
        refine hK98 _ _ ?_
        refine cw_cond rfl (fun h119 => ?_) (fun h119 => ?_)
        · -- then
          replace h119 := of_decide_eq_true h119
          refine cw_seq fun K120 hK121 => ?_
          refine cw_region fun K122 hK123 => ?_
          refine rw_cons (op_pv (w0 rfl) rfl rfl (pv_move (v := (.bool (dec (WriteOK xs38 xs43 a27 xs48)))) rfl rfl) ?_)
          refine rw_cons (op_pv (w0 rfl) rfl rfl (pv_move (v := (.bool (dec (WriteOK xs38 xs43 a27 xs48)))) rfl rfl) ?_)
          refine rw_cons (op_pv (w0 rfl) rfl rfl (pv_eqBs Try.underlying4 rfl rfl rfl) ?_)
          refine rw_cons (op_pv (w0 rfl) rfl rfl (pv_move (v := (.bool true)) rfl rfl) ?_)
          refine rw_cons (op_pv (w1y rfl rfl rfl rfl) rfl rfl (pv_move (v := (.slice A64 (writeS xs38 xs43 a27 xs48).length c65)) rfl rfl) ?_)
          refine rw_cons (op_pv (w1y rfl rfl rfl rfl) rfl rfl (pv_move (v := (.slice A84 (writeS xs38 xs43 a27 xs48).length c85)) rfl rfl) ?_)
          refine rw_cons (op_call (w1y rfl rfl rfl rfl) rfl rfl (rc_call C27 rfl rfl) (sameInts_same _ _ _ _ _ _ (writeS xs38 xs43 a27 xs48) _ (hO66.rs (fun _ => rfl)) (hO86.rs (fun _ => rfl)) (by omega)) ?_)
          rintro _ w124 ⟨rfl, hch125⟩
          have hsz126 := hch125.size
          replace hR0 := hR0.ch0 hch125
          replace hR1 := hR1.ch0 hch125
          replace hO39 := hO39.ch0 hch125
          replace hO44 := hO44.ch0 hch125
          replace hO49 := hO49.ch0 hch125
          replace hO63 := hO63.ch0 hch125
          replace hO66 := hO66.ch0 hch125
          replace hO83 := hO83.ch0 hch125
          replace hO86 := hO86.ch0 hch125
          replace hc := hc.step0 hch125
          refine rw_cons (op_pv (w0 rfl) rfl rfl (pv_pickT (v := (.bool true)) rfl rfl rfl) ?_)
          refine rw_cons (op_pv (w0 rfl) rfl rfl (pv_move (v := (.bool true)) rfl rfl) ?_)
          refine rw_cons (op_pv (w1y rfl rfl rfl rfl) rfl rfl (pv_move (v := (.slice A61 (writeV xs38 xs43 a27 xs48).length c62)) rfl rfl) ?_)
          refine rw_cons (op_pv (w1y rfl rfl rfl rfl) rfl rfl (pv_move (v := (.slice A81 (writeV xs38 xs43 a27 xs48).length c82)) rfl rfl) ?_)
          refine rw_cons (op_call (w1y rfl rfl rfl rfl) rfl rfl (rc_call C27 rfl rfl) (sameInts_same _ _ _ _ _ _ (writeV xs38 xs43 a27 xs48) _ (hO63.rs (fun _ => rfl)) (hO83.rs (fun _ => rfl)) (by omega)) ?_)
          rintro _ w127 ⟨rfl, hch128⟩
          have hsz129 := hch128.size
          replace hR0 := hR0.ch0 hch128
          replace hR1 := hR1.ch0 hch128
          replace hO39 := hO39.ch0 hch128
          replace hO44 := hO44.ch0 hch128
          replace hO49 := hO49.ch0 hch128
          replace hO63 := hO63.ch0 hch128
          replace hO66 := hO66.ch0 hch128
          replace hO83 := hO83.ch0 hch128
          replace hO86 := hO86.ch0 hch128
          replace hc := hc.step0 hch128
          refine rw_cons (op_pv (w0 rfl) rfl rfl (pv_pickT (v := (.bool true)) rfl rfl rfl) ?_)
          refine rw_cons (op_pv (w0 rfl) rfl rfl (pv_assign (v := (.bool true)) rfl rfl) ?_)
          refine rw_nil (hK123 _ _ ?_)
          refine hK121 _ _ ?_
          refine cw_ret ?_
          refine fin1 rfl ?_
          exact ⟨rfl, hc⟩
        · -- else
          replace h119 := of_decide_eq_false h119
          refine cw_skip ?_
          refine hK96 _ _ ?_
          refine cw_seq fun K130 hK131 => ?_
          obtain ⟨k1, k2, k3, k4, k5, k6⟩ := (by assumption : WriteOK xs38 xs43 a27 xs48)
          have k7 := k1.1; have k8 := k2.1
          have k9 := congrArg List.length k6
          rw [sumsL_len] at k9
          unfold nparts at k9
          refine cw_region fun K132 hK133 => ?_
          refine rw_cons (op_pv (w0 rfl) rfl rfl (pv_move (v := (.slice A1 n1 c1)) rfl rfl) ?_)
          refine rw_cons (op_pv (w0 rfl) rfl rfl (pv_len Try.underlying26 rfl rfl) ?_)
          refine rw_cons (op_pv (w0 rfl) rfl rfl (pv_move (v := (.slice A36 xs38.length c37)) rfl rfl) ?_)
          refine rw_cons (op_pv (w0 rfl) rfl rfl (pv_len Try.underlying22 rfl rfl) ?_)
          refine rw_cons (op_pv (w0 rfl) rfl rfl (pv_rem rfl rfl rfl (by omega) (by omega)) ?_)
          have hq134 := Int.emod_nonneg (n1 : Int) (b := (xs38.length : Int)) (by omega); have hq135 := Int.emod_lt_of_pos (n1 : Int) (b := (xs38.length : Int)) (by omega)
          obtain ⟨d136, hd137⟩ : ∃ d : Nat, (n1 : Int) % (xs38.length : Int) = (d : Int) := ⟨((n1 : Int) % (xs38.length : Int)).toNat, by omega⟩
          rw [hd137]
          rw [hd137] at hq134
          rw [hd137] at hq135
          refine rw_cons (op_pv (w0 rfl) rfl rfl (pv_assign (v := (.int .i64 (d136 : Int))) rfl rfl) ?_)
          refine rw_nil (hK133 _ _ ?_)
          refine hK131 _ _ ?_
          refine cw_seq fun K138 hK139 => ?_
          refine cw_region fun K140 hK141 => ?_
          refine rw_cons (op_bslice [] Try.underlying22 T3 (w0 rfl) rfl rfl rfl rfl rfl (by simp [Value.cells]) (by decide) ?_)
          intro g143 w142 hg146 hg147 hK145 hch144
          have hO148 : Own encI 1 w142 w104.heap.size 3 (.slice (some ⟨g143, 0, none⟩) 0 0) ([] : List Int) := Blk.own (xs := ([] : List Int)) hK145 (by omega) rfl (by decide) rfl
          have hsz149 := hch144.size
          replace hR0 := hR0.ch0 hch144
          replace hR1 := hR1.ch0 hch144
          replace hO39 := hO39.ch0 hch144
          replace hO44 := hO44.ch0 hch144
          replace hO49 := hO49.ch0 hch144
          replace hO63 := hO63.ch0 hch144
          replace hO66 := hO66.ch0 hch144
          replace hO83 := hO83.ch0 hch144
          replace hO86 := hO86.ch0 hch144
          replace hc := hc.step0 hch144
          have hub150 := hO148.lt
          refine rw_cons (op_pv (w0 rfl) rfl rfl (pv_move (v := (.slice A36 xs38.length c37)) rfl rfl) ?_)
          refine rw_cons (op_append Try.underlying22 T3 (fun _ => rfl) rfl (by decide) (fun _ => one_all rfl) (w0 rfl) rfl rfl rfl rfl rfl hO148 (hO39.rs (fun _ => rfl)) (by unfold maxLen; first | omega | (simp; omega)) (by first | omega | (simp; omega)) (by omega) ?_)
          rintro v151 w152 hO153 hch154 hs155
          replace hO153 : Own encI 1 w152 w104.heap.size 3 v151 xs38 := hO153
          have hl156 : xs38.length = 0 + xs38.length := by first | (have hl0 := (hO39.rs (fun _ => rfl)).len; omega) | (have hl0 := (hO39.rs (fun _ => rfl)).len; simp only [List.length_append, List.length_cons, List.length_nil] at hl0 ⊢; omega) | simp | rfl
          have hsz157 := hch154.size
          replace hR0 := hR0.ch hch154 (hO148.off.le (by omega))
          replace hR1 := hR1.ch hch154 (hO148.off.le (by omega))
          replace hO39 := hO39.ch hch154 (fun s hs hs2 => by first | (have h1 := hO39.off s hs; have h2 := hub150 s hs2; omega) | (have h1 := hub40 s hs; have h2 := hO148.off s hs2; omega) | (have h2 := hub150 s hs2; simp [obl, Value.ownBlock] at hs; omega) | (have h1 := hub40 s hs; simp [obl, Value.ownBlock] at hs2; omega))
          replace hO44 := hO44.ch hch154 (fun s hs hs2 => by first | (have h1 := hO44.off s hs; have h2 := hub150 s hs2; omega) | (have h1 := hub45 s hs; have h2 := hO148.off s hs2; omega) | (have h2 := hub150 s hs2; simp [obl, Value.ownBlock] at hs; omega) | (have h1 := hub45 s hs; simp [obl, Value.ownBlock] at hs2; omega))
          replace hO49 := hO49.ch hch154 (fun s hs hs2 => by first | (have h1 := hO49.off s hs; have h2 := hub150 s hs2; omega) | (have h1 := hub50 s hs; have h2 := hO148.off s hs2; omega) | (have h2 := hub150 s hs2; simp [obl, Value.ownBlock] at hs; omega) | (have h1 := hub50 s hs; simp [obl, Value.ownBlock] at hs2; omega))
          replace hO63 := hO63.ch hch154 (fun s hs hs2 => by first | (have h1 := hO63.off s hs; have h2 := hub150 s hs2; omega) | (have h1 := hub69 s hs; have h2 := hO148.off s hs2; omega) | (have h2 := hub150 s hs2; simp [obl, Value.ownBlock] at hs; omega) | (have h1 := hub69 s hs; simp [obl, Value.ownBlock] at hs2; omega))
          replace hO66 := hO66.ch hch154 (fun s hs hs2 => by first | (have h1 := hO66.off s hs; have h2 := hub150 s hs2; omega) | (have h1 := hub71 s hs; have h2 := hO148.off s hs2; omega) | (have h2 := hub150 s hs2; simp [obl, Value.ownBlock] at hs; omega) | (have h1 := hub71 s hs; simp [obl, Value.ownBlock] at hs2; omega))
          replace hO83 := hO83.ch hch154 (fun s hs hs2 => by first | (have h1 := hO83.off s hs; have h2 := hub150 s hs2; omega) | (have h1 := hub89 s hs; have h2 := hO148.off s hs2; omega) | (have h2 := hub150 s hs2; simp [obl, Value.ownBlock] at hs; omega) | (have h1 := hub89 s hs; simp [obl, Value.ownBlock] at hs2; omega))
          replace hO86 := hO86.ch hch154 (fun s hs hs2 => by first | (have h1 := hO86.off s hs; have h2 := hub150 s hs2; omega) | (have h1 := hub91 s hs; have h2 := hO148.off s hs2; omega) | (have h2 := hub150 s hs2; simp [obl, Value.ownBlock] at hs; omega) | (have h1 := hub91 s hs; simp [obl, Value.ownBlock] at hs2; omega))
          replace hc := (hO148.off.le (by omega)).step hc hch154
          have hub158 := hO153.lt
          obtain ⟨A159, c160, hv161, hcap162, hcap163⟩ := hO153.form; subst hv161
          refine rw_cons (op_pv (w0 rfl) rfl rfl (pv_assign (v := (.slice A159 xs38.length c160)) rfl rfl) ?_)
          refine rw_nil (hK141 _ _ ?_)
          refine hK139 _ _ ?_
          refine cw_seq fun K164 hK165 => ?_
          refine cw_region fun K166 hK167 => ?_
          refine rw_cons (op_pv (w0 rfl) rfl rfl (pv_move (v := (.slice A159 xs38.length c160)) rfl rfl) ?_)
          refine rw_cons (op_pv (w0 rfl) rfl rfl (pv_move (v := (.int .i64 (d136 : Int))) rfl rfl) ?_)
          refine rw_cons (op_pv (w0 rfl) rfl rfl (pv_move (v := (.slice A36 xs38.length c37)) rfl rfl) ?_)
          refine rw_cons (op_pv (w0 rfl) rfl rfl (pv_move (v := (.int .i64 (d136 : Int))) rfl rfl) ?_)
          refine rw_cons (op_pv (w0 rfl) rfl rfl (pv_idx Try.underlying22 T3 rfl rfl rfl ((hO39.rs (fun _ => rfl)).some (k := d136) (by omega)) (by omega) (by omega)) ?_)
          have hel168 := hx32 d136 (by omega)
          refine rw_cons (op_lv (w0 rfl) rfl rfl (lv_load T3 rfl rfl ((hO39.rs (fun _ => rfl)).cell0 (k := d136) (by omega) rfl)) ?_)
          refine rw_cons (op_pv (w0 rfl) rfl rfl (pv_add rfl rfl rfl (by omega) (by omega)) ?_)
          refine rw_cons (op_pv (w0 rfl) rfl rfl (pv_rem rfl rfl rfl (by omega) (by omega)) ?_)
          refine rw_cons (op_pv (w0 rfl) rfl rfl (pv_idx Try.underlying22 T3 rfl rfl rfl ((hO153.rs (fun _ => rfl)).some (k := d136) (by omega)) (by omega) (by omega)) ?_)
          refine rw_cons (op_store_ownA (k := d136) (off := 0) (((el xs38 d136) + 1) % 256) T3 hO153 (fun _ => rfl) (w0 rfl) rfl rfl rfl rfl rfl (one_all rfl) (by omega) (Nat.le_of_ble_eq_true rfl) rfl ?_)
          rintro w169 hO171 hch170
          have hsz172 := hch170.size
          replace hR0 := hR0.ch hch170 (hO153.off.le (by omega))
          replace hR1 := hR1.ch hch170 (hO153.off.le (by omega))
          replace hO39 := hO39.ch hch170 (fun s hs hs2 => by first | (have h1 := hO39.off s hs; have h2 := hub158 s hs2; omega) | (have h1 := hub40 s hs; have h2 := hO153.off s hs2; omega) | (have h2 := hub158 s hs2; simp [obl, Value.ownBlock] at hs; omega) | (have h1 := hub40 s hs; simp [obl, Value.ownBlock] at hs2; omega))
          replace hO44 := hO44.ch hch170 (fun s hs hs2 => by first | (have h1 := hO44.off s hs; have h2 := hub158 s hs2; omega) | (have h1 := hub45 s hs; have h2 := hO153.off s hs2; omega) | (have h2 := hub158 s hs2; simp [obl, Value.ownBlock] at hs; omega) | (have h1 := hub45 s hs; simp [obl, Value.ownBlock] at hs2; omega))
          replace hO49 := hO49.ch hch170 (fun s hs hs2 => by first | (have h1 := hO49.off s hs; have h2 := hub158 s hs2; omega) | (have h1 := hub50 s hs; have h2 := hO153.off s hs2; omega) | (have h2 := hub158 s hs2; simp [obl, Value.ownBlock] at hs; omega) | (have h1 := hub50 s hs; simp [obl, Value.ownBlock] at hs2; omega))
          replace hO63 := hO63.ch hch170 (fun s hs hs2 => by first | (have h1 := hO63.off s hs; have h2 := hub158 s hs2; omega) | (have h1 := hub69 s hs; have h2 := hO153.off s hs2; omega) | (have h2 := hub158 s hs2; simp [obl, Value.ownBlock] at hs; omega) | (have h1 := hub69 s hs; simp [obl, Value.ownBlock] at hs2; omega))
          replace hO66 := hO66.ch hch170 (fun s hs hs2 => by first | (have h1 := hO66.off s hs; have h2 := hub158 s hs2; omega) | (have h1 := hub71 s hs; have h2 := hO153.off s hs2; omega) | (have h2 := hub158 s hs2; simp [obl, Value.ownBlock] at hs; omega) | (have h1 := hub71 s hs; simp [obl, Value.ownBlock] at hs2; omega))
          replace hO83 := hO83.ch hch170 (fun s hs hs2 => by first | (have h1 := hO83.off s hs; have h2 := hub158 s hs2; omega) | (have h1 := hub89 s hs; have h2 := hO153.off s hs2; omega) | (have h2 := hub158 s hs2; simp [obl, Value.ownBlock] at hs; omega) | (have h1 := hub89 s hs; simp [obl, Value.ownBlock] at hs2; omega))
          replace hO86 := hO86.ch hch170 (fun s hs hs2 => by first | (have h1 := hO86.off s hs; have h2 := hub158 s hs2; omega) | (have h1 := hub91 s hs; have h2 := hO153.off s hs2; omega) | (have h2 := hub158 s hs2; simp [obl, Value.ownBlock] at hs; omega) | (have h1 := hub91 s hs; simp [obl, Value.ownBlock] at hs2; omega))
          replace hc := (hO153.off.le (by omega)).step hc hch170
          clear hO153; have hO153 := hO171; clear hO171
          refine rw_nil (hK167 _ _ ?_)
          refine hK165 _ _ ?_
          refine cw_seq fun K173 hK174 => ?_
          refine cw_region fun K175 hK176 => ?_
          refine rw_cons (op_pv (w0 rfl) rfl rfl (pv_move (v := (.slice A159 xs38.length c160)) rfl rfl) ?_)
          refine rw_cons (op_pv (w0 rfl) rfl rfl (pv_move (v := (.slice A41 xs43.length c42)) rfl rfl) ?_)
          refine rw_cons (op_pv (w0 rfl) rfl rfl (pv_move (v := (.int .i64 a27)) rfl rfl) ?_)
          refine rw_cons (op_pv (w0 rfl) rfl rfl (pv_move (v := (.slice A46 xs48.length c47)) rfl rfl) ?_)
          refine rw_cons (op_call (w0 rfl) rfl rfl (rc_call C31 rfl rfl) (SumsWrite_i _ xs38.length _ (xs38.set d136 (((el xs38 d136) + 1) % 256)) _ xs43.length _ xs43 a27 _ xs48.length _ xs48 _ (hO153.rs (fun _ => rfl)) (by omega) (by omega) (hO44.rs (fun _ => rfl)) (by omega) (hO49.rs (fun _ => rfl)) (by omega)) ?_)
          rintro _ w177 ⟨A179, c180, A182, c183, rfl, hO181, hO184, hdj185, hch178⟩
          have hsz186 := hch178.size
          replace hR0 := hR0.ch0 hch178
          replace hR1 := hR1.ch0 hch178
          replace hO39 := hO39.ch0 hch178
          replace hO44 := hO44.ch0 hch178
          replace hO49 := hO49.ch0 hch178
          replace hO63 := hO63.ch0 hch178
          replace hO66 := hO66.ch0 hch178
          replace hO83 := hO83.ch0 hch178
          replace hO86 := hO86.ch0 hch178
          replace hO153 := hO153.ch0 hch178
          replace hc := hc.step0 hch178
          have hub187 := hO181.lt
          have hcap188 : (writeV (xs38.set d136 (((el xs38 d136) + 1) % 256)) xs43 a27 xs48).length ≤ c180 := by obtain ⟨_, _, hv, h1, _⟩ := hO181.form; injection hv with _ _ h3; omega
          have hub189 := hO184.lt
          have hcap190 : (writeS (xs38.set d136 (((el xs38 d136) + 1) % 256)) xs43 a27 xs48).length ≤ c183 := by obtain ⟨_, _, hv, h1, _⟩ := hO184.form; injection hv with _ _ h3; omega
          have hnt191 := writeV_le (xs38.set d136 (((el xs38 d136) + 1) % 256)) xs43 a27 xs48
          have hnt192 := writeS_le (xs38.set d136 (((el xs38 d136) + 1) % 256)) xs43 a27 xs48
          refine rw_cons (op_pv (w0 rfl) rfl rfl (pv_move (v := (.tuple #[(.slice A179 (writeV (xs38.set d136 (((el xs38 d136) + 1) % 256)) xs43 a27 xs48).length c180), (.slice A182 (writeS (xs38.set d136 (((el xs38 d136) + 1) % 256)) xs43 a27 xs48).length c183), (.bool (dec (WriteOK (xs38.set d136 (((el xs38 d136) + 1) % 256)) xs43 a27 xs48)))])) rfl rfl) ?_)
          refine rw_cons (op_pv (w0 rfl) rfl rfl (pv_ext (v := (.slice A179 (writeV (xs38.set d136 (((el xs38 d136) + 1) % 256)) xs43 a27 xs48).length c180)) rfl rfl rfl) ?_)
          refine rw_cons (op_pv (w0 rfl) rfl rfl (pv_ext (v := (.slice A182 (writeS (xs38.set d136 (((el xs38 d136) + 1) % 256)) xs43 a27 xs48).length c183)) rfl rfl rfl) ?_)
          refine rw_cons (op_pv (w0 rfl) rfl rfl (pv_ext (v := (.bool (dec (WriteOK (xs38.set d136 (((el xs38 d136) + 1) % 256)) xs43 a27 xs48)))) rfl rfl rfl) ?_)
          refine rw_cons (op_pv (w0 rfl) rfl rfl (pv_assign (v := (.slice A179 (writeV (xs38.set d136 (((el xs38 d136) + 1) % 256)) xs43 a27 xs48).length c180)) rfl rfl) ?_)
          refine rw_cons (op_pv (w0 rfl) rfl rfl (pv_assign (v := (.slice A182 (writeS (xs38.set d136 (((el xs38 d136) + 1) % 256)) xs43 a27 xs48).length c183)) rfl rfl) ?_)
          refine rw_cons (op_pv (w0 rfl) rfl rfl (pv_assign (v := (.bool (dec (WriteOK (xs38.set d136 (((el xs38 d136) + 1) % 256)) xs43 a27 xs48)))) rfl rfl) ?_)
          refine rw_nil (hK176 _ _ ?_)
          refine hK174 _ _ ?_
          refine cw_seq fun K193 hK194 => ?_
          refine cw_region fun K195 hK196 => ?_
          refine rw_cons (op_pv (w0 rfl) rfl rfl (pv_move (v := (.slice A36 xs38.length c37)) rfl rfl) ?_)
          refine rw_cons (op_pv (w0 rfl) rfl rfl (pv_move (v := (.slice A41 xs43.length c42)) rfl rfl) ?_)
          refine rw_cons (op_pv (w0 rfl) rfl rfl (pv_move (v := (.slice A41 xs43.length c42)) rfl rfl) ?_)
          refine rw_cons (op_pv (w0 rfl) rfl rfl (pv_len Try.underlying22 rfl rfl) ?_)
          refine rw_cons (op_pv (w0 rfl) rfl rfl (pv_sub rfl rfl rfl (by omega) (by omega)) ?_)
          refine rw_cons (op_pv (w0 rfl) rfl rfl (pv_upto Try.underlying22 T3 rfl rfl rfl (by omega) (by omega)) ?_)
          have hR197 : RS encI 1 w177 w177.heap.size A41 ((xs43.length : Int) - 1).toNat (xs43.take ((xs43.length : Int) - 1).toNat) := ((hO44.rs (fun _ => rfl))).upto (by omega)
          refine rw_cons (op_pv (w0 rfl) rfl rfl (pv_move (v := (.int .i64 a27)) rfl rfl) ?_)
          refine rw_cons (op_pv (w0 rfl) rfl rfl (pv_move (v := (.slice A46 xs48.length c47)) rfl rfl) ?_)
          refine rw_cons (op_call (w0 rfl) rfl rfl (rc_call C31 rfl rfl) (SumsWrite_i _ xs38.length _ xs38 _ ((xs43.length : Int) - 1).toNat _ (xs43.take ((xs43.length : Int) - 1).toNat) a27 _ xs48.length _ xs48 _ (hO39.rs (fun _ => rfl)) (by omega) (by omega) (hR197.more (by omega)) (by omega) (hO49.rs (fun _ => rfl)) (by omega)) ?_)
          rintro _ w198 ⟨A200, c201, A203, c204, rfl, hO202, hO205, hdj206, hch199⟩
          have hsz207 := hch199.size
          replace hR0 := hR0.ch0 hch199
          replace hR1 := hR1.ch0 hch199
          replace hO39 := hO39.ch0 hch199
          replace hO44 := hO44.ch0 hch199
          replace hO49 := hO49.ch0 hch199
          replace hO63 := hO63.ch0 hch199
          replace hO66 := hO66.ch0 hch199
          replace hO83 := hO83.ch0 hch199
          replace hO86 := hO86.ch0 hch199
          replace hO153 := hO153.ch0 hch199
          replace hO181 := hO181.ch0 hch199
          replace hO184 := hO184.ch0 hch199
          replace hR197 := hR197.ch0 hch199
          replace hc := hc.step0 hch199
          have hub208 := hO202.lt
          have hcap209 : (writeV xs38 (xs43.take ((xs43.length : Int) - 1).toNat) a27 xs48).length ≤ c201 := by obtain ⟨_, _, hv, h1, _⟩ := hO202.form; injection hv with _ _ h3; omega
          have hub210 := hO205.lt
          have hcap211 : (writeS xs38 (xs43.take ((xs43.length : Int) - 1).toNat) a27 xs48).length ≤ c204 := by obtain ⟨_, _, hv, h1, _⟩ := hO205.form; injection hv with _ _ h3; omega
          have hnt212 := writeV_le xs38 (xs43.take ((xs43.length : Int) - 1).toNat) a27 xs48
          have hnt213 := writeS_le xs38 (xs43.take ((xs43.length : Int) - 1).toNat) a27 xs48
          refine rw_cons (op_pv (w0 rfl) rfl rfl (pv_move (v := (.tuple #[(.slice A200 (writeV xs38 (xs43.take ((xs43.length : Int) - 1).toNat) a27 xs48).length c201), (.slice A203 (writeS xs38 (xs43.take ((xs43.length : Int) - 1).toNat) a27 xs48).length c204), (.bool (dec (WriteOK xs38 (xs43.take ((xs43.length : Int) - 1).toNat) a27 xs48)))])) rfl rfl) ?_)
          refine rw_cons (op_pv (w0 rfl) rfl rfl (pv_ext (v := (.slice A200 (writeV xs38 (xs43.take ((xs43.length : Int) - 1).toNat) a27 xs48).length c201)) rfl rfl rfl) ?_)
          refine rw_cons (op_pv (w0 rfl) rfl rfl (pv_ext (v := (.slice A203 (writeS xs38 (xs43.take ((xs43.length : Int) - 1).toNat) a27 xs48).length c204)) rfl rfl rfl) ?_)
          refine rw_cons (op_pv (w0 rfl) rfl rfl (pv_ext (v := (.bool (dec (WriteOK xs38 (xs43.take ((xs43.length : Int) - 1).toNat) a27 xs48)))) rfl rfl rfl) ?_)
          refine rw_cons (op_pv (w0 rfl) rfl rfl (pv_assign (v := (.slice A200 (writeV xs38 (xs43.take ((xs43.length : Int) - 1).toNat) a27 xs48).length c201)) rfl rfl) ?_)
          refine rw_cons (op_pv (w0 rfl) rfl rfl (pv_assign (v := (.slice A203 (writeS xs38 (xs43.take ((xs43.length : Int) - 1).toNat) a27 xs48).length c204)) rfl rfl) ?_)
          refine rw_cons (op_pv (w0 rfl) rfl rfl (pv_assign (v := (.bool (dec (WriteOK xs38 (xs43.take ((xs43.length : Int) - 1).toNat) a27 xs48)))) rfl rfl) ?_)
          refine rw_nil (hK196 _ _ ?_)
          refine hK194 _ _ ?_
          refine cw_seq fun K214 hK215 => ?_
          refine cw_region fun K216 hK217 => ?_
          refine rw_cons (op_pv (w0 rfl) rfl rfl (pv_move (v := (.bool (dec (WriteOK (xs38.set d136 (((el xs38 d136) + 1) % 256)) xs43 a27 xs48)))) rfl rfl) ?_)
          refine rw_cons (op_pv (w0 rfl) rfl rfl (pv_not rfl rfl) ?_)
          refine rw_cons (op_pv (w0 rfl) rfl rfl (pv_move (v := (.bool (!(dec (WriteOK (xs38.set d136 (((el xs38 d136) + 1) % 256)) xs43 a27 xs48))))) rfl rfl) ?_)
          refine rw_split 134 rfl (fun hb218 => ?_) (fun hb218 => ?_)
          · -- yes
            replace hb218 := not_t hb218
            replace hb218 := dec_f hb218
            refine rw_cons (op_pv (w1y rfl rfl rfl rfl) rfl rfl (pv_move (v := (.bool (dec (WriteOK xs38 (xs43.take ((xs43.length : Int) - 1).toNat) a27 xs48)))) rfl rfl) ?_)
            refine rw_cons (op_pv (w1y rfl rfl rfl rfl) rfl rfl (pv_not rfl rfl) ?_)
            refine rw_cons (op_pv (w0 rfl) rfl rfl (pv_pickT (v := (.bool (!(dec (WriteOK xs38 (xs43.take ((xs43.length : Int) - 1).toNat) a27 xs48))))) rfl rfl rfl) ?_)
            refine rw_cons (op_pv (w0 rfl) rfl rfl (pv_assign (v := (.bool (!(dec (WriteOK xs38 (xs43.take ((xs43.length : Int) - 1).toNat) a27 xs48))))) rfl rfl) ?_)
            refine rw_nil (hK217 _ _ ?_)
            refine hK215 _ _ ?_
            refine cw_ret ?_
            refine fin1 rfl ?_
            rcases Classical.em (WriteOK xs38 xs43 a27 xs48) with hbo | hbo
            · have e1 := writeV_yes hbo; have e2 := writeS_yes hbo
              obtain ⟨q1, q2, q3, q4, q5, q6⟩ := id hbo
              have e3 := writeL_ok q1 q2 (a := a27.toNat) (by omega) (by omega)
              have e4 := writeL_len (bs := xs38) (fr := xs48) (a := a27.toNat) (by omega)
              have e5 := q1.1; have e6 := q2.1
              have e8 : BytesOK (writeV xs38 xs43 a27 xs48) := by rw [e1]; exact e3
              have hk0 := q1.2 d136 (by omega)
              have n1 : ¬WriteOK (xs38.set d136 (((el xs38 d136) + 1) % 256)) xs43 a27 xs48 := fun h => damage_sums q1 d136 (((el xs38 d136) + 1) % 256) (by omega) (by omega) (by omega) (by omega) (h.2.2.2.2.2.trans q6.symm)
              have n2 : ¬WriteOK xs38 (xs43.take ((xs43.length : Int) - 1).toNat) a27 xs48 := fun h => by
                have h9 := congrArg List.length (q6.symm.trans h.2.2.2.2.2)
                have h8 := congrArg List.length q6
                rw [sumsL_len] at h8
                unfold nparts at h8
                simp only [List.length_take] at h9
                omega
              first
                | exact ⟨rfl, hc⟩
                | (exfalso; omega)
                | exact absurd hbo (by assumption)
                | exact ⟨congrArg Value.bool (decide_eq_true (by omega)), hc⟩
                | exact absurd (by assumption) n1
                | exact absurd (by assumption) n2
                | exact ⟨congrArg Value.bool (by rw [dec_no n2]; rfl), hc⟩
            · first
                | exact absurd ‹WriteOK xs38 xs43 a27 xs48› hbo
                | exact ⟨rfl, hc⟩
          · -- no
            replace hb218 := not_f hb218
            replace hb218 := dec_t hb218
            refine rw_cons (op_pass (w1n1 rfl rfl rfl rfl) rfl rfl ?_)
            refine rw_cons (op_pass (w1n1 rfl rfl rfl rfl) rfl rfl ?_)
            refine rw_cons (op_pv (w0 rfl) rfl rfl (pv_pickF (v := (.bool false)) rfl rfl rfl) ?_)
            refine rw_cons (op_pv (w0 rfl) rfl rfl (pv_assign (v := (.bool false)) rfl rfl) ?_)
            refine rw_nil (hK217 _ _ ?_)
            refine hK215 _ _ ?_
            refine cw_ret ?_
            refine fin1 rfl ?_
            rcases Classical.em (WriteOK xs38 xs43 a27 xs48) with hbo | hbo
            · have e1 := writeV_yes hbo; have e2 := writeS_yes hbo
              obtain ⟨q1, q2, q3, q4, q5, q6⟩ := id hbo
              have e3 := writeL_ok q1 q2 (a := a27.toNat) (by omega) (by omega)
              have e4 := writeL_len (bs := xs38) (fr := xs48) (a := a27.toNat) (by omega)
              have e5 := q1.1; have e6 := q2.1
              have e8 : BytesOK (writeV xs38 xs43 a27 xs48) := by rw [e1]; exact e3
              have hk0 := q1.2 d136 (by omega)
              have n1 : ¬WriteOK (xs38.set d136 (((el xs38 d136) + 1) % 256)) xs43 a27 xs48 := fun h => damage_sums q1 d136 (((el xs38 d136) + 1) % 256) (by omega) (by omega) (by omega) (by omega) (h.2.2.2.2.2.trans q6.symm)
              have n2 : ¬WriteOK xs38 (xs43.take ((xs43.length : Int) - 1).toNat) a27 xs48 := fun h => by
                have h9 := congrArg List.length (q6.symm.trans h.2.2.2.2.2)
                have h8 := congrArg List.length q6
                rw [sumsL_len] at h8
                unfold nparts at h8
                simp only [List.length_take] at h9
                omega
              first
                | exact ⟨rfl, hc⟩
                | (exfalso; omega)
                | exact absurd hbo (by assumption)
                | exact ⟨congrArg Value.bool (decide_eq_true (by omega)), hc⟩
                | exact absurd (by assumption) n1
                | exact absurd (by assumption) n2
                | exact ⟨congrArg Value.bool (by rw [dec_no n2]; rfl), hc⟩
            · first
                | exact absurd ‹WriteOK xs38 xs43 a27 xs48› hbo
                | exact ⟨rfl, hc⟩
end Go.Proofs.Ythgnnpafieifmaa
