/-
  The walk of laws.FnDeadHear, written by program: each line names the law of one operation. Conditions: those of the theorem.
-/
import Derived.Test.YtnkjljjcionfiaaProg
import Derived.Test.YtnkjljjcionfiaaBeats2
import Derived.Test.YtnkjljjcionfiaaFspecDrawBeatsDead
import Derived.Test.YtnkjljjcionfiaaFimplBeatHear
import Derived.Test.YtnkjljjcionfiaaFimplBeatsDead
import Derived.Test.YtnkjljjcionfiaaFspecBeatsDead
import Derived.Test.YtnkjljjcionfiaaFlawssameInts
import Derived.Test.YtnkjljjcionfiaaFlawshasInt
import Derived.KernelRfl
namespace Go.Proofs.Ytnkjljjcionfiaa
open Go Go.RowKit
set_option linter.unusedVariables false
set_option linter.unusedSimpArgs false
namespace FnDeadHear_okF
theorem T3 : TI Try.prog 3 false (.int .i64 0) 1 8 := TI.mk' Try.underlying3 rfl (by kernel_rfl)
theorem C25 : Callable Try.prog 25 := ⟨_, Try.func25, by kernel_rfl, by kernel_rfl⟩
theorem C27 : Callable Try.prog 27 := ⟨_, Try.func27, by kernel_rfl, by kernel_rfl⟩
theorem C28 : Callable Try.prog 28 := ⟨_, Try.func28, by kernel_rfl, by kernel_rfl⟩
theorem C29 : Callable Try.prog 29 := ⟨_, Try.func29, by kernel_rfl, by kernel_rfl⟩
theorem C35 : Callable Try.prog 35 := ⟨_, Try.func35, by kernel_rfl, by kernel_rfl⟩
theorem B39_0I_1I (a0 : Int) (a1 : Int) (u : World) : (Instr.build 39 #[(0, .int .i64 a0), (1, .int .i64 a1)]).run Try.prog u = .ok (.agg #[.int .i64 a0, .int .i64 a1]) u := by kernel_rfl
end FnDeadHear_okF
open FnDeadHear_okF in
set_option maxHeartbeats 4000000 in
theorem FnDeadHear_ok (A0 : Option Addr) (n0 c0 : Nat) (xs0 : List UInt8) (A1 : Option Addr) (n1 c1 : Nat) (xs1 : List UInt8) (w : World) (hR0 : RS encU 1 w w.heap.size A0 n0 xs0) (hn0 : n0 ≤ c0) (hR1 : RS encU 1 w w.heap.size A1 n1 xs1) (hn1 : n1 ≤ c1) :
    Fn Try.prog 14 [(.slice A0 n0 c0), (.slice A1 n1 c1)] w fun v w' => v = .bool true ∧ Ch [] w w' := by
  have hlen0 := hR0.len
  have hlen1 := hR1.len
  refine fn_of (n := 83) Try.func14 rfl rfl rfl rfl ?_
  have hc : Ch [] w w := Ch.refl _ _
  refine cw_seq fun K1 hK2 => ?_
  refine cw_region fun K3 hK4 => ?_
  refine rw_cons (op_pv (w0 rfl) rfl rfl (pv_assign (v := (.bool false)) rfl rfl) ?_)
  refine rw_nil (hK4 _ _ ?_)
  refine hK2 _ _ ?_
  refine cw_seq fun K5 hK6 => ?_
  refine cw_seq fun K7 hK8 => ?_
  refine cw_region fun K9 hK10 => ?_
  refine rw_cons (op_pv (w0 rfl) rfl rfl (pv_move (v := (.slice A0 n0 c0)) rfl rfl) ?_)
  refine rw_cons (op_pv (w0 rfl) rfl rfl (pv_len Try.underlying22 rfl rfl) ?_)
  refine rw_cons (op_pv (w0 rfl) rfl rfl (pv_gtr rfl rfl rfl) ?_)
  refine rw_cons (op_pv (w0 rfl) rfl rfl (pv_move (v := (.bool (decide (1048576 < (n0 : Int))))) rfl rfl) ?_)
  refine rw_split 17 rfl (fun hb11 => ?_) (fun hb11 => ?_)
  · -- yes
    replace hb11 := of_decide_eq_true hb11
    refine rw_cons (op_pass (w1n2 rfl rfl rfl rfl) rfl rfl ?_)
    refine rw_cons (op_pass (w1n2 rfl rfl rfl rfl) rfl rfl ?_)
    refine rw_cons (op_pass (w1n2 rfl rfl rfl rfl) rfl rfl ?_)
    refine rw_cons (op_pv (w0 rfl) rfl rfl (pv_pickT (v := (.bool true)) rfl rfl rfl) ?_)
    refine rw_nil (hK10 _ _ ?_)
    refine hK8 _ _ ?_
    refine cw_cond rfl (fun h12 => ?_) (fun h12 => ?_)
    · -- then
      clear h12
      refine cw_seq fun K13 hK14 => ?_
      refine cw_region fun K15 hK16 => ?_
      refine rw_cons (op_pv (w0 rfl) rfl rfl (pv_assign (v := (.bool true)) rfl rfl) ?_)
      refine rw_nil (hK16 _ _ ?_)
      refine hK14 _ _ ?_
      refine cw_ret ?_
      refine fin1 rfl ?_
      exact ⟨rfl, hc⟩
    · -- else
      cases h12
  · -- no
    replace hb11 := of_decide_eq_false hb11
    refine rw_cons (op_pv (w1y rfl rfl rfl rfl) rfl rfl (pv_move (v := (.slice A1 n1 c1)) rfl rfl) ?_)
    refine rw_cons (op_pv (w1y rfl rfl rfl rfl) rfl rfl (pv_len Try.underlying22 rfl rfl) ?_)
    refine rw_cons (op_pv (w1y rfl rfl rfl rfl) rfl rfl (pv_gtr rfl rfl rfl) ?_)
    refine rw_cons (op_pv (w0 rfl) rfl rfl (pv_pickF (v := (.bool (decide (1048576 < (n1 : Int))))) rfl rfl rfl) ?_)
    refine rw_nil (hK10 _ _ ?_)
    refine hK8 _ _ ?_
    refine cw_cond rfl (fun h17 => ?_) (fun h17 => ?_)
    · -- then
      replace h17 := of_decide_eq_true h17
      refine cw_seq fun K18 hK19 => ?_
      refine cw_region fun K20 hK21 => ?_
      refine rw_cons (op_pv (w0 rfl) rfl rfl (pv_assign (v := (.bool true)) rfl rfl) ?_)
      refine rw_nil (hK21 _ _ ?_)
      refine hK19 _ _ ?_
      refine cw_ret ?_
      refine fin1 rfl ?_
      exact ⟨rfl, hc⟩
    · -- else
      replace h17 := of_decide_eq_false h17
      refine cw_skip ?_
      refine hK6 _ _ ?_
      refine cw_seq fun K22 hK23 => ?_
      refine cw_region fun K24 hK25 => ?_
      refine rw_cons (op_pv (w0 rfl) rfl rfl (pv_move (v := (.slice A0 n0 c0)) rfl rfl) ?_)
      refine rw_cons (op_call (w0 rfl) rfl rfl (rc_call C27 rfl rfl) (DrawBeatsDead_ok _ _ _ _ _ (hR0.more (by omega)) (by omega)) ?_)
      rintro _ w26 ⟨A35, c36, xs37, a27, b28, rfl, hO38, hx30, hx31, hx32, hx33, hx34, hch29⟩
      have hsz40 := hch29.size
      replace hR0 := hR0.ch0 hch29
      replace hR1 := hR1.ch0 hch29
      replace hc := hc.step0 hch29
      have hub39 := hO38.lt
      have hcap41 : xs37.length ≤ c36 := by obtain ⟨_, _, hv, h1, _⟩ := hO38.form; injection hv with _ _ h3; omega
      refine rw_cons (op_pv (w0 rfl) rfl rfl (pv_move (v := (.tuple #[(.slice A35 xs37.length c36), (.int .i64 a27), (.int .i64 b28)])) rfl rfl) ?_)
      refine rw_cons (op_pv (w0 rfl) rfl rfl (pv_ext (v := (.slice A35 xs37.length c36)) rfl rfl rfl) ?_)
      refine rw_cons (op_pv (w0 rfl) rfl rfl (pv_ext (v := (.int .i64 a27)) rfl rfl rfl) ?_)
      refine rw_cons (op_pv (w0 rfl) rfl rfl (pv_ext (v := (.int .i64 b28)) rfl rfl rfl) ?_)
      refine rw_cons (op_pv (w0 rfl) rfl rfl (pv_assign (v := (.slice A35 xs37.length c36)) rfl rfl) ?_)
      refine rw_cons (op_pv (w0 rfl) rfl rfl (pv_assign (v := (.int .i64 a27)) rfl rfl) ?_)
      refine rw_cons (op_pv (w0 rfl) rfl rfl (pv_assign (v := (.int .i64 b28)) rfl rfl) ?_)
      refine rw_nil (hK25 _ _ ?_)
      refine hK23 _ _ ?_
      refine cw_seq fun K42 hK43 => ?_
      refine cw_region fun K44 hK45 => ?_
      refine rw_cons (op_pv (w0 rfl) rfl rfl (pv_move (v := (.slice A35 xs37.length c36)) rfl rfl) ?_)
      refine rw_cons (op_pv (w0 rfl) rfl rfl (pv_move (v := (.int .i64 a27)) rfl rfl) ?_)
      refine rw_cons (op_pv (w0 rfl) rfl rfl (pv_move (v := (.int .i64 b28)) rfl rfl) ?_)
      refine rw_cons (op_call (w0 rfl) rfl rfl (rc_call C28 rfl rfl) (BeatsDead_i _ xs37.length _ xs37 a27 b28 _ (hO38.rs (fun _ => rfl)) (by omega)) ?_)
      rintro _ w46 ⟨A48, c49, rfl, hO50, hch47⟩
      have hsz51 := hch47.size
      replace hR0 := hR0.ch0 hch47
      replace hR1 := hR1.ch0 hch47
      replace hO38 := hO38.ch0 hch47
      replace hc := hc.step0 hch47
      have hub52 := hO50.lt
      have hcap53 : (srvV xs37 a27 b28 false).length ≤ c49 := by obtain ⟨_, _, hv, h1, _⟩ := hO50.form; injection hv with _ _ h3; omega
      have hnt54 := srvV_le xs37 a27 b28 false
      refine rw_cons (op_pv (w0 rfl) rfl rfl (pv_assign (v := (.slice A48 (srvV xs37 a27 b28 false).length c49)) rfl rfl) ?_)
      refine rw_nil (hK45 _ _ ?_)
      refine hK43 _ _ ?_
      refine cw_seq fun K55 hK56 => ?_
      refine cw_region fun K57 hK58 => ?_
      refine rw_cons (op_pv (w0 rfl) rfl rfl (pv_move (v := (.slice A35 xs37.length c36)) rfl rfl) ?_)
      refine rw_cons (op_pv (w0 rfl) rfl rfl (pv_move (v := (.int .i64 a27)) rfl rfl) ?_)
      refine rw_cons (op_pv (w0 rfl) rfl rfl (pv_move (v := (.int .i64 b28)) rfl rfl) ?_)
      refine rw_cons (op_call (w0 rfl) rfl rfl (rc_call C29 rfl rfl) (BeatsDead_s _ xs37.length _ xs37 a27 b28 _ (hO38.rs (fun _ => rfl)) (by omega)) ?_)
      rintro _ w59 ⟨A61, c62, rfl, hO63, hch60⟩
      have hsz64 := hch60.size
      replace hR0 := hR0.ch0 hch60
      replace hR1 := hR1.ch0 hch60
      replace hO38 := hO38.ch0 hch60
      replace hO50 := hO50.ch0 hch60
      replace hc := hc.step0 hch60
      have hub65 := hO63.lt
      have hcap66 : (srvV xs37 a27 b28 false).length ≤ c62 := by obtain ⟨_, _, hv, h1, _⟩ := hO63.form; injection hv with _ _ h3; omega
      have hnt67 := srvV_le xs37 a27 b28 false
      refine rw_cons (op_pv (w0 rfl) rfl rfl (pv_assign (v := (.slice A61 (srvV xs37 a27 b28 false).length c62)) rfl rfl) ?_)
      refine rw_nil (hK58 _ _ ?_)
      refine hK56 _ _ ?_
      refine cw_seq fun K68 hK69 => ?_
      refine cw_seq fun K70 hK71 => ?_
      refine cw_region fun K72 hK73 => ?_
      refine rw_cons (op_pv (w0 rfl) rfl rfl (pv_move (v := (.slice A48 (srvV xs37 a27 b28 false).length c49)) rfl rfl) ?_)
      refine rw_cons (op_pv (w0 rfl) rfl rfl (pv_move (v := (.slice A61 (srvV xs37 a27 b28 false).length c62)) rfl rfl) ?_)
      refine rw_cons (op_call (w0 rfl) rfl rfl (rc_call C25 rfl rfl) (sameInts_same _ _ _ _ _ _ (srvV xs37 a27 b28 false) _ (hO50.rs (fun _ => rfl)) (hO63.rs (fun _ => rfl)) (by omega)) ?_)
      rintro _ w74 ⟨rfl, hch75⟩
      have hsz76 := hch75.size
      replace hR0 := hR0.ch0 hch75
      replace hR1 := hR1.ch0 hch75
      replace hO38 := hO38.ch0 hch75
      replace hO50 := hO50.ch0 hch75
      replace hO63 := hO63.ch0 hch75
      replace hc := hc.step0 hch75
      refine rw_cons (op_pv (w0 rfl) rfl rfl (pv_not rfl rfl) ?_)
      refine rw_cons (op_pv (w0 rfl) rfl rfl (pv_move (v := (.bool (!true))) rfl rfl) ?_)
      refine rw_cons (op_pv (w1y rfl rfl rfl rfl) rfl rfl (pv_move (v := (.slice A61 (srvV xs37 a27 b28 false).length c62)) rfl rfl) ?_)
      refine rw_cons (op_pv (w1y rfl rfl rfl rfl) rfl rfl (pv_len Try.underlying34 rfl rfl) ?_)
      refine rw_cons (op_pv (w1y rfl rfl rfl rfl) rfl rfl (pv_eql rfl rfl rfl) ?_)
      refine rw_cons (op_pv (w0 rfl) rfl rfl (pv_pickF (v := (.bool (decide ((((srvV xs37 a27 b28 false).length : Int) : Int) = 0)))) rfl rfl rfl) ?_)
      refine rw_nil (hK73 _ _ ?_)
      refine hK71 _ _ ?_
      refine cw_cond rfl (fun h77 => ?_) (fun h77 => ?_)
      · -- then
        replace h77 := of_decide_eq_true h77
        refine cw_seq fun K78 hK79 => ?_
        refine cw_region fun K80 hK81 => ?_
        refine rw_cons (op_pv (w0 rfl) rfl rfl (pv_move (v := (.slice A48 (srvV xs37 a27 b28 false).length c49)) rfl rfl) ?_)
        refine rw_cons (op_pv (w0 rfl) rfl rfl (pv_move (v := (.slice A61 (srvV xs37 a27 b28 false).length c62)) rfl rfl) ?_)
        refine rw_cons (op_call (w0 rfl) rfl rfl (rc_call C25 rfl rfl) (sameInts_same _ _ _ _ _ _ (srvV xs37 a27 b28 false) _ (hO50.rs (fun _ => rfl)) (hO63.rs (fun _ => rfl)) (by omega)) ?_)
        rintro _ w82 ⟨rfl, hch83⟩
        have hsz84 := hch83.size
        replace hR0 := hR0.ch0 hch83
        replace hR1 := hR1.ch0 hch83
        replace hO38 := hO38.ch0 hch83
        replace hO50 := hO50.ch0 hch83
        replace hO63 := hO63.ch0 hch83
        replace hc := hc.step0 hch83
        refine rw_cons (op_pv (w0 rfl) rfl rfl (pv_assign (v := (.bool true)) rfl rfl) ?_)
        refine rw_nil (hK81 _ _ ?_)
        refine hK79 _ _ ?_
        refine cw_ret ?_
        refine fin1 rfl ?_
        exact ⟨rfl, hc⟩
      · -- else
        replace h77 := of_decide_eq_false h77
        refine cw_skip ?_
        refine hK69 _ _ ?_
        refine cw_seq fun K85 hK86 => ?_
        have hok : SrvOK xs37 a27 b28 := srvV_some (xs := xs37) (now := a27) (within := b28) (al := false) (by omega)
        refine cw_region fun K87 hK88 => ?_
        refine rw_cons (op_pv (w0 rfl) rfl rfl (pv_move (v := (.slice A1 n1 c1)) rfl rfl) ?_)
        refine rw_cons (op_pv (w0 rfl) rfl rfl (pv_len Try.underlying22 rfl rfl) ?_)
        refine rw_cons (op_pv (w0 rfl) rfl rfl (pv_move (v := (.slice A48 (srvV xs37 a27 b28 false).length c49)) rfl rfl) ?_)
        refine rw_cons (op_pv (w0 rfl) rfl rfl (pv_len Try.underlying34 rfl rfl) ?_)
        refine rw_cons (op_pv (w0 rfl) rfl rfl (pv_rem rfl rfl rfl (by omega) (by omega)) ?_)
        have hq89 := Int.emod_nonneg (n1 : Int) (b := ((srvV xs37 a27 b28 false).length : Int)) (by omega); have hq90 := Int.emod_lt_of_pos (n1 : Int) (b := ((srvV xs37 a27 b28 false).length : Int)) (by omega)
        obtain ⟨d91, hd92⟩ : ∃ d : Nat, (n1 : Int) % ((srvV xs37 a27 b28 false).length : Int) = (d : Int) := ⟨((n1 : Int) % ((srvV xs37 a27 b28 false).length : Int)).toNat, by omega⟩
        rw [hd92]
        rw [hd92] at hq89
        rw [hd92] at hq90
        refine rw_cons (op_pv (w0 rfl) rfl rfl (pv_assign (v := (.int .i64 (d91 : Int))) rfl rfl) ?_)
        refine rw_nil (hK88 _ _ ?_)
        refine hK86 _ _ ?_
        refine cw_seq fun K93 hK94 => ?_
        refine cw_region fun K95 hK96 => ?_
        refine rw_cons (op_pv (w0 rfl) rfl rfl (pv_move (v := (.slice A35 xs37.length c36)) rfl rfl) ?_)
        refine rw_cons (op_pv (w0 rfl) rfl rfl (pv_move (v := (.slice A48 (srvV xs37 a27 b28 false).length c49)) rfl rfl) ?_)
        refine rw_cons (op_pv (w0 rfl) rfl rfl (pv_move (v := (.int .i64 (d91 : Int))) rfl rfl) ?_)
        refine rw_cons (op_pv (w0 rfl) rfl rfl (pv_idx Try.underlying34 T3 rfl rfl rfl ((hO50.rs (fun _ => rfl)).some (k := d91) (by omega)) (by omega) (by omega)) ?_)
        refine rw_cons (op_lv (w0 rfl) rfl rfl (lv_load T3 rfl rfl ((hO50.rs (fun _ => rfl)).cell0 (k := d91) (by omega) rfl)) ?_)
        refine rw_cons (op_pv (w0 rfl) rfl rfl (pv_move (v := (.int .i64 a27)) rfl rfl) ?_)
        refine rw_cons (op_pv (w0 rfl) rfl rfl (pv_build rfl rfl (B39_0I_1I _ _)) ?_)
        refine rw_cons (op_call (w0 rfl) rfl rfl (rc_call C35 rfl rfl) (BeatHear_i _ xs37.length _ xs37 (el (srvV xs37 a27 b28 false) d91) a27 _ (hO38.rs (fun _ => rfl)) (by omega)) ?_)
        rintro _ w97 ⟨A99, c100, rfl, hO101, hch98⟩
        have hsz102 := hch98.size
        replace hR0 := hR0.ch0 hch98
        replace hR1 := hR1.ch0 hch98
        replace hO38 := hO38.ch0 hch98
        replace hO50 := hO50.ch0 hch98
        replace hO63 := hO63.ch0 hch98
        replace hc := hc.step0 hch98
        have hub103 := hO101.lt
        have hcap104 : (hearV xs37 ⟨(el (srvV xs37 a27 b28 false) d91), a27⟩).length ≤ c100 := by obtain ⟨_, _, hv, h1, _⟩ := hO101.form; injection hv with _ _ h3; omega
        have hnt105 := hearV_le xs37 ⟨(el (srvV xs37 a27 b28 false) d91), a27⟩
        refine rw_cons (op_pv (w0 rfl) rfl rfl (pv_move (v := (.tuple #[(.slice A99 (hearV xs37 ⟨(el (srvV xs37 a27 b28 false) d91), a27⟩).length c100), (.bool (dec (HearOK xs37 ⟨(el (srvV xs37 a27 b28 false) d91), a27⟩)))])) rfl rfl) ?_)
        refine rw_cons (op_pv (w0 rfl) rfl rfl (pv_ext (v := (.slice A99 (hearV xs37 ⟨(el (srvV xs37 a27 b28 false) d91), a27⟩).length c100)) rfl rfl rfl) ?_)
        refine rw_cons (op_pv (w0 rfl) rfl rfl (pv_ext (v := (.bool (dec (HearOK xs37 ⟨(el (srvV xs37 a27 b28 false) d91), a27⟩)))) rfl rfl rfl) ?_)
        refine rw_cons (op_pv (w0 rfl) rfl rfl (pv_assign (v := (.slice A99 (hearV xs37 ⟨(el (srvV xs37 a27 b28 false) d91), a27⟩).length c100)) rfl rfl) ?_)
        refine rw_cons (op_pv (w0 rfl) rfl rfl (pv_assign (v := (.bool (dec (HearOK xs37 ⟨(el (srvV xs37 a27 b28 false) d91), a27⟩)))) rfl rfl) ?_)
        refine rw_nil (hK96 _ _ ?_)
        refine hK94 _ _ ?_
        refine cw_seq fun K106 hK107 => ?_
        refine cw_region fun K108 hK109 => ?_
        refine rw_cons (op_pv (w0 rfl) rfl rfl (pv_move (v := (.slice A99 (hearV xs37 ⟨(el (srvV xs37 a27 b28 false) d91), a27⟩).length c100)) rfl rfl) ?_)
        refine rw_cons (op_pv (w0 rfl) rfl rfl (pv_move (v := (.int .i64 a27)) rfl rfl) ?_)
        refine rw_cons (op_pv (w0 rfl) rfl rfl (pv_move (v := (.int .i64 b28)) rfl rfl) ?_)
        refine rw_cons (op_call (w0 rfl) rfl rfl (rc_call C28 rfl rfl) (BeatsDead_i _ (hearV xs37 ⟨(el (srvV xs37 a27 b28 false) d91), a27⟩).length _ (hearV xs37 ⟨(el (srvV xs37 a27 b28 false) d91), a27⟩) a27 b28 _ (hO101.rs (fun _ => rfl)) (by omega)) ?_)
        rintro _ w110 ⟨A112, c113, rfl, hO114, hch111⟩
        have hsz115 := hch111.size
        replace hR0 := hR0.ch0 hch111
        replace hR1 := hR1.ch0 hch111
        replace hO38 := hO38.ch0 hch111
        replace hO50 := hO50.ch0 hch111
        replace hO63 := hO63.ch0 hch111
        replace hO101 := hO101.ch0 hch111
        replace hc := hc.step0 hch111
        have hub116 := hO114.lt
        have hcap117 : (srvV (hearV xs37 ⟨(el (srvV xs37 a27 b28 false) d91), a27⟩) a27 b28 false).length ≤ c113 := by obtain ⟨_, _, hv, h1, _⟩ := hO114.form; injection hv with _ _ h3; omega
        have hnt118 := srvV_le (hearV xs37 ⟨(el (srvV xs37 a27 b28 false) d91), a27⟩) a27 b28 false
        refine rw_cons (op_pv (w0 rfl) rfl rfl (pv_assign (v := (.slice A112 (srvV (hearV xs37 ⟨(el (srvV xs37 a27 b28 false) d91), a27⟩) a27 b28 false).length c113)) rfl rfl) ?_)
        refine rw_nil (hK109 _ _ ?_)
        refine hK107 _ _ ?_
        refine cw_seq fun K119 hK120 => ?_
        refine cw_drawn (fun u => Ch [] w110 u) (.free 0 (.free 1 (.free 2 (.free 4 (.free 5 (.free 6 (.free 8 (.free 9 (.free 10 (.free 11 (.one 3 true (.one 7 true (.one 12 true (.one 13 true (.free 14 (.free 15 (.done))))))))))))))))) (by kernel_rfl) (by kernel_rfl) (Ch.refl _ _).drew fun K124 hK125 => ?_
        obtain ⟨w121, hw_, hch122, hsz123⟩ : ∃ w1 : World, w1 = w110.drew ∧ Ch [] w110 w1 ∧ w1.heap.size = w110.heap.size := ⟨_, rfl, (Ch.refl _ _).drew, rfl⟩
        rw [← hw_]; clear hw_
        have hr126 : Ch [] w110 w121 := hch122.sub (fun s hs => by cases hs)
        have hR0_r := hR0
        have hR1_r := hR1
        have hO38_r := hO38
        have hO50_r := hO50
        have hO63_r := hO63
        have hO101_r := hO101
        have hO114_r := hO114
        have hsz127 := hch122.size
        replace hR0 := hR0.ch0 hch122
        replace hR1 := hR1.ch0 hch122
        replace hO38 := hO38.ch0 hch122
        replace hO50 := hO50.ch0 hch122
        replace hO63 := hO63.ch0 hch122
        replace hO101 := hO101.ch0 hch122
        replace hO114 := hO114.ch0 hch122
        replace hc := hc.step0 hch122
        refine tw_free rfl (w0 rfl) rfl rfl (fun u hu => (pv_move (v := (.bool (dec (HearOK xs37 ⟨(el (srvV xs37 a27 b28 false) d91), a27⟩)))) rfl rfl : PV _ _ _ _) u) ?_
        refine tw_free rfl (w0 rfl) rfl rfl (fun u hu => (pv_move (v := (.bool (dec (HearOK xs37 ⟨(el (srvV xs37 a27 b28 false) d91), a27⟩)))) rfl rfl : PV _ _ _ _) u) ?_
        refine tw_split 69 rfl (fun hb128 => ?_) (fun hb128 => ?_)
        · -- yes
          replace hb128 := dec_t hb128
          refine tw_free rfl (w1y rfl rfl rfl rfl) rfl rfl (fun u hu => (pv_move (v := (.slice A112 (srvV (hearV xs37 ⟨(el (srvV xs37 a27 b28 false) d91), a27⟩) a27 b28 false).length c113)) rfl rfl : PV _ _ _ _) u) ?_
          refine tw_free rfl (w1y rfl rfl rfl rfl) rfl rfl (fun u hu => (pv_move (v := (.slice A48 (srvV xs37 a27 b28 false).length c49)) rfl rfl : PV _ _ _ _) u) ?_
          refine tw_free rfl (w1y rfl rfl rfl rfl) rfl rfl (fun u hu => (pv_move (v := (.int .i64 (d91 : Int))) rfl rfl : PV _ _ _ _) u) ?_
          refine tw_free rfl (w1y rfl rfl rfl rfl) rfl rfl (fun u hu => (pv_upto Try.underlying34 T3 rfl rfl rfl (by omega) (by omega) : PV _ _ _ _) u) ?_
          have hR129 : RS encI 1 w121 w121.heap.size A48 d91 ((srvV xs37 a27 b28 false).take d91) := ((hO50.rs (fun _ => rfl))).upto (by omega)
          refine tw_free rfl (w1y rfl rfl rfl rfl) rfl rfl (fun u hu => (pv_move (v := (.slice A48 (srvV xs37 a27 b28 false).length c49)) rfl rfl : PV _ _ _ _) u) ?_
          refine tw_free rfl (w1y rfl rfl rfl rfl) rfl rfl (fun u hu => (pv_move (v := (.int .i64 (d91 : Int))) rfl rfl : PV _ _ _ _) u) ?_
          refine tw_free rfl (w1y rfl rfl rfl rfl) rfl rfl (fun u hu => (pv_add rfl rfl rfl (by omega) (by omega) : PV _ _ _ _) u) ?_
          refine tw_free rfl (w1y rfl rfl rfl rfl) rfl rfl (fun u hu => (pv_from Try.underlying34 T3 rfl rfl rfl (by omega) (by omega) : PV _ _ _ _) u) ?_
          have hR130 : RS encI 1 w121 w121.heap.size (if c49 = (d91 + 1) then A48 else (A48 : Option Addr).map (·.add ((d91 + 1) * 1))) ((srvV xs37 a27 b28 false).length - (d91 + 1)) ((srvV xs37 a27 b28 false).drop (d91 + 1)) := ((hO50.rs (fun _ => rfl))).from (by omega) (by omega)
          refine tw_one rfl (op_bslice [] Try.underlying34 T3 (w1y rfl rfl rfl rfl) rfl rfl rfl rfl rfl (by simp [Value.cells]) (by decide) ?_)
          intro g132 w131 hg135 hg136 hK134 hch133
          have hO137 : Own encI 1 w131 w121.heap.size 3 (.slice (some ⟨g132, 0, none⟩) 0 0) ([] : List Int) := Blk.own (xs := ([] : List Int)) hK134 (by omega) rfl (by decide) rfl
          have hsz138 := hch133.size
          replace hR0 := hR0.ch0 hch133
          replace hR1 := hR1.ch0 hch133
          replace hO38 := hO38.ch0 hch133
          replace hO50 := hO50.ch0 hch133
          replace hO63 := hO63.ch0 hch133
          replace hO101 := hO101.ch0 hch133
          replace hO114 := hO114.ch0 hch133
          replace hR129 := hR129.ch0 hch133
          replace hR130 := hR130.ch0 hch133
          replace hc := hc.step0 hch133
          replace hr126 := hr126.step0 hch133
          have hub139 := hO137.lt
          refine ⟨fun _ => hr126, ?_⟩
          refine tw_one rfl (op_append Try.underlying34 T3 (fun _ => rfl) rfl (by decide) (fun _ => one_all rfl) (w1y rfl rfl rfl rfl) rfl rfl rfl rfl rfl hO137 hR129 (by unfold maxLen; first | omega | (simp; omega)) (by first | omega | (simp; omega)) (by omega) ?_)
          rintro v140 w141 hO142 hch143 hs144
          replace hO142 : Own encI 1 w141 w121.heap.size 3 v140 ((srvV xs37 a27 b28 false).take d91) := hO142
          have hl145 : ((srvV xs37 a27 b28 false).take d91).length = 0 + d91 := by first | (have hl0 := hR129.len; omega) | (have hl0 := hR129.len; simp only [List.length_append, List.length_cons, List.length_nil] at hl0 ⊢; omega) | simp | rfl
          have hsz146 := hch143.size
          replace hR0 := hR0.ch hch143 (hO137.off.le (by omega))
          replace hR1 := hR1.ch hch143 (hO137.off.le (by omega))
          replace hO38 := hO38.ch hch143 (fun s hs hs2 => by first | (have h1 := hO38.off s hs; have h2 := hub139 s hs2; omega) | (have h1 := hub39 s hs; have h2 := hO137.off s hs2; omega) | (have h2 := hub139 s hs2; simp [obl, Value.ownBlock] at hs; omega) | (have h1 := hub39 s hs; simp [obl, Value.ownBlock] at hs2; omega))
          replace hO50 := hO50.ch hch143 (fun s hs hs2 => by first | (have h1 := hO50.off s hs; have h2 := hub139 s hs2; omega) | (have h1 := hub52 s hs; have h2 := hO137.off s hs2; omega) | (have h2 := hub139 s hs2; simp [obl, Value.ownBlock] at hs; omega) | (have h1 := hub52 s hs; simp [obl, Value.ownBlock] at hs2; omega))
          replace hO63 := hO63.ch hch143 (fun s hs hs2 => by first | (have h1 := hO63.off s hs; have h2 := hub139 s hs2; omega) | (have h1 := hub65 s hs; have h2 := hO137.off s hs2; omega) | (have h2 := hub139 s hs2; simp [obl, Value.ownBlock] at hs; omega) | (have h1 := hub65 s hs; simp [obl, Value.ownBlock] at hs2; omega))
          replace hO101 := hO101.ch hch143 (fun s hs hs2 => by first | (have h1 := hO101.off s hs; have h2 := hub139 s hs2; omega) | (have h1 := hub103 s hs; have h2 := hO137.off s hs2; omega) | (have h2 := hub139 s hs2; simp [obl, Value.ownBlock] at hs; omega) | (have h1 := hub103 s hs; simp [obl, Value.ownBlock] at hs2; omega))
          replace hO114 := hO114.ch hch143 (fun s hs hs2 => by first | (have h1 := hO114.off s hs; have h2 := hub139 s hs2; omega) | (have h1 := hub116 s hs; have h2 := hO137.off s hs2; omega) | (have h2 := hub139 s hs2; simp [obl, Value.ownBlock] at hs; omega) | (have h1 := hub116 s hs; simp [obl, Value.ownBlock] at hs2; omega))
          replace hR129 := hR129.ch hch143 (hO137.off.le (by omega))
          replace hR130 := hR130.ch hch143 (hO137.off.le (by omega))
          replace hc := (hO137.off.le (by omega)).step hc hch143
          replace hr126 := (hO137.off.le (by omega)).step hr126 hch143
          have hub147 := hO142.lt
          obtain ⟨A148, c149, hv150, hcap151, hcap152⟩ := hO142.form; subst hv150
          refine ⟨fun _ => hr126, ?_⟩
          refine tw_one rfl (op_append Try.underlying34 T3 (fun _ => rfl) rfl (by decide) (fun _ => one_all rfl) (w1y rfl rfl rfl rfl) rfl rfl rfl rfl rfl hO142 hR130 (by unfold maxLen; first | omega | (simp; omega)) (by first | omega | (simp; omega)) (by omega) ?_)
          rintro v153 w154 hO155 hch156 hs157
          have hl158 : (((srvV xs37 a27 b28 false).take d91) ++ ((srvV xs37 a27 b28 false).drop (d91 + 1))).length = ((srvV xs37 a27 b28 false).take d91).length + ((srvV xs37 a27 b28 false).length - (d91 + 1)) := by first | (have hl0 := hR130.len; omega) | (have hl0 := hR130.len; simp only [List.length_append, List.length_cons, List.length_nil] at hl0 ⊢; omega) | simp | rfl
          have hsz159 := hch156.size
          replace hR0 := hR0.ch hch156 (hO142.off.le (by omega))
          replace hR1 := hR1.ch hch156 (hO142.off.le (by omega))
          replace hO38 := hO38.ch hch156 (fun s hs hs2 => by first | (have h1 := hO38.off s hs; have h2 := hub147 s hs2; omega) | (have h1 := hub39 s hs; have h2 := hO142.off s hs2; omega) | (have h2 := hub147 s hs2; simp [obl, Value.ownBlock] at hs; omega) | (have h1 := hub39 s hs; simp [obl, Value.ownBlock] at hs2; omega))
          replace hO50 := hO50.ch hch156 (fun s hs hs2 => by first | (have h1 := hO50.off s hs; have h2 := hub147 s hs2; omega) | (have h1 := hub52 s hs; have h2 := hO142.off s hs2; omega) | (have h2 := hub147 s hs2; simp [obl, Value.ownBlock] at hs; omega) | (have h1 := hub52 s hs; simp [obl, Value.ownBlock] at hs2; omega))
          replace hO63 := hO63.ch hch156 (fun s hs hs2 => by first | (have h1 := hO63.off s hs; have h2 := hub147 s hs2; omega) | (have h1 := hub65 s hs; have h2 := hO142.off s hs2; omega) | (have h2 := hub147 s hs2; simp [obl, Value.ownBlock] at hs; omega) | (have h1 := hub65 s hs; simp [obl, Value.ownBlock] at hs2; omega))
          replace hO101 := hO101.ch hch156 (fun s hs hs2 => by first | (have h1 := hO101.off s hs; have h2 := hub147 s hs2; omega) | (have h1 := hub103 s hs; have h2 := hO142.off s hs2; omega) | (have h2 := hub147 s hs2; simp [obl, Value.ownBlock] at hs; omega) | (have h1 := hub103 s hs; simp [obl, Value.ownBlock] at hs2; omega))
          replace hO114 := hO114.ch hch156 (fun s hs hs2 => by first | (have h1 := hO114.off s hs; have h2 := hub147 s hs2; omega) | (have h1 := hub116 s hs; have h2 := hO142.off s hs2; omega) | (have h2 := hub147 s hs2; simp [obl, Value.ownBlock] at hs; omega) | (have h1 := hub116 s hs; simp [obl, Value.ownBlock] at hs2; omega))
          replace hR129 := hR129.ch hch156 (hO142.off.le (by omega))
          replace hR130 := hR130.ch hch156 (hO142.off.le (by omega))
          replace hc := (hO142.off.le (by omega)).step hc hch156
          replace hr126 := (hO142.off.le (by omega)).step hr126 hch156
          have hub160 := hO155.lt
          obtain ⟨A161, c162, hv163, hcap164, hcap165⟩ := hO155.form; subst hv163
          refine ⟨fun _ => hr126, ?_⟩
          refine tw_one rfl (op_call (w1y rfl rfl rfl rfl) rfl rfl (rc_call C25 rfl rfl) (sameInts_ok _ _ _ _ _ _ (srvV (hearV xs37 ⟨(el (srvV xs37 a27 b28 false) d91), a27⟩) a27 b28 false) (((srvV xs37 a27 b28 false).take d91) ++ ((srvV xs37 a27 b28 false).drop (d91 + 1))) _ (hO114.rs (fun _ => rfl)) (hO155.rs (fun _ => rfl)) (by omega)) ?_)
          rintro _ w166 ⟨rfl, hch167⟩
          have hsz168 := hch167.size
          replace hR0 := hR0.ch0 hch167
          replace hR1 := hR1.ch0 hch167
          replace hO38 := hO38.ch0 hch167
          replace hO50 := hO50.ch0 hch167
          replace hO63 := hO63.ch0 hch167
          replace hO101 := hO101.ch0 hch167
          replace hO114 := hO114.ch0 hch167
          replace hR129 := hR129.ch0 hch167
          replace hR130 := hR130.ch0 hch167
          replace hO155 := hO155.ch0 hch167
          replace hc := hc.step0 hch167
          replace hr126 := hr126.step0 hch167
          refine ⟨fun _ => hr126, ?_⟩
          refine tw_free rfl (w0 rfl) rfl rfl (fun u hu => (pv_pickT (v := (.bool (dec ((srvV (hearV xs37 ⟨(el (srvV xs37 a27 b28 false) d91), a27⟩) a27 b28 false) = (((srvV xs37 a27 b28 false).take d91) ++ ((srvV xs37 a27 b28 false).drop (d91 + 1))))))) rfl rfl rfl : PV _ _ _ _) u) ?_
          refine tw_free rfl (w0 rfl) rfl rfl (fun u hu => (pv_assign (v := (.bool (dec ((srvV (hearV xs37 ⟨(el (srvV xs37 a27 b28 false) d91), a27⟩) a27 b28 false) = (((srvV xs37 a27 b28 false).take d91) ++ ((srvV xs37 a27 b28 false).drop (d91 + 1))))))) rfl rfl : PV _ _ _ _) u) ?_
          clear hO101_r
          clear hO114_r
          clear hO38_r
          clear hO50_r
          clear hO63_r
          clear hR0_r
          clear hR1_r
          refine tw_done (hK125 _ _ ?_)
          refine hK120 _ _ ?_
          refine cw_ret ?_
          refine fin1 rfl ?_
          have hdh := dead_hear hok (k := d91) (by omega)
          exact ⟨congrArg Value.bool (dec_yes hdh.2), hc⟩
        · -- no
          replace hb128 := dec_f hb128
          refine tw_pass rfl (w1n1 rfl rfl rfl rfl) rfl rfl ?_
          refine tw_pass rfl (w1n1 rfl rfl rfl rfl) rfl rfl ?_
          refine tw_pass rfl (w1n1 rfl rfl rfl rfl) rfl rfl ?_
          refine tw_pass rfl (w1n1 rfl rfl rfl rfl) rfl rfl ?_
          refine tw_pass rfl (w1n1 rfl rfl rfl rfl) rfl rfl ?_
          refine tw_pass rfl (w1n1 rfl rfl rfl rfl) rfl rfl ?_
          refine tw_pass rfl (w1n1 rfl rfl rfl rfl) rfl rfl ?_
          refine tw_pass rfl (w1n1 rfl rfl rfl rfl) rfl rfl ?_
          refine tw_one rfl (op_pass (w1n1 rfl rfl rfl rfl) rfl rfl ?_)
          refine ⟨fun _ => hr126, ?_⟩
          refine tw_one rfl (op_pass (w1n1 rfl rfl rfl rfl) rfl rfl ?_)
          refine ⟨fun _ => hr126, ?_⟩
          refine tw_one rfl (op_pass (w1n1 rfl rfl rfl rfl) rfl rfl ?_)
          refine ⟨fun _ => hr126, ?_⟩
          refine tw_one rfl (op_pass (w1n1 rfl rfl rfl rfl) rfl rfl ?_)
          refine ⟨fun _ => hr126, ?_⟩
          refine tw_free rfl (w0 rfl) rfl rfl (fun u hu => (pv_pickF (v := (.bool false)) rfl rfl rfl : PV _ _ _ _) u) ?_
          refine tw_free rfl (w0 rfl) rfl rfl (fun u hu => (pv_assign (v := (.bool false)) rfl rfl : PV _ _ _ _) u) ?_
          clear hO101_r
          clear hO114_r
          clear hO38_r
          clear hO50_r
          clear hO63_r
          clear hR0_r
          clear hR1_r
          refine tw_done (hK125 _ _ ?_)
          refine hK120 _ _ ?_
          refine cw_ret ?_
          refine fin1 rfl ?_
          have hdh := dead_hear hok (k := d91) (by omega)
          exact absurd hdh.1 (by assumption)
end Go.Proofs.Ytnkjljjcionfiaa
