/-
  The walk of laws.FnPlaceWithout, written by program: each line names the law of one operation. Conditions: those of the theorem.
-/
import Derived.Test.YtielahdnccocdaaProg
import Derived.Test.YtielahdnccocdaaRank
import Derived.Test.YtielahdnccocdaaRank2
import Derived.Test.YtielahdnccocdaaIface
import Derived.Test.YtielahdnccocdaaFspecDrawPlaceOf
import Derived.Test.YtielahdnccocdaaFimplPlaceOf
import Derived.Test.YtielahdnccocdaaFspecPlaceOf
import Derived.Test.YtielahdnccocdaaFlawssameInts
import Derived.Test.YtielahdnccocdaaRank3
import Derived.Test.YtielahdnccocdaaFlawshasInt
import Derived.KernelRfl
namespace Go.Proofs.Ytielahdnccocdaa
open Go Go.RowKit
set_option linter.unusedVariables false
set_option linter.unusedSimpArgs false
namespace FnPlaceWithout_okF
theorem T3 : TI Try.prog 3 false (.int .i64 0) 1 8 := TI.mk' Try.underlying3 rfl (by kernel_rfl)
theorem C21 : Callable Try.prog 21 := ⟨_, Try.func21, by kernel_rfl, by kernel_rfl⟩
theorem C22 : Callable Try.prog 22 := ⟨_, Try.func22, by kernel_rfl, by kernel_rfl⟩
theorem C25 : Callable Try.prog 25 := ⟨_, Try.func25, by kernel_rfl, by kernel_rfl⟩
theorem C26 : Callable Try.prog 26 := ⟨_, Try.func26, by kernel_rfl, by kernel_rfl⟩
theorem C27 : Callable Try.prog 27 := ⟨_, Try.func27, by kernel_rfl, by kernel_rfl⟩
end FnPlaceWithout_okF
open FnPlaceWithout_okF in
set_option maxHeartbeats 4000000 in
theorem FnPlaceWithout_ok (A0 : Option Addr) (n0 c0 : Nat) (xs0 : List UInt8) (A1 : Option Addr) (n1 c1 : Nat) (xs1 : List UInt8) (w : World) (hR0 : RS encU 1 w w.heap.size A0 n0 xs0) (hn0 : n0 ≤ c0) (hR1 : RS encU 1 w w.heap.size A1 n1 xs1) (hn1 : n1 ≤ c1) :
    Fn Try.prog 12 [(.slice A0 n0 c0), (.slice A1 n1 c1)] w fun v w' => v = .bool true ∧ Ch [] w w' := by
  have hlen0 := hR0.len
  have hlen1 := hR1.len
  refine fn_of (n := 97) Try.func12 rfl rfl rfl rfl ?_
  have hc : Ch [] w w := Ch.refl _ _
  refine cw_seq fun K1 hK2 => ?_
  refine cw_region fun K3 hK4 => ?_
  refine rw_cons (op_pv (w0 rfl) rfl rfl (pv_assign (v := (.bool false)) rfl rfl) ?_)
  refine rw_nil (hK4 _ _ ?_)
  refine hK2 _ _ ?_
  refine cw_seq fun K5 hK6 => ?_
  refine cw_seq fun K7 hK8 => ?_
  refine cw_region fun K9 hK10 => ?_
  refine rw_cons (op_pv (w0 rfl) rfl rfl (pv_move (v := (.slice A0 n0 c0)) rfl rfl) ?_)
  refine rw_cons (op_pv (w0 rfl) rfl rfl (pv_len Try.underlying28 rfl rfl) ?_)
  refine rw_cons (op_pv (w0 rfl) rfl rfl (pv_gtr rfl rfl rfl) ?_)
  refine rw_cons (op_pv (w0 rfl) rfl rfl (pv_move (v := (.bool (decide (1048576 < (n0 : Int))))) rfl rfl) ?_)
  refine rw_split 18 rfl (fun hb11 => ?_) (fun hb11 => ?_)
  · -- yes
    replace hb11 := of_decide_eq_true hb11
    refine rw_cons (op_pass (w1n2 rfl rfl rfl rfl) rfl rfl ?_)
    refine rw_cons (op_pass (w1n2 rfl rfl rfl rfl) rfl rfl ?_)
    refine rw_cons (op_pass (w1n2 rfl rfl rfl rfl) rfl rfl ?_)
    refine rw_cons (op_pv (w0 rfl) rfl rfl (pv_pickT (v := (.bool true)) rfl rfl rfl) ?_)
    refine rw_nil (hK10 _ _ ?_)
    refine hK8 _ _ ?_
    refine cw_cond rfl (fun h12 => ?_) (fun h12 => ?_)
    · -- then
      clear h12
      refine cw_seq fun K13 hK14 => ?_
      refine cw_region fun K15 hK16 => ?_
      refine rw_cons (op_pv (w0 rfl) rfl rfl (pv_assign (v := (.bool true)) rfl rfl) ?_)
      refine rw_nil (hK16 _ _ ?_)
      refine hK14 _ _ ?_
      refine cw_ret ?_
      refine fin1 rfl ?_
      exact ⟨rfl, hc⟩
    · -- else
      cases h12
  · -- no
    replace hb11 := of_decide_eq_false hb11
    refine rw_cons (op_pv (w1y rfl rfl rfl rfl) rfl rfl (pv_move (v := (.slice A1 n1 c1)) rfl rfl) ?_)
    refine rw_cons (op_pv (w1y rfl rfl rfl rfl) rfl rfl (pv_len Try.underlying28 rfl rfl) ?_)
    refine rw_cons (op_pv (w1y rfl rfl rfl rfl) rfl rfl (pv_gtr rfl rfl rfl) ?_)
    refine rw_cons (op_pv (w0 rfl) rfl rfl (pv_pickF (v := (.bool (decide (1048576 < (n1 : Int))))) rfl rfl rfl) ?_)
    refine rw_nil (hK10 _ _ ?_)
    refine hK8 _ _ ?_
    refine cw_cond rfl (fun h17 => ?_) (fun h17 => ?_)
    · -- then
      replace h17 := of_decide_eq_true h17
      refine cw_seq fun K18 hK19 => ?_
      refine cw_region fun K20 hK21 => ?_
      refine rw_cons (op_pv (w0 rfl) rfl rfl (pv_assign (v := (.bool true)) rfl rfl) ?_)
      refine rw_nil (hK21 _ _ ?_)
      refine hK19 _ _ ?_
      refine cw_ret ?_
      refine fin1 rfl ?_
      exact ⟨rfl, hc⟩
    · -- else
      replace h17 := of_decide_eq_false h17
      refine cw_skip ?_
      refine hK6 _ _ ?_
      refine cw_seq fun K22 hK23 => ?_
      refine cw_region fun K24 hK25 => ?_
      refine rw_cons (op_pv (w0 rfl) rfl rfl (pv_move (v := (.slice A0 n0 c0)) rfl rfl) ?_)
      refine rw_cons (op_call (w0 rfl) rfl rfl (rc_call C25 rfl rfl) (DrawPlaceOf_ok _ _ _ _ _ (hR0.more (by omega)) (by omega)) ?_)
      rintro _ w26 ⟨p28, A31, c32, xs29, m30, rfl, hO33, hl35, hch27⟩
      have hsz36 := hch27.size
      replace hR0 := hR0.ch0 hch27
      replace hR1 := hR1.ch0 hch27
      replace hc := hc.step0 hch27
      have hub34 := hO33.lt
      have hcap37 : xs29.length ≤ c32 := by obtain ⟨_, _, hv, h1, _⟩ := hO33.form; injection hv with _ _ h3; omega
      refine rw_cons (op_pv (w0 rfl) rfl rfl (pv_move (v := (.tuple #[(.int .i64 p28), (.slice A31 xs29.length c32), (.int .i64 m30)])) rfl rfl) ?_)
      refine rw_cons (op_pv (w0 rfl) rfl rfl (pv_ext (v := (.int .i64 p28)) rfl rfl rfl) ?_)
      refine rw_cons (op_pv (w0 rfl) rfl rfl (pv_ext (v := (.slice A31 xs29.length c32)) rfl rfl rfl) ?_)
      refine rw_cons (op_pv (w0 rfl) rfl rfl (pv_ext (v := (.int .i64 m30)) rfl rfl rfl) ?_)
      refine rw_cons (op_pv (w0 rfl) rfl rfl (pv_assign (v := (.int .i64 p28)) rfl rfl) ?_)
      refine rw_cons (op_pv (w0 rfl) rfl rfl (pv_assign (v := (.slice A31 xs29.length c32)) rfl rfl) ?_)
      refine rw_cons (op_pv (w0 rfl) rfl rfl (pv_assign (v := (.int .i64 m30)) rfl rfl) ?_)
      refine rw_nil (hK25 _ _ ?_)
      refine hK23 _ _ ?_
      refine cw_seq fun K38 hK39 => ?_
      refine cw_region fun K40 hK41 => ?_
      refine rw_cons (op_pv (w0 rfl) rfl rfl (pv_move (v := (.int .i64 p28)) rfl rfl) ?_)
      refine rw_cons (op_pv (w0 rfl) rfl rfl (pv_move (v := (.slice A31 xs29.length c32)) rfl rfl) ?_)
      refine rw_cons (op_pv (w0 rfl) rfl rfl (pv_move (v := (.int .i64 m30)) rfl rfl) ?_)
      refine rw_cons (op_call (w0 rfl) rfl rfl (rc_call C22 rfl rfl) (PlaceOf_i p28 _ xs29.length _ xs29 m30 _ (hO33.rs (fun _ => rfl)) (by omega)) ?_)
      rintro _ w42 ⟨A44, c45, rfl, hO46, hch43⟩
      have hsz47 := hch43.size
      replace hR0 := hR0.ch0 hch43
      replace hR1 := hR1.ch0 hch43
      replace hO33 := hO33.ch0 hch43
      replace hc := hc.step0 hch43
      have hub48 := hO46.lt
      have hcap49 : (placeV p28 xs29 m30).length ≤ c45 := by obtain ⟨_, _, hv, h1, _⟩ := hO46.form; injection hv with _ _ h3; omega
      have hnt50 := placeV_le p28 xs29 m30
      have hdj51 : ∀ s ∈ obl (.slice A31 xs29.length c32), s ∉ obl (.slice A44 (placeV p28 xs29 m30).length c45) := fun s hs hs2 => by first | (have h1 := hub34 s hs; have h2 := hO46.off s hs2; omega) | (simp [obl, Value.ownBlock] at hs; done) | (simp [obl, Value.ownBlock] at hs2; done) | (have h1 := hub34 s hs; simp [obl, Value.ownBlock] at hs2; omega)
      refine rw_cons (op_pv (w0 rfl) rfl rfl (pv_move (v := (.tuple #[(.slice A44 (placeV p28 xs29 m30).length c45), (.bool (dec (PlaceOK p28 xs29 m30)))])) rfl rfl) ?_)
      refine rw_cons (op_pv (w0 rfl) rfl rfl (pv_ext (v := (.slice A44 (placeV p28 xs29 m30).length c45)) rfl rfl rfl) ?_)
      refine rw_cons (op_pv (w0 rfl) rfl rfl (pv_ext (v := (.bool (dec (PlaceOK p28 xs29 m30)))) rfl rfl rfl) ?_)
      refine rw_cons (op_pv (w0 rfl) rfl rfl (pv_assign (v := (.slice A44 (placeV p28 xs29 m30).length c45)) rfl rfl) ?_)
      refine rw_cons (op_pv (w0 rfl) rfl rfl (pv_assign (v := (.bool (dec (PlaceOK p28 xs29 m30)))) rfl rfl) ?_)
      refine rw_nil (hK41 _ _ ?_)
      refine hK39 _ _ ?_
      refine cw_seq fun K52 hK53 => ?_
      refine cw_region fun K54 hK55 => ?_
      refine rw_cons (op_pv (w0 rfl) rfl rfl (pv_move (v := (.int .i64 p28)) rfl rfl) ?_)
      refine rw_cons (op_pv (w0 rfl) rfl rfl (pv_move (v := (.slice A31 xs29.length c32)) rfl rfl) ?_)
      refine rw_cons (op_pv (w0 rfl) rfl rfl (pv_move (v := (.int .i64 m30)) rfl rfl) ?_)
      refine rw_cons (op_call (w0 rfl) rfl rfl (rc_call C21 rfl rfl) (PlaceOf_s p28 _ xs29.length _ xs29 m30 _ (hO33.rs (fun _ => rfl)) (by omega)) ?_)
      rintro _ w56 ⟨A58, c59, rfl, hO60, hch57⟩
      have hsz61 := hch57.size
      replace hR0 := hR0.ch0 hch57
      replace hR1 := hR1.ch0 hch57
      replace hO33 := hO33.ch0 hch57
      replace hO46 := hO46.ch0 hch57
      replace hc := hc.step0 hch57
      have hub62 := hO60.lt
      have hcap63 : (placeV p28 xs29 m30).length ≤ c59 := by obtain ⟨_, _, hv, h1, _⟩ := hO60.form; injection hv with _ _ h3; omega
      have hnt64 := placeV_le p28 xs29 m30
      have hdj65 : ∀ s ∈ obl (.slice A31 xs29.length c32), s ∉ obl (.slice A58 (placeV p28 xs29 m30).length c59) := fun s hs hs2 => by first | (have h1 := hub34 s hs; have h2 := hO60.off s hs2; omega) | (simp [obl, Value.ownBlock] at hs; done) | (simp [obl, Value.ownBlock] at hs2; done) | (have h1 := hub34 s hs; simp [obl, Value.ownBlock] at hs2; omega)
      have hdj66 : ∀ s ∈ obl (.slice A44 (placeV p28 xs29 m30).length c45), s ∉ obl (.slice A58 (placeV p28 xs29 m30).length c59) := fun s hs hs2 => by first | (have h1 := hub48 s hs; have h2 := hO60.off s hs2; omega) | (simp [obl, Value.ownBlock] at hs; done) | (simp [obl, Value.ownBlock] at hs2; done) | (have h1 := hub48 s hs; simp [obl, Value.ownBlock] at hs2; omega)
      refine rw_cons (op_pv (w0 rfl) rfl rfl (pv_move (v := (.tuple #[(.slice A58 (placeV p28 xs29 m30).length c59), (.bool (dec (PlaceOK p28 xs29 m30)))])) rfl rfl) ?_)
      refine rw_cons (op_pv (w0 rfl) rfl rfl (pv_ext (v := (.slice A58 (placeV p28 xs29 m30).length c59)) rfl rfl rfl) ?_)
      refine rw_cons (op_pv (w0 rfl) rfl rfl (pv_ext (v := (.bool (dec (PlaceOK p28 xs29 m30)))) rfl rfl rfl) ?_)
      refine rw_cons (op_pv (w0 rfl) rfl rfl (pv_assign (v := (.slice A58 (placeV p28 xs29 m30).length c59)) rfl rfl) ?_)
      refine rw_cons (op_pv (w0 rfl) rfl rfl (pv_assign (v := (.bool (dec (PlaceOK p28 xs29 m30)))) rfl rfl) ?_)
      refine rw_nil (hK55 _ _ ?_)
      refine hK53 _ _ ?_
      refine cw_seq fun K67 hK68 => ?_
      refine cw_seq fun K69 hK70 => ?_
      refine cw_region fun K71 hK72 => ?_
      refine rw_cons (op_pv (w0 rfl) rfl rfl (pv_move (v := (.bool (dec (PlaceOK p28 xs29 m30)))) rfl rfl) ?_)
      refine rw_cons (op_pv (w0 rfl) rfl rfl (pv_move (v := (.bool (dec (PlaceOK p28 xs29 m30)))) rfl rfl) ?_)
      refine rw_cons (op_pv (w0 rfl) rfl rfl (pv_neBs Try.underlying4 rfl rfl rfl) ?_)
      refine rw_cons (op_pv (w0 rfl) rfl rfl (pv_move (v := (.bool false)) rfl rfl) ?_)
      refine rw_cons (op_pv (w1y rfl rfl rfl rfl) rfl rfl (pv_move (v := (.slice A44 (placeV p28 xs29 m30).length c45)) rfl rfl) ?_)
      refine rw_cons (op_pv (w1y rfl rfl rfl rfl) rfl rfl (pv_move (v := (.slice A58 (placeV p28 xs29 m30).length c59)) rfl rfl) ?_)
      refine rw_cons (op_call (w1y rfl rfl rfl rfl) rfl rfl (rc_call C26 rfl rfl) (sameInts_same _ _ _ _ _ _ (placeV p28 xs29 m30) _ (hO46.rs (fun _ => rfl)) (hO60.rs (fun _ => rfl)) (by omega)) ?_)
      rintro _ w73 ⟨rfl, hch74⟩
      have hsz75 := hch74.size
      replace hR0 := hR0.ch0 hch74
      replace hR1 := hR1.ch0 hch74
      replace hO33 := hO33.ch0 hch74
      replace hO46 := hO46.ch0 hch74
      replace hO60 := hO60.ch0 hch74
      replace hc := hc.step0 hch74
      refine rw_cons (op_pv (w1y rfl rfl rfl rfl) rfl rfl (pv_not rfl rfl) ?_)
      refine rw_cons (op_pv (w0 rfl) rfl rfl (pv_pickF (v := (.bool (!true))) rfl rfl rfl) ?_)
      refine rw_cons (op_pv (w0 rfl) rfl rfl (pv_move (v := (.bool (!true))) rfl rfl) ?_)
      refine rw_cons (op_pv (w1y rfl rfl rfl rfl) rfl rfl (pv_move (v := (.bool (dec (PlaceOK p28 xs29 m30)))) rfl rfl) ?_)
      refine rw_cons (op_pv (w1y rfl rfl rfl rfl) rfl rfl (pv_not rfl rfl) ?_)
      refine rw_cons (op_pv (w0 rfl) rfl rfl (pv_pickF (v := (.bool (!(dec (PlaceOK p28 xs29 m30))))) rfl rfl rfl) ?_)
      refine rw_nil (hK72 _ _ ?_)
      refine hK70 _ _ ?_
      refine cw_cond rfl (fun h76 => ?_) (fun h76 => ?_)
      · -- then
        replace h76 := not_t h76
        replace h76 := dec_f h76
        refine cw_seq fun K77 hK78 => ?_
        refine cw_region fun K79 hK80 => ?_
        refine rw_cons (op_pv (w0 rfl) rfl rfl (pv_move (v := (.bool (dec (PlaceOK p28 xs29 m30)))) rfl rfl) ?_)
        refine rw_cons (op_pv (w0 rfl) rfl rfl (pv_move (v := (.bool (dec (PlaceOK p28 xs29 m30)))) rfl rfl) ?_)
        refine rw_cons (op_pv (w0 rfl) rfl rfl (pv_eqBs Try.underlying4 rfl rfl rfl) ?_)
        refine rw_cons (op_pv (w0 rfl) rfl rfl (pv_move (v := (.bool true)) rfl rfl) ?_)
        refine rw_cons (op_pv (w1y rfl rfl rfl rfl) rfl rfl (pv_move (v := (.slice A44 (placeV p28 xs29 m30).length c45)) rfl rfl) ?_)
        refine rw_cons (op_pv (w1y rfl rfl rfl rfl) rfl rfl (pv_move (v := (.slice A58 (placeV p28 xs29 m30).length c59)) rfl rfl) ?_)
        refine rw_cons (op_call (w1y rfl rfl rfl rfl) rfl rfl (rc_call C26 rfl rfl) (sameInts_same _ _ _ _ _ _ (placeV p28 xs29 m30) _ (hO46.rs (fun _ => rfl)) (hO60.rs (fun _ => rfl)) (by omega)) ?_)
        rintro _ w81 ⟨rfl, hch82⟩
        have hsz83 := hch82.size
        replace hR0 := hR0.ch0 hch82
        replace hR1 := hR1.ch0 hch82
        replace hO33 := hO33.ch0 hch82
        replace hO46 := hO46.ch0 hch82
        replace hO60 := hO60.ch0 hch82
        replace hc := hc.step0 hch82
        refine rw_cons (op_pv (w0 rfl) rfl rfl (pv_pickT (v := (.bool true)) rfl rfl rfl) ?_)
        refine rw_cons (op_pv (w0 rfl) rfl rfl (pv_assign (v := (.bool true)) rfl rfl) ?_)
        refine rw_nil (hK80 _ _ ?_)
        refine hK78 _ _ ?_
        refine cw_ret ?_
        refine fin1 rfl ?_
        first
          | exact ⟨rfl, hc⟩
          | exact absurd rfl ‹¬(placeV p28 xs29 m30 = placeV p28 xs29 m30)›
          | exact ⟨congrArg Value.bool (dec_yes rfl), hc⟩
      · -- else
        replace h76 := not_f h76
        replace h76 := dec_t h76
        refine cw_skip ?_
        refine hK68 _ _ ?_
        refine cw_seq fun K84 hK85 => ?_
        have hok : PlaceOK p28 xs29 m30 := by assumption
        have hpl := place_len hok
        have hp1 := hok.1
        have hm1 := hok.2.2
        have hx8 := hok.2.1.1
        have hlx : 0 < xs29.length := by omega
        refine cw_region fun K86 hK87 => ?_
        refine rw_cons (op_pv (w0 rfl) rfl rfl (pv_move (v := (.slice A1 n1 c1)) rfl rfl) ?_)
        refine rw_cons (op_pv (w0 rfl) rfl rfl (pv_len Try.underlying28 rfl rfl) ?_)
        refine rw_cons (op_pv (w0 rfl) rfl rfl (pv_move (v := (.slice A31 xs29.length c32)) rfl rfl) ?_)
        refine rw_cons (op_pv (w0 rfl) rfl rfl (pv_len Try.underlying24 rfl rfl) ?_)
        refine rw_cons (op_pv (w0 rfl) rfl rfl (pv_rem rfl rfl rfl (by omega) (by omega)) ?_)
        have hq88 := Int.emod_nonneg (n1 : Int) (b := (xs29.length : Int)) (by omega); have hq89 := Int.emod_lt_of_pos (n1 : Int) (b := (xs29.length : Int)) (by omega)
        obtain ⟨d90, hd91⟩ : ∃ d : Nat, (n1 : Int) % (xs29.length : Int) = (d : Int) := ⟨((n1 : Int) % (xs29.length : Int)).toNat, by omega⟩
        rw [hd91]
        rw [hd91] at hq88
        rw [hd91] at hq89
        refine rw_cons (op_pv (w0 rfl) rfl rfl (pv_assign (v := (.int .i64 (d90 : Int))) rfl rfl) ?_)
        refine rw_nil (hK87 _ _ ?_)
        refine hK85 _ _ ?_
        refine cw_seq fun K92 hK93 => ?_
        refine cw_seq fun K94 hK95 => ?_
        refine cw_region fun K96 hK97 => ?_
        refine rw_cons (op_pv (w0 rfl) rfl rfl (pv_move (v := (.slice A44 (placeV p28 xs29 m30).length c45)) rfl rfl) ?_)
        refine rw_cons (op_pv (w0 rfl) rfl rfl (pv_move (v := (.slice A31 xs29.length c32)) rfl rfl) ?_)
        refine rw_cons (op_pv (w0 rfl) rfl rfl (pv_move (v := (.int .i64 (d90 : Int))) rfl rfl) ?_)
        refine rw_cons (op_pv (w0 rfl) rfl rfl (pv_idx Try.underlying24 T3 rfl rfl rfl ((hO33.rs (fun _ => rfl)).some (k := d90) (by omega)) (by omega) (by omega)) ?_)
        refine rw_cons (op_lv (w0 rfl) rfl rfl (lv_load T3 rfl rfl ((hO33.rs (fun _ => rfl)).cell0 (k := d90) (by omega) rfl)) ?_)
        refine rw_cons (op_call (w0 rfl) rfl rfl (rc_call C27 rfl rfl) (hasInt_ok _ (placeV p28 xs29 m30).length _ (placeV p28 xs29 m30) (el xs29 d90) _ (hO46.rs (fun _ => rfl)) (by omega)) ?_)
        rintro _ w98 ⟨rfl, hch99⟩
        have hsz100 := hch99.size
        replace hR0 := hR0.ch0 hch99
        replace hR1 := hR1.ch0 hch99
        replace hO33 := hO33.ch0 hch99
        replace hO46 := hO46.ch0 hch99
        replace hO60 := hO60.ch0 hch99
        replace hc := hc.step0 hch99
        refine rw_nil (hK97 _ _ ?_)
        refine hK95 _ _ ?_
        refine cw_cond rfl (fun h101 => ?_) (fun h101 => ?_)
        · -- then
          replace h101 := dec_t h101
          refine cw_seq fun K102 hK103 => ?_
          refine cw_region fun K104 hK105 => ?_
          refine rw_cons (op_pv (w0 rfl) rfl rfl (pv_assign (v := (.bool true)) rfl rfl) ?_)
          refine rw_nil (hK105 _ _ ?_)
          refine hK103 _ _ ?_
          refine cw_ret ?_
          refine fin1 rfl ?_
          first
            | exact ⟨rfl, hc⟩
            | exact absurd rfl ‹¬(placeV p28 xs29 m30 = placeV p28 xs29 m30)›
            | exact ⟨congrArg Value.bool (dec_yes rfl), hc⟩
        · -- else
          replace h101 := dec_f h101
          refine cw_skip ?_
          refine hK93 _ _ ?_
          refine cw_seq fun K106 hK107 => ?_
          refine cw_drawn (fun u => Ch [] w98 u) (.free 0 (.free 2 (.free 3 (.free 4 (.free 6 (.free 7 (.free 8 (.free 9 (.free 11 (.one 1 true (.one 5 true (.one 10 true (.one 12 true (.free 13 (.free 14 (.free 15 (.free 16 (.free 17 (.done))))))))))))))))))) (by kernel_rfl) (by kernel_rfl) (Ch.refl _ _).drew fun K111 hK112 => ?_
          obtain ⟨w108, hw_, hch109, hsz110⟩ : ∃ w1 : World, w1 = w98.drew ∧ Ch [] w98 w1 ∧ w1.heap.size = w98.heap.size := ⟨_, rfl, (Ch.refl _ _).drew, rfl⟩
          rw [← hw_]; clear hw_
          have hr113 : Ch [] w98 w108 := hch109.sub (fun s hs => by cases hs)
          have hR0_r := hR0
          have hR1_r := hR1
          have hO33_r := hO33
          have hO46_r := hO46
          have hO60_r := hO60
          have hsz114 := hch109.size
          replace hR0 := hR0.ch0 hch109
          replace hR1 := hR1.ch0 hch109
          replace hO33 := hO33.ch0 hch109
          replace hO46 := hO46.ch0 hch109
          replace hO60 := hO60.ch0 hch109
          replace hc := hc.step0 hch109
          refine tw_free rfl (w0 rfl) rfl rfl (fun u hu => (pv_move (v := (.int .i64 p28)) rfl rfl : PV _ _ _ _) u) ?_
          refine tw_free rfl (w0 rfl) rfl rfl (fun u hu => (pv_move (v := (.slice A31 xs29.length c32)) rfl rfl : PV _ _ _ _) u) ?_
          refine tw_free rfl (w0 rfl) rfl rfl (fun u hu => (pv_move (v := (.int .i64 (d90 : Int))) rfl rfl : PV _ _ _ _) u) ?_
          refine tw_free rfl (w0 rfl) rfl rfl (fun u hu => (pv_upto Try.underlying24 T3 rfl rfl rfl (by omega) (by omega) : PV _ _ _ _) u) ?_
          have hR115 : RS encI 1 w108 w108.heap.size A31 d90 (xs29.take d90) := ((hO33.rs (fun _ => rfl))).upto (by omega)
          refine tw_free rfl (w0 rfl) rfl rfl (fun u hu => (pv_move (v := (.slice A31 xs29.length c32)) rfl rfl : PV _ _ _ _) u) ?_
          refine tw_free rfl (w0 rfl) rfl rfl (fun u hu => (pv_move (v := (.int .i64 (d90 : Int))) rfl rfl : PV _ _ _ _) u) ?_
          refine tw_free rfl (w0 rfl) rfl rfl (fun u hu => (pv_add rfl rfl rfl (by omega) (by omega) : PV _ _ _ _) u) ?_
          refine tw_free rfl (w0 rfl) rfl rfl (fun u hu => (pv_from Try.underlying24 T3 rfl rfl rfl (by omega) (by omega) : PV _ _ _ _) u) ?_
          have hR116 : RS encI 1 w108 w108.heap.size (if c32 = (d90 + 1) then A31 else (A31 : Option Addr).map (·.add ((d90 + 1) * 1))) (xs29.length - (d90 + 1)) (xs29.drop (d90 + 1)) := ((hO33.rs (fun _ => rfl))).from (by omega) (by omega)
          refine tw_free rfl (w0 rfl) rfl rfl (fun u hu => (pv_move (v := (.int .i64 m30)) rfl rfl : PV _ _ _ _) u) ?_
          refine tw_one rfl (op_bslice [] Try.underlying24 T3 (w0 rfl) rfl rfl rfl rfl rfl (by simp [Value.cells]) (by decide) ?_)
          intro g118 w117 hg121 hg122 hK120 hch119
          have hO123 : Own encI 1 w117 w108.heap.size 3 (.slice (some ⟨g118, 0, none⟩) 0 0) ([] : List Int) := Blk.own (xs := ([] : List Int)) hK120 (by omega) rfl (by decide) rfl
          have hsz124 := hch119.size
          replace hR0 := hR0.ch0 hch119
          replace hR1 := hR1.ch0 hch119
          replace hO33 := hO33.ch0 hch119
          replace hO46 := hO46.ch0 hch119
          replace hO60 := hO60.ch0 hch119
          replace hR115 := hR115.ch0 hch119
          replace hR116 := hR116.ch0 hch119
          replace hc := hc.step0 hch119
          replace hr113 := hr113.step0 hch119
          have hub125 := hO123.lt
          refine ⟨fun _ => hr113, ?_⟩
          have hdj126 : ∀ s ∈ obl (.slice A31 xs29.length c32), s ∉ obl (.slice (some ⟨g118, 0, none⟩) 0 0) := fun s hs hs2 => by first | (have h1 := hub34 s hs; have h2 := hO123.off s hs2; omega) | (simp [obl, Value.ownBlock] at hs; done) | (simp [obl, Value.ownBlock] at hs2; done) | (have h1 := hub34 s hs; simp [obl, Value.ownBlock] at hs2; omega)
          have hdj127 : ∀ s ∈ obl (.slice A44 (placeV p28 xs29 m30).length c45), s ∉ obl (.slice (some ⟨g118, 0, none⟩) 0 0) := fun s hs hs2 => by first | (have h1 := hub48 s hs; have h2 := hO123.off s hs2; omega) | (simp [obl, Value.ownBlock] at hs; done) | (simp [obl, Value.ownBlock] at hs2; done) | (have h1 := hub48 s hs; simp [obl, Value.ownBlock] at hs2; omega)
          have hdj128 : ∀ s ∈ obl (.slice A58 (placeV p28 xs29 m30).length c59), s ∉ obl (.slice (some ⟨g118, 0, none⟩) 0 0) := fun s hs hs2 => by first | (have h1 := hub62 s hs; have h2 := hO123.off s hs2; omega) | (simp [obl, Value.ownBlock] at hs; done) | (simp [obl, Value.ownBlock] at hs2; done) | (have h1 := hub62 s hs; simp [obl, Value.ownBlock] at hs2; omega)
          refine tw_one rfl (op_append Try.underlying24 T3 (fun _ => rfl) rfl (by decide) (fun _ => one_all rfl) (w0 rfl) rfl rfl rfl rfl rfl hO123 hR115 (by unfold maxLen; first | omega | (simp; omega)) (by first | omega | (simp; omega)) (by omega) ?_)
          rintro v129 w130 hO131 hch132 hs133
          replace hO131 : Own encI 1 w130 w108.heap.size 3 v129 (xs29.take d90) := hO131
          have hl134 : (xs29.take d90).length = 0 + d90 := by first | (have hl0 := hR115.len; omega) | (have hl0 := hR115.len; simp only [List.length_append, List.length_cons, List.length_nil] at hl0 ⊢; omega) | simp | rfl
          have hsz138 := hch132.size
          replace hR0 := hR0.ch hch132 (hO123.off.le (by omega))
          replace hR1 := hR1.ch hch132 (hO123.off.le (by omega))
          replace hO33 := hO33.ch hch132 (dj_as hdj126)
          replace hO46 := hO46.ch hch132 (dj_as hdj127)
          replace hO60 := hO60.ch hch132 (dj_as hdj128)
          replace hR115 := hR115.ch hch132 (hO123.off.le (by omega))
          replace hR116 := hR116.ch hch132 (hO123.off.le (by omega))
          replace hc := (hO123.off.le (by omega)).step hc hch132
          replace hr113 := (hO123.off.le (by omega)).step hr113 hch132
          have hub139 := hO131.lt
          obtain ⟨A140, c141, hv142, hcap143, hcap144⟩ := hO131.form; subst hv142
          have hdj135 : ∀ s ∈ obl (.slice A140 (xs29.take d90).length c141), s ∉ obl (.slice A31 xs29.length c32) := dj_new hs133 (dj_sw hdj126) (fun s hs => by have := hub34 s hs; omega)
          have hdj136 : ∀ s ∈ obl (.slice A140 (xs29.take d90).length c141), s ∉ obl (.slice A44 (placeV p28 xs29 m30).length c45) := dj_new hs133 (dj_sw hdj127) (fun s hs => by have := hub48 s hs; omega)
          have hdj137 : ∀ s ∈ obl (.slice A140 (xs29.take d90).length c141), s ∉ obl (.slice A58 (placeV p28 xs29 m30).length c59) := dj_new hs133 (dj_sw hdj128) (fun s hs => by have := hub62 s hs; omega)
          refine ⟨fun _ => hr113, ?_⟩
          refine tw_one rfl (op_append Try.underlying24 T3 (fun _ => rfl) rfl (by decide) (fun _ => one_all rfl) (w0 rfl) rfl rfl rfl rfl rfl hO131 hR116 (by unfold maxLen; first | omega | (simp; omega)) (by first | omega | (simp; omega)) (by omega) ?_)
          rintro v145 w146 hO147 hch148 hs149
          have hl150 : ((xs29.take d90) ++ (xs29.drop (d90 + 1))).length = (xs29.take d90).length + (xs29.length - (d90 + 1)) := by first | (have hl0 := hR116.len; omega) | (have hl0 := hR116.len; simp only [List.length_append, List.length_cons, List.length_nil] at hl0 ⊢; omega) | simp | rfl
          have hsz154 := hch148.size
          replace hR0 := hR0.ch hch148 (hO131.off.le (by omega))
          replace hR1 := hR1.ch hch148 (hO131.off.le (by omega))
          replace hO33 := hO33.ch hch148 (dj_sw hdj135)
          replace hO46 := hO46.ch hch148 (dj_sw hdj136)
          replace hO60 := hO60.ch hch148 (dj_sw hdj137)
          replace hR115 := hR115.ch hch148 (hO131.off.le (by omega))
          replace hR116 := hR116.ch hch148 (hO131.off.le (by omega))
          replace hc := (hO131.off.le (by omega)).step hc hch148
          replace hr113 := (hO131.off.le (by omega)).step hr113 hch148
          have hub155 := hO147.lt
          obtain ⟨A156, c157, hv158, hcap159, hcap160⟩ := hO147.form; subst hv158
          have hdj151 : ∀ s ∈ obl (.slice A156 ((xs29.take d90) ++ (xs29.drop (d90 + 1))).length c157), s ∉ obl (.slice A31 xs29.length c32) := dj_new hs149 (dj_as hdj135) (fun s hs => by have := hub34 s hs; omega)
          have hdj152 : ∀ s ∈ obl (.slice A156 ((xs29.take d90) ++ (xs29.drop (d90 + 1))).length c157), s ∉ obl (.slice A44 (placeV p28 xs29 m30).length c45) := dj_new hs149 (dj_as hdj136) (fun s hs => by have := hub48 s hs; omega)
          have hdj153 : ∀ s ∈ obl (.slice A156 ((xs29.take d90) ++ (xs29.drop (d90 + 1))).length c157), s ∉ obl (.slice A58 (placeV p28 xs29 m30).length c59) := dj_new hs149 (dj_as hdj137) (fun s hs => by have := hub62 s hs; omega)
          refine ⟨fun _ => hr113, ?_⟩
          refine tw_one rfl (op_call (w0 rfl) rfl rfl (rc_call C22 rfl rfl) (PlaceOf_i p28 _ ((xs29.take d90) ++ (xs29.drop (d90 + 1))).length _ ((xs29.take d90) ++ (xs29.drop (d90 + 1))) m30 _ (hO147.rs (fun _ => rfl)) (by omega)) ?_)
          rintro _ w161 ⟨A163, c164, rfl, hO165, hch162⟩
          have hsz166 := hch162.size
          replace hR0 := hR0.ch0 hch162
          replace hR1 := hR1.ch0 hch162
          replace hO33 := hO33.ch0 hch162
          replace hO46 := hO46.ch0 hch162
          replace hO60 := hO60.ch0 hch162
          replace hR115 := hR115.ch0 hch162
          replace hR116 := hR116.ch0 hch162
          replace hO147 := hO147.ch0 hch162
          replace hc := hc.step0 hch162
          replace hr113 := hr113.step0 hch162
          have hub167 := hO165.lt
          have hcap168 : (placeV p28 ((xs29.take d90) ++ (xs29.drop (d90 + 1))) m30).length ≤ c164 := by obtain ⟨_, _, hv, h1, _⟩ := hO165.form; injection hv with _ _ h3; omega
          have hnt169 := placeV_le p28 ((xs29.take d90) ++ (xs29.drop (d90 + 1))) m30
          refine ⟨fun _ => hr113, ?_⟩
          have hdj170 : ∀ s ∈ obl (.slice A31 xs29.length c32), s ∉ obl (.slice A163 (placeV p28 ((xs29.take d90) ++ (xs29.drop (d90 + 1))) m30).length c164) := fun s hs hs2 => by first | (have h1 := hub34 s hs; have h2 := hO165.off s hs2; omega) | (simp [obl, Value.ownBlock] at hs; done) | (simp [obl, Value.ownBlock] at hs2; done) | (have h1 := hub34 s hs; simp [obl, Value.ownBlock] at hs2; omega)
          have hdj171 : ∀ s ∈ obl (.slice A44 (placeV p28 xs29 m30).length c45), s ∉ obl (.slice A163 (placeV p28 ((xs29.take d90) ++ (xs29.drop (d90 + 1))) m30).length c164) := fun s hs hs2 => by first | (have h1 := hub48 s hs; have h2 := hO165.off s hs2; omega) | (simp [obl, Value.ownBlock] at hs; done) | (simp [obl, Value.ownBlock] at hs2; done) | (have h1 := hub48 s hs; simp [obl, Value.ownBlock] at hs2; omega)
          have hdj172 : ∀ s ∈ obl (.slice A58 (placeV p28 xs29 m30).length c59), s ∉ obl (.slice A163 (placeV p28 ((xs29.take d90) ++ (xs29.drop (d90 + 1))) m30).length c164) := fun s hs hs2 => by first | (have h1 := hub62 s hs; have h2 := hO165.off s hs2; omega) | (simp [obl, Value.ownBlock] at hs; done) | (simp [obl, Value.ownBlock] at hs2; done) | (have h1 := hub62 s hs; simp [obl, Value.ownBlock] at hs2; omega)
          have hdj173 : ∀ s ∈ obl (.slice A156 ((xs29.take d90) ++ (xs29.drop (d90 + 1))).length c157), s ∉ obl (.slice A163 (placeV p28 ((xs29.take d90) ++ (xs29.drop (d90 + 1))) m30).length c164) := fun s hs hs2 => by first | (have h1 := hub155 s hs; have h2 := hO165.off s hs2; omega) | (simp [obl, Value.ownBlock] at hs; done) | (simp [obl, Value.ownBlock] at hs2; done) | (have h1 := hub155 s hs; simp [obl, Value.ownBlock] at hs2; omega)
          refine tw_free rfl (w0 rfl) rfl rfl (fun u hu => (pv_move (v := (.tuple #[(.slice A163 (placeV p28 ((xs29.take d90) ++ (xs29.drop (d90 + 1))) m30).length c164), (.bool (dec (PlaceOK p28 ((xs29.take d90) ++ (xs29.drop (d90 + 1))) m30)))])) rfl rfl : PV _ _ _ _) u) ?_
          refine tw_free rfl (w0 rfl) rfl rfl (fun u hu => (pv_ext (v := (.slice A163 (placeV p28 ((xs29.take d90) ++ (xs29.drop (d90 + 1))) m30).length c164)) rfl rfl rfl : PV _ _ _ _) u) ?_
          refine tw_free rfl (w0 rfl) rfl rfl (fun u hu => (pv_ext (v := (.bool (dec (PlaceOK p28 ((xs29.take d90) ++ (xs29.drop (d90 + 1))) m30)))) rfl rfl rfl : PV _ _ _ _) u) ?_
          refine tw_free rfl (w0 rfl) rfl rfl (fun u hu => (pv_assign (v := (.slice A163 (placeV p28 ((xs29.take d90) ++ (xs29.drop (d90 + 1))) m30).length c164)) rfl rfl : PV _ _ _ _) u) ?_
          refine tw_free rfl (w0 rfl) rfl rfl (fun u hu => (pv_assign (v := (.bool (dec (PlaceOK p28 ((xs29.take d90) ++ (xs29.drop (d90 + 1))) m30)))) rfl rfl : PV _ _ _ _) u) ?_
          clear hO33_r
          clear hO46_r
          clear hO60_r
          clear hR0_r
          clear hR1_r
          refine tw_done (hK112 _ _ ?_)
          refine hK107 _ _ ?_
          refine cw_seq fun K174 hK175 => ?_
          refine cw_region fun K176 hK177 => ?_
          refine rw_cons (op_pv (w0 rfl) rfl rfl (pv_move (v := (.bool (dec (PlaceOK p28 ((xs29.take d90) ++ (xs29.drop (d90 + 1))) m30)))) rfl rfl) ?_)
          refine rw_cons (op_pv (w0 rfl) rfl rfl (pv_move (v := (.bool (dec (PlaceOK p28 ((xs29.take d90) ++ (xs29.drop (d90 + 1))) m30)))) rfl rfl) ?_)
          refine rw_split 92 rfl (fun hb178 => ?_) (fun hb178 => ?_)
          · -- yes
            replace hb178 := dec_t hb178
            refine rw_cons (op_pv (w1y rfl rfl rfl rfl) rfl rfl (pv_move (v := (.slice A163 (placeV p28 ((xs29.take d90) ++ (xs29.drop (d90 + 1))) m30).length c164)) rfl rfl) ?_)
            refine rw_cons (op_pv (w1y rfl rfl rfl rfl) rfl rfl (pv_move (v := (.slice A44 (placeV p28 xs29 m30).length c45)) rfl rfl) ?_)
            refine rw_cons (op_call (w1y rfl rfl rfl rfl) rfl rfl (rc_call C26 rfl rfl) (sameInts_ok _ _ _ _ _ _ (placeV p28 ((xs29.take d90) ++ (xs29.drop (d90 + 1))) m30) (placeV p28 xs29 m30) _ (hO165.rs (fun _ => rfl)) (hO46.rs (fun _ => rfl)) (by omega)) ?_)
            rintro _ w179 ⟨rfl, hch180⟩
            have hsz181 := hch180.size
            replace hR0 := hR0.ch0 hch180
            replace hR1 := hR1.ch0 hch180
            replace hO33 := hO33.ch0 hch180
            replace hO46 := hO46.ch0 hch180
            replace hO60 := hO60.ch0 hch180
            replace hR115 := hR115.ch0 hch180
            replace hR116 := hR116.ch0 hch180
            replace hO147 := hO147.ch0 hch180
            replace hO165 := hO165.ch0 hch180
            replace hc := hc.step0 hch180
            refine rw_cons (op_pv (w0 rfl) rfl rfl (pv_pickT (v := (.bool (dec ((placeV p28 ((xs29.take d90) ++ (xs29.drop (d90 + 1))) m30) = (placeV p28 xs29 m30))))) rfl rfl rfl) ?_)
            refine rw_cons (op_pv (w0 rfl) rfl rfl (pv_assign (v := (.bool (dec ((placeV p28 ((xs29.take d90) ++ (xs29.drop (d90 + 1))) m30) = (placeV p28 xs29 m30))))) rfl rfl) ?_)
            refine rw_nil (hK177 _ _ ?_)
            refine hK175 _ _ ?_
            refine cw_ret ?_
            refine fin1 rfl ?_
            have hls := less_same hok (d := d90) (e := d90 + 1) rfl (by omega) (by assumption)
            first
              | exact absurd hls.1 (by assumption)
              | exact ⟨congrArg Value.bool (dec_yes hls.2), hc⟩
          · -- no
            replace hb178 := dec_f hb178
            refine rw_cons (op_pass (w1n1 rfl rfl rfl rfl) rfl rfl ?_)
            refine rw_cons (op_pass (w1n1 rfl rfl rfl rfl) rfl rfl ?_)
            refine rw_cons (op_pass (w1n1 rfl rfl rfl rfl) rfl rfl ?_)
            refine rw_cons (op_pv (w0 rfl) rfl rfl (pv_pickF (v := (.bool false)) rfl rfl rfl) ?_)
            refine rw_cons (op_pv (w0 rfl) rfl rfl (pv_assign (v := (.bool false)) rfl rfl) ?_)
            refine rw_nil (hK177 _ _ ?_)
            refine hK175 _ _ ?_
            refine cw_ret ?_
            refine fin1 rfl ?_
            have hls := less_same hok (d := d90) (e := d90 + 1) rfl (by omega) (by assumption)
            first
              | exact absurd hls.1 (by assumption)
              | exact ⟨congrArg Value.bool (dec_yes hls.2), hc⟩
end Go.Proofs.Ytielahdnccocdaa
