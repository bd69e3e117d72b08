/-
  The walk of laws.FnPlaceMore, written by program: each line names the law of one operation. Conditions: those of the theorem.
-/
import Derived.Test.YtielahdnccocdaaProg
import Derived.Test.YtielahdnccocdaaRank
import Derived.Test.YtielahdnccocdaaRank2
import Derived.Test.YtielahdnccocdaaIface
import Derived.Test.YtielahdnccocdaaFspecDrawPlaceOf
import Derived.Test.YtielahdnccocdaaFimplPlaceOf
import Derived.Test.YtielahdnccocdaaFspecPlaceOf
import Derived.Test.YtielahdnccocdaaFlawssameInts
import Derived.KernelRfl
namespace Go.Proofs.Ytielahdnccocdaa
open Go Go.RowKit
set_option linter.unusedVariables false
set_option linter.unusedSimpArgs false
namespace FnPlaceMore_okF
theorem T3 : TI Try.prog 3 false (.int .i64 0) 1 8 := TI.mk' Try.underlying3 rfl (by kernel_rfl)
theorem C21 : Callable Try.prog 21 := ⟨_, Try.func21, by kernel_rfl, by kernel_rfl⟩
theorem C22 : Callable Try.prog 22 := ⟨_, Try.func22, by kernel_rfl, by kernel_rfl⟩
theorem C25 : Callable Try.prog 25 := ⟨_, Try.func25, by kernel_rfl, by kernel_rfl⟩
theorem C26 : Callable Try.prog 26 := ⟨_, Try.func26, by kernel_rfl, by kernel_rfl⟩
end FnPlaceMore_okF
open FnPlaceMore_okF in
set_option maxHeartbeats 4000000 in
theorem FnPlaceMore_ok (A0 : Option Addr) (n0 c0 : Nat) (xs0 : List UInt8) (A1 : Option Addr) (n1 c1 : Nat) (xs1 : List UInt8) (w : World) (hR0 : RS encU 1 w w.heap.size A0 n0 xs0) (hn0 : n0 ≤ c0) (hR1 : RS encU 1 w w.heap.size A1 n1 xs1) (hn1 : n1 ≤ c1) :
    Fn Try.prog 8 [(.slice A0 n0 c0), (.slice A1 n1 c1)] w fun v w' => v = .bool true ∧ Ch [] w w' := by
  have hlen0 := hR0.len
  have hlen1 := hR1.len
  refine fn_of (n := 84) Try.func8 rfl rfl rfl rfl ?_
  have hc : Ch [] w w := Ch.refl _ _
  refine cw_seq fun K1 hK2 => ?_
  refine cw_region fun K3 hK4 => ?_
  refine rw_cons (op_pv (w0 rfl) rfl rfl (pv_assign (v := (.bool false)) rfl rfl) ?_)
  refine rw_nil (hK4 _ _ ?_)
  refine hK2 _ _ ?_
  refine cw_seq fun K5 hK6 => ?_
  refine cw_seq fun K7 hK8 => ?_
  refine cw_region fun K9 hK10 => ?_
  refine rw_cons (op_pv (w0 rfl) rfl rfl (pv_move (v := (.slice A0 n0 c0)) rfl rfl) ?_)
  refine rw_cons (op_pv (w0 rfl) rfl rfl (pv_len Try.underlying28 rfl rfl) ?_)
  refine rw_cons (op_pv (w0 rfl) rfl rfl (pv_gtr rfl rfl rfl) ?_)
  refine rw_cons (op_pv (w0 rfl) rfl rfl (pv_move (v := (.bool (decide (1048576 < (n0 : Int))))) rfl rfl) ?_)
  refine rw_split 18 rfl (fun hb11 => ?_) (fun hb11 => ?_)
  · -- yes
    replace hb11 := of_decide_eq_true hb11
    refine rw_cons (op_pass (w1n2 rfl rfl rfl rfl) rfl rfl ?_)
    refine rw_cons (op_pass (w1n2 rfl rfl rfl rfl) rfl rfl ?_)
    refine rw_cons (op_pass (w1n2 rfl rfl rfl rfl) rfl rfl ?_)
    refine rw_cons (op_pv (w0 rfl) rfl rfl (pv_pickT (v := (.bool true)) rfl rfl rfl) ?_)
    refine rw_nil (hK10 _ _ ?_)
    refine hK8 _ _ ?_
    refine cw_cond rfl (fun h12 => ?_) (fun h12 => ?_)
    · -- then
      clear h12
      refine cw_seq fun K13 hK14 => ?_
      refine cw_region fun K15 hK16 => ?_
      refine rw_cons (op_pv (w0 rfl) rfl rfl (pv_assign (v := (.bool true)) rfl rfl) ?_)
      refine rw_nil (hK16 _ _ ?_)
      refine hK14 _ _ ?_
      refine cw_ret ?_
      refine fin1 rfl ?_
      exact ⟨rfl, hc⟩
    · -- else
      cases h12
  · -- no
    replace hb11 := of_decide_eq_false hb11
    refine rw_cons (op_pv (w1y rfl rfl rfl rfl) rfl rfl (pv_move (v := (.slice A1 n1 c1)) rfl rfl) ?_)
    refine rw_cons (op_pv (w1y rfl rfl rfl rfl) rfl rfl (pv_len Try.underlying28 rfl rfl) ?_)
    refine rw_cons (op_pv (w1y rfl rfl rfl rfl) rfl rfl (pv_gtr rfl rfl rfl) ?_)
    refine rw_cons (op_pv (w0 rfl) rfl rfl (pv_pickF (v := (.bool (decide (1048576 < (n1 : Int))))) rfl rfl rfl) ?_)
    refine rw_nil (hK10 _ _ ?_)
    refine hK8 _ _ ?_
    refine cw_cond rfl (fun h17 => ?_) (fun h17 => ?_)
    · -- then
      replace h17 := of_decide_eq_true h17
      refine cw_seq fun K18 hK19 => ?_
      refine cw_region fun K20 hK21 => ?_
      refine rw_cons (op_pv (w0 rfl) rfl rfl (pv_assign (v := (.bool true)) rfl rfl) ?_)
      refine rw_nil (hK21 _ _ ?_)
      refine hK19 _ _ ?_
      refine cw_ret ?_
      refine fin1 rfl ?_
      exact ⟨rfl, hc⟩
    · -- else
      replace h17 := of_decide_eq_false h17
      refine cw_skip ?_
      refine hK6 _ _ ?_
      refine cw_seq fun K22 hK23 => ?_
      refine cw_region fun K24 hK25 => ?_
      refine rw_cons (op_pv (w0 rfl) rfl rfl (pv_move (v := (.slice A0 n0 c0)) rfl rfl) ?_)
      refine rw_cons (op_call (w0 rfl) rfl rfl (rc_call C25 rfl rfl) (DrawPlaceOf_ok _ _ _ _ _ (hR0.more (by omega)) (by omega)) ?_)
      rintro _ w26 ⟨p28, A31, c32, xs29, m30, rfl, hO33, hl35, hch27⟩
      have hsz36 := hch27.size
      replace hR0 := hR0.ch0 hch27
      replace hR1 := hR1.ch0 hch27
      replace hc := hc.step0 hch27
      have hub34 := hO33.lt
      have hcap37 : xs29.length ≤ c32 := by obtain ⟨_, _, hv, h1, _⟩ := hO33.form; injection hv with _ _ h3; omega
      refine rw_cons (op_pv (w0 rfl) rfl rfl (pv_move (v := (.tuple #[(.int .i64 p28), (.slice A31 xs29.length c32), (.int .i64 m30)])) rfl rfl) ?_)
      refine rw_cons (op_pv (w0 rfl) rfl rfl (pv_ext (v := (.int .i64 p28)) rfl rfl rfl) ?_)
      refine rw_cons (op_pv (w0 rfl) rfl rfl (pv_ext (v := (.slice A31 xs29.length c32)) rfl rfl rfl) ?_)
      refine rw_cons (op_pv (w0 rfl) rfl rfl (pv_ext (v := (.int .i64 m30)) rfl rfl rfl) ?_)
      refine rw_cons (op_pv (w0 rfl) rfl rfl (pv_assign (v := (.int .i64 p28)) rfl rfl) ?_)
      refine rw_cons (op_pv (w0 rfl) rfl rfl (pv_assign (v := (.slice A31 xs29.length c32)) rfl rfl) ?_)
      refine rw_cons (op_pv (w0 rfl) rfl rfl (pv_assign (v := (.int .i64 m30)) rfl rfl) ?_)
      refine rw_nil (hK25 _ _ ?_)
      refine hK23 _ _ ?_
      refine cw_seq fun K38 hK39 => ?_
      refine cw_region fun K40 hK41 => ?_
      refine rw_cons (op_pv (w0 rfl) rfl rfl (pv_move (v := (.int .i64 p28)) rfl rfl) ?_)
      refine rw_cons (op_pv (w0 rfl) rfl rfl (pv_move (v := (.slice A31 xs29.length c32)) rfl rfl) ?_)
      refine rw_cons (op_pv (w0 rfl) rfl rfl (pv_move (v := (.int .i64 m30)) rfl rfl) ?_)
      refine rw_cons (op_call (w0 rfl) rfl rfl (rc_call C22 rfl rfl) (PlaceOf_i p28 _ xs29.length _ xs29 m30 _ (hO33.rs (fun _ => rfl)) (by omega)) ?_)
      rintro _ w42 ⟨A44, c45, rfl, hO46, hch43⟩
      have hsz47 := hch43.size
      replace hR0 := hR0.ch0 hch43
      replace hR1 := hR1.ch0 hch43
      replace hO33 := hO33.ch0 hch43
      replace hc := hc.step0 hch43
      have hub48 := hO46.lt
      have hcap49 : (placeV p28 xs29 m30).length ≤ c45 := by obtain ⟨_, _, hv, h1, _⟩ := hO46.form; injection hv with _ _ h3; omega
      have hnt50 := placeV_le p28 xs29 m30
      refine rw_cons (op_pv (w0 rfl) rfl rfl (pv_move (v := (.tuple #[(.slice A44 (placeV p28 xs29 m30).length c45), (.bool (dec (PlaceOK p28 xs29 m30)))])) rfl rfl) ?_)
      refine rw_cons (op_pv (w0 rfl) rfl rfl (pv_ext (v := (.slice A44 (placeV p28 xs29 m30).length c45)) rfl rfl rfl) ?_)
      refine rw_cons (op_pv (w0 rfl) rfl rfl (pv_ext (v := (.bool (dec (PlaceOK p28 xs29 m30)))) rfl rfl rfl) ?_)
      refine rw_cons (op_pv (w0 rfl) rfl rfl (pv_assign (v := (.slice A44 (placeV p28 xs29 m30).length c45)) rfl rfl) ?_)
      refine rw_cons (op_pv (w0 rfl) rfl rfl (pv_assign (v := (.bool (dec (PlaceOK p28 xs29 m30)))) rfl rfl) ?_)
      refine rw_nil (hK41 _ _ ?_)
      refine hK39 _ _ ?_
      refine cw_seq fun K51 hK52 => ?_
      refine cw_region fun K53 hK54 => ?_
      refine rw_cons (op_pv (w0 rfl) rfl rfl (pv_move (v := (.int .i64 p28)) rfl rfl) ?_)
      refine rw_cons (op_pv (w0 rfl) rfl rfl (pv_move (v := (.slice A31 xs29.length c32)) rfl rfl) ?_)
      refine rw_cons (op_pv (w0 rfl) rfl rfl (pv_move (v := (.int .i64 m30)) rfl rfl) ?_)
      refine rw_cons (op_call (w0 rfl) rfl rfl (rc_call C21 rfl rfl) (PlaceOf_s p28 _ xs29.length _ xs29 m30 _ (hO33.rs (fun _ => rfl)) (by omega)) ?_)
      rintro _ w55 ⟨A57, c58, rfl, hO59, hch56⟩
      have hsz60 := hch56.size
      replace hR0 := hR0.ch0 hch56
      replace hR1 := hR1.ch0 hch56
      replace hO33 := hO33.ch0 hch56
      replace hO46 := hO46.ch0 hch56
      replace hc := hc.step0 hch56
      have hub61 := hO59.lt
      have hcap62 : (placeV p28 xs29 m30).length ≤ c58 := by obtain ⟨_, _, hv, h1, _⟩ := hO59.form; injection hv with _ _ h3; omega
      have hnt63 := placeV_le p28 xs29 m30
      refine rw_cons (op_pv (w0 rfl) rfl rfl (pv_move (v := (.tuple #[(.slice A57 (placeV p28 xs29 m30).length c58), (.bool (dec (PlaceOK p28 xs29 m30)))])) rfl rfl) ?_)
      refine rw_cons (op_pv (w0 rfl) rfl rfl (pv_ext (v := (.slice A57 (placeV p28 xs29 m30).length c58)) rfl rfl rfl) ?_)
      refine rw_cons (op_pv (w0 rfl) rfl rfl (pv_ext (v := (.bool (dec (PlaceOK p28 xs29 m30)))) rfl rfl rfl) ?_)
      refine rw_cons (op_pv (w0 rfl) rfl rfl (pv_assign (v := (.slice A57 (placeV p28 xs29 m30).length c58)) rfl rfl) ?_)
      refine rw_cons (op_pv (w0 rfl) rfl rfl (pv_assign (v := (.bool (dec (PlaceOK p28 xs29 m30)))) rfl rfl) ?_)
      refine rw_nil (hK54 _ _ ?_)
      refine hK52 _ _ ?_
      refine cw_seq fun K64 hK65 => ?_
      refine cw_seq fun K66 hK67 => ?_
      refine cw_region fun K68 hK69 => ?_
      refine rw_cons (op_pv (w0 rfl) rfl rfl (pv_move (v := (.bool (dec (PlaceOK p28 xs29 m30)))) rfl rfl) ?_)
      refine rw_cons (op_pv (w0 rfl) rfl rfl (pv_move (v := (.bool (dec (PlaceOK p28 xs29 m30)))) rfl rfl) ?_)
      refine rw_cons (op_pv (w0 rfl) rfl rfl (pv_neBs Try.underlying4 rfl rfl rfl) ?_)
      refine rw_cons (op_pv (w0 rfl) rfl rfl (pv_move (v := (.bool false)) rfl rfl) ?_)
      refine rw_cons (op_pv (w1y rfl rfl rfl rfl) rfl rfl (pv_move (v := (.slice A44 (placeV p28 xs29 m30).length c45)) rfl rfl) ?_)
      refine rw_cons (op_pv (w1y rfl rfl rfl rfl) rfl rfl (pv_move (v := (.slice A57 (placeV p28 xs29 m30).length c58)) rfl rfl) ?_)
      refine rw_cons (op_call (w1y rfl rfl rfl rfl) rfl rfl (rc_call C26 rfl rfl) (sameInts_same _ _ _ _ _ _ (placeV p28 xs29 m30) _ (hO46.rs (fun _ => rfl)) (hO59.rs (fun _ => rfl)) (by omega)) ?_)
      rintro _ w70 ⟨rfl, hch71⟩
      have hsz72 := hch71.size
      replace hR0 := hR0.ch0 hch71
      replace hR1 := hR1.ch0 hch71
      replace hO33 := hO33.ch0 hch71
      replace hO46 := hO46.ch0 hch71
      replace hO59 := hO59.ch0 hch71
      replace hc := hc.step0 hch71
      refine rw_cons (op_pv (w1y rfl rfl rfl rfl) rfl rfl (pv_not rfl rfl) ?_)
      refine rw_cons (op_pv (w0 rfl) rfl rfl (pv_pickF (v := (.bool (!true))) rfl rfl rfl) ?_)
      refine rw_cons (op_pv (w0 rfl) rfl rfl (pv_move (v := (.bool (!true))) rfl rfl) ?_)
      refine rw_cons (op_pv (w1y rfl rfl rfl rfl) rfl rfl (pv_move (v := (.bool (dec (PlaceOK p28 xs29 m30)))) rfl rfl) ?_)
      refine rw_cons (op_pv (w1y rfl rfl rfl rfl) rfl rfl (pv_not rfl rfl) ?_)
      refine rw_cons (op_pv (w0 rfl) rfl rfl (pv_pickF (v := (.bool (!(dec (PlaceOK p28 xs29 m30))))) rfl rfl rfl) ?_)
      refine rw_nil (hK69 _ _ ?_)
      refine hK67 _ _ ?_
      refine cw_cond rfl (fun h73 => ?_) (fun h73 => ?_)
      · -- then
        replace h73 := not_t h73
        replace h73 := dec_f h73
        refine cw_seq fun K74 hK75 => ?_
        refine cw_region fun K76 hK77 => ?_
        refine rw_cons (op_pv (w0 rfl) rfl rfl (pv_move (v := (.bool (dec (PlaceOK p28 xs29 m30)))) rfl rfl) ?_)
        refine rw_cons (op_pv (w0 rfl) rfl rfl (pv_move (v := (.bool (dec (PlaceOK p28 xs29 m30)))) rfl rfl) ?_)
        refine rw_cons (op_pv (w0 rfl) rfl rfl (pv_eqBs Try.underlying4 rfl rfl rfl) ?_)
        refine rw_cons (op_pv (w0 rfl) rfl rfl (pv_move (v := (.bool true)) rfl rfl) ?_)
        refine rw_cons (op_pv (w1y rfl rfl rfl rfl) rfl rfl (pv_move (v := (.slice A44 (placeV p28 xs29 m30).length c45)) rfl rfl) ?_)
        refine rw_cons (op_pv (w1y rfl rfl rfl rfl) rfl rfl (pv_move (v := (.slice A57 (placeV p28 xs29 m30).length c58)) rfl rfl) ?_)
        refine rw_cons (op_call (w1y rfl rfl rfl rfl) rfl rfl (rc_call C26 rfl rfl) (sameInts_same _ _ _ _ _ _ (placeV p28 xs29 m30) _ (hO46.rs (fun _ => rfl)) (hO59.rs (fun _ => rfl)) (by omega)) ?_)
        rintro _ w78 ⟨rfl, hch79⟩
        have hsz80 := hch79.size
        replace hR0 := hR0.ch0 hch79
        replace hR1 := hR1.ch0 hch79
        replace hO33 := hO33.ch0 hch79
        replace hO46 := hO46.ch0 hch79
        replace hO59 := hO59.ch0 hch79
        replace hc := hc.step0 hch79
        refine rw_cons (op_pv (w0 rfl) rfl rfl (pv_pickT (v := (.bool true)) rfl rfl rfl) ?_)
        refine rw_cons (op_pv (w0 rfl) rfl rfl (pv_assign (v := (.bool true)) rfl rfl) ?_)
        refine rw_nil (hK77 _ _ ?_)
        refine hK75 _ _ ?_
        refine cw_ret ?_
        refine fin1 rfl ?_
        first
          | exact ⟨rfl, hc⟩
          | exact absurd hmo1 (by assumption)
          | exact ⟨congrArg Value.bool (dec_yes hmo2), hc⟩
          | exact absurd rfl ‹¬(placeV p28 xs29 m30 = placeV p28 xs29 m30)›
          | exact ⟨congrArg Value.bool (dec_yes rfl), hc⟩
      · -- else
        replace h73 := not_f h73
        replace h73 := dec_t h73
        refine cw_skip ?_
        refine hK65 _ _ ?_
        refine cw_seq fun K81 hK82 => ?_
        have hok : PlaceOK p28 xs29 m30 := by assumption
        have hpl := place_len hok
        have hp1 := hok.1
        have hm1 := hok.2.2
        have hx8 := hok.2.1.1
        refine cw_region fun K83 hK84 => ?_
        refine rw_cons (op_pv (w0 rfl) rfl rfl (pv_move (v := (.slice A1 n1 c1)) rfl rfl) ?_)
        refine rw_cons (op_pv (w0 rfl) rfl rfl (pv_len Try.underlying28 rfl rfl) ?_)
        refine rw_cons (op_pv (w0 rfl) rfl rfl (pv_move (v := (.int .i64 m30)) rfl rfl) ?_)
        refine rw_cons (op_pv (w0 rfl) rfl rfl (pv_rem rfl rfl rfl (by omega) (by omega)) ?_)
        have hq85 := Int.emod_nonneg (n1 : Int) (b := m30) (by omega); have hq86 := Int.emod_lt_of_pos (n1 : Int) (b := m30) (by omega)
        obtain ⟨d87, hd88⟩ : ∃ d : Nat, (n1 : Int) % m30 = (d : Int) := ⟨((n1 : Int) % m30).toNat, by omega⟩
        rw [hd88]
        rw [hd88] at hq85
        rw [hd88] at hq86
        refine rw_cons (op_pv (w0 rfl) rfl rfl (pv_add rfl rfl rfl (by omega) (by omega)) ?_)
        refine rw_cons (op_pv (w0 rfl) rfl rfl (pv_assign (v := (.int .i64 (1 + (d87 : Int)))) rfl rfl) ?_)
        refine rw_nil (hK84 _ _ ?_)
        refine hK82 _ _ ?_
        refine cw_seq fun K89 hK90 => ?_
        obtain ⟨hmo1, hmo2⟩ := place_more hok (k := 1 + (d87 : Int)) (by omega) (by omega)
        refine cw_region fun K91 hK92 => ?_
        refine rw_cons (op_pv (w0 rfl) rfl rfl (pv_move (v := (.int .i64 p28)) rfl rfl) ?_)
        refine rw_cons (op_pv (w0 rfl) rfl rfl (pv_move (v := (.slice A31 xs29.length c32)) rfl rfl) ?_)
        refine rw_cons (op_pv (w0 rfl) rfl rfl (pv_move (v := (.int .i64 (1 + (d87 : Int)))) rfl rfl) ?_)
        refine rw_cons (op_call (w0 rfl) rfl rfl (rc_call C22 rfl rfl) (PlaceOf_i p28 _ xs29.length _ xs29 (1 + (d87 : Int)) _ (hO33.rs (fun _ => rfl)) (by omega)) ?_)
        rintro _ w93 ⟨A95, c96, rfl, hO97, hch94⟩
        have hsz98 := hch94.size
        replace hR0 := hR0.ch0 hch94
        replace hR1 := hR1.ch0 hch94
        replace hO33 := hO33.ch0 hch94
        replace hO46 := hO46.ch0 hch94
        replace hO59 := hO59.ch0 hch94
        replace hc := hc.step0 hch94
        have hub99 := hO97.lt
        have hcap100 : (placeV p28 xs29 (1 + (d87 : Int))).length ≤ c96 := by obtain ⟨_, _, hv, h1, _⟩ := hO97.form; injection hv with _ _ h3; omega
        have hnt101 := placeV_le p28 xs29 (1 + (d87 : Int))
        refine rw_cons (op_pv (w0 rfl) rfl rfl (pv_move (v := (.tuple #[(.slice A95 (placeV p28 xs29 (1 + (d87 : Int))).length c96), (.bool (dec (PlaceOK p28 xs29 (1 + (d87 : Int)))))])) rfl rfl) ?_)
        refine rw_cons (op_pv (w0 rfl) rfl rfl (pv_ext (v := (.slice A95 (placeV p28 xs29 (1 + (d87 : Int))).length c96)) rfl rfl rfl) ?_)
        refine rw_cons (op_pv (w0 rfl) rfl rfl (pv_ext (v := (.bool (dec (PlaceOK p28 xs29 (1 + (d87 : Int)))))) rfl rfl rfl) ?_)
        refine rw_cons (op_pv (w0 rfl) rfl rfl (pv_assign (v := (.slice A95 (placeV p28 xs29 (1 + (d87 : Int))).length c96)) rfl rfl) ?_)
        refine rw_cons (op_pv (w0 rfl) rfl rfl (pv_assign (v := (.bool (dec (PlaceOK p28 xs29 (1 + (d87 : Int)))))) rfl rfl) ?_)
        refine rw_nil (hK92 _ _ ?_)
        refine hK90 _ _ ?_
        refine cw_seq fun K102 hK103 => ?_
        refine cw_region fun K104 hK105 => ?_
        refine rw_cons (op_pv (w0 rfl) rfl rfl (pv_move (v := (.bool (dec (PlaceOK p28 xs29 (1 + (d87 : Int)))))) rfl rfl) ?_)
        refine rw_cons (op_pv (w0 rfl) rfl rfl (pv_move (v := (.bool (dec (PlaceOK p28 xs29 (1 + (d87 : Int)))))) rfl rfl) ?_)
        refine rw_split 77 rfl (fun hb106 => ?_) (fun hb106 => ?_)
        · -- yes
          replace hb106 := dec_t hb106
          refine rw_cons (op_pv (w1y rfl rfl rfl rfl) rfl rfl (pv_move (v := (.slice A44 (placeV p28 xs29 m30).length c45)) rfl rfl) ?_)
          refine rw_cons (op_pv (w1y rfl rfl rfl rfl) rfl rfl (pv_move (v := (.int .i64 (1 + (d87 : Int)))) rfl rfl) ?_)
          refine rw_cons (op_pv (w1y rfl rfl rfl rfl) rfl rfl (pv_upto Try.underlying24 T3 rfl rfl rfl (by omega) (by omega)) ?_)
          have hR107 : RS encI 1 w93 w93.heap.size A44 (1 + (d87 : Int)).toNat ((placeV p28 xs29 m30).take (1 + (d87 : Int)).toNat) := ((hO46.rs (fun _ => rfl))).upto (by omega)
          refine rw_cons (op_pv (w1y rfl rfl rfl rfl) rfl rfl (pv_move (v := (.slice A95 (placeV p28 xs29 (1 + (d87 : Int))).length c96)) rfl rfl) ?_)
          refine rw_cons (op_call (w1y rfl rfl rfl rfl) rfl rfl (rc_call C26 rfl rfl) (sameInts_ok _ _ _ _ _ _ ((placeV p28 xs29 m30).take (1 + (d87 : Int)).toNat) (placeV p28 xs29 (1 + (d87 : Int))) _ (hR107.more (by omega)) (hO97.rs (fun _ => rfl)) (by omega)) ?_)
          rintro _ w108 ⟨rfl, hch109⟩
          have hsz110 := hch109.size
          replace hR0 := hR0.ch0 hch109
          replace hR1 := hR1.ch0 hch109
          replace hO33 := hO33.ch0 hch109
          replace hO46 := hO46.ch0 hch109
          replace hO59 := hO59.ch0 hch109
          replace hO97 := hO97.ch0 hch109
          replace hR107 := hR107.ch0 hch109
          replace hc := hc.step0 hch109
          refine rw_cons (op_pv (w0 rfl) rfl rfl (pv_pickT (v := (.bool (dec (((placeV p28 xs29 m30).take (1 + (d87 : Int)).toNat) = (placeV p28 xs29 (1 + (d87 : Int))))))) rfl rfl rfl) ?_)
          refine rw_cons (op_pv (w0 rfl) rfl rfl (pv_assign (v := (.bool (dec (((placeV p28 xs29 m30).take (1 + (d87 : Int)).toNat) = (placeV p28 xs29 (1 + (d87 : Int))))))) rfl rfl) ?_)
          refine rw_nil (hK105 _ _ ?_)
          refine hK103 _ _ ?_
          refine cw_ret ?_
          refine fin1 rfl ?_
          first
            | exact ⟨rfl, hc⟩
            | exact absurd hmo1 (by assumption)
            | exact ⟨congrArg Value.bool (dec_yes hmo2), hc⟩
            | exact absurd rfl ‹¬(placeV p28 xs29 m30 = placeV p28 xs29 m30)›
            | exact ⟨congrArg Value.bool (dec_yes rfl), hc⟩
        · -- no
          replace hb106 := dec_f hb106
          refine rw_cons (op_pass (w1n1 rfl rfl rfl rfl) rfl rfl ?_)
          refine rw_cons (op_pass (w1n1 rfl rfl rfl rfl) rfl rfl ?_)
          refine rw_cons (op_pass (w1n1 rfl rfl rfl rfl) rfl rfl ?_)
          refine rw_cons (op_pass (w1n1 rfl rfl rfl rfl) rfl rfl ?_)
          refine rw_cons (op_pass (w1n1 rfl rfl rfl rfl) rfl rfl ?_)
          refine rw_cons (op_pv (w0 rfl) rfl rfl (pv_pickF (v := (.bool false)) rfl rfl rfl) ?_)
          refine rw_cons (op_pv (w0 rfl) rfl rfl (pv_assign (v := (.bool false)) rfl rfl) ?_)
          refine rw_nil (hK105 _ _ ?_)
          refine hK103 _ _ ?_
          refine cw_ret ?_
          refine fin1 rfl ?_
          first
            | exact ⟨rfl, hc⟩
            | exact absurd hmo1 (by assumption)
            | exact ⟨congrArg Value.bool (dec_yes hmo2), hc⟩
            | exact absurd rfl ‹¬(placeV p28 xs29 m30 = placeV p28 xs29 m30)›
            | exact ⟨congrArg Value.bool (dec_yes rfl), hc⟩
end Go.Proofs.Ytielahdnccocdaa
