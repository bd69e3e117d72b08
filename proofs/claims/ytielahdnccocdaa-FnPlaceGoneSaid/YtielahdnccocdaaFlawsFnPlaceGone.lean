/-
  The walk of laws.FnPlaceGone, written by program: each line names the law of one operation. Conditions: those of the theorem.
-/
import Derived.Test.YtielahdnccocdaaProg
import Derived.Test.YtielahdnccocdaaRank
import Derived.Test.YtielahdnccocdaaRank2
import Derived.Test.YtielahdnccocdaaIface
import Derived.Test.YtielahdnccocdaaFspecDrawPlaceOf
import Derived.Test.YtielahdnccocdaaFimplPlaceOf
import Derived.Test.YtielahdnccocdaaFspecPlaceOf
import Derived.Test.YtielahdnccocdaaFlawssameInts
import Derived.Test.YtielahdnccocdaaRank3
import Derived.Test.YtielahdnccocdaaFlawshasInt
import Derived.KernelRfl
namespace Go.Proofs.Ytielahdnccocdaa
open Go Go.RowKit
set_option linter.unusedVariables false
set_option linter.unusedSimpArgs false
namespace FnPlaceGone_okF
theorem T3 : TI Try.prog 3 false (.int .i64 0) 1 8 := TI.mk' Try.underlying3 rfl (by kernel_rfl)
theorem C21 : Callable Try.prog 21 := ⟨_, Try.func21, by kernel_rfl, by kernel_rfl⟩
theorem C22 : Callable Try.prog 22 := ⟨_, Try.func22, by kernel_rfl, by kernel_rfl⟩
theorem C25 : Callable Try.prog 25 := ⟨_, Try.func25, by kernel_rfl, by kernel_rfl⟩
theorem C26 : Callable Try.prog 26 := ⟨_, Try.func26, by kernel_rfl, by kernel_rfl⟩
theorem C27 : Callable Try.prog 27 := ⟨_, Try.func27, by kernel_rfl, by kernel_rfl⟩
end FnPlaceGone_okF
open FnPlaceGone_okF in
set_option maxHeartbeats 4000000 in
theorem FnPlaceGone_ok (A0 : Option Addr) (n0 c0 : Nat) (xs0 : List UInt8) (A1 : Option Addr) (n1 c1 : Nat) (xs1 : List UInt8) (w : World) (hR0 : RS encU 1 w w.heap.size A0 n0 xs0) (hn0 : n0 ≤ c0) (hR1 : RS encU 1 w w.heap.size A1 n1 xs1) (hn1 : n1 ≤ c1) :
    Fn Try.prog 11 [(.slice A0 n0 c0), (.slice A1 n1 c1)] w fun v w' => v = .bool true ∧ Ch [] w w' := by
  have hlen0 := hR0.len
  have hlen1 := hR1.len
  refine fn_of (n := 117) Try.func11 rfl rfl rfl rfl ?_
  have hc : Ch [] w w := Ch.refl _ _
  refine cw_seq fun K1 hK2 => ?_
  refine cw_region fun K3 hK4 => ?_
  refine rw_cons (op_pv (w0 rfl) rfl rfl (pv_assign (v := (.bool false)) rfl rfl) ?_)
  refine rw_nil (hK4 _ _ ?_)
  refine hK2 _ _ ?_
  refine cw_seq fun K5 hK6 => ?_
  refine cw_seq fun K7 hK8 => ?_
  refine cw_region fun K9 hK10 => ?_
  refine rw_cons (op_pv (w0 rfl) rfl rfl (pv_move (v := (.slice A0 n0 c0)) rfl rfl) ?_)
  refine rw_cons (op_pv (w0 rfl) rfl rfl (pv_len Try.underlying28 rfl rfl) ?_)
  refine rw_cons (op_pv (w0 rfl) rfl rfl (pv_gtr rfl rfl rfl) ?_)
  refine rw_cons (op_pv (w0 rfl) rfl rfl (pv_move (v := (.bool (decide (1048576 < (n0 : Int))))) rfl rfl) ?_)
  refine rw_split 19 rfl (fun hb11 => ?_) (fun hb11 => ?_)
  · -- yes
    replace hb11 := of_decide_eq_true hb11
    refine rw_cons (op_pass (w1n2 rfl rfl rfl rfl) rfl rfl ?_)
    refine rw_cons (op_pass (w1n2 rfl rfl rfl rfl) rfl rfl ?_)
    refine rw_cons (op_pass (w1n2 rfl rfl rfl rfl) rfl rfl ?_)
    refine rw_cons (op_pv (w0 rfl) rfl rfl (pv_pickT (v := (.bool true)) rfl rfl rfl) ?_)
    refine rw_nil (hK10 _ _ ?_)
    refine hK8 _ _ ?_
    refine cw_cond rfl (fun h12 => ?_) (fun h12 => ?_)
    · -- then
      clear h12
      refine cw_seq fun K13 hK14 => ?_
      refine cw_region fun K15 hK16 => ?_
      refine rw_cons (op_pv (w0 rfl) rfl rfl (pv_assign (v := (.bool true)) rfl rfl) ?_)
      refine rw_nil (hK16 _ _ ?_)
      refine hK14 _ _ ?_
      refine cw_ret ?_
      refine fin1 rfl ?_
      exact ⟨rfl, hc⟩
    · -- else
      cases h12
  · -- no
    replace hb11 := of_decide_eq_false hb11
    refine rw_cons (op_pv (w1y rfl rfl rfl rfl) rfl rfl (pv_move (v := (.slice A1 n1 c1)) rfl rfl) ?_)
    refine rw_cons (op_pv (w1y rfl rfl rfl rfl) rfl rfl (pv_len Try.underlying28 rfl rfl) ?_)
    refine rw_cons (op_pv (w1y rfl rfl rfl rfl) rfl rfl (pv_gtr rfl rfl rfl) ?_)
    refine rw_cons (op_pv (w0 rfl) rfl rfl (pv_pickF (v := (.bool (decide (1048576 < (n1 : Int))))) rfl rfl rfl) ?_)
    refine rw_nil (hK10 _ _ ?_)
    refine hK8 _ _ ?_
    refine cw_cond rfl (fun h17 => ?_) (fun h17 => ?_)
    · -- then
      replace h17 := of_decide_eq_true h17
      refine cw_seq fun K18 hK19 => ?_
      refine cw_region fun K20 hK21 => ?_
      refine rw_cons (op_pv (w0 rfl) rfl rfl (pv_assign (v := (.bool true)) rfl rfl) ?_)
      refine rw_nil (hK21 _ _ ?_)
      refine hK19 _ _ ?_
      refine cw_ret ?_
      refine fin1 rfl ?_
      exact ⟨rfl, hc⟩
    · -- else
      replace h17 := of_decide_eq_false h17
      refine cw_skip ?_
      refine hK6 _ _ ?_
      refine cw_seq fun K22 hK23 => ?_
      refine cw_region fun K24 hK25 => ?_
      refine rw_cons (op_pv (w0 rfl) rfl rfl (pv_move (v := (.slice A0 n0 c0)) rfl rfl) ?_)
      refine rw_cons (op_call (w0 rfl) rfl rfl (rc_call C25 rfl rfl) (DrawPlaceOf_ok _ _ _ _ _ (hR0.more (by omega)) (by omega)) ?_)
      rintro _ w26 ⟨p28, A31, c32, xs29, m30, rfl, hO33, hl35, hch27⟩
      have hsz36 := hch27.size
      replace hR0 := hR0.ch0 hch27
      replace hR1 := hR1.ch0 hch27
      replace hc := hc.step0 hch27
      have hub34 := hO33.lt
      have hcap37 : xs29.length ≤ c32 := by obtain ⟨_, _, hv, h1, _⟩ := hO33.form; injection hv with _ _ h3; omega
      refine rw_cons (op_pv (w0 rfl) rfl rfl (pv_move (v := (.tuple #[(.int .i64 p28), (.slice A31 xs29.length c32), (.int .i64 m30)])) rfl rfl) ?_)
      refine rw_cons (op_pv (w0 rfl) rfl rfl (pv_ext (v := (.int .i64 p28)) rfl rfl rfl) ?_)
      refine rw_cons (op_pv (w0 rfl) rfl rfl (pv_ext (v := (.slice A31 xs29.length c32)) rfl rfl rfl) ?_)
      refine rw_cons (op_pv (w0 rfl) rfl rfl (pv_ext (v := (.int .i64 m30)) rfl rfl rfl) ?_)
      refine rw_cons (op_pv (w0 rfl) rfl rfl (pv_assign (v := (.int .i64 p28)) rfl rfl) ?_)
      refine rw_cons (op_pv (w0 rfl) rfl rfl (pv_assign (v := (.slice A31 xs29.length c32)) rfl rfl) ?_)
      refine rw_cons (op_pv (w0 rfl) rfl rfl (pv_assign (v := (.int .i64 m30)) rfl rfl) ?_)
      refine rw_nil (hK25 _ _ ?_)
      refine hK23 _ _ ?_
      refine cw_seq fun K38 hK39 => ?_
      refine cw_region fun K40 hK41 => ?_
      refine rw_cons (op_pv (w0 rfl) rfl rfl (pv_move (v := (.int .i64 p28)) rfl rfl) ?_)
      refine rw_cons (op_pv (w0 rfl) rfl rfl (pv_move (v := (.slice A31 xs29.length c32)) rfl rfl) ?_)
      refine rw_cons (op_pv (w0 rfl) rfl rfl (pv_move (v := (.int .i64 m30)) rfl rfl) ?_)
      refine rw_cons (op_call (w0 rfl) rfl rfl (rc_call C22 rfl rfl) (PlaceOf_i p28 _ xs29.length _ xs29 m30 _ (hO33.rs (fun _ => rfl)) (by omega)) ?_)
      rintro _ w42 ⟨A44, c45, rfl, hO46, hch43⟩
      have hsz47 := hch43.size
      replace hR0 := hR0.ch0 hch43
      replace hR1 := hR1.ch0 hch43
      replace hO33 := hO33.ch0 hch43
      replace hc := hc.step0 hch43
      have hub48 := hO46.lt
      have hcap49 : (placeV p28 xs29 m30).length ≤ c45 := by obtain ⟨_, _, hv, h1, _⟩ := hO46.form; injection hv with _ _ h3; omega
      have hnt50 := placeV_le p28 xs29 m30
      have hdj51 : ∀ s ∈ obl (.slice A31 xs29.length c32), s ∉ obl (.slice A44 (placeV p28 xs29 m30).length c45) := fun s hs hs2 => by first | (have h1 := hub34 s hs; have h2 := hO46.off s hs2; omega) | (simp [obl, Value.ownBlock] at hs; done) | (simp [obl, Value.ownBlock] at hs2; done) | (have h1 := hub34 s hs; simp [obl, Value.ownBlock] at hs2; omega)
      refine rw_cons (op_pv (w0 rfl) rfl rfl (pv_move (v := (.tuple #[(.slice A44 (placeV p28 xs29 m30).length c45), (.bool (dec (PlaceOK p28 xs29 m30)))])) rfl rfl) ?_)
      refine rw_cons (op_pv (w0 rfl) rfl rfl (pv_ext (v := (.slice A44 (placeV p28 xs29 m30).length c45)) rfl rfl rfl) ?_)
      refine rw_cons (op_pv (w0 rfl) rfl rfl (pv_ext (v := (.bool (dec (PlaceOK p28 xs29 m30)))) rfl rfl rfl) ?_)
      refine rw_cons (op_pv (w0 rfl) rfl rfl (pv_assign (v := (.slice A44 (placeV p28 xs29 m30).length c45)) rfl rfl) ?_)
      refine rw_cons (op_pv (w0 rfl) rfl rfl (pv_assign (v := (.bool (dec (PlaceOK p28 xs29 m30)))) rfl rfl) ?_)
      refine rw_nil (hK41 _ _ ?_)
      refine hK39 _ _ ?_
      refine cw_seq fun K52 hK53 => ?_
      refine cw_region fun K54 hK55 => ?_
      refine rw_cons (op_pv (w0 rfl) rfl rfl (pv_move (v := (.int .i64 p28)) rfl rfl) ?_)
      refine rw_cons (op_pv (w0 rfl) rfl rfl (pv_move (v := (.slice A31 xs29.length c32)) rfl rfl) ?_)
      refine rw_cons (op_pv (w0 rfl) rfl rfl (pv_move (v := (.int .i64 m30)) rfl rfl) ?_)
      refine rw_cons (op_call (w0 rfl) rfl rfl (rc_call C21 rfl rfl) (PlaceOf_s p28 _ xs29.length _ xs29 m30 _ (hO33.rs (fun _ => rfl)) (by omega)) ?_)
      rintro _ w56 ⟨A58, c59, rfl, hO60, hch57⟩
      have hsz61 := hch57.size
      replace hR0 := hR0.ch0 hch57
      replace hR1 := hR1.ch0 hch57
      replace hO33 := hO33.ch0 hch57
      replace hO46 := hO46.ch0 hch57
      replace hc := hc.step0 hch57
      have hub62 := hO60.lt
      have hcap63 : (placeV p28 xs29 m30).length ≤ c59 := by obtain ⟨_, _, hv, h1, _⟩ := hO60.form; injection hv with _ _ h3; omega
      have hnt64 := placeV_le p28 xs29 m30
      have hdj65 : ∀ s ∈ obl (.slice A31 xs29.length c32), s ∉ obl (.slice A58 (placeV p28 xs29 m30).length c59) := fun s hs hs2 => by first | (have h1 := hub34 s hs; have h2 := hO60.off s hs2; omega) | (simp [obl, Value.ownBlock] at hs; done) | (simp [obl, Value.ownBlock] at hs2; done) | (have h1 := hub34 s hs; simp [obl, Value.ownBlock] at hs2; omega)
      have hdj66 : ∀ s ∈ obl (.slice A44 (placeV p28 xs29 m30).length c45), s ∉ obl (.slice A58 (placeV p28 xs29 m30).length c59) := fun s hs hs2 => by first | (have h1 := hub48 s hs; have h2 := hO60.off s hs2; omega) | (simp [obl, Value.ownBlock] at hs; done) | (simp [obl, Value.ownBlock] at hs2; done) | (have h1 := hub48 s hs; simp [obl, Value.ownBlock] at hs2; omega)
      refine rw_cons (op_pv (w0 rfl) rfl rfl (pv_move (v := (.tuple #[(.slice A58 (placeV p28 xs29 m30).length c59), (.bool (dec (PlaceOK p28 xs29 m30)))])) rfl rfl) ?_)
      refine rw_cons (op_pv (w0 rfl) rfl rfl (pv_ext (v := (.slice A58 (placeV p28 xs29 m30).length c59)) rfl rfl rfl) ?_)
      refine rw_cons (op_pv (w0 rfl) rfl rfl (pv_ext (v := (.bool (dec (PlaceOK p28 xs29 m30)))) rfl rfl rfl) ?_)
      refine rw_cons (op_pv (w0 rfl) rfl rfl (pv_assign (v := (.slice A58 (placeV p28 xs29 m30).length c59)) rfl rfl) ?_)
      refine rw_cons (op_pv (w0 rfl) rfl rfl (pv_assign (v := (.bool (dec (PlaceOK p28 xs29 m30)))) rfl rfl) ?_)
      refine rw_nil (hK55 _ _ ?_)
      refine hK53 _ _ ?_
      refine cw_seq fun K67 hK68 => ?_
      refine cw_seq fun K69 hK70 => ?_
      refine cw_region fun K71 hK72 => ?_
      refine rw_cons (op_pv (w0 rfl) rfl rfl (pv_move (v := (.bool (dec (PlaceOK p28 xs29 m30)))) rfl rfl) ?_)
      refine rw_cons (op_pv (w0 rfl) rfl rfl (pv_move (v := (.bool (dec (PlaceOK p28 xs29 m30)))) rfl rfl) ?_)
      refine rw_cons (op_pv (w0 rfl) rfl rfl (pv_neBs Try.underlying4 rfl rfl rfl) ?_)
      refine rw_cons (op_pv (w0 rfl) rfl rfl (pv_move (v := (.bool false)) rfl rfl) ?_)
      refine rw_cons (op_pv (w1y rfl rfl rfl rfl) rfl rfl (pv_move (v := (.slice A44 (placeV p28 xs29 m30).length c45)) rfl rfl) ?_)
      refine rw_cons (op_pv (w1y rfl rfl rfl rfl) rfl rfl (pv_move (v := (.slice A58 (placeV p28 xs29 m30).length c59)) rfl rfl) ?_)
      refine rw_cons (op_call (w1y rfl rfl rfl rfl) rfl rfl (rc_call C26 rfl rfl) (sameInts_same _ _ _ _ _ _ (placeV p28 xs29 m30) _ (hO46.rs (fun _ => rfl)) (hO60.rs (fun _ => rfl)) (by omega)) ?_)
      rintro _ w73 ⟨rfl, hch74⟩
      have hsz75 := hch74.size
      replace hR0 := hR0.ch0 hch74
      replace hR1 := hR1.ch0 hch74
      replace hO33 := hO33.ch0 hch74
      replace hO46 := hO46.ch0 hch74
      replace hO60 := hO60.ch0 hch74
      replace hc := hc.step0 hch74
      refine rw_cons (op_pv (w1y rfl rfl rfl rfl) rfl rfl (pv_not rfl rfl) ?_)
      refine rw_cons (op_pv (w0 rfl) rfl rfl (pv_pickF (v := (.bool (!true))) rfl rfl rfl) ?_)
      refine rw_cons (op_pv (w0 rfl) rfl rfl (pv_move (v := (.bool (!true))) rfl rfl) ?_)
      refine rw_cons (op_pv (w1y rfl rfl rfl rfl) rfl rfl (pv_move (v := (.bool (dec (PlaceOK p28 xs29 m30)))) rfl rfl) ?_)
      refine rw_cons (op_pv (w1y rfl rfl rfl rfl) rfl rfl (pv_not rfl rfl) ?_)
      refine rw_cons (op_pv (w0 rfl) rfl rfl (pv_pickF (v := (.bool (!(dec (PlaceOK p28 xs29 m30))))) rfl rfl rfl) ?_)
      refine rw_cons (op_pv (w0 rfl) rfl rfl (pv_move (v := (.bool (!(dec (PlaceOK p28 xs29 m30))))) rfl rfl) ?_)
      refine rw_split 57 rfl (fun hb76 => ?_) (fun hb76 => ?_)
      · -- yes
        replace hb76 := not_t hb76
        replace hb76 := dec_f hb76
        refine rw_cons (op_pass (w1n2 rfl rfl rfl rfl) rfl rfl ?_)
        refine rw_cons (op_pass (w1n2 rfl rfl rfl rfl) rfl rfl ?_)
        refine rw_cons (op_pass (w1n2 rfl rfl rfl rfl) rfl rfl ?_)
        refine rw_cons (op_pass (w1n2 rfl rfl rfl rfl) rfl rfl ?_)
        refine rw_cons (op_pv (w0 rfl) rfl rfl (pv_pickT (v := (.bool true)) rfl rfl rfl) ?_)
        refine rw_nil (hK72 _ _ ?_)
        refine hK70 _ _ ?_
        refine cw_cond rfl (fun h77 => ?_) (fun h77 => ?_)
        · -- then
          clear h77
          refine cw_seq fun K78 hK79 => ?_
          refine cw_region fun K80 hK81 => ?_
          refine rw_cons (op_pv (w0 rfl) rfl rfl (pv_move (v := (.bool (dec (PlaceOK p28 xs29 m30)))) rfl rfl) ?_)
          refine rw_cons (op_pv (w0 rfl) rfl rfl (pv_move (v := (.bool (dec (PlaceOK p28 xs29 m30)))) rfl rfl) ?_)
          refine rw_cons (op_pv (w0 rfl) rfl rfl (pv_eqBs Try.underlying4 rfl rfl rfl) ?_)
          refine rw_cons (op_pv (w0 rfl) rfl rfl (pv_move (v := (.bool true)) rfl rfl) ?_)
          refine rw_cons (op_pv (w1y rfl rfl rfl rfl) rfl rfl (pv_move (v := (.slice A44 (placeV p28 xs29 m30).length c45)) rfl rfl) ?_)
          refine rw_cons (op_pv (w1y rfl rfl rfl rfl) rfl rfl (pv_move (v := (.slice A58 (placeV p28 xs29 m30).length c59)) rfl rfl) ?_)
          refine rw_cons (op_call (w1y rfl rfl rfl rfl) rfl rfl (rc_call C26 rfl rfl) (sameInts_same _ _ _ _ _ _ (placeV p28 xs29 m30) _ (hO46.rs (fun _ => rfl)) (hO60.rs (fun _ => rfl)) (by omega)) ?_)
          rintro _ w82 ⟨rfl, hch83⟩
          have hsz84 := hch83.size
          replace hR0 := hR0.ch0 hch83
          replace hR1 := hR1.ch0 hch83
          replace hO33 := hO33.ch0 hch83
          replace hO46 := hO46.ch0 hch83
          replace hO60 := hO60.ch0 hch83
          replace hc := hc.step0 hch83
          refine rw_cons (op_pv (w0 rfl) rfl rfl (pv_pickT (v := (.bool true)) rfl rfl rfl) ?_)
          refine rw_cons (op_pv (w0 rfl) rfl rfl (pv_assign (v := (.bool true)) rfl rfl) ?_)
          refine rw_nil (hK81 _ _ ?_)
          refine hK79 _ _ ?_
          refine cw_ret ?_
          refine fin1 rfl ?_
          first
            | exact ⟨rfl, hc⟩
            | exact absurd rfl ‹¬(placeV p28 xs29 m30 = placeV p28 xs29 m30)›
            | exact ⟨congrArg Value.bool (dec_yes rfl), hc⟩
        · -- else
          cases h77
      · -- no
        replace hb76 := not_f hb76
        replace hb76 := dec_t hb76
        refine rw_cons (op_pv (w1y rfl rfl rfl rfl) rfl rfl (pv_move (v := (.int .i64 m30)) rfl rfl) ?_)
        refine rw_cons (op_pv (w1y rfl rfl rfl rfl) rfl rfl (pv_move (v := (.slice A31 xs29.length c32)) rfl rfl) ?_)
        refine rw_cons (op_pv (w1y rfl rfl rfl rfl) rfl rfl (pv_len Try.underlying24 rfl rfl) ?_)
        refine rw_cons (op_pv (w1y rfl rfl rfl rfl) rfl rfl (pv_eql rfl rfl rfl) ?_)
        refine rw_cons (op_pv (w0 rfl) rfl rfl (pv_pickF (v := (.bool (decide ((m30 : Int) = (xs29.length : Int))))) rfl rfl rfl) ?_)
        refine rw_nil (hK72 _ _ ?_)
        refine hK70 _ _ ?_
        refine cw_cond rfl (fun h85 => ?_) (fun h85 => ?_)
        · -- then
          replace h85 := of_decide_eq_true h85
          refine cw_seq fun K86 hK87 => ?_
          refine cw_region fun K88 hK89 => ?_
          refine rw_cons (op_pv (w0 rfl) rfl rfl (pv_move (v := (.bool (dec (PlaceOK p28 xs29 m30)))) rfl rfl) ?_)
          refine rw_cons (op_pv (w0 rfl) rfl rfl (pv_move (v := (.bool (dec (PlaceOK p28 xs29 m30)))) rfl rfl) ?_)
          refine rw_cons (op_pv (w0 rfl) rfl rfl (pv_eqBs Try.underlying4 rfl rfl rfl) ?_)
          refine rw_cons (op_pv (w0 rfl) rfl rfl (pv_move (v := (.bool true)) rfl rfl) ?_)
          refine rw_cons (op_pv (w1y rfl rfl rfl rfl) rfl rfl (pv_move (v := (.slice A44 (placeV p28 xs29 m30).length c45)) rfl rfl) ?_)
          refine rw_cons (op_pv (w1y rfl rfl rfl rfl) rfl rfl (pv_move (v := (.slice A58 (placeV p28 xs29 m30).length c59)) rfl rfl) ?_)
          refine rw_cons (op_call (w1y rfl rfl rfl rfl) rfl rfl (rc_call C26 rfl rfl) (sameInts_same _ _ _ _ _ _ (placeV p28 xs29 m30) _ (hO46.rs (fun _ => rfl)) (hO60.rs (fun _ => rfl)) (by omega)) ?_)
          rintro _ w90 ⟨rfl, hch91⟩
          have hsz92 := hch91.size
          replace hR0 := hR0.ch0 hch91
          replace hR1 := hR1.ch0 hch91
          replace hO33 := hO33.ch0 hch91
          replace hO46 := hO46.ch0 hch91
          replace hO60 := hO60.ch0 hch91
          replace hc := hc.step0 hch91
          refine rw_cons (op_pv (w0 rfl) rfl rfl (pv_pickT (v := (.bool true)) rfl rfl rfl) ?_)
          refine rw_cons (op_pv (w0 rfl) rfl rfl (pv_assign (v := (.bool true)) rfl rfl) ?_)
          refine rw_nil (hK89 _ _ ?_)
          refine hK87 _ _ ?_
          refine cw_ret ?_
          refine fin1 rfl ?_
          first
            | exact ⟨rfl, hc⟩
            | exact absurd rfl ‹¬(placeV p28 xs29 m30 = placeV p28 xs29 m30)›
            | exact ⟨congrArg Value.bool (dec_yes rfl), hc⟩
        · -- else
          replace h85 := of_decide_eq_false h85
          refine cw_skip ?_
          refine hK68 _ _ ?_
          refine cw_seq fun K93 hK94 => ?_
          have hok : PlaceOK p28 xs29 m30 := by assumption
          have hpl := place_len hok
          have hp1 := hok.1
          have hm1 := hok.2.2
          have hx8 := hok.2.1.1
          have hlx : 0 < xs29.length := by omega
          refine cw_region fun K95 hK96 => ?_
          refine rw_cons (op_pv (w0 rfl) rfl rfl (pv_move (v := (.slice A1 n1 c1)) rfl rfl) ?_)
          refine rw_cons (op_pv (w0 rfl) rfl rfl (pv_len Try.underlying28 rfl rfl) ?_)
          refine rw_cons (op_pv (w0 rfl) rfl rfl (pv_move (v := (.slice A31 xs29.length c32)) rfl rfl) ?_)
          refine rw_cons (op_pv (w0 rfl) rfl rfl (pv_len Try.underlying24 rfl rfl) ?_)
          refine rw_cons (op_pv (w0 rfl) rfl rfl (pv_rem rfl rfl rfl (by omega) (by omega)) ?_)
          have hq97 := Int.emod_nonneg (n1 : Int) (b := (xs29.length : Int)) (by omega); have hq98 := Int.emod_lt_of_pos (n1 : Int) (b := (xs29.length : Int)) (by omega)
          obtain ⟨d99, hd100⟩ : ∃ d : Nat, (n1 : Int) % (xs29.length : Int) = (d : Int) := ⟨((n1 : Int) % (xs29.length : Int)).toNat, by omega⟩
          rw [hd100]
          rw [hd100] at hq97
          rw [hd100] at hq98
          refine rw_cons (op_pv (w0 rfl) rfl rfl (pv_assign (v := (.int .i64 (d99 : Int))) rfl rfl) ?_)
          refine rw_nil (hK96 _ _ ?_)
          refine hK94 _ _ ?_
          refine cw_seq fun K101 hK102 => ?_
          refine cw_drawn (fun u => Ch [] w73 u) (.free 0 (.free 2 (.free 3 (.free 4 (.free 6 (.free 7 (.free 8 (.free 9 (.free 11 (.one 1 true (.one 5 true (.one 10 true (.one 12 true (.free 13 (.free 14 (.free 15 (.free 16 (.free 17 (.done))))))))))))))))))) (by kernel_rfl) (by kernel_rfl) (Ch.refl _ _).drew fun K106 hK107 => ?_
          obtain ⟨w103, hw_, hch104, hsz105⟩ : ∃ w1 : World, w1 = w73.drew ∧ Ch [] w73 w1 ∧ w1.heap.size = w73.heap.size := ⟨_, rfl, (Ch.refl _ _).drew, rfl⟩
          rw [← hw_]; clear hw_
          have hr108 : Ch [] w73 w103 := hch104.sub (fun s hs => by cases hs)
          have hR0_r := hR0
          have hR1_r := hR1
          have hO33_r := hO33
          have hO46_r := hO46
          have hO60_r := hO60
          have hsz109 := hch104.size
          replace hR0 := hR0.ch0 hch104
          replace hR1 := hR1.ch0 hch104
          replace hO33 := hO33.ch0 hch104
          replace hO46 := hO46.ch0 hch104
          replace hO60 := hO60.ch0 hch104
          replace hc := hc.step0 hch104
          refine tw_free rfl (w0 rfl) rfl rfl (fun u hu => (pv_move (v := (.int .i64 p28)) rfl rfl : PV _ _ _ _) u) ?_
          refine tw_free rfl (w0 rfl) rfl rfl (fun u hu => (pv_move (v := (.slice A31 xs29.length c32)) rfl rfl : PV _ _ _ _) u) ?_
          refine tw_free rfl (w0 rfl) rfl rfl (fun u hu => (pv_move (v := (.int .i64 (d99 : Int))) rfl rfl : PV _ _ _ _) u) ?_
          refine tw_free rfl (w0 rfl) rfl rfl (fun u hu => (pv_upto Try.underlying24 T3 rfl rfl rfl (by omega) (by omega) : PV _ _ _ _) u) ?_
          have hR110 : RS encI 1 w103 w103.heap.size A31 d99 (xs29.take d99) := ((hO33.rs (fun _ => rfl))).upto (by omega)
          refine tw_free rfl (w0 rfl) rfl rfl (fun u hu => (pv_move (v := (.slice A31 xs29.length c32)) rfl rfl : PV _ _ _ _) u) ?_
          refine tw_free rfl (w0 rfl) rfl rfl (fun u hu => (pv_move (v := (.int .i64 (d99 : Int))) rfl rfl : PV _ _ _ _) u) ?_
          refine tw_free rfl (w0 rfl) rfl rfl (fun u hu => (pv_add rfl rfl rfl (by omega) (by omega) : PV _ _ _ _) u) ?_
          refine tw_free rfl (w0 rfl) rfl rfl (fun u hu => (pv_from Try.underlying24 T3 rfl rfl rfl (by omega) (by omega) : PV _ _ _ _) u) ?_
          have hR111 : RS encI 1 w103 w103.heap.size (if c32 = (d99 + 1) then A31 else (A31 : Option Addr).map (·.add ((d99 + 1) * 1))) (xs29.length - (d99 + 1)) (xs29.drop (d99 + 1)) := ((hO33.rs (fun _ => rfl))).from (by omega) (by omega)
          refine tw_free rfl (w0 rfl) rfl rfl (fun u hu => (pv_move (v := (.int .i64 m30)) rfl rfl : PV _ _ _ _) u) ?_
          refine tw_one rfl (op_bslice [] Try.underlying24 T3 (w0 rfl) rfl rfl rfl rfl rfl (by simp [Value.cells]) (by decide) ?_)
          intro g113 w112 hg116 hg117 hK115 hch114
          have hO118 : Own encI 1 w112 w103.heap.size 3 (.slice (some ⟨g113, 0, none⟩) 0 0) ([] : List Int) := Blk.own (xs := ([] : List Int)) hK115 (by omega) rfl (by decide) rfl
          have hsz119 := hch114.size
          replace hR0 := hR0.ch0 hch114
          replace hR1 := hR1.ch0 hch114
          replace hO33 := hO33.ch0 hch114
          replace hO46 := hO46.ch0 hch114
          replace hO60 := hO60.ch0 hch114
          replace hR110 := hR110.ch0 hch114
          replace hR111 := hR111.ch0 hch114
          replace hc := hc.step0 hch114
          replace hr108 := hr108.step0 hch114
          have hub120 := hO118.lt
          refine ⟨fun _ => hr108, ?_⟩
          have hdj121 : ∀ s ∈ obl (.slice A31 xs29.length c32), s ∉ obl (.slice (some ⟨g113, 0, none⟩) 0 0) := fun s hs hs2 => by first | (have h1 := hub34 s hs; have h2 := hO118.off s hs2; omega) | (simp [obl, Value.ownBlock] at hs; done) | (simp [obl, Value.ownBlock] at hs2; done) | (have h1 := hub34 s hs; simp [obl, Value.ownBlock] at hs2; omega)
          have hdj122 : ∀ s ∈ obl (.slice A44 (placeV p28 xs29 m30).length c45), s ∉ obl (.slice (some ⟨g113, 0, none⟩) 0 0) := fun s hs hs2 => by first | (have h1 := hub48 s hs; have h2 := hO118.off s hs2; omega) | (simp [obl, Value.ownBlock] at hs; done) | (simp [obl, Value.ownBlock] at hs2; done) | (have h1 := hub48 s hs; simp [obl, Value.ownBlock] at hs2; omega)
          have hdj123 : ∀ s ∈ obl (.slice A58 (placeV p28 xs29 m30).length c59), s ∉ obl (.slice (some ⟨g113, 0, none⟩) 0 0) := fun s hs hs2 => by first | (have h1 := hub62 s hs; have h2 := hO118.off s hs2; omega) | (simp [obl, Value.ownBlock] at hs; done) | (simp [obl, Value.ownBlock] at hs2; done) | (have h1 := hub62 s hs; simp [obl, Value.ownBlock] at hs2; omega)
          refine tw_one rfl (op_append Try.underlying24 T3 (fun _ => rfl) rfl (by decide) (fun _ => one_all rfl) (w0 rfl) rfl rfl rfl rfl rfl hO118 hR110 (by unfold maxLen; first | omega | (simp; omega)) (by first | omega | (simp; omega)) (by omega) ?_)
          rintro v124 w125 hO126 hch127 hs128
          replace hO126 : Own encI 1 w125 w103.heap.size 3 v124 (xs29.take d99) := hO126
          have hl129 : (xs29.take d99).length = 0 + d99 := by first | (have hl0 := hR110.len; omega) | (have hl0 := hR110.len; simp only [List.length_append, List.length_cons, List.length_nil] at hl0 ⊢; omega) | simp | rfl
          have hsz133 := hch127.size
          replace hR0 := hR0.ch hch127 (hO118.off.le (by omega))
          replace hR1 := hR1.ch hch127 (hO118.off.le (by omega))
          replace hO33 := hO33.ch hch127 (dj_as hdj121)
          replace hO46 := hO46.ch hch127 (dj_as hdj122)
          replace hO60 := hO60.ch hch127 (dj_as hdj123)
          replace hR110 := hR110.ch hch127 (hO118.off.le (by omega))
          replace hR111 := hR111.ch hch127 (hO118.off.le (by omega))
          replace hc := (hO118.off.le (by omega)).step hc hch127
          replace hr108 := (hO118.off.le (by omega)).step hr108 hch127
          have hub134 := hO126.lt
          obtain ⟨A135, c136, hv137, hcap138, hcap139⟩ := hO126.form; subst hv137
          have hdj130 : ∀ s ∈ obl (.slice A135 (xs29.take d99).length c136), s ∉ obl (.slice A31 xs29.length c32) := dj_new hs128 (dj_sw hdj121) (fun s hs => by have := hub34 s hs; omega)
          have hdj131 : ∀ s ∈ obl (.slice A135 (xs29.take d99).length c136), s ∉ obl (.slice A44 (placeV p28 xs29 m30).length c45) := dj_new hs128 (dj_sw hdj122) (fun s hs => by have := hub48 s hs; omega)
          have hdj132 : ∀ s ∈ obl (.slice A135 (xs29.take d99).length c136), s ∉ obl (.slice A58 (placeV p28 xs29 m30).length c59) := dj_new hs128 (dj_sw hdj123) (fun s hs => by have := hub62 s hs; omega)
          refine ⟨fun _ => hr108, ?_⟩
          refine tw_one rfl (op_append Try.underlying24 T3 (fun _ => rfl) rfl (by decide) (fun _ => one_all rfl) (w0 rfl) rfl rfl rfl rfl rfl hO126 hR111 (by unfold maxLen; first | omega | (simp; omega)) (by first | omega | (simp; omega)) (by omega) ?_)
          rintro v140 w141 hO142 hch143 hs144
          have hl145 : ((xs29.take d99) ++ (xs29.drop (d99 + 1))).length = (xs29.take d99).length + (xs29.length - (d99 + 1)) := by first | (have hl0 := hR111.len; omega) | (have hl0 := hR111.len; simp only [List.length_append, List.length_cons, List.length_nil] at hl0 ⊢; omega) | simp | rfl
          have hsz149 := hch143.size
          replace hR0 := hR0.ch hch143 (hO126.off.le (by omega))
          replace hR1 := hR1.ch hch143 (hO126.off.le (by omega))
          replace hO33 := hO33.ch hch143 (dj_sw hdj130)
          replace hO46 := hO46.ch hch143 (dj_sw hdj131)
          replace hO60 := hO60.ch hch143 (dj_sw hdj132)
          replace hR110 := hR110.ch hch143 (hO126.off.le (by omega))
          replace hR111 := hR111.ch hch143 (hO126.off.le (by omega))
          replace hc := (hO126.off.le (by omega)).step hc hch143
          replace hr108 := (hO126.off.le (by omega)).step hr108 hch143
          have hub150 := hO142.lt
          obtain ⟨A151, c152, hv153, hcap154, hcap155⟩ := hO142.form; subst hv153
          have hdj146 : ∀ s ∈ obl (.slice A151 ((xs29.take d99) ++ (xs29.drop (d99 + 1))).length c152), s ∉ obl (.slice A31 xs29.length c32) := dj_new hs144 (dj_as hdj130) (fun s hs => by have := hub34 s hs; omega)
          have hdj147 : ∀ s ∈ obl (.slice A151 ((xs29.take d99) ++ (xs29.drop (d99 + 1))).length c152), s ∉ obl (.slice A44 (placeV p28 xs29 m30).length c45) := dj_new hs144 (dj_as hdj131) (fun s hs => by have := hub48 s hs; omega)
          have hdj148 : ∀ s ∈ obl (.slice A151 ((xs29.take d99) ++ (xs29.drop (d99 + 1))).length c152), s ∉ obl (.slice A58 (placeV p28 xs29 m30).length c59) := dj_new hs144 (dj_as hdj132) (fun s hs => by have := hub62 s hs; omega)
          refine ⟨fun _ => hr108, ?_⟩
          refine tw_one rfl (op_call (w0 rfl) rfl rfl (rc_call C22 rfl rfl) (PlaceOf_i p28 _ ((xs29.take d99) ++ (xs29.drop (d99 + 1))).length _ ((xs29.take d99) ++ (xs29.drop (d99 + 1))) m30 _ (hO142.rs (fun _ => rfl)) (by omega)) ?_)
          rintro _ w156 ⟨A158, c159, rfl, hO160, hch157⟩
          have hsz161 := hch157.size
          replace hR0 := hR0.ch0 hch157
          replace hR1 := hR1.ch0 hch157
          replace hO33 := hO33.ch0 hch157
          replace hO46 := hO46.ch0 hch157
          replace hO60 := hO60.ch0 hch157
          replace hR110 := hR110.ch0 hch157
          replace hR111 := hR111.ch0 hch157
          replace hO142 := hO142.ch0 hch157
          replace hc := hc.step0 hch157
          replace hr108 := hr108.step0 hch157
          have hub162 := hO160.lt
          have hcap163 : (placeV p28 ((xs29.take d99) ++ (xs29.drop (d99 + 1))) m30).length ≤ c159 := by obtain ⟨_, _, hv, h1, _⟩ := hO160.form; injection hv with _ _ h3; omega
          have hnt164 := placeV_le p28 ((xs29.take d99) ++ (xs29.drop (d99 + 1))) m30
          refine ⟨fun _ => hr108, ?_⟩
          have hdj165 : ∀ s ∈ obl (.slice A31 xs29.length c32), s ∉ obl (.slice A158 (placeV p28 ((xs29.take d99) ++ (xs29.drop (d99 + 1))) m30).length c159) := fun s hs hs2 => by first | (have h1 := hub34 s hs; have h2 := hO160.off s hs2; omega) | (simp [obl, Value.ownBlock] at hs; done) | (simp [obl, Value.ownBlock] at hs2; done) | (have h1 := hub34 s hs; simp [obl, Value.ownBlock] at hs2; omega)
          have hdj166 : ∀ s ∈ obl (.slice A44 (placeV p28 xs29 m30).length c45), s ∉ obl (.slice A158 (placeV p28 ((xs29.take d99) ++ (xs29.drop (d99 + 1))) m30).length c159) := fun s hs hs2 => by first | (have h1 := hub48 s hs; have h2 := hO160.off s hs2; omega) | (simp [obl, Value.ownBlock] at hs; done) | (simp [obl, Value.ownBlock] at hs2; done) | (have h1 := hub48 s hs; simp [obl, Value.ownBlock] at hs2; omega)
          have hdj167 : ∀ s ∈ obl (.slice A58 (placeV p28 xs29 m30).length c59), s ∉ obl (.slice A158 (placeV p28 ((xs29.take d99) ++ (xs29.drop (d99 + 1))) m30).length c159) := fun s hs hs2 => by first | (have h1 := hub62 s hs; have h2 := hO160.off s hs2; omega) | (simp [obl, Value.ownBlock] at hs; done) | (simp [obl, Value.ownBlock] at hs2; done) | (have h1 := hub62 s hs; simp [obl, Value.ownBlock] at hs2; omega)
          have hdj168 : ∀ s ∈ obl (.slice A151 ((xs29.take d99) ++ (xs29.drop (d99 + 1))).length c152), s ∉ obl (.slice A158 (placeV p28 ((xs29.take d99) ++ (xs29.drop (d99 + 1))) m30).length c159) := fun s hs hs2 => by first | (have h1 := hub150 s hs; have h2 := hO160.off s hs2; omega) | (simp [obl, Value.ownBlock] at hs; done) | (simp [obl, Value.ownBlock] at hs2; done) | (have h1 := hub150 s hs; simp [obl, Value.ownBlock] at hs2; omega)
          refine tw_free rfl (w0 rfl) rfl rfl (fun u hu => (pv_move (v := (.tuple #[(.slice A158 (placeV p28 ((xs29.take d99) ++ (xs29.drop (d99 + 1))) m30).length c159), (.bool (dec (PlaceOK p28 ((xs29.take d99) ++ (xs29.drop (d99 + 1))) m30)))])) rfl rfl : PV _ _ _ _) u) ?_
          refine tw_free rfl (w0 rfl) rfl rfl (fun u hu => (pv_ext (v := (.slice A158 (placeV p28 ((xs29.take d99) ++ (xs29.drop (d99 + 1))) m30).length c159)) rfl rfl rfl : PV _ _ _ _) u) ?_
          refine tw_free rfl (w0 rfl) rfl rfl (fun u hu => (pv_ext (v := (.bool (dec (PlaceOK p28 ((xs29.take d99) ++ (xs29.drop (d99 + 1))) m30)))) rfl rfl rfl : PV _ _ _ _) u) ?_
          refine tw_free rfl (w0 rfl) rfl rfl (fun u hu => (pv_assign (v := (.slice A158 (placeV p28 ((xs29.take d99) ++ (xs29.drop (d99 + 1))) m30).length c159)) rfl rfl : PV _ _ _ _) u) ?_
          refine tw_free rfl (w0 rfl) rfl rfl (fun u hu => (pv_assign (v := (.bool (dec (PlaceOK p28 ((xs29.take d99) ++ (xs29.drop (d99 + 1))) m30)))) rfl rfl : PV _ _ _ _) u) ?_
          clear hO33_r
          clear hO46_r
          clear hO60_r
          clear hR0_r
          clear hR1_r
          refine tw_done (hK107 _ _ ?_)
          refine hK102 _ _ ?_
          refine cw_seq fun K169 hK170 => ?_
          refine cw_seq fun K171 hK172 => ?_
          refine cw_region fun K173 hK174 => ?_
          refine rw_cons (op_pv (w0 rfl) rfl rfl (pv_assign (v := (.int .i64 0)) rfl rfl) ?_)
          refine rw_nil (hK174 _ _ ?_)
          refine hK172 _ _ ?_
          refine cw_block ?_
          refine cw_loop (σ := Nat) (fun k => [(15, (.int .i64 (k : Int))), (6, (.slice A31 xs29.length c32)), (8, (.slice A44 (placeV p28 xs29 m30).length c45)), (12, (.int .i64 (d99 : Int))), (13, (.slice A158 (placeV p28 ((xs29.take d99) ++ (xs29.drop (d99 + 1))) m30).length c159)), (14, (.bool (dec (PlaceOK p28 ((xs29.take d99) ++ (xs29.drop (d99 + 1))) m30))))]) (fun k W => (k ≤ (placeV p28 xs29 m30).length) ∧ RS encU 1 W w.heap.size A0 n0 xs0 ∧ RS encU 1 W w.heap.size A1 n1 xs1 ∧ Own encI 1 W w.heap.size 3 (.slice A31 xs29.length c32) xs29 ∧ Own encI 1 W w26.heap.size 3 (.slice A44 (placeV p28 xs29 m30).length c45) (placeV p28 xs29 m30) ∧ Own encI 1 W w42.heap.size 3 (.slice A58 (placeV p28 xs29 m30).length c59) (placeV p28 xs29 m30) ∧ RS encI 1 W w103.heap.size A31 d99 (xs29.take d99) ∧ RS encI 1 W w103.heap.size (if c32 = (d99 + 1) then A31 else (A31 : Option Addr).map (·.add ((d99 + 1) * 1))) (xs29.length - (d99 + 1)) (xs29.drop (d99 + 1)) ∧ Own encI 1 W w103.heap.size 3 (.slice A151 ((xs29.take d99) ++ (xs29.drop (d99 + 1))).length c152) ((xs29.take d99) ++ (xs29.drop (d99 + 1))) ∧ Own encI 1 W w141.heap.size 3 (.slice A158 (placeV p28 ((xs29.take d99) ++ (xs29.drop (d99 + 1))) m30).length c159) (placeV p28 ((xs29.take d99) ++ (xs29.drop (d99 + 1))) m30) ∧ Ch [] w W ∧ w103.heap.size ≤ W.heap.size ∧ w141.heap.size ≤ W.heap.size ∧ w26.heap.size ≤ W.heap.size ∧ w42.heap.size ≤ W.heap.size) (fun k => (placeV p28 xs29 m30).length - k) 0 ?_ ?_ ?_
          · exact ⟨rfl, rfl, rfl, rfl, rfl, rfl, trivial⟩
          · refine ⟨Nat.zero_le _, hR0, hR1, hO33, hO46, hO60, hR110, hR111, hO142, hO160, hc, (by omega), (by omega), (by omega), (by omega)⟩
          · rintro k J183 w175 ⟨hk, hR0, hR1, hO33, hO46, hO60, hR110, hR111, hO142, hO160, hc, hmono176, hmono177, hmono178, hmono179⟩ K180 hK181
            have hsz185 := hc.size
            have hub186 := hO33.lt
            have hub187 := hO46.lt
            have hub188 := hO60.lt
            have hub189 := hO142.lt
            have hub190 := hO160.lt
            refine cw_seq fun K191 hK192 => ?_
            refine cw_seq fun K193 hK194 => ?_
            refine cw_region fun K195 hK196 => ?_
            refine rw_cons (op_pv (w0 rfl) rfl rfl (pv_move (v := (.int .i64 (k : Int))) rfl rfl) ?_)
            refine rw_cons (op_pv (w0 rfl) rfl rfl (pv_move (v := (.slice A44 (placeV p28 xs29 m30).length c45)) rfl rfl) ?_)
            refine rw_cons (op_pv (w0 rfl) rfl rfl (pv_len Try.underlying24 rfl rfl) ?_)
            refine rw_cons (op_pv (w0 rfl) rfl rfl (pv_lss rfl rfl rfl) ?_)
            refine rw_nil (hK196 _ _ ?_)
            refine hK194 _ _ ?_
            refine cw_cond rfl (fun h197 => ?_) (fun h197 => ?_)
            · -- then
              replace h197 := of_decide_eq_true h197
              refine cw_skip ?_
              refine hK192 _ _ ?_
              refine cw_seq fun K198 hK199 => ?_
              refine cw_block ?_
              refine cw_seq fun K200 hK201 => ?_
              refine cw_drawn (fun u => Ch [] w175 u) (.free 0 (.free 1 (.free 2 (.free 3 (.free 4 (.free 5 (.free 6 (.free 7 (.free 8 (.free 9 (.free 10 (.free 11 (.free 12 (.free 13 (.free 14 (.one 15 true (.free 16 (.free 17 (.done))))))))))))))))))) (by kernel_rfl) (by kernel_rfl) (Ch.refl _ _).drew fun K205 hK206 => ?_
              obtain ⟨w202, hw_, hch203, hsz204⟩ : ∃ w1 : World, w1 = w175.drew ∧ Ch [] w175 w1 ∧ w1.heap.size = w175.heap.size := ⟨_, rfl, (Ch.refl _ _).drew, rfl⟩
              rw [← hw_]; clear hw_
              have hr207 : Ch [] w175 w202 := hch203.sub (fun s hs => by cases hs)
              have hR0_r := hR0
              have hR1_r := hR1
              have hO33_r := hO33
              have hO46_r := hO46
              have hO60_r := hO60
              have hR110_r := hR110
              have hR111_r := hR111
              have hO142_r := hO142
              have hO160_r := hO160
              have hsz208 := hch203.size
              replace hR0 := hR0.ch0 hch203
              replace hR1 := hR1.ch0 hch203
              replace hO33 := hO33.ch0 hch203
              replace hO46 := hO46.ch0 hch203
              replace hO60 := hO60.ch0 hch203
              replace hR110 := hR110.ch0 hch203
              replace hR111 := hR111.ch0 hch203
              replace hO142 := hO142.ch0 hch203
              replace hO160 := hO160.ch0 hch203
              replace hc := hc.step0 hch203
              refine tw_free rfl (w0 rfl) rfl rfl (fun u hu => (pv_move (v := (.slice A44 (placeV p28 xs29 m30).length c45)) rfl rfl : PV _ _ _ _) u) ?_
              refine tw_free rfl (w0 rfl) rfl rfl (fun u hu => (pv_move (v := (.int .i64 (k : Int))) rfl rfl : PV _ _ _ _) u) ?_
              refine tw_free rfl (w0 rfl) rfl rfl (fun u hu => (pv_idx Try.underlying24 T3 rfl rfl rfl ((hO46.rs (fun _ => rfl)).some (k := k) (by omega)) (by omega) (by omega) : PV _ _ _ _) u) ?_
              refine tw_free rfl (w0 rfl) rfl rfl (fun u hu => lv_load T3 rfl rfl (((hO46_r.ch0 hu).rs (fun _ => rfl)).cell0 (k := k) (by omega) rfl)) ?_
              refine tw_free rfl (w0 rfl) rfl rfl (fun u hu => (pv_move (v := (.slice A31 xs29.length c32)) rfl rfl : PV _ _ _ _) u) ?_
              refine tw_free rfl (w0 rfl) rfl rfl (fun u hu => (pv_move (v := (.int .i64 (d99 : Int))) rfl rfl : PV _ _ _ _) u) ?_
              refine tw_free rfl (w0 rfl) rfl rfl (fun u hu => (pv_idx Try.underlying24 T3 rfl rfl rfl ((hO33.rs (fun _ => rfl)).some (k := d99) (by omega)) (by omega) (by omega) : PV _ _ _ _) u) ?_
              refine tw_free rfl (w0 rfl) rfl rfl (fun u hu => lv_load T3 rfl rfl (((hO33_r.ch0 hu).rs (fun _ => rfl)).cell0 (k := d99) (by omega) rfl)) ?_
              refine tw_free rfl (w0 rfl) rfl rfl (fun u hu => (pv_neq rfl rfl rfl : PV _ _ _ _) u) ?_
              refine tw_free rfl (w0 rfl) rfl rfl (fun u hu => (pv_move (v := (.bool (decide (((el (placeV p28 xs29 m30) k) : Int) ≠ (el xs29 d99))))) rfl rfl : PV _ _ _ _) u) ?_
              refine tw_split 107 rfl (fun hb209 => ?_) (fun hb209 => ?_)
              · -- yes
                replace hb209 := of_decide_eq_true hb209
                refine tw_free rfl (w1y rfl rfl rfl rfl) rfl rfl (fun u hu => (pv_move (v := (.slice A158 (placeV p28 ((xs29.take d99) ++ (xs29.drop (d99 + 1))) m30).length c159)) rfl rfl : PV _ _ _ _) u) ?_
                refine tw_free rfl (w1y rfl rfl rfl rfl) rfl rfl (fun u hu => (pv_move (v := (.slice A44 (placeV p28 xs29 m30).length c45)) rfl rfl : PV _ _ _ _) u) ?_
                refine tw_free rfl (w1y rfl rfl rfl rfl) rfl rfl (fun u hu => (pv_move (v := (.int .i64 (k : Int))) rfl rfl : PV _ _ _ _) u) ?_
                refine tw_free rfl (w1y rfl rfl rfl rfl) rfl rfl (fun u hu => (pv_idx Try.underlying24 T3 rfl rfl rfl ((hO46.rs (fun _ => rfl)).some (k := k) (by omega)) (by omega) (by omega) : PV _ _ _ _) u) ?_
                refine tw_free rfl (w1y rfl rfl rfl rfl) rfl rfl (fun u hu => lv_load T3 rfl rfl (((hO46_r.ch0 hu).rs (fun _ => rfl)).cell0 (k := k) (by omega) rfl)) ?_
                refine tw_one rfl (op_call (w1y rfl rfl rfl rfl) rfl rfl (rc_call C27 rfl rfl) (hasInt_ok _ (placeV p28 ((xs29.take d99) ++ (xs29.drop (d99 + 1))) m30).length _ (placeV p28 ((xs29.take d99) ++ (xs29.drop (d99 + 1))) m30) (el (placeV p28 xs29 m30) k) _ (hO160.rs (fun _ => rfl)) (by omega)) ?_)
                rintro _ w210 ⟨rfl, hch211⟩
                have hsz212 := hch211.size
                replace hR0 := hR0.ch0 hch211
                replace hR1 := hR1.ch0 hch211
                replace hO33 := hO33.ch0 hch211
                replace hO46 := hO46.ch0 hch211
                replace hO60 := hO60.ch0 hch211
                replace hR110 := hR110.ch0 hch211
                replace hR111 := hR111.ch0 hch211
                replace hO142 := hO142.ch0 hch211
                replace hO160 := hO160.ch0 hch211
                replace hc := hc.step0 hch211
                replace hr207 := hr207.step0 hch211
                refine ⟨fun _ => hr207, ?_⟩
                refine tw_free rfl (w1y rfl rfl rfl rfl) rfl rfl (fun u hu => (pv_not rfl rfl : PV _ _ _ _) u) ?_
                refine tw_free rfl (w0 rfl) rfl rfl (fun u hu => (pv_pickT (v := (.bool (!(dec ((el (placeV p28 xs29 m30) k) ∈ (placeV p28 ((xs29.take d99) ++ (xs29.drop (d99 + 1))) m30)))))) rfl rfl rfl : PV _ _ _ _) u) ?_
                clear hO142_r
                clear hO160_r
                clear hO33_r
                clear hO46_r
                clear hO60_r
                clear hR0_r
                clear hR1_r
                clear hR110_r
                clear hR111_r
                refine tw_done (hK206 _ _ ?_)
                refine hK201 _ _ ?_
                refine cw_cond rfl (fun h213 => ?_) (fun h213 => ?_)
                · -- then
                  replace h213 := not_t h213
                  replace h213 := dec_f h213
                  refine cw_seq fun K214 hK215 => ?_
                  refine cw_region fun K216 hK217 => ?_
                  refine rw_cons (op_pv (w0 rfl) rfl rfl (pv_assign (v := (.bool false)) rfl rfl) ?_)
                  refine rw_nil (hK217 _ _ ?_)
                  refine hK215 _ _ ?_
                  refine cw_ret ?_
                  refine fin1 rfl ?_
                  exact absurd (less_mem hok (d := d99) (e := d99 + 1) (i := k) rfl (by omega) (by omega) (by omega) (by assumption)) (by assumption)
                · -- else
                  replace h213 := not_f h213
                  replace h213 := dec_t h213
                  refine cw_skip ?_
                  refine hK199 _ _ ?_
                  refine cw_region fun K218 hK219 => ?_
                  refine rw_cons (op_pv (w0 rfl) rfl rfl (pv_move (v := (.int .i64 (k : Int))) rfl rfl) ?_)
                  refine rw_cons (op_pv (w0 rfl) rfl rfl (pv_add rfl rfl rfl (by omega) (by omega)) ?_)
                  refine rw_cons (op_pv (w0 rfl) rfl rfl (pv_assign (v := (.int .i64 ((k : Int) + 1))) rfl rfl) ?_)
                  refine rw_nil (hK219 _ _ ?_)
                  refine hK181 _ _ (k + 1) ⟨(iv (by omega)), rfl, rfl, rfl, rfl, rfl, trivial⟩ ⟨?_, hR0, hR1, hO33, hO46, hO60, hR110, hR111, hO142, hO160, hc, (by omega), (by omega), (by omega), (by omega)⟩ ?_
                  · omega
                  · (first | omega | (simp only []; omega))
              · -- no
                replace hb209 := of_decide_eq_false hb209
                refine tw_pass rfl (w1n1 rfl rfl rfl rfl) rfl rfl ?_
                refine tw_pass rfl (w1n1 rfl rfl rfl rfl) rfl rfl ?_
                refine tw_pass rfl (w1n1 rfl rfl rfl rfl) rfl rfl ?_
                refine tw_pass rfl (w1n1 rfl rfl rfl rfl) rfl rfl ?_
                refine tw_pass rfl (w1n1 rfl rfl rfl rfl) rfl rfl ?_
                refine tw_one rfl (op_pass (w1n1 rfl rfl rfl rfl) rfl rfl ?_)
                refine ⟨fun _ => hr207, ?_⟩
                refine tw_pass rfl (w1n1 rfl rfl rfl rfl) rfl rfl ?_
                refine tw_free rfl (w0 rfl) rfl rfl (fun u hu => (pv_pickF (v := (.bool false)) rfl rfl rfl : PV _ _ _ _) u) ?_
                clear hO142_r
                clear hO160_r
                clear hO33_r
                clear hO46_r
                clear hO60_r
                clear hR0_r
                clear hR1_r
                clear hR110_r
                clear hR111_r
                refine tw_done (hK206 _ _ ?_)
                refine hK201 _ _ ?_
                refine cw_cond rfl (fun h220 => ?_) (fun h220 => ?_)
                · -- then
                  cases h220
                · -- else
                  clear h220
                  refine cw_skip ?_
                  refine hK199 _ _ ?_
                  refine cw_region fun K221 hK222 => ?_
                  refine rw_cons (op_pv (w0 rfl) rfl rfl (pv_move (v := (.int .i64 (k : Int))) rfl rfl) ?_)
                  refine rw_cons (op_pv (w0 rfl) rfl rfl (pv_add rfl rfl rfl (by omega) (by omega)) ?_)
                  refine rw_cons (op_pv (w0 rfl) rfl rfl (pv_assign (v := (.int .i64 ((k : Int) + 1))) rfl rfl) ?_)
                  refine rw_nil (hK222 _ _ ?_)
                  refine hK181 _ _ (k + 1) ⟨(iv (by omega)), rfl, rfl, rfl, rfl, rfl, trivial⟩ ⟨?_, hR0, hR1, hO33, hO46, hO60, hR110, hR111, hO142, hO160, hc, (by omega), (by omega), (by omega), (by omega)⟩ ?_
                  · omega
                  · (first | omega | (simp only []; omega))
            · -- else
              replace h197 := of_decide_eq_false h197
              refine cw_exit ?_
              refine hK170 _ _ ?_
              refine cw_seq fun K223 hK224 => ?_
              refine cw_region fun K225 hK226 => ?_
              refine rw_cons (op_pv (w0 rfl) rfl rfl (pv_move (v := (.bool (dec (PlaceOK p28 ((xs29.take d99) ++ (xs29.drop (d99 + 1))) m30)))) rfl rfl) ?_)
              refine rw_cons (op_pv (w0 rfl) rfl rfl (pv_assign (v := (.bool (dec (PlaceOK p28 ((xs29.take d99) ++ (xs29.drop (d99 + 1))) m30)))) rfl rfl) ?_)
              refine rw_nil (hK226 _ _ ?_)
              refine hK224 _ _ ?_
              refine cw_ret ?_
              refine fin1 rfl ?_
              exact ⟨congrArg Value.bool (dec_yes (less_ok hok (d := d99) (e := d99 + 1) rfl (by omega) (by omega))), hc⟩
end Go.Proofs.Ytielahdnccocdaa
