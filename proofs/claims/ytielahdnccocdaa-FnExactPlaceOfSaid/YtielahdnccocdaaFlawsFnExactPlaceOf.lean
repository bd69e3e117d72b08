/-
  The walk of laws.FnExactPlaceOf, written by program: each line names the law of one operation. Conditions: those of the theorem.
-/
import Derived.Test.YtielahdnccocdaaProg
import Derived.Test.YtielahdnccocdaaFlawstoIntS
import Derived.Test.YtielahdnccocdaaFlawseqIntS
import Derived.Test.YtielahdnccocdaaFlawsmarkIntS
import Derived.Test.YtielahdnccocdaaFlawsheldIntS
import Derived.Test.YtielahdnccocdaaFimplPlaceOf
import Derived.Test.YtielahdnccocdaaFspecPlaceOf
import Derived.KernelRfl
namespace Go.Proofs.Ytielahdnccocdaa
open Go Go.RowKit
set_option linter.unusedVariables false
set_option linter.unusedSimpArgs false
namespace FnExactPlaceOf_okF
theorem C16 : Callable Try.prog 16 := ⟨_, Try.func16, by kernel_rfl, by kernel_rfl⟩
theorem C18 : Callable Try.prog 18 := ⟨_, Try.func18, by kernel_rfl, by kernel_rfl⟩
theorem C21 : Callable Try.prog 21 := ⟨_, Try.func21, by kernel_rfl, by kernel_rfl⟩
theorem C22 : Callable Try.prog 22 := ⟨_, Try.func22, by kernel_rfl, by kernel_rfl⟩
theorem C23 : Callable Try.prog 23 := ⟨_, Try.func23, by kernel_rfl, by kernel_rfl⟩
theorem C24 : Callable Try.prog 24 := ⟨_, Try.func24, by kernel_rfl, by kernel_rfl⟩
end FnExactPlaceOf_okF
open FnExactPlaceOf_okF in
set_option maxHeartbeats 4000000 in
theorem FnExactPlaceOf_ok (a0 : Int) (A1 : Option Addr) (n1 c1 : Nat) (xs1 : List Int) (a2 : Int) (w : World) (ha0 : -9223372036854775808 ≤ a0) (hb0 : a0 ≤ 9223372036854775807) (hR1 : RS encI 1 w w.heap.size A1 n1 xs1) (hn1 : n1 ≤ c1) (ha2 : -9223372036854775808 ≤ a2) (hb2 : a2 ≤ 9223372036854775807) :
    Fn Try.prog 7 [(.int .i64 a0), (.slice A1 n1 c1), (.int .i64 a2)] w fun v w' => v = .bool true ∧ Ch [] w w' := by
  have hlen1 := hR1.len
  refine fn_of (n := 103) Try.func7 rfl rfl rfl rfl ?_
  have hc : Ch [] w w := Ch.refl _ _
  refine cw_seq fun K1 hK2 => ?_
  refine cw_region fun K3 hK4 => ?_
  refine rw_cons (op_pv (w0 rfl) rfl rfl (pv_assign (v := (.bool false)) rfl rfl) ?_)
  refine rw_nil (hK4 _ _ ?_)
  refine hK2 _ _ ?_
  refine cw_seq fun K5 hK6 => ?_
  refine cw_seq fun K7 hK8 => ?_
  refine cw_region fun K9 hK10 => ?_
  refine rw_cons (op_pv (w0 rfl) rfl rfl (pv_move (v := (.slice A1 n1 c1)) rfl rfl) ?_)
  refine rw_cons (op_pv (w0 rfl) rfl rfl (pv_len Try.underlying24 rfl rfl) ?_)
  refine rw_cons (op_pv (w0 rfl) rfl rfl (pv_gtr rfl rfl rfl) ?_)
  refine rw_nil (hK10 _ _ ?_)
  refine hK8 _ _ ?_
  refine cw_cond rfl (fun h11 => ?_) (fun h11 => ?_)
  · -- then
    replace h11 := of_decide_eq_true h11
    refine cw_seq fun K12 hK13 => ?_
    refine cw_region fun K14 hK15 => ?_
    refine rw_cons (op_pv (w0 rfl) rfl rfl (pv_assign (v := (.bool true)) rfl rfl) ?_)
    refine rw_nil (hK15 _ _ ?_)
    refine hK13 _ _ ?_
    refine cw_ret ?_
    refine fin1 rfl ?_
    first
      | exact ⟨rfl, hc⟩
      | (exfalso; omega)
      | exact ⟨congrArg Value.bool (decide_eq_true (by omega)), hc⟩
      | exact absurd rfl ‹_ ≠ _›
      | (exfalso; simp_all; done)
  · -- else
    replace h11 := of_decide_eq_false h11
    refine cw_skip ?_
    refine hK6 _ _ ?_
    refine cw_seq fun K16 hK17 => ?_
    refine cw_region fun K18 hK19 => ?_
    refine rw_cons (op_pv (w0 rfl) rfl rfl (pv_move (v := (.int .i64 a0)) rfl rfl) ?_)
    refine rw_cons (op_pv (w0 rfl) rfl rfl (pv_move (v := (.slice A1 n1 c1)) rfl rfl) ?_)
    refine rw_cons (op_call (w0 rfl) rfl rfl (rc_call C16 rfl rfl) (toIntS_ok _ _ _ _ _ (hR1.more (by omega)) (by omega)) ?_)
    rintro _ w20 ⟨v21, rfl, hO22, hch23⟩
    have hsz24 := hch23.size
    replace hR1 := hR1.ch0 hch23
    replace hc := hc.step0 hch23
    obtain ⟨A25, c26, hv27, hle28, hmx29⟩ := hO22.form; subst hv27
    have hub30 := hO22.lt
    refine rw_cons (op_pv (w0 rfl) rfl rfl (pv_move (v := (.int .i64 a2)) rfl rfl) ?_)
    refine rw_cons (op_call (w0 rfl) rfl rfl (rc_call C21 rfl rfl) (PlaceOf_s a0 _ xs1.length _ xs1 a2 _ (hO22.rs (fun _ => rfl)) (by omega)) ?_)
    rintro _ w31 ⟨A33, c34, rfl, hO35, hch32⟩
    have hsz36 := hch32.size
    replace hR1 := hR1.ch0 hch32
    replace hO22 := hO22.ch0 hch32
    replace hc := hc.step0 hch32
    have hub37 := hO35.lt
    have hcap38 : (placeV a0 xs1 a2).length ≤ c34 := by obtain ⟨_, _, hv, h1, _⟩ := hO35.form; injection hv with _ _ h3; omega
    have hnt39 := placeV_le a0 xs1 a2
    refine rw_cons (op_pv (w0 rfl) rfl rfl (pv_move (v := (.tuple #[(.slice A33 (placeV a0 xs1 a2).length c34), (.bool (dec (PlaceOK a0 xs1 a2)))])) rfl rfl) ?_)
    refine rw_cons (op_pv (w0 rfl) rfl rfl (pv_ext (v := (.slice A33 (placeV a0 xs1 a2).length c34)) rfl rfl rfl) ?_)
    refine rw_cons (op_pv (w0 rfl) rfl rfl (pv_ext (v := (.bool (dec (PlaceOK a0 xs1 a2)))) rfl rfl rfl) ?_)
    refine rw_cons (op_pv (w0 rfl) rfl rfl (pv_assign (v := (.slice A33 (placeV a0 xs1 a2).length c34)) rfl rfl) ?_)
    refine rw_cons (op_pv (w0 rfl) rfl rfl (pv_assign (v := (.bool (dec (PlaceOK a0 xs1 a2)))) rfl rfl) ?_)
    refine rw_nil (hK19 _ _ ?_)
    refine hK17 _ _ ?_
    refine cw_seq fun K40 hK41 => ?_
    refine cw_region fun K42 hK43 => ?_
    refine rw_cons (op_pv (w0 rfl) rfl rfl (pv_move (v := (.slice A1 n1 c1)) rfl rfl) ?_)
    refine rw_cons (op_call (w0 rfl) rfl rfl (rc_call C16 rfl rfl) (toIntS_ok _ _ _ _ _ (hR1.more (by omega)) (by omega)) ?_)
    rintro _ w44 ⟨v45, rfl, hO46, hch47⟩
    have hsz48 := hch47.size
    replace hR1 := hR1.ch0 hch47
    replace hO22 := hO22.ch0 hch47
    replace hO35 := hO35.ch0 hch47
    replace hc := hc.step0 hch47
    obtain ⟨A49, c50, hv51, hle52, hmx53⟩ := hO46.form; subst hv51
    have hub54 := hO46.lt
    refine rw_cons (op_pv (w0 rfl) rfl rfl (pv_assign (v := (.slice A49 xs1.length c50)) rfl rfl) ?_)
    refine rw_nil (hK43 _ _ ?_)
    refine hK41 _ _ ?_
    refine cw_seq fun K55 hK56 => ?_
    refine cw_region fun K57 hK58 => ?_
    refine rw_cons (op_pv (w0 rfl) rfl rfl (pv_move (v := (.int .i64 a0)) rfl rfl) ?_)
    refine rw_cons (op_pv (w0 rfl) rfl rfl (pv_move (v := (.slice A49 xs1.length c50)) rfl rfl) ?_)
    refine rw_cons (op_pv (w0 rfl) rfl rfl (pv_move (v := (.int .i64 a2)) rfl rfl) ?_)
    refine rw_cons (op_call (w0 rfl) rfl rfl (rc_call C22 rfl rfl) (PlaceOf_i a0 _ xs1.length _ xs1 a2 _ (hO46.rs (fun _ => rfl)) (by omega)) ?_)
    rintro _ w59 ⟨A61, c62, rfl, hO63, hch60⟩
    have hsz64 := hch60.size
    replace hR1 := hR1.ch0 hch60
    replace hO22 := hO22.ch0 hch60
    replace hO35 := hO35.ch0 hch60
    replace hO46 := hO46.ch0 hch60
    replace hc := hc.step0 hch60
    have hub65 := hO63.lt
    have hcap66 : (placeV a0 xs1 a2).length ≤ c62 := by obtain ⟨_, _, hv, h1, _⟩ := hO63.form; injection hv with _ _ h3; omega
    have hnt67 := placeV_le a0 xs1 a2
    refine rw_cons (op_pv (w0 rfl) rfl rfl (pv_move (v := (.tuple #[(.slice A61 (placeV a0 xs1 a2).length c62), (.bool (dec (PlaceOK a0 xs1 a2)))])) rfl rfl) ?_)
    refine rw_cons (op_pv (w0 rfl) rfl rfl (pv_ext (v := (.slice A61 (placeV a0 xs1 a2).length c62)) rfl rfl rfl) ?_)
    refine rw_cons (op_pv (w0 rfl) rfl rfl (pv_ext (v := (.bool (dec (PlaceOK a0 xs1 a2)))) rfl rfl rfl) ?_)
    refine rw_cons (op_pv (w0 rfl) rfl rfl (pv_assign (v := (.slice A61 (placeV a0 xs1 a2).length c62)) rfl rfl) ?_)
    refine rw_cons (op_pv (w0 rfl) rfl rfl (pv_assign (v := (.bool (dec (PlaceOK a0 xs1 a2)))) rfl rfl) ?_)
    refine rw_nil (hK58 _ _ ?_)
    refine hK56 _ _ ?_
    refine cw_seq fun K68 hK69 => ?_
    refine cw_seq fun K70 hK71 => ?_
    refine cw_region fun K72 hK73 => ?_
    refine rw_cons (op_pv (w0 rfl) rfl rfl (pv_move (v := (.slice A61 (placeV a0 xs1 a2).length c62)) rfl rfl) ?_)
    refine rw_cons (op_pv (w0 rfl) rfl rfl (pv_move (v := (.slice A33 (placeV a0 xs1 a2).length c34)) rfl rfl) ?_)
    refine rw_cons (op_call (w0 rfl) rfl rfl (rc_call C18 rfl rfl) (eqIntS_same _ _ _ _ _ _ (placeV a0 xs1 a2) _ (hO63.rs (fun _ => rfl)) (hO35.rs (fun _ => rfl)) (by omega)) ?_)
    rintro _ w74 ⟨rfl, hch75⟩
    have hsz76 := hch75.size
    replace hR1 := hR1.ch0 hch75
    replace hO22 := hO22.ch0 hch75
    replace hO35 := hO35.ch0 hch75
    replace hO46 := hO46.ch0 hch75
    replace hO63 := hO63.ch0 hch75
    replace hc := hc.step0 hch75
    refine rw_cons (op_pv (w0 rfl) rfl rfl (pv_not rfl rfl) ?_)
    refine rw_cons (op_pv (w0 rfl) rfl rfl (pv_move (v := (.bool (!true))) rfl rfl) ?_)
    refine rw_cons (op_pv (w1y rfl rfl rfl rfl) rfl rfl (pv_move (v := (.bool (dec (PlaceOK a0 xs1 a2)))) rfl rfl) ?_)
    refine rw_cons (op_pv (w1y rfl rfl rfl rfl) rfl rfl (pv_move (v := (.bool (dec (PlaceOK a0 xs1 a2)))) rfl rfl) ?_)
    refine rw_cons (op_pv (w1y rfl rfl rfl rfl) rfl rfl (pv_neBs Try.underlying4 rfl rfl rfl) ?_)
    refine rw_cons (op_pv (w0 rfl) rfl rfl (pv_pickF (v := (.bool false)) rfl rfl rfl) ?_)
    refine rw_nil (hK73 _ _ ?_)
    refine hK71 _ _ ?_
    refine cw_cond rfl (fun h77 => ?_) (fun h77 => ?_)
    · -- then
      cases h77
    · -- else
      clear h77
      refine cw_skip ?_
      refine hK69 _ _ ?_
      refine cw_seq fun K78 hK79 => ?_
      refine cw_seq fun K80 hK81 => ?_
      refine cw_region fun K82 hK83 => ?_
      refine rw_cons (op_pv (w0 rfl) rfl rfl (pv_move (v := (.slice A49 xs1.length c50)) rfl rfl) ?_)
      refine rw_cons (op_pv (w0 rfl) rfl rfl (pv_move (v := (.slice A1 n1 c1)) rfl rfl) ?_)
      refine rw_cons (op_call (w0 rfl) rfl rfl (rc_call C16 rfl rfl) (toIntS_ok _ _ _ _ _ (hR1.more (by omega)) (by omega)) ?_)
      rintro _ w84 ⟨v85, rfl, hO86, hch87⟩
      have hsz88 := hch87.size
      replace hR1 := hR1.ch0 hch87
      replace hO22 := hO22.ch0 hch87
      replace hO35 := hO35.ch0 hch87
      replace hO46 := hO46.ch0 hch87
      replace hO63 := hO63.ch0 hch87
      replace hc := hc.step0 hch87
      obtain ⟨A89, c90, hv91, hle92, hmx93⟩ := hO86.form; subst hv91
      have hub94 := hO86.lt
      refine rw_cons (op_call (w0 rfl) rfl rfl (rc_call C18 rfl rfl) (eqIntS_same _ _ _ _ _ _ xs1 _ (hO46.rs (fun _ => rfl)) (hO86.rs (fun _ => rfl)) (by omega)) ?_)
      rintro _ w95 ⟨rfl, hch96⟩
      have hsz97 := hch96.size
      replace hR1 := hR1.ch0 hch96
      replace hO22 := hO22.ch0 hch96
      replace hO35 := hO35.ch0 hch96
      replace hO46 := hO46.ch0 hch96
      replace hO63 := hO63.ch0 hch96
      replace hO86 := hO86.ch0 hch96
      replace hc := hc.step0 hch96
      refine rw_cons (op_pv (w0 rfl) rfl rfl (pv_not rfl rfl) ?_)
      refine rw_nil (hK83 _ _ ?_)
      refine hK81 _ _ ?_
      refine cw_cond rfl (fun h98 => ?_) (fun h98 => ?_)
      · -- then
        cases h98
      · -- else
        clear h98
        refine cw_skip ?_
        refine hK79 _ _ ?_
        refine cw_seq fun K99 hK100 => ?_
        refine cw_region fun K101 hK102 => ?_
        refine rw_cons (op_pv (w0 rfl) rfl rfl (pv_assign (v := (.int .i64 1)) rfl rfl) ?_)
        refine rw_nil (hK102 _ _ ?_)
        refine hK100 _ _ ?_
        refine cw_seq fun K103 hK104 => ?_
        refine cw_region fun K105 hK106 => ?_
        refine rw_cons (op_pv (w0 rfl) rfl rfl (pv_move (v := (.slice A49 xs1.length c50)) rfl rfl) ?_)
        refine rw_cons (op_pv (w0 rfl) rfl rfl (pv_move (v := (.int .i64 1)) rfl rfl) ?_)
        refine rw_cons (op_call (w0 rfl) rfl rfl (rc_call C23 rfl rfl) (markIntS_ok _ xs1.length _ _ _ 1 _ hO46 (by omega) (by omega) (by omega) (by omega)) ?_)
        rintro _ w107 ⟨ys108, hyl109, hye110, rfl, hO111, hch112⟩
        have hsz113 := hch112.size
        replace hR1 := hR1.ch hch112 (hO46.off.le (by omega))
        replace hO22 := hO22.ch hch112 (fun s hs hs2 => by first | (have h1 := hO22.off s hs; have h2 := hub54 s hs2; omega) | (have h1 := hub30 s hs; have h2 := hO46.off s hs2; omega) | (have h2 := hub54 s hs2; simp [obl, Value.ownBlock] at hs; omega) | (have h1 := hub30 s hs; simp [obl, Value.ownBlock] at hs2; omega))
        replace hO35 := hO35.ch hch112 (fun s hs hs2 => by first | (have h1 := hO35.off s hs; have h2 := hub54 s hs2; omega) | (have h1 := hub37 s hs; have h2 := hO46.off s hs2; omega) | (have h2 := hub54 s hs2; simp [obl, Value.ownBlock] at hs; omega) | (have h1 := hub37 s hs; simp [obl, Value.ownBlock] at hs2; omega))
        replace hO63 := hO63.ch hch112 (fun s hs hs2 => by first | (have h1 := hO63.off s hs; have h2 := hub54 s hs2; omega) | (have h1 := hub65 s hs; have h2 := hO46.off s hs2; omega) | (have h2 := hub54 s hs2; simp [obl, Value.ownBlock] at hs; omega) | (have h1 := hub65 s hs; simp [obl, Value.ownBlock] at hs2; omega))
        replace hO86 := hO86.ch hch112 (fun s hs hs2 => by first | (have h1 := hO86.off s hs; have h2 := hub54 s hs2; omega) | (have h1 := hub94 s hs; have h2 := hO46.off s hs2; omega) | (have h2 := hub54 s hs2; simp [obl, Value.ownBlock] at hs; omega) | (have h1 := hub94 s hs; simp [obl, Value.ownBlock] at hs2; omega))
        replace hc := (hO46.off.le (by omega)).step hc hch112
        clear hO46; have hO46 := hO111; clear hO111
        have hyl114 := hyl109
        refine rw_cons (op_pv (w0 rfl) rfl rfl (pv_assign (v := (.int .i64 (1 + ((xs1.length) : Int)))) rfl rfl) ?_)
        refine rw_nil (hK106 _ _ ?_)
        refine hK104 _ _ ?_
        refine cw_seq fun K115 hK116 => ?_
        refine cw_seq fun K117 hK118 => ?_
        refine cw_region fun K119 hK120 => ?_
        refine rw_cons (op_pv (w0 rfl) rfl rfl (pv_move (v := (.int .i64 (1 + ((xs1.length) : Int)))) rfl rfl) ?_)
        refine rw_cons (op_pv (w0 rfl) rfl rfl (pv_lss rfl rfl rfl) ?_)
        refine rw_cons (op_pv (w0 rfl) rfl rfl (pv_move (v := (.bool (decide ((1 + ((xs1.length) : Int)) < 0)))) rfl rfl) ?_)
        refine rw_split 56 rfl (fun hb121 => ?_) (fun hb121 => ?_)
        · -- yes
          replace hb121 := of_decide_eq_true hb121
          refine rw_cons (op_pass (w1n2 rfl rfl rfl rfl) rfl rfl ?_)
          refine rw_cons (op_pass (w1n2 rfl rfl rfl rfl) rfl rfl ?_)
          refine rw_cons (op_pass (w1n2 rfl rfl rfl rfl) rfl rfl ?_)
          refine rw_cons (op_pass (w1n2 rfl rfl rfl rfl) rfl rfl ?_)
          refine rw_cons (op_pv (w0 rfl) rfl rfl (pv_pickT (v := (.bool true)) rfl rfl rfl) ?_)
          refine rw_cons (op_pv (w0 rfl) rfl rfl (pv_move (v := (.bool true)) rfl rfl) ?_)
          refine rw_cons (op_pass (w1n2 rfl rfl rfl rfl) rfl rfl ?_)
          refine rw_cons (op_pass (w1n2 rfl rfl rfl rfl) rfl rfl ?_)
          refine rw_cons (op_pass (w1n2 rfl rfl rfl rfl) rfl rfl ?_)
          refine rw_cons (op_pv (w0 rfl) rfl rfl (pv_pickT (v := (.bool true)) rfl rfl rfl) ?_)
          refine rw_nil (hK120 _ _ ?_)
          refine hK118 _ _ ?_
          refine cw_cond rfl (fun h122 => ?_) (fun h122 => ?_)
          · -- then
            clear h122
            refine cw_seq fun K123 hK124 => ?_
            refine cw_region fun K125 hK126 => ?_
            refine rw_cons (op_pv (w0 rfl) rfl rfl (pv_assign (v := (.bool false)) rfl rfl) ?_)
            refine rw_nil (hK126 _ _ ?_)
            refine hK124 _ _ ?_
            refine cw_ret ?_
            refine fin1 rfl ?_
            first
              | exact ⟨rfl, hc⟩
              | (exfalso; omega)
              | exact ⟨congrArg Value.bool (decide_eq_true (by omega)), hc⟩
              | exact absurd rfl ‹_ ≠ _›
              | (exfalso; simp_all; done)
          · -- else
            cases h122
        · -- no
          replace hb121 := of_decide_eq_false hb121
          refine rw_cons (op_pv (w1y rfl rfl rfl rfl) rfl rfl (pv_move (v := (.slice A61 (placeV a0 xs1 a2).length c62)) rfl rfl) ?_)
          refine rw_cons (op_pv (w1y rfl rfl rfl rfl) rfl rfl (pv_move (v := (.slice A33 (placeV a0 xs1 a2).length c34)) rfl rfl) ?_)
          refine rw_cons (op_call (w1y rfl rfl rfl rfl) rfl rfl (rc_call C18 rfl rfl) (eqIntS_same _ _ _ _ _ _ (placeV a0 xs1 a2) _ (hO63.rs (fun _ => rfl)) (hO35.rs (fun _ => rfl)) (by omega)) ?_)
          rintro _ w127 ⟨rfl, hch128⟩
          have hsz129 := hch128.size
          replace hR1 := hR1.ch0 hch128
          replace hO22 := hO22.ch0 hch128
          replace hO35 := hO35.ch0 hch128
          replace hO46 := hO46.ch0 hch128
          replace hO63 := hO63.ch0 hch128
          replace hO86 := hO86.ch0 hch128
          replace hc := hc.step0 hch128
          refine rw_cons (op_pv (w1y rfl rfl rfl rfl) rfl rfl (pv_not rfl rfl) ?_)
          refine rw_cons (op_pv (w0 rfl) rfl rfl (pv_pickF (v := (.bool (!true))) rfl rfl rfl) ?_)
          refine rw_cons (op_pv (w0 rfl) rfl rfl (pv_move (v := (.bool (!true))) rfl rfl) ?_)
          refine rw_cons (op_pv (w1y rfl rfl rfl rfl) rfl rfl (pv_move (v := (.bool (dec (PlaceOK a0 xs1 a2)))) rfl rfl) ?_)
          refine rw_cons (op_pv (w1y rfl rfl rfl rfl) rfl rfl (pv_move (v := (.bool (dec (PlaceOK a0 xs1 a2)))) rfl rfl) ?_)
          refine rw_cons (op_pv (w1y rfl rfl rfl rfl) rfl rfl (pv_neBs Try.underlying4 rfl rfl rfl) ?_)
          refine rw_cons (op_pv (w0 rfl) rfl rfl (pv_pickF (v := (.bool false)) rfl rfl rfl) ?_)
          refine rw_nil (hK120 _ _ ?_)
          refine hK118 _ _ ?_
          refine cw_cond rfl (fun h130 => ?_) (fun h130 => ?_)
          · -- then
            cases h130
          · -- else
            clear h130
            refine cw_skip ?_
            refine hK116 _ _ ?_
            refine cw_seq fun K131 hK132 => ?_
            refine cw_region fun K133 hK134 => ?_
            refine rw_cons (op_pv (w0 rfl) rfl rfl (pv_assign (v := (.int .i64 1)) rfl rfl) ?_)
            refine rw_nil (hK134 _ _ ?_)
            refine hK132 _ _ ?_
            refine cw_seq fun K135 hK136 => ?_
            refine cw_region fun K137 hK138 => ?_
            refine rw_cons (op_pv (w0 rfl) rfl rfl (pv_move (v := (.slice A61 (placeV a0 xs1 a2).length c62)) rfl rfl) ?_)
            refine rw_cons (op_pv (w0 rfl) rfl rfl (pv_move (v := (.int .i64 1)) rfl rfl) ?_)
            refine rw_cons (op_call (w0 rfl) rfl rfl (rc_call C23 rfl rfl) (markIntS_ok _ (placeV a0 xs1 a2).length _ _ _ 1 _ hO63 (by omega) (by omega) (by omega) (by omega)) ?_)
            rintro _ w139 ⟨ys140, hyl141, hye142, rfl, hO143, hch144⟩
            have hsz145 := hch144.size
            replace hR1 := hR1.ch hch144 (hO63.off.le (by omega))
            replace hO22 := hO22.ch hch144 (fun s hs hs2 => by first | (have h1 := hO22.off s hs; have h2 := hub65 s hs2; omega) | (have h1 := hub30 s hs; have h2 := hO63.off s hs2; omega) | (have h2 := hub65 s hs2; simp [obl, Value.ownBlock] at hs; omega) | (have h1 := hub30 s hs; simp [obl, Value.ownBlock] at hs2; omega))
            replace hO35 := hO35.ch hch144 (fun s hs hs2 => by first | (have h1 := hO35.off s hs; have h2 := hub65 s hs2; omega) | (have h1 := hub37 s hs; have h2 := hO63.off s hs2; omega) | (have h2 := hub65 s hs2; simp [obl, Value.ownBlock] at hs; omega) | (have h1 := hub37 s hs; simp [obl, Value.ownBlock] at hs2; omega))
            replace hO46 := hO46.ch hch144 (fun s hs hs2 => by first | (have h1 := hO46.off s hs; have h2 := hub65 s hs2; omega) | (have h1 := hub54 s hs; have h2 := hO63.off s hs2; omega) | (have h2 := hub65 s hs2; simp [obl, Value.ownBlock] at hs; omega) | (have h1 := hub54 s hs; simp [obl, Value.ownBlock] at hs2; omega))
            replace hO86 := hO86.ch hch144 (fun s hs hs2 => by first | (have h1 := hO86.off s hs; have h2 := hub65 s hs2; omega) | (have h1 := hub94 s hs; have h2 := hO63.off s hs2; omega) | (have h2 := hub65 s hs2; simp [obl, Value.ownBlock] at hs; omega) | (have h1 := hub94 s hs; simp [obl, Value.ownBlock] at hs2; omega))
            replace hc := (hO63.off.le (by omega)).step hc hch144
            clear hO63; have hO63 := hO143; clear hO143
            have hyl146 := hyl141
            refine rw_cons (op_pv (w0 rfl) rfl rfl (pv_assign (v := (.int .i64 (1 + (((placeV a0 xs1 a2).length) : Int)))) rfl rfl) ?_)
            refine rw_nil (hK138 _ _ ?_)
            refine hK136 _ _ ?_
            refine cw_seq fun K147 hK148 => ?_
            refine cw_region fun K149 hK150 => ?_
            refine rw_cons (op_pv (w0 rfl) rfl rfl (pv_assign (v := (.int .i64 1)) rfl rfl) ?_)
            refine rw_nil (hK150 _ _ ?_)
            refine hK148 _ _ ?_
            refine cw_seq fun K151 hK152 => ?_
            refine cw_region fun K153 hK154 => ?_
            refine rw_cons (op_pv (w0 rfl) rfl rfl (pv_move (v := (.slice A61 (placeV a0 xs1 a2).length c62)) rfl rfl) ?_)
            refine rw_cons (op_pv (w0 rfl) rfl rfl (pv_move (v := (.int .i64 1)) rfl rfl) ?_)
            refine rw_cons (op_call (w0 rfl) rfl rfl (rc_call C24 rfl rfl) (heldIntS_ok _ (placeV a0 xs1 a2).length _ ys140 1 _ (hO63.rs (fun _ => rfl)) (by omega) (by omega) (by omega) hye142) ?_)
            rintro _ w155 ⟨rfl, hch156⟩
            have hsz157 := hch156.size
            replace hR1 := hR1.ch0 hch156
            replace hO22 := hO22.ch0 hch156
            replace hO35 := hO35.ch0 hch156
            replace hO46 := hO46.ch0 hch156
            replace hO63 := hO63.ch0 hch156
            replace hO86 := hO86.ch0 hch156
            replace hc := hc.step0 hch156
            refine rw_cons (op_pv (w0 rfl) rfl rfl (pv_assign (v := (.int .i64 (1 + (((placeV a0 xs1 a2).length) : Int)))) rfl rfl) ?_)
            refine rw_nil (hK154 _ _ ?_)
            refine hK152 _ _ ?_
            refine cw_seq fun K158 hK159 => ?_
            refine cw_seq fun K160 hK161 => ?_
            refine cw_region fun K162 hK163 => ?_
            refine rw_cons (op_pv (w0 rfl) rfl rfl (pv_move (v := (.int .i64 (1 + (((placeV a0 xs1 a2).length) : Int)))) rfl rfl) ?_)
            refine rw_cons (op_pv (w0 rfl) rfl rfl (pv_lss rfl rfl rfl) ?_)
            refine rw_nil (hK163 _ _ ?_)
            refine hK161 _ _ ?_
            refine cw_cond rfl (fun h164 => ?_) (fun h164 => ?_)
            · -- then
              replace h164 := of_decide_eq_true h164
              refine cw_seq fun K165 hK166 => ?_
              refine cw_region fun K167 hK168 => ?_
              refine rw_cons (op_pv (w0 rfl) rfl rfl (pv_assign (v := (.bool false)) rfl rfl) ?_)
              refine rw_nil (hK168 _ _ ?_)
              refine hK166 _ _ ?_
              refine cw_ret ?_
              refine fin1 rfl ?_
              first
                | exact ⟨rfl, hc⟩
                | (exfalso; omega)
                | exact ⟨congrArg Value.bool (decide_eq_true (by omega)), hc⟩
                | exact absurd rfl ‹_ ≠ _›
                | (exfalso; simp_all; done)
            · -- else
              replace h164 := of_decide_eq_false h164
              refine cw_skip ?_
              refine hK159 _ _ ?_
              refine cw_seq fun K169 hK170 => ?_
              refine cw_seq fun K171 hK172 => ?_
              refine cw_region fun K173 hK174 => ?_
              refine rw_cons (op_pv (w0 rfl) rfl rfl (pv_move (v := (.int .i64 (1 + (((placeV a0 xs1 a2).length) : Int)))) rfl rfl) ?_)
              refine rw_cons (op_pv (w0 rfl) rfl rfl (pv_move (v := (.int .i64 (1 + (((placeV a0 xs1 a2).length) : Int)))) rfl rfl) ?_)
              refine rw_cons (op_pv (w0 rfl) rfl rfl (pv_nes rfl rfl rfl) ?_)
              refine rw_nil (hK174 _ _ ?_)
              refine hK172 _ _ ?_
              refine cw_cond rfl (fun h175 => ?_) (fun h175 => ?_)
              · -- then
                cases h175
              · -- else
                clear h175
                refine cw_skip ?_
                refine hK170 _ _ ?_
                refine cw_seq fun K176 hK177 => ?_
                refine cw_region fun K178 hK179 => ?_
                refine rw_cons (op_pv (w0 rfl) rfl rfl (pv_move (v := (.int .i64 a0)) rfl rfl) ?_)
                refine rw_cons (op_pv (w0 rfl) rfl rfl (pv_move (v := (.slice A1 n1 c1)) rfl rfl) ?_)
                refine rw_cons (op_call (w0 rfl) rfl rfl (rc_call C16 rfl rfl) (toIntS_ok _ _ _ _ _ (hR1.more (by omega)) (by omega)) ?_)
                rintro _ w180 ⟨v181, rfl, hO182, hch183⟩
                have hsz184 := hch183.size
                replace hR1 := hR1.ch0 hch183
                replace hO22 := hO22.ch0 hch183
                replace hO35 := hO35.ch0 hch183
                replace hO46 := hO46.ch0 hch183
                replace hO63 := hO63.ch0 hch183
                replace hO86 := hO86.ch0 hch183
                replace hc := hc.step0 hch183
                obtain ⟨A185, c186, hv187, hle188, hmx189⟩ := hO182.form; subst hv187
                have hub190 := hO182.lt
                refine rw_cons (op_pv (w0 rfl) rfl rfl (pv_move (v := (.int .i64 a2)) rfl rfl) ?_)
                refine rw_cons (op_call (w0 rfl) rfl rfl (rc_call C22 rfl rfl) (PlaceOf_i a0 _ xs1.length _ xs1 a2 _ (hO182.rs (fun _ => rfl)) (by omega)) ?_)
                rintro _ w191 ⟨A193, c194, rfl, hO195, hch192⟩
                have hsz196 := hch192.size
                replace hR1 := hR1.ch0 hch192
                replace hO22 := hO22.ch0 hch192
                replace hO35 := hO35.ch0 hch192
                replace hO46 := hO46.ch0 hch192
                replace hO63 := hO63.ch0 hch192
                replace hO86 := hO86.ch0 hch192
                replace hO182 := hO182.ch0 hch192
                replace hc := hc.step0 hch192
                have hub197 := hO195.lt
                have hcap198 : (placeV a0 xs1 a2).length ≤ c194 := by obtain ⟨_, _, hv, h1, _⟩ := hO195.form; injection hv with _ _ h3; omega
                have hnt199 := placeV_le a0 xs1 a2
                refine rw_cons (op_pv (w0 rfl) rfl rfl (pv_move (v := (.tuple #[(.slice A193 (placeV a0 xs1 a2).length c194), (.bool (dec (PlaceOK a0 xs1 a2)))])) rfl rfl) ?_)
                refine rw_cons (op_pv (w0 rfl) rfl rfl (pv_ext (v := (.slice A193 (placeV a0 xs1 a2).length c194)) rfl rfl rfl) ?_)
                refine rw_cons (op_pv (w0 rfl) rfl rfl (pv_ext (v := (.bool (dec (PlaceOK a0 xs1 a2)))) rfl rfl rfl) ?_)
                refine rw_cons (op_pv (w0 rfl) rfl rfl (pv_assign (v := (.slice A193 (placeV a0 xs1 a2).length c194)) rfl rfl) ?_)
                refine rw_cons (op_pv (w0 rfl) rfl rfl (pv_assign (v := (.bool (dec (PlaceOK a0 xs1 a2)))) rfl rfl) ?_)
                refine rw_nil (hK179 _ _ ?_)
                refine hK177 _ _ ?_
                refine cw_seq fun K200 hK201 => ?_
                refine cw_seq fun K202 hK203 => ?_
                refine cw_region fun K204 hK205 => ?_
                refine rw_cons (op_pv (w0 rfl) rfl rfl (pv_move (v := (.slice A193 (placeV a0 xs1 a2).length c194)) rfl rfl) ?_)
                refine rw_cons (op_pv (w0 rfl) rfl rfl (pv_move (v := (.slice A33 (placeV a0 xs1 a2).length c34)) rfl rfl) ?_)
                refine rw_cons (op_call (w0 rfl) rfl rfl (rc_call C18 rfl rfl) (eqIntS_same _ _ _ _ _ _ (placeV a0 xs1 a2) _ (hO195.rs (fun _ => rfl)) (hO35.rs (fun _ => rfl)) (by omega)) ?_)
                rintro _ w206 ⟨rfl, hch207⟩
                have hsz208 := hch207.size
                replace hR1 := hR1.ch0 hch207
                replace hO22 := hO22.ch0 hch207
                replace hO35 := hO35.ch0 hch207
                replace hO46 := hO46.ch0 hch207
                replace hO63 := hO63.ch0 hch207
                replace hO86 := hO86.ch0 hch207
                replace hO182 := hO182.ch0 hch207
                replace hO195 := hO195.ch0 hch207
                replace hc := hc.step0 hch207
                refine rw_cons (op_pv (w0 rfl) rfl rfl (pv_not rfl rfl) ?_)
                refine rw_cons (op_pv (w0 rfl) rfl rfl (pv_move (v := (.bool (!true))) rfl rfl) ?_)
                refine rw_cons (op_pv (w1y rfl rfl rfl rfl) rfl rfl (pv_move (v := (.bool (dec (PlaceOK a0 xs1 a2)))) rfl rfl) ?_)
                refine rw_cons (op_pv (w1y rfl rfl rfl rfl) rfl rfl (pv_move (v := (.bool (dec (PlaceOK a0 xs1 a2)))) rfl rfl) ?_)
                refine rw_cons (op_pv (w1y rfl rfl rfl rfl) rfl rfl (pv_neBs Try.underlying4 rfl rfl rfl) ?_)
                refine rw_cons (op_pv (w0 rfl) rfl rfl (pv_pickF (v := (.bool false)) rfl rfl rfl) ?_)
                refine rw_nil (hK205 _ _ ?_)
                refine hK203 _ _ ?_
                refine cw_cond rfl (fun h209 => ?_) (fun h209 => ?_)
                · -- then
                  cases h209
                · -- else
                  clear h209
                  refine cw_skip ?_
                  refine hK201 _ _ ?_
                  refine cw_seq fun K210 hK211 => ?_
                  refine cw_region fun K212 hK213 => ?_
                  refine rw_cons (op_pv (w0 rfl) rfl rfl (pv_assign (v := (.int .i64 1)) rfl rfl) ?_)
                  refine rw_nil (hK213 _ _ ?_)
                  refine hK211 _ _ ?_
                  refine cw_seq fun K214 hK215 => ?_
                  refine cw_region fun K216 hK217 => ?_
                  refine rw_cons (op_pv (w0 rfl) rfl rfl (pv_move (v := (.slice A61 (placeV a0 xs1 a2).length c62)) rfl rfl) ?_)
                  refine rw_cons (op_pv (w0 rfl) rfl rfl (pv_move (v := (.int .i64 1)) rfl rfl) ?_)
                  refine rw_cons (op_call (w0 rfl) rfl rfl (rc_call C24 rfl rfl) (heldIntS_ok _ (placeV a0 xs1 a2).length _ ys140 1 _ (hO63.rs (fun _ => rfl)) (by omega) (by omega) (by omega) hye142) ?_)
                  rintro _ w218 ⟨rfl, hch219⟩
                  have hsz220 := hch219.size
                  replace hR1 := hR1.ch0 hch219
                  replace hO22 := hO22.ch0 hch219
                  replace hO35 := hO35.ch0 hch219
                  replace hO46 := hO46.ch0 hch219
                  replace hO63 := hO63.ch0 hch219
                  replace hO86 := hO86.ch0 hch219
                  replace hO182 := hO182.ch0 hch219
                  replace hO195 := hO195.ch0 hch219
                  replace hc := hc.step0 hch219
                  refine rw_cons (op_pv (w0 rfl) rfl rfl (pv_assign (v := (.int .i64 (1 + (((placeV a0 xs1 a2).length) : Int)))) rfl rfl) ?_)
                  refine rw_nil (hK217 _ _ ?_)
                  refine hK215 _ _ ?_
                  refine cw_seq fun K221 hK222 => ?_
                  refine cw_seq fun K223 hK224 => ?_
                  refine cw_region fun K225 hK226 => ?_
                  refine rw_cons (op_pv (w0 rfl) rfl rfl (pv_move (v := (.int .i64 (1 + (((placeV a0 xs1 a2).length) : Int)))) rfl rfl) ?_)
                  refine rw_cons (op_pv (w0 rfl) rfl rfl (pv_lss rfl rfl rfl) ?_)
                  refine rw_nil (hK226 _ _ ?_)
                  refine hK224 _ _ ?_
                  refine cw_cond rfl (fun h227 => ?_) (fun h227 => ?_)
                  · -- then
                    replace h227 := of_decide_eq_true h227
                    refine cw_seq fun K228 hK229 => ?_
                    refine cw_region fun K230 hK231 => ?_
                    refine rw_cons (op_pv (w0 rfl) rfl rfl (pv_assign (v := (.bool false)) rfl rfl) ?_)
                    refine rw_nil (hK231 _ _ ?_)
                    refine hK229 _ _ ?_
                    refine cw_ret ?_
                    refine fin1 rfl ?_
                    first
                      | exact ⟨rfl, hc⟩
                      | (exfalso; omega)
                      | exact ⟨congrArg Value.bool (decide_eq_true (by omega)), hc⟩
                      | exact absurd rfl ‹_ ≠ _›
                      | (exfalso; simp_all; done)
                  · -- else
                    replace h227 := of_decide_eq_false h227
                    refine cw_skip ?_
                    refine hK222 _ _ ?_
                    refine cw_seq fun K232 hK233 => ?_
                    refine cw_seq fun K234 hK235 => ?_
                    refine cw_region fun K236 hK237 => ?_
                    refine rw_cons (op_pv (w0 rfl) rfl rfl (pv_move (v := (.int .i64 (1 + (((placeV a0 xs1 a2).length) : Int)))) rfl rfl) ?_)
                    refine rw_cons (op_pv (w0 rfl) rfl rfl (pv_move (v := (.int .i64 (1 + (((placeV a0 xs1 a2).length) : Int)))) rfl rfl) ?_)
                    refine rw_cons (op_pv (w0 rfl) rfl rfl (pv_nes rfl rfl rfl) ?_)
                    refine rw_nil (hK237 _ _ ?_)
                    refine hK235 _ _ ?_
                    refine cw_cond rfl (fun h238 => ?_) (fun h238 => ?_)
                    · -- then
                      cases h238
                    · -- else
                      clear h238
                      refine cw_skip ?_
                      refine hK233 _ _ ?_
                      refine cw_seq fun K239 hK240 => ?_
                      refine cw_region fun K241 hK242 => ?_
                      refine rw_cons (op_pv (w0 rfl) rfl rfl (pv_assign (v := (.bool true)) rfl rfl) ?_)
                      refine rw_nil (hK242 _ _ ?_)
                      refine hK240 _ _ ?_
                      refine cw_ret ?_
                      refine fin1 rfl ?_
                      first
                        | exact ⟨rfl, hc⟩
                        | (exfalso; omega)
                        | exact ⟨congrArg Value.bool (decide_eq_true (by omega)), hc⟩
                        | exact absurd rfl ‹_ ≠ _›
                        | (exfalso; simp_all; done)
end Go.Proofs.Ytielahdnccocdaa
