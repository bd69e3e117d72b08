/-
  The walk of impl.beatServers, written by program: each line names the law of one operation. Conditions: those of the theorem.
-/
import Derived.Test.YtnkjljjcionfiaaProg
import Derived.Test.YtnkjljjcionfiaaBeats
import Derived.Test.YtnkjljjcionfiaaFimplBeatsValid
import Derived.Test.YtnkjljjcionfiaaFimpltimeValid
import Derived.Test.YtnkjljjcionfiaaFimplnewBook
import Derived.Test.YtnkjljjcionfiaaFimplbeatBookservers
import Derived.KernelRfl
namespace Go.Proofs.Ytnkjljjcionfiaa
open Go Go.RowKit
set_option linter.unusedVariables false
set_option linter.unusedSimpArgs false
namespace beatServers_okF
theorem T3 : TI Try.prog 3 false (.int .i64 0) 1 8 := TI.mk' Try.underlying3 rfl (by kernel_rfl)
theorem C17 : Callable Try.prog 17 := ⟨_, Try.func17, by kernel_rfl, by kernel_rfl⟩
theorem C49 : Callable Try.prog 49 := ⟨_, Try.func49, by kernel_rfl, by kernel_rfl⟩
theorem C53 : Callable Try.prog 53 := ⟨_, Try.func53, by kernel_rfl, by kernel_rfl⟩
theorem C54 : Callable Try.prog 54 := ⟨_, Try.func54, by kernel_rfl, by kernel_rfl⟩
end beatServers_okF
open beatServers_okF in
set_option maxHeartbeats 4000000 in
theorem beatServers_ok (Axs : Option Addr) (nxs cxs : Nat) (xs : List Bt) (now : Int) (wi : Int) (al : Bool) (w : World) (hRxs : RS encB 2 w w.heap.size Axs nxs xs) (hNxs : nxs ≤ 1099511627776) :
    Fn Try.prog 46 [(.slice Axs nxs cxs), (.int .i64 now), (.int .i64 wi), (.bool al)] w fun v w' => ∃ A_0 c_0, v = .slice A_0 (srvV xs now wi al).length c_0 ∧ Own encI 1 w' w.heap.size 3 (.slice A_0 (srvV xs now wi al).length c_0) (srvV xs now wi al) ∧ Ch [] w w' := by
  have hlenxs := hRxs.len
  refine fn_of (n := 32) Try.func46 rfl rfl rfl rfl ?_
  have hc : Ch [] w w := Ch.refl _ _
  refine cw_seq fun K1 hK2 => ?_
  refine cw_region fun K3 hK4 => ?_
  refine rw_cons (op_pv (w0 rfl) rfl rfl (pv_assign (v := (.slice none 0 0)) rfl rfl) ?_)
  refine rw_nil (hK4 _ _ ?_)
  refine hK2 _ _ ?_
  refine cw_seq fun K5 hK6 => ?_
  refine cw_seq fun K7 hK8 => ?_
  refine cw_region fun K9 hK10 => ?_
  refine rw_cons (op_pv (w0 rfl) rfl rfl (pv_move (v := (.slice Axs nxs cxs)) rfl rfl) ?_)
  refine rw_cons (op_call (w0 rfl) rfl rfl (rc_call C17 rfl rfl) (BeatsValid_i _ _ _ xs _ (hRxs.more (by omega)) (by omega)) ?_)
  rintro _ w11 ⟨rfl, hch12⟩
  have hsz13 := hch12.size
  replace hRxs := hRxs.ch0 hch12
  replace hc := hc.step0 hch12
  refine rw_cons (op_pv (w0 rfl) rfl rfl (pv_not rfl rfl) ?_)
  refine rw_cons (op_pv (w0 rfl) rfl rfl (pv_move (v := (.bool (!(dec (BeatsOK xs))))) rfl rfl) ?_)
  refine rw_split 12 rfl (fun hb14 => ?_) (fun hb14 => ?_)
  · -- yes
    replace hb14 := not_t hb14
    replace hb14 := dec_f hb14
    refine rw_cons (op_pass (w1n2 rfl rfl rfl rfl) rfl rfl ?_)
    refine rw_cons (op_pass (w1n2 rfl rfl rfl rfl) rfl rfl ?_)
    refine rw_cons (op_pass (w1n2 rfl rfl rfl rfl) rfl rfl ?_)
    refine rw_cons (op_pv (w0 rfl) rfl rfl (pv_pickT (v := (.bool true)) rfl rfl rfl) ?_)
    refine rw_cons (op_pv (w0 rfl) rfl rfl (pv_move (v := (.bool true)) rfl rfl) ?_)
    refine rw_cons (op_pass (w1n2 rfl rfl rfl rfl) rfl rfl ?_)
    refine rw_cons (op_pass (w1n2 rfl rfl rfl rfl) rfl rfl ?_)
    refine rw_cons (op_pv (w0 rfl) rfl rfl (pv_pickT (v := (.bool true)) rfl rfl rfl) ?_)
    refine rw_cons (op_pv (w0 rfl) rfl rfl (pv_move (v := (.bool true)) rfl rfl) ?_)
    refine rw_cons (op_pass (w1n2 rfl rfl rfl rfl) rfl rfl ?_)
    refine rw_cons (op_pass (w1n2 rfl rfl rfl rfl) rfl rfl ?_)
    refine rw_cons (op_pv (w0 rfl) rfl rfl (pv_pickT (v := (.bool true)) rfl rfl rfl) ?_)
    refine rw_nil (hK10 _ _ ?_)
    refine hK8 _ _ ?_
    refine cw_cond rfl (fun h15 => ?_) (fun h15 => ?_)
    · -- then
      clear h15
      refine cw_seq fun K16 hK17 => ?_
      refine cw_region fun K18 hK19 => ?_
      refine rw_cons (op_bslice [] Try.underlying34 T3 (w0 rfl) rfl rfl rfl rfl rfl (by simp [Value.cells]) (by decide) ?_)
      intro g21 w20 hg24 hg25 hK23 hch22
      have hO26 : Own encI 1 w20 w11.heap.size 3 (.slice (some ⟨g21, 0, none⟩) 0 0) ([] : List Int) := Blk.own (xs := ([] : List Int)) hK23 (by omega) rfl (by decide) rfl
      have hsz27 := hch22.size
      replace hRxs := hRxs.ch0 hch22
      replace hc := hc.step0 hch22
      have hub28 := hO26.lt
      refine rw_cons (op_pv (w0 rfl) rfl rfl (pv_assign (v := (.slice (some ⟨g21, 0, none⟩) 0 0)) rfl rfl) ?_)
      refine rw_nil (hK19 _ _ ?_)
      refine hK17 _ _ ?_
      refine cw_ret ?_
      refine fin1 rfl ?_
      have he_0 : ([] : List Int) = srvV xs now wi al := (srvV_no (by rintro ⟨h1, h2, h3⟩; first | contradiction | omega)).symm
      exact ⟨_, _, (sl_as hO26 he_0), own_as (hO26.less (by omega)) he_0, hc⟩
    · -- else
      cases h15
  · -- no
    replace hb14 := not_f hb14
    replace hb14 := dec_t hb14
    refine rw_cons (op_pv (w1y rfl rfl rfl rfl) rfl rfl (pv_move (v := (.int .i64 now)) rfl rfl) ?_)
    refine rw_cons (op_call (w1y rfl rfl rfl rfl) rfl rfl (rc_call C53 rfl rfl) (timeValid_ok now _ ) ?_)
    rintro _ w29 ⟨rfl, hch30⟩
    have hsz31 := hch30.size
    replace hRxs := hRxs.ch0 hch30
    replace hc := hc.step0 hch30
    refine rw_cons (op_pv (w1y rfl rfl rfl rfl) rfl rfl (pv_not rfl rfl) ?_)
    refine rw_cons (op_pv (w0 rfl) rfl rfl (pv_pickF (v := (.bool (!(dec (0 ≤ now ∧ now ≤ 9999))))) rfl rfl rfl) ?_)
    refine rw_cons (op_pv (w0 rfl) rfl rfl (pv_move (v := (.bool (!(dec (0 ≤ now ∧ now ≤ 9999))))) rfl rfl) ?_)
    refine rw_split 17 rfl (fun hb32 => ?_) (fun hb32 => ?_)
    · -- yes
      replace hb32 := not_t hb32
      replace hb32 := dec_f hb32
      refine rw_cons (op_pass (w1n2 rfl rfl rfl rfl) rfl rfl ?_)
      refine rw_cons (op_pass (w1n2 rfl rfl rfl rfl) rfl rfl ?_)
      refine rw_cons (op_pv (w0 rfl) rfl rfl (pv_pickT (v := (.bool true)) rfl rfl rfl) ?_)
      refine rw_cons (op_pv (w0 rfl) rfl rfl (pv_move (v := (.bool true)) rfl rfl) ?_)
      refine rw_cons (op_pass (w1n2 rfl rfl rfl rfl) rfl rfl ?_)
      refine rw_cons (op_pass (w1n2 rfl rfl rfl rfl) rfl rfl ?_)
      refine rw_cons (op_pv (w0 rfl) rfl rfl (pv_pickT (v := (.bool true)) rfl rfl rfl) ?_)
      refine rw_nil (hK10 _ _ ?_)
      refine hK8 _ _ ?_
      refine cw_cond rfl (fun h33 => ?_) (fun h33 => ?_)
      · -- then
        clear h33
        refine cw_seq fun K34 hK35 => ?_
        refine cw_region fun K36 hK37 => ?_
        refine rw_cons (op_bslice [] Try.underlying34 T3 (w0 rfl) rfl rfl rfl rfl rfl (by simp [Value.cells]) (by decide) ?_)
        intro g39 w38 hg42 hg43 hK41 hch40
        have hO44 : Own encI 1 w38 w29.heap.size 3 (.slice (some ⟨g39, 0, none⟩) 0 0) ([] : List Int) := Blk.own (xs := ([] : List Int)) hK41 (by omega) rfl (by decide) rfl
        have hsz45 := hch40.size
        replace hRxs := hRxs.ch0 hch40
        replace hc := hc.step0 hch40
        have hub46 := hO44.lt
        refine rw_cons (op_pv (w0 rfl) rfl rfl (pv_assign (v := (.slice (some ⟨g39, 0, none⟩) 0 0)) rfl rfl) ?_)
        refine rw_nil (hK37 _ _ ?_)
        refine hK35 _ _ ?_
        refine cw_ret ?_
        refine fin1 rfl ?_
        have he_0 : ([] : List Int) = srvV xs now wi al := (srvV_no (by rintro ⟨h1, h2, h3⟩; first | contradiction | omega)).symm
        exact ⟨_, _, (sl_as hO44 he_0), own_as (hO44.less (by omega)) he_0, hc⟩
      · -- else
        cases h33
    · -- no
      replace hb32 := not_f hb32
      replace hb32 := dec_t hb32
      refine rw_cons (op_pv (w1y rfl rfl rfl rfl) rfl rfl (pv_move (v := (.int .i64 wi)) rfl rfl) ?_)
      refine rw_cons (op_pv (w1y rfl rfl rfl rfl) rfl rfl (pv_lss rfl rfl rfl) ?_)
      refine rw_cons (op_pv (w0 rfl) rfl rfl (pv_pickF (v := (.bool (decide (wi < 1)))) rfl rfl rfl) ?_)
      refine rw_cons (op_pv (w0 rfl) rfl rfl (pv_move (v := (.bool (decide (wi < 1)))) rfl rfl) ?_)
      refine rw_split 21 rfl (fun hb47 => ?_) (fun hb47 => ?_)
      · -- yes
        replace hb47 := of_decide_eq_true hb47
        refine rw_cons (op_pass (w1n2 rfl rfl rfl rfl) rfl rfl ?_)
        refine rw_cons (op_pass (w1n2 rfl rfl rfl rfl) rfl rfl ?_)
        refine rw_cons (op_pv (w0 rfl) rfl rfl (pv_pickT (v := (.bool true)) rfl rfl rfl) ?_)
        refine rw_nil (hK10 _ _ ?_)
        refine hK8 _ _ ?_
        refine cw_cond rfl (fun h48 => ?_) (fun h48 => ?_)
        · -- then
          clear h48
          refine cw_seq fun K49 hK50 => ?_
          refine cw_region fun K51 hK52 => ?_
          refine rw_cons (op_bslice [] Try.underlying34 T3 (w0 rfl) rfl rfl rfl rfl rfl (by simp [Value.cells]) (by decide) ?_)
          intro g54 w53 hg57 hg58 hK56 hch55
          have hO59 : Own encI 1 w53 w29.heap.size 3 (.slice (some ⟨g54, 0, none⟩) 0 0) ([] : List Int) := Blk.own (xs := ([] : List Int)) hK56 (by omega) rfl (by decide) rfl
          have hsz60 := hch55.size
          replace hRxs := hRxs.ch0 hch55
          replace hc := hc.step0 hch55
          have hub61 := hO59.lt
          refine rw_cons (op_pv (w0 rfl) rfl rfl (pv_assign (v := (.slice (some ⟨g54, 0, none⟩) 0 0)) rfl rfl) ?_)
          refine rw_nil (hK52 _ _ ?_)
          refine hK50 _ _ ?_
          refine cw_ret ?_
          refine fin1 rfl ?_
          have he_0 : ([] : List Int) = srvV xs now wi al := (srvV_no (by rintro ⟨h1, h2, h3⟩; first | contradiction | omega)).symm
          exact ⟨_, _, (sl_as hO59 he_0), own_as (hO59.less (by omega)) he_0, hc⟩
        · -- else
          cases h48
      · -- no
        replace hb47 := of_decide_eq_false hb47
        refine rw_cons (op_pv (w1y rfl rfl rfl rfl) rfl rfl (pv_move (v := (.int .i64 wi)) rfl rfl) ?_)
        refine rw_cons (op_pv (w1y rfl rfl rfl rfl) rfl rfl (pv_gtr rfl rfl rfl) ?_)
        refine rw_cons (op_pv (w0 rfl) rfl rfl (pv_pickF (v := (.bool (decide (9999 < wi)))) rfl rfl rfl) ?_)
        refine rw_nil (hK10 _ _ ?_)
        refine hK8 _ _ ?_
        refine cw_cond rfl (fun h62 => ?_) (fun h62 => ?_)
        · -- then
          replace h62 := of_decide_eq_true h62
          refine cw_seq fun K63 hK64 => ?_
          refine cw_region fun K65 hK66 => ?_
          refine rw_cons (op_bslice [] Try.underlying34 T3 (w0 rfl) rfl rfl rfl rfl rfl (by simp [Value.cells]) (by decide) ?_)
          intro g68 w67 hg71 hg72 hK70 hch69
          have hO73 : Own encI 1 w67 w29.heap.size 3 (.slice (some ⟨g68, 0, none⟩) 0 0) ([] : List Int) := Blk.own (xs := ([] : List Int)) hK70 (by omega) rfl (by decide) rfl
          have hsz74 := hch69.size
          replace hRxs := hRxs.ch0 hch69
          replace hc := hc.step0 hch69
          have hub75 := hO73.lt
          refine rw_cons (op_pv (w0 rfl) rfl rfl (pv_assign (v := (.slice (some ⟨g68, 0, none⟩) 0 0)) rfl rfl) ?_)
          refine rw_nil (hK66 _ _ ?_)
          refine hK64 _ _ ?_
          refine cw_ret ?_
          refine fin1 rfl ?_
          have he_0 : ([] : List Int) = srvV xs now wi al := (srvV_no (by rintro ⟨h1, h2, h3⟩; first | contradiction | omega)).symm
          exact ⟨_, _, (sl_as hO73 he_0), own_as (hO73.less (by omega)) he_0, hc⟩
        · -- else
          replace h62 := of_decide_eq_false h62
          refine cw_skip ?_
          refine hK6 _ _ ?_
          refine cw_seq fun K76 hK77 => ?_
          have hx8 := (‹BeatsOK xs›).1
          refine cw_region fun K78 hK79 => ?_
          refine rw_cons (op_pv (w0 rfl) rfl rfl (pv_move (v := (.slice Axs nxs cxs)) rfl rfl) ?_)
          refine rw_cons (op_call (w0 rfl) rfl rfl (rc_call C49 rfl rfl) (newBook_ok _ nxs _ xs _ (hRxs.more (by omega)) (by omega)) ?_)
          rintro _ w81 ⟨g80, rfl, hg82, hbk83, hch84⟩
          have hsz85 := hch84.size
          replace hRxs := hRxs.ch0 hch84
          replace hc := hc.step0 hch84
          refine rw_cons (op_pv (w0 rfl) rfl rfl (pv_move (v := (.int .i64 now)) rfl rfl) ?_)
          refine rw_cons (op_pv (w0 rfl) rfl rfl (pv_move (v := (.int .i64 wi)) rfl rfl) ?_)
          refine rw_cons (op_pv (w0 rfl) rfl rfl (pv_move (v := (.bool al)) rfl rfl) ?_)
          refine rw_cons (op_call (w0 rfl) rfl rfl (rc_call C54 rfl rfl) (servers_ok _ _ _ now wi al _ hbk83 (by omega) (by omega) (by omega) (fun j hj => by have h9 := (‹BeatsOK xs›).ok (j := j) (by omega); exact h9.2)) ?_)
          rintro _ w86 ⟨A87, c88, rfl, hO89, hbk90, S91, hOff92, hch93⟩
          have hsz94 := hch93.size
          replace hRxs := hRxs.ch hch93 (hOff92.le (by omega))
          replace hc := (hOff92.le (by omega)).step hc hch93
          clear hbk83; have hbk83 := hbk90; clear hbk90
          clear hbk83
          have hub95 := hO89.lt
          have hcap96 : (srvL xs now wi al).length ≤ c88 := by obtain ⟨_, _, hv, h1, _⟩ := hO89.form; injection hv with _ _ h3; omega
          refine rw_cons (op_pv (w0 rfl) rfl rfl (pv_assign (v := (.slice A87 (srvL xs now wi al).length c88)) rfl rfl) ?_)
          refine rw_nil (hK79 _ _ ?_)
          refine hK77 _ _ ?_
          refine cw_ret ?_
          refine fin1 rfl ?_
          have he_0 : (srvL xs now wi al) = srvV xs now wi al := (srvV_yes ⟨‹BeatsOK xs›, by omega, by omega⟩).symm
          exact ⟨_, _, (sl_as hO89 he_0), own_as (hO89.less (by omega)) he_0, hc⟩
end Go.Proofs.Ytnkjljjcionfiaa
