/-
  The walk of spec.l23Ok, written by program: each line names the law of one operation. Conditions: those of the theorem.
-/
import Derived.Test.YtnkjljjcionfiaaProg
import Derived.Test.YtnkjljjcionfiaaBeats
import Derived.Test.YtnkjljjcionfiaaFspecBeatsValid
import Derived.Test.YtnkjljjcionfiaaFspecl6In
import Derived.KernelRfl
namespace Go.Proofs.Ytnkjljjcionfiaa
open Go Go.RowKit
set_option linter.unusedVariables false
set_option linter.unusedSimpArgs false
namespace l23Ok_okF
theorem C18 : Callable Try.prog 18 := ⟨_, Try.func18, by kernel_rfl, by kernel_rfl⟩
theorem C43 : Callable Try.prog 43 := ⟨_, Try.func43, by kernel_rfl, by kernel_rfl⟩
end l23Ok_okF
open l23Ok_okF in
set_option maxHeartbeats 4000000 in
theorem l23Ok_ok (Axs : Option Addr) (nxs cxs : Nat) (xs : List Bt) (now : Int) (wi : Int) (w : World) (hRxs : RS encB 2 w w.heap.size Axs nxs xs) (hNxs : nxs ≤ 1099511627776) :
    Fn Try.prog 47 [(.slice Axs nxs cxs), (.int .i64 now), (.int .i64 wi)] w fun v w' => v = .bool (dec (SrvOK xs now wi)) ∧ Ch [] w w' := by
  have hlenxs := hRxs.len
  refine fn_of (n := 17) Try.func47 rfl rfl rfl rfl ?_
  have hc : Ch [] w w := Ch.refl _ _
  refine cw_seq fun K1 hK2 => ?_
  refine cw_region fun K3 hK4 => ?_
  refine rw_cons (op_pv (w0 rfl) rfl rfl (pv_assign (v := (.bool false)) rfl rfl) ?_)
  refine rw_nil (hK4 _ _ ?_)
  refine hK2 _ _ ?_
  refine cw_seq fun K5 hK6 => ?_
  refine cw_region fun K7 hK8 => ?_
  refine rw_cons (op_pv (w0 rfl) rfl rfl (pv_move (v := (.slice Axs nxs cxs)) rfl rfl) ?_)
  refine rw_cons (op_call (w0 rfl) rfl rfl (rc_call C18 rfl rfl) (BeatsValid_s _ _ _ xs _ (hRxs.more (by omega)) (by omega)) ?_)
  rintro _ w9 ⟨rfl, hch10⟩
  have hsz11 := hch10.size
  replace hRxs := hRxs.ch0 hch10
  replace hc := hc.step0 hch10
  refine rw_cons (op_pv (w0 rfl) rfl rfl (pv_move (v := (.bool (dec (BeatsOK xs)))) rfl rfl) ?_)
  refine rw_split 9 rfl (fun hb12 => ?_) (fun hb12 => ?_)
  · -- yes
    replace hb12 := dec_t hb12
    refine rw_cons (op_pv (w1y rfl rfl rfl rfl) rfl rfl (pv_move (v := (.int .i64 now)) rfl rfl) ?_)
    refine rw_cons (op_call (w1y rfl rfl rfl rfl) rfl rfl (rc_call C43 rfl rfl) (l6In_ok now 0 9999 _  ) ?_)
    rintro _ w13 ⟨rfl, hch14⟩
    have hsz15 := hch14.size
    replace hRxs := hRxs.ch0 hch14
    replace hc := hc.step0 hch14
    refine rw_cons (op_pv (w0 rfl) rfl rfl (pv_pickT (v := (.bool (dec (0 ≤ now ∧ now ≤ 9999)))) rfl rfl rfl) ?_)
    refine rw_cons (op_pv (w0 rfl) rfl rfl (pv_move (v := (.bool (dec (0 ≤ now ∧ now ≤ 9999)))) rfl rfl) ?_)
    refine rw_split 13 rfl (fun hb16 => ?_) (fun hb16 => ?_)
    · -- yes
      replace hb16 := dec_t hb16
      refine rw_cons (op_pv (w1y rfl rfl rfl rfl) rfl rfl (pv_move (v := (.int .i64 wi)) rfl rfl) ?_)
      refine rw_cons (op_call (w1y rfl rfl rfl rfl) rfl rfl (rc_call C43 rfl rfl) (l6In_ok wi 1 9999 _  ) ?_)
      rintro _ w17 ⟨rfl, hch18⟩
      have hsz19 := hch18.size
      replace hRxs := hRxs.ch0 hch18
      replace hc := hc.step0 hch18
      refine rw_cons (op_pv (w0 rfl) rfl rfl (pv_pickT (v := (.bool (dec (1 ≤ wi ∧ wi ≤ 9999)))) rfl rfl rfl) ?_)
      refine rw_cons (op_pv (w0 rfl) rfl rfl (pv_assign (v := (.bool (dec (1 ≤ wi ∧ wi ≤ 9999)))) rfl rfl) ?_)
      refine rw_nil (hK8 _ _ ?_)
      refine hK6 _ _ ?_
      refine cw_ret ?_
      refine fin1 rfl ?_
      exact ⟨(bv (dec_congr ⟨fun h => ⟨by assumption, by omega, h⟩, fun h => h.2.2⟩)), hc⟩
    · -- no
      replace hb16 := dec_f hb16
      refine rw_cons (op_pass (w1n1 rfl rfl rfl rfl) rfl rfl ?_)
      refine rw_cons (op_pass (w1n1 rfl rfl rfl rfl) rfl rfl ?_)
      refine rw_cons (op_pv (w0 rfl) rfl rfl (pv_pickF (v := (.bool false)) rfl rfl rfl) ?_)
      refine rw_cons (op_pv (w0 rfl) rfl rfl (pv_assign (v := (.bool false)) rfl rfl) ?_)
      refine rw_nil (hK8 _ _ ?_)
      refine hK6 _ _ ?_
      refine cw_ret ?_
      refine fin1 rfl ?_
      exact ⟨(bvf (by rintro ⟨h1, h2, h3⟩; first | contradiction | omega)), hc⟩
  · -- no
    replace hb12 := dec_f hb12
    refine rw_cons (op_pass (w1n1 rfl rfl rfl rfl) rfl rfl ?_)
    refine rw_cons (op_pass (w1n1 rfl rfl rfl rfl) rfl rfl ?_)
    refine rw_cons (op_pv (w0 rfl) rfl rfl (pv_pickF (v := (.bool false)) rfl rfl rfl) ?_)
    refine rw_cons (op_pv (w0 rfl) rfl rfl (pv_move (v := (.bool false)) rfl rfl) ?_)
    refine rw_cons (op_pass (w1n1 rfl rfl rfl rfl) rfl rfl ?_)
    refine rw_cons (op_pass (w1n1 rfl rfl rfl rfl) rfl rfl ?_)
    refine rw_cons (op_pv (w0 rfl) rfl rfl (pv_pickF (v := (.bool false)) rfl rfl rfl) ?_)
    refine rw_cons (op_pv (w0 rfl) rfl rfl (pv_assign (v := (.bool false)) rfl rfl) ?_)
    refine rw_nil (hK8 _ _ ?_)
    refine hK6 _ _ ?_
    refine cw_ret ?_
    refine fin1 rfl ?_
    exact ⟨(bvf (by rintro ⟨h1, h2, h3⟩; first | contradiction | omega)), hc⟩
end Go.Proofs.Ytnkjljjcionfiaa
