/-
  The walk of laws.FnServersPart, written by program: each line names the law of one operation. Conditions: those of the theorem.
-/
import Derived.Test.YtielahdnccocdaaProg
import Derived.Test.YtielahdnccocdaaFspecDrawServersValid
import Derived.Test.YtielahdnccocdaaFimplServersValid
import Derived.Test.YtielahdnccocdaaFspecServersValid
import Derived.KernelRfl
namespace Go.Proofs.Ytielahdnccocdaa
open Go Go.RowKit
set_option linter.unusedVariables false
set_option linter.unusedSimpArgs false
namespace FnServersPart_okF
theorem T3 : TI Try.prog 3 false (.int .i64 0) 1 8 := TI.mk' Try.underlying3 rfl (by kernel_rfl)
theorem C15 : Callable Try.prog 15 := ⟨_, Try.func15, by kernel_rfl, by kernel_rfl⟩
theorem C17 : Callable Try.prog 17 := ⟨_, Try.func17, by kernel_rfl, by kernel_rfl⟩
theorem C20 : Callable Try.prog 20 := ⟨_, Try.func20, by kernel_rfl, by kernel_rfl⟩
end FnServersPart_okF
open FnServersPart_okF in
set_option maxHeartbeats 4000000 in
theorem FnServersPart_ok (A0 : Option Addr) (n0 c0 : Nat) (xs0 : List UInt8) (A1 : Option Addr) (n1 c1 : Nat) (xs1 : List UInt8) (w : World) (hR0 : RS encU 1 w w.heap.size A0 n0 xs0) (hn0 : n0 ≤ c0) (hR1 : RS encU 1 w w.heap.size A1 n1 xs1) (hn1 : n1 ≤ c1) :
    Fn Try.prog 6 [(.slice A0 n0 c0), (.slice A1 n1 c1)] w fun v w' => v = .bool true ∧ Ch [] w w' := by
  have hlen0 := hR0.len
  have hlen1 := hR1.len
  refine fn_of (n := 72) Try.func6 rfl rfl rfl rfl ?_
  have hc : Ch [] w w := Ch.refl _ _
  refine cw_seq fun K1 hK2 => ?_
  refine cw_region fun K3 hK4 => ?_
  refine rw_cons (op_pv (w0 rfl) rfl rfl (pv_assign (v := (.bool false)) rfl rfl) ?_)
  refine rw_nil (hK4 _ _ ?_)
  refine hK2 _ _ ?_
  refine cw_seq fun K5 hK6 => ?_
  refine cw_seq fun K7 hK8 => ?_
  refine cw_region fun K9 hK10 => ?_
  refine rw_cons (op_pv (w0 rfl) rfl rfl (pv_move (v := (.slice A0 n0 c0)) rfl rfl) ?_)
  refine rw_cons (op_pv (w0 rfl) rfl rfl (pv_len Try.underlying28 rfl rfl) ?_)
  refine rw_cons (op_pv (w0 rfl) rfl rfl (pv_gtr rfl rfl rfl) ?_)
  refine rw_cons (op_pv (w0 rfl) rfl rfl (pv_move (v := (.bool (decide (1048576 < ((n0 : Int)))))) rfl rfl) ?_)
  refine rw_split 14 rfl (fun hb11 => ?_) (fun hb11 => ?_)
  · -- yes
    replace hb11 := of_decide_eq_true hb11
    refine rw_cons (op_pass (w1n2 rfl rfl rfl rfl) rfl rfl ?_)
    refine rw_cons (op_pass (w1n2 rfl rfl rfl rfl) rfl rfl ?_)
    refine rw_cons (op_pass (w1n2 rfl rfl rfl rfl) rfl rfl ?_)
    refine rw_cons (op_pv (w0 rfl) rfl rfl (pv_pickT (v := (.bool true)) rfl rfl rfl) ?_)
    refine rw_nil (hK10 _ _ ?_)
    refine hK8 _ _ ?_
    refine cw_cond rfl (fun h12 => ?_) (fun h12 => ?_)
    · -- then
      clear h12
      refine cw_seq fun K13 hK14 => ?_
      refine cw_region fun K15 hK16 => ?_
      refine rw_cons (op_pv (w0 rfl) rfl rfl (pv_assign (v := (.bool true)) rfl rfl) ?_)
      refine rw_nil (hK16 _ _ ?_)
      refine hK14 _ _ ?_
      refine cw_ret ?_
      refine fin1 rfl ?_
      first
        | exact ⟨congrArg Value.bool (beq_self_eq_true _), hc⟩
        | exact absurd rfl ‹_ ≠ _›
        | exact ⟨rfl, hc⟩
    · -- else
      cases h12
  · -- no
    replace hb11 := of_decide_eq_false hb11
    refine rw_cons (op_pv (w1y rfl rfl rfl rfl) rfl rfl (pv_move (v := (.slice A1 n1 c1)) rfl rfl) ?_)
    refine rw_cons (op_pv (w1y rfl rfl rfl rfl) rfl rfl (pv_len Try.underlying28 rfl rfl) ?_)
    refine rw_cons (op_pv (w1y rfl rfl rfl rfl) rfl rfl (pv_gtr rfl rfl rfl) ?_)
    refine rw_cons (op_pv (w0 rfl) rfl rfl (pv_pickF (v := (.bool (decide (1048576 < ((n1 : Int)))))) rfl rfl rfl) ?_)
    refine rw_nil (hK10 _ _ ?_)
    refine hK8 _ _ ?_
    refine cw_cond rfl (fun h17 => ?_) (fun h17 => ?_)
    · -- then
      replace h17 := of_decide_eq_true h17
      refine cw_seq fun K18 hK19 => ?_
      refine cw_region fun K20 hK21 => ?_
      refine rw_cons (op_pv (w0 rfl) rfl rfl (pv_assign (v := (.bool true)) rfl rfl) ?_)
      refine rw_nil (hK21 _ _ ?_)
      refine hK19 _ _ ?_
      refine cw_ret ?_
      refine fin1 rfl ?_
      first
        | exact ⟨congrArg Value.bool (beq_self_eq_true _), hc⟩
        | exact absurd rfl ‹_ ≠ _›
        | exact ⟨rfl, hc⟩
    · -- else
      replace h17 := of_decide_eq_false h17
      refine cw_skip ?_
      refine hK6 _ _ ?_
      refine cw_seq fun K22 hK23 => ?_
      refine cw_region fun K24 hK25 => ?_
      refine rw_cons (op_pv (w0 rfl) rfl rfl (pv_move (v := (.slice A0 n0 c0)) rfl rfl) ?_)
      refine rw_cons (op_call (w0 rfl) rfl rfl (rc_call C20 rfl rfl) (DrawServersValid_ok _ _ _ _ _ (hR0.more (by omega)) (by omega)) ?_)
      rintro _ w26 ⟨A29, c30, xs31, rfl, hO32, hl27, hch28⟩
      have hsz34 := hch28.size
      replace hR0 := hR0.ch0 hch28
      replace hR1 := hR1.ch0 hch28
      replace hc := hc.step0 hch28
      have hub33 := hO32.lt
      have hcap35 : xs31.length ≤ c30 := by obtain ⟨_, _, hv, h1, _⟩ := hO32.form; injection hv with _ _ h3; omega
      refine rw_cons (op_pv (w0 rfl) rfl rfl (pv_assign (v := (.slice A29 xs31.length c30)) rfl rfl) ?_)
      refine rw_nil (hK25 _ _ ?_)
      refine hK23 _ _ ?_
      refine cw_seq fun K36 hK37 => ?_
      refine cw_region fun K38 hK39 => ?_
      refine rw_cons (op_pv (w0 rfl) rfl rfl (pv_move (v := (.slice A29 xs31.length c30)) rfl rfl) ?_)
      refine rw_cons (op_call (w0 rfl) rfl rfl (rc_call C17 rfl rfl) (ServersValid_i _ _ _ xs31 _ (hO32.rs (fun _ => rfl)) (by omega)) ?_)
      rintro _ w40 ⟨rfl, hch41⟩
      have hsz42 := hch41.size
      replace hR0 := hR0.ch0 hch41
      replace hR1 := hR1.ch0 hch41
      replace hO32 := hO32.ch0 hch41
      replace hc := hc.step0 hch41
      refine rw_cons (op_pv (w0 rfl) rfl rfl (pv_assign (v := (.bool (dec (ServersOK xs31)))) rfl rfl) ?_)
      refine rw_nil (hK39 _ _ ?_)
      refine hK37 _ _ ?_
      refine cw_seq fun K43 hK44 => ?_
      refine cw_region fun K45 hK46 => ?_
      refine rw_cons (op_pv (w0 rfl) rfl rfl (pv_move (v := (.slice A29 xs31.length c30)) rfl rfl) ?_)
      refine rw_cons (op_call (w0 rfl) rfl rfl (rc_call C15 rfl rfl) (ServersValid_s _ _ _ xs31 _ (hO32.rs (fun _ => rfl)) (by omega)) ?_)
      rintro _ w47 ⟨rfl, hch48⟩
      have hsz49 := hch48.size
      replace hR0 := hR0.ch0 hch48
      replace hR1 := hR1.ch0 hch48
      replace hO32 := hO32.ch0 hch48
      replace hc := hc.step0 hch48
      refine rw_cons (op_pv (w0 rfl) rfl rfl (pv_assign (v := (.bool (dec (ServersOK xs31)))) rfl rfl) ?_)
      refine rw_nil (hK46 _ _ ?_)
      refine hK44 _ _ ?_
      refine cw_seq fun K50 hK51 => ?_
      refine cw_seq fun K52 hK53 => ?_
      refine cw_region fun K54 hK55 => ?_
      refine rw_cons (op_pv (w0 rfl) rfl rfl (pv_move (v := (.bool (dec (ServersOK xs31)))) rfl rfl) ?_)
      refine rw_cons (op_pv (w0 rfl) rfl rfl (pv_move (v := (.bool (dec (ServersOK xs31)))) rfl rfl) ?_)
      refine rw_cons (op_pv (w0 rfl) rfl rfl (pv_neqB Try.underlying4 rfl rfl rfl) ?_)
      refine rw_cons (op_pv (w0 rfl) rfl rfl (pv_move (v := (.bool (!((dec (ServersOK xs31)) == (dec (ServersOK xs31)))))) rfl rfl) ?_)
      refine rw_split 28 rfl (fun hb56 => ?_) (fun hb56 => ?_)
      · -- yes
        replace hb56 := not_t hb56
        replace hb56 := ne_of_beq_false hb56
        refine rw_cons (op_pass (w1n2 rfl rfl rfl rfl) rfl rfl ?_)
        refine rw_cons (op_pass (w1n2 rfl rfl rfl rfl) rfl rfl ?_)
        refine rw_cons (op_pv (w0 rfl) rfl rfl (pv_pickT (v := (.bool true)) rfl rfl rfl) ?_)
        refine rw_cons (op_pv (w0 rfl) rfl rfl (pv_move (v := (.bool true)) rfl rfl) ?_)
        refine rw_cons (op_pass (w1n2 rfl rfl rfl rfl) rfl rfl ?_)
        refine rw_cons (op_pass (w1n2 rfl rfl rfl rfl) rfl rfl ?_)
        refine rw_cons (op_pass (w1n2 rfl rfl rfl rfl) rfl rfl ?_)
        refine rw_cons (op_pv (w0 rfl) rfl rfl (pv_pickT (v := (.bool true)) rfl rfl rfl) ?_)
        refine rw_nil (hK55 _ _ ?_)
        refine hK53 _ _ ?_
        refine cw_cond rfl (fun h57 => ?_) (fun h57 => ?_)
        · -- then
          clear h57
          refine cw_seq fun K58 hK59 => ?_
          refine cw_region fun K60 hK61 => ?_
          refine rw_cons (op_pv (w0 rfl) rfl rfl (pv_move (v := (.bool (dec (ServersOK xs31)))) rfl rfl) ?_)
          refine rw_cons (op_pv (w0 rfl) rfl rfl (pv_move (v := (.bool (dec (ServersOK xs31)))) rfl rfl) ?_)
          refine rw_cons (op_pv (w0 rfl) rfl rfl (pv_eqlB Try.underlying4 rfl rfl rfl) ?_)
          refine rw_cons (op_pv (w0 rfl) rfl rfl (pv_assign (v := (.bool ((dec (ServersOK xs31)) == (dec (ServersOK xs31))))) rfl rfl) ?_)
          refine rw_nil (hK61 _ _ ?_)
          refine hK59 _ _ ?_
          refine cw_ret ?_
          refine fin1 rfl ?_
          first
            | exact ⟨congrArg Value.bool (beq_self_eq_true _), hc⟩
            | exact absurd rfl ‹_ ≠ _›
            | exact ⟨rfl, hc⟩
        · -- else
          cases h57
      · -- no
        replace hb56 := not_f hb56
        replace hb56 := eq_of_beq hb56
        refine rw_cons (op_pv (w1y rfl rfl rfl rfl) rfl rfl (pv_move (v := (.bool (dec (ServersOK xs31)))) rfl rfl) ?_)
        refine rw_cons (op_pv (w1y rfl rfl rfl rfl) rfl rfl (pv_not rfl rfl) ?_)
        refine rw_cons (op_pv (w0 rfl) rfl rfl (pv_pickF (v := (.bool (!(dec (ServersOK xs31))))) rfl rfl rfl) ?_)
        refine rw_cons (op_pv (w0 rfl) rfl rfl (pv_move (v := (.bool (!(dec (ServersOK xs31))))) rfl rfl) ?_)
        refine rw_split 32 rfl (fun hb62 => ?_) (fun hb62 => ?_)
        · -- yes
          replace hb62 := not_t hb62
          replace hb62 := dec_f hb62
          refine rw_cons (op_pass (w1n2 rfl rfl rfl rfl) rfl rfl ?_)
          refine rw_cons (op_pass (w1n2 rfl rfl rfl rfl) rfl rfl ?_)
          refine rw_cons (op_pass (w1n2 rfl rfl rfl rfl) rfl rfl ?_)
          refine rw_cons (op_pv (w0 rfl) rfl rfl (pv_pickT (v := (.bool true)) rfl rfl rfl) ?_)
          refine rw_nil (hK55 _ _ ?_)
          refine hK53 _ _ ?_
          refine cw_cond rfl (fun h63 => ?_) (fun h63 => ?_)
          · -- then
            clear h63
            refine cw_seq fun K64 hK65 => ?_
            refine cw_region fun K66 hK67 => ?_
            refine rw_cons (op_pv (w0 rfl) rfl rfl (pv_move (v := (.bool (dec (ServersOK xs31)))) rfl rfl) ?_)
            refine rw_cons (op_pv (w0 rfl) rfl rfl (pv_move (v := (.bool (dec (ServersOK xs31)))) rfl rfl) ?_)
            refine rw_cons (op_pv (w0 rfl) rfl rfl (pv_eqlB Try.underlying4 rfl rfl rfl) ?_)
            refine rw_cons (op_pv (w0 rfl) rfl rfl (pv_assign (v := (.bool ((dec (ServersOK xs31)) == (dec (ServersOK xs31))))) rfl rfl) ?_)
            refine rw_nil (hK67 _ _ ?_)
            refine hK65 _ _ ?_
            refine cw_ret ?_
            refine fin1 rfl ?_
            first
              | exact ⟨congrArg Value.bool (beq_self_eq_true _), hc⟩
              | exact absurd rfl ‹_ ≠ _›
              | exact ⟨rfl, hc⟩
          · -- else
            cases h63
        · -- no
          replace hb62 := not_f hb62
          replace hb62 := dec_t hb62
          refine rw_cons (op_pv (w1y rfl rfl rfl rfl) rfl rfl (pv_move (v := (.slice A29 xs31.length c30)) rfl rfl) ?_)
          refine rw_cons (op_pv (w1y rfl rfl rfl rfl) rfl rfl (pv_len Try.underlying24 rfl rfl) ?_)
          refine rw_cons (op_pv (w1y rfl rfl rfl rfl) rfl rfl (pv_eql rfl rfl rfl) ?_)
          refine rw_cons (op_pv (w0 rfl) rfl rfl (pv_pickF (v := (.bool (decide (((xs31.length : Int) : Int) = 0)))) rfl rfl rfl) ?_)
          refine rw_nil (hK55 _ _ ?_)
          refine hK53 _ _ ?_
          refine cw_cond rfl (fun h68 => ?_) (fun h68 => ?_)
          · -- then
            replace h68 := of_decide_eq_true h68
            refine cw_seq fun K69 hK70 => ?_
            refine cw_region fun K71 hK72 => ?_
            refine rw_cons (op_pv (w0 rfl) rfl rfl (pv_move (v := (.bool (dec (ServersOK xs31)))) rfl rfl) ?_)
            refine rw_cons (op_pv (w0 rfl) rfl rfl (pv_move (v := (.bool (dec (ServersOK xs31)))) rfl rfl) ?_)
            refine rw_cons (op_pv (w0 rfl) rfl rfl (pv_eqlB Try.underlying4 rfl rfl rfl) ?_)
            refine rw_cons (op_pv (w0 rfl) rfl rfl (pv_assign (v := (.bool ((dec (ServersOK xs31)) == (dec (ServersOK xs31))))) rfl rfl) ?_)
            refine rw_nil (hK72 _ _ ?_)
            refine hK70 _ _ ?_
            refine cw_ret ?_
            refine fin1 rfl ?_
            first
              | exact ⟨congrArg Value.bool (beq_self_eq_true _), hc⟩
              | exact absurd rfl ‹_ ≠ _›
              | exact ⟨rfl, hc⟩
          · -- else
            replace h68 := of_decide_eq_false h68
            refine cw_skip ?_
            refine hK51 _ _ ?_
            refine cw_seq fun K73 hK74 => ?_
            refine cw_region fun K75 hK76 => ?_
            refine rw_cons (op_pv (w0 rfl) rfl rfl (pv_move (v := (.slice A1 n1 c1)) rfl rfl) ?_)
            refine rw_cons (op_pv (w0 rfl) rfl rfl (pv_len Try.underlying28 rfl rfl) ?_)
            refine rw_cons (op_pv (w0 rfl) rfl rfl (pv_move (v := (.slice A29 xs31.length c30)) rfl rfl) ?_)
            refine rw_cons (op_pv (w0 rfl) rfl rfl (pv_len Try.underlying24 rfl rfl) ?_)
            refine rw_cons (op_pv (w0 rfl) rfl rfl (pv_rem rfl rfl rfl (by omega) (by omega)) ?_)
            have hq77 := Int.emod_nonneg ((n1 : Int)) (b := ((xs31.length : Int))) (by omega); have hq78 := Int.emod_lt_of_pos ((n1 : Int)) (b := ((xs31.length : Int))) (by omega)
            obtain ⟨d79, hd80⟩ : ∃ d : Nat, ((n1 : Int)) % ((xs31.length : Int)) = (d : Int) := ⟨(((n1 : Int)) % ((xs31.length : Int))).toNat, by omega⟩
            rw [hd80]
            rw [hd80] at hq77
            rw [hd80] at hq78
            refine rw_cons (op_pv (w0 rfl) rfl rfl (pv_assign (v := (.int .i64 ((d79 : Int)))) rfl rfl) ?_)
            refine rw_nil (hK76 _ _ ?_)
            refine hK74 _ _ ?_
            refine cw_seq fun K81 hK82 => ?_
            refine cw_drawn (fun u => Ch [] w47 u) (.free 1 (.free 2 (.free 3 (.free 5 (.free 6 (.free 7 (.free 8 (.one 0 true (.one 4 true (.one 9 true (.free 10 (.done)))))))))))) (by kernel_rfl) (by kernel_rfl) (Ch.refl _ _).drew fun K86 hK87 => ?_
            obtain ⟨w83, hw_, hch84, hsz85⟩ : ∃ w1 : World, w1 = w47.drew ∧ Ch [] w47 w1 ∧ w1.heap.size = w47.heap.size := ⟨_, rfl, (Ch.refl _ _).drew, rfl⟩
            rw [← hw_]; clear hw_
            have hr88 : Ch [] w47 w83 := hch84.sub (fun s hs => by cases hs)
            have hR0_r := hR0
            have hR1_r := hR1
            have hO32_r := hO32
            have hsz89 := hch84.size
            replace hR0 := hR0.ch0 hch84
            replace hR1 := hR1.ch0 hch84
            replace hO32 := hO32.ch0 hch84
            replace hc := hc.step0 hch84
            refine tw_free rfl (w0 rfl) rfl rfl (fun u hu => (pv_move (v := (.slice A29 xs31.length c30)) rfl rfl : PV _ _ _ _) u) ?_
            refine tw_free rfl (w0 rfl) rfl rfl (fun u hu => (pv_move (v := (.int .i64 ((d79 : Int)))) rfl rfl : PV _ _ _ _) u) ?_
            refine tw_free rfl (w0 rfl) rfl rfl (fun u hu => (pv_upto Try.underlying24 T3 rfl rfl rfl (by omega) (by omega) : PV _ _ _ _) u) ?_
            have hR90 : RS encI 1 w83 w83.heap.size A29 d79 (xs31.take d79) := ((hO32.rs (fun _ => rfl))).upto (by omega)
            refine tw_free rfl (w0 rfl) rfl rfl (fun u hu => (pv_move (v := (.slice A29 xs31.length c30)) rfl rfl : PV _ _ _ _) u) ?_
            refine tw_free rfl (w0 rfl) rfl rfl (fun u hu => (pv_move (v := (.int .i64 ((d79 : Int)))) rfl rfl : PV _ _ _ _) u) ?_
            refine tw_free rfl (w0 rfl) rfl rfl (fun u hu => (pv_add rfl rfl rfl (by omega) (by omega) : PV _ _ _ _) u) ?_
            refine tw_free rfl (w0 rfl) rfl rfl (fun u hu => (pv_from Try.underlying24 T3 rfl rfl rfl (by omega) (by omega) : PV _ _ _ _) u) ?_
            have hR91 : RS encI 1 w83 w83.heap.size ((if c30 = ((d79 + 1)) then A29 else (A29).map (·.add (((d79 + 1)) * 1)))) (xs31.length - ((d79 + 1))) (xs31.drop ((d79 + 1))) := ((hO32.rs (fun _ => rfl))).from (by omega) (by omega)
            refine tw_one rfl (op_bslice [] Try.underlying24 T3 (w0 rfl) rfl rfl rfl rfl rfl (by simp [Value.cells]) (by decide) ?_)
            intro g93 w92 hg96 hg97 hK95 hch94
            have hO98 : Own encI 1 w92 w47.heap.size 3 (.slice ((some ⟨g93, 0, none⟩)) 0 0) ([] : List Int) := Blk.own (xs := ([] : List Int)) hK95 (by omega) rfl (by decide) rfl
            have hsz99 := hch94.size
            replace hR0 := hR0.ch0 hch94
            replace hR1 := hR1.ch0 hch94
            replace hO32 := hO32.ch0 hch94
            replace hR90 := hR90.ch0 hch94
            replace hR91 := hR91.ch0 hch94
            replace hc := hc.step0 hch94
            replace hr88 := hr88.step0 hch94
            have hub100 := hO98.lt
            refine ⟨fun _ => hr88, ?_⟩
            refine tw_one rfl (op_append Try.underlying24 T3 (fun _ => rfl) rfl (by decide) (fun _ => one_all rfl) (w0 rfl) rfl rfl rfl rfl rfl hO98 hR90 (by unfold maxLen; first | omega | (simp; omega)) (by first | omega | (simp; omega)) (by omega) ?_)
            rintro v101 w102 hO103 hch104 hs105
            have hl106 : (([] : List Int) ++ (xs31.take d79)).length = 0 + d79 := by first | (have hl0 := hR90.len; simp only [List.length_append, List.length_cons, List.length_nil] at hl0 ⊢; omega) | simp | rfl
            have hsz107 := hch104.size
            replace hR0 := hR0.ch hch104 (hO98.off.le (by omega))
            replace hR1 := hR1.ch hch104 (hO98.off.le (by omega))
            replace hO32 := hO32.ch hch104 (fun s hs hs2 => by first | (have h1 := hO32.off s hs; have h2 := hub100 s hs2; omega) | (have h1 := hub33 s hs; have h2 := hO98.off s hs2; omega))
            replace hR90 := hR90.ch hch104 (hO98.off.le (by omega))
            replace hR91 := hR91.ch hch104 (hO98.off.le (by omega))
            replace hc := (hO98.off.le (by omega)).step hc hch104
            replace hr88 := (hO98.off.le (by omega)).step hr88 hch104
            have hub108 := hO103.lt
            obtain ⟨A109, c110, hv111, hcap112, hcap113⟩ := hO103.form; subst hv111
            refine ⟨fun _ => hr88, ?_⟩
            refine tw_one rfl (op_append Try.underlying24 T3 (fun _ => rfl) rfl (by decide) (fun _ => one_all rfl) (w0 rfl) rfl rfl rfl rfl rfl hO103 hR91 (by unfold maxLen; first | omega | (simp; omega)) (by first | omega | (simp; omega)) (by omega) ?_)
            rintro v114 w115 hO116 hch117 hs118
            have hl119 : ((([] : List Int) ++ (xs31.take d79)) ++ (xs31.drop ((d79 + 1)))).length = ((([] : List Int) ++ (xs31.take d79)).length) + ((xs31.length - ((d79 + 1)))) := by first | (have hl0 := hR91.len; simp only [List.length_append, List.length_cons, List.length_nil] at hl0 ⊢; omega) | simp | rfl
            have hsz120 := hch117.size
            replace hR0 := hR0.ch hch117 (hO103.off.le (by omega))
            replace hR1 := hR1.ch hch117 (hO103.off.le (by omega))
            replace hO32 := hO32.ch hch117 (fun s hs hs2 => by first | (have h1 := hO32.off s hs; have h2 := hub108 s hs2; omega) | (have h1 := hub33 s hs; have h2 := hO103.off s hs2; omega))
            replace hR90 := hR90.ch hch117 (hO103.off.le (by omega))
            replace hR91 := hR91.ch hch117 (hO103.off.le (by omega))
            replace hc := (hO103.off.le (by omega)).step hc hch117
            replace hr88 := (hO103.off.le (by omega)).step hr88 hch117
            have hub121 := hO116.lt
            obtain ⟨A122, c123, hv124, hcap125, hcap126⟩ := hO116.form; subst hv124
            refine ⟨fun _ => hr88, ?_⟩
            refine tw_free rfl (w0 rfl) rfl rfl (fun u hu => (pv_assign (v := (.slice A122 (((([] : List Int) ++ (xs31.take d79)) ++ (xs31.drop ((d79 + 1)))).length) c123)) rfl rfl : PV _ _ _ _) u) ?_
            clear hR1_r
            clear hO32_r
            clear hR0_r
            refine tw_done (hK87 _ _ ?_)
            refine hK82 _ _ ?_
            refine cw_seq fun K127 hK128 => ?_
            refine cw_drawn (fun u => Ch [] w115 u) (.free 1 (.free 2 (.free 3 (.free 4 (.free 6 (.free 7 (.free 8 (.one 0 true (.one 5 true (.one 9 true (.free 10 (.done)))))))))))) (by kernel_rfl) (by kernel_rfl) (Ch.refl _ _).drew fun K132 hK133 => ?_
            obtain ⟨w129, hw_, hch130, hsz131⟩ : ∃ w1 : World, w1 = w115.drew ∧ Ch [] w115 w1 ∧ w1.heap.size = w115.heap.size := ⟨_, rfl, (Ch.refl _ _).drew, rfl⟩
            rw [← hw_]; clear hw_
            have hr134 : Ch [] w115 w129 := hch130.sub (fun s hs => by cases hs)
            have hR0_r := hR0
            have hR1_r := hR1
            have hO32_r := hO32
            have hR90_r := hR90
            have hR91_r := hR91
            have hO116_r := hO116
            have hsz135 := hch130.size
            replace hR0 := hR0.ch0 hch130
            replace hR1 := hR1.ch0 hch130
            replace hO32 := hO32.ch0 hch130
            replace hR90 := hR90.ch0 hch130
            replace hR91 := hR91.ch0 hch130
            replace hO116 := hO116.ch0 hch130
            replace hc := hc.step0 hch130
            refine tw_free rfl (w0 rfl) rfl rfl (fun u hu => (pv_move (v := (.slice A29 xs31.length c30)) rfl rfl : PV _ _ _ _) u) ?_
            refine tw_free rfl (w0 rfl) rfl rfl (fun u hu => (pv_move (v := (.int .i64 ((d79 : Int)))) rfl rfl : PV _ _ _ _) u) ?_
            refine tw_free rfl (w0 rfl) rfl rfl (fun u hu => (pv_add rfl rfl rfl (by omega) (by omega) : PV _ _ _ _) u) ?_
            refine tw_free rfl (w0 rfl) rfl rfl (fun u hu => (pv_upto Try.underlying24 T3 rfl rfl rfl (by omega) (by omega) : PV _ _ _ _) u) ?_
            have hR136 : RS encI 1 w129 w129.heap.size A29 (d79 + 1) (xs31.take (d79 + 1)) := ((hO32.rs (fun _ => rfl))).upto (by omega)
            refine tw_free rfl (w0 rfl) rfl rfl (fun u hu => (pv_move (v := (.slice A29 xs31.length c30)) rfl rfl : PV _ _ _ _) u) ?_
            refine tw_free rfl (w0 rfl) rfl rfl (fun u hu => (pv_move (v := (.int .i64 ((d79 : Int)))) rfl rfl : PV _ _ _ _) u) ?_
            refine tw_free rfl (w0 rfl) rfl rfl (fun u hu => (pv_from Try.underlying24 T3 rfl rfl rfl (by omega) (by omega) : PV _ _ _ _) u) ?_
            have hR137 : RS encI 1 w129 w129.heap.size ((if c30 = d79 then A29 else (A29).map (·.add (d79 * 1)))) (xs31.length - d79) (xs31.drop d79) := ((hO32.rs (fun _ => rfl))).from (by omega) (by omega)
            refine tw_one rfl (op_bslice [] Try.underlying24 T3 (w0 rfl) rfl rfl rfl rfl rfl (by simp [Value.cells]) (by decide) ?_)
            intro g139 w138 hg142 hg143 hK141 hch140
            have hO144 : Own encI 1 w138 w115.heap.size 3 (.slice ((some ⟨g139, 0, none⟩)) 0 0) ([] : List Int) := Blk.own (xs := ([] : List Int)) hK141 (by omega) rfl (by decide) rfl
            have hsz145 := hch140.size
            replace hR0 := hR0.ch0 hch140
            replace hR1 := hR1.ch0 hch140
            replace hO32 := hO32.ch0 hch140
            replace hR90 := hR90.ch0 hch140
            replace hR91 := hR91.ch0 hch140
            replace hO116 := hO116.ch0 hch140
            replace hR136 := hR136.ch0 hch140
            replace hR137 := hR137.ch0 hch140
            replace hc := hc.step0 hch140
            replace hr134 := hr134.step0 hch140
            have hub146 := hO144.lt
            refine ⟨fun _ => hr134, ?_⟩
            refine tw_one rfl (op_append Try.underlying24 T3 (fun _ => rfl) rfl (by decide) (fun _ => one_all rfl) (w0 rfl) rfl rfl rfl rfl rfl hO144 hR136 (by unfold maxLen; first | omega | (simp; omega)) (by first | omega | (simp; omega)) (by omega) ?_)
            rintro v147 w148 hO149 hch150 hs151
            have hl152 : (([] : List Int) ++ (xs31.take (d79 + 1))).length = 0 + ((d79 + 1)) := by first | (have hl0 := hR136.len; simp only [List.length_append, List.length_cons, List.length_nil] at hl0 ⊢; omega) | simp | rfl
            have hsz153 := hch150.size
            replace hR0 := hR0.ch hch150 (hO144.off.le (by omega))
            replace hR1 := hR1.ch hch150 (hO144.off.le (by omega))
            replace hO32 := hO32.ch hch150 (fun s hs hs2 => by first | (have h1 := hO32.off s hs; have h2 := hub146 s hs2; omega) | (have h1 := hub33 s hs; have h2 := hO144.off s hs2; omega))
            replace hR90 := hR90.ch hch150 (hO144.off.le (by omega))
            replace hR91 := hR91.ch hch150 (hO144.off.le (by omega))
            replace hO116 := hO116.ch hch150 (fun s hs hs2 => by first | (have h1 := hO116.off s hs; have h2 := hub146 s hs2; omega) | (have h1 := hub121 s hs; have h2 := hO144.off s hs2; omega))
            replace hR136 := hR136.ch hch150 (hO144.off.le (by omega))
            replace hR137 := hR137.ch hch150 (hO144.off.le (by omega))
            replace hc := (hO144.off.le (by omega)).step hc hch150
            replace hr134 := (hO144.off.le (by omega)).step hr134 hch150
            have hub154 := hO149.lt
            obtain ⟨A155, c156, hv157, hcap158, hcap159⟩ := hO149.form; subst hv157
            refine ⟨fun _ => hr134, ?_⟩
            refine tw_one rfl (op_append Try.underlying24 T3 (fun _ => rfl) rfl (by decide) (fun _ => one_all rfl) (w0 rfl) rfl rfl rfl rfl rfl hO149 hR137 (by unfold maxLen; first | omega | (simp; omega)) (by first | omega | (simp; omega)) (by omega) ?_)
            rintro v160 w161 hO162 hch163 hs164
            have hl165 : ((([] : List Int) ++ (xs31.take (d79 + 1))) ++ (xs31.drop d79)).length = ((([] : List Int) ++ (xs31.take (d79 + 1))).length) + ((xs31.length - d79)) := by first | (have hl0 := hR137.len; simp only [List.length_append, List.length_cons, List.length_nil] at hl0 ⊢; omega) | simp | rfl
            have hsz166 := hch163.size
            replace hR0 := hR0.ch hch163 (hO149.off.le (by omega))
            replace hR1 := hR1.ch hch163 (hO149.off.le (by omega))
            replace hO32 := hO32.ch hch163 (fun s hs hs2 => by first | (have h1 := hO32.off s hs; have h2 := hub154 s hs2; omega) | (have h1 := hub33 s hs; have h2 := hO149.off s hs2; omega))
            replace hR90 := hR90.ch hch163 (hO149.off.le (by omega))
            replace hR91 := hR91.ch hch163 (hO149.off.le (by omega))
            replace hO116 := hO116.ch hch163 (fun s hs hs2 => by first | (have h1 := hO116.off s hs; have h2 := hub154 s hs2; omega) | (have h1 := hub121 s hs; have h2 := hO149.off s hs2; omega))
            replace hR136 := hR136.ch hch163 (hO149.off.le (by omega))
            replace hR137 := hR137.ch hch163 (hO149.off.le (by omega))
            replace hc := (hO149.off.le (by omega)).step hc hch163
            replace hr134 := (hO149.off.le (by omega)).step hr134 hch163
            have hub167 := hO162.lt
            obtain ⟨A168, c169, hv170, hcap171, hcap172⟩ := hO162.form; subst hv170
            refine ⟨fun _ => hr134, ?_⟩
            refine tw_free rfl (w0 rfl) rfl rfl (fun u hu => (pv_assign (v := (.slice A168 (((([] : List Int) ++ (xs31.take (d79 + 1))) ++ (xs31.drop d79)).length) c169)) rfl rfl : PV _ _ _ _) u) ?_
            clear hO32_r
            clear hR0_r
            clear hR90_r
            clear hR1_r
            clear hR91_r
            clear hO116_r
            refine tw_done (hK133 _ _ ?_)
            refine hK128 _ _ ?_
            refine cw_seq fun K173 hK174 => ?_
            refine cw_region fun K175 hK176 => ?_
            refine rw_cons (op_pv (w0 rfl) rfl rfl (pv_move (v := (.slice A122 (((([] : List Int) ++ (xs31.take d79)) ++ (xs31.drop ((d79 + 1)))).length) c123)) rfl rfl) ?_)
            refine rw_cons (op_call (w0 rfl) rfl rfl (rc_call C17 rfl rfl) (ServersValid_i _ _ _ (((([] : List Int) ++ (xs31.take d79)) ++ (xs31.drop ((d79 + 1))))) _ (hO116.rs (fun _ => rfl)) (by omega)) ?_)
            rintro _ w177 ⟨rfl, hch178⟩
            have hsz179 := hch178.size
            replace hR0 := hR0.ch0 hch178
            replace hR1 := hR1.ch0 hch178
            replace hO32 := hO32.ch0 hch178
            replace hR90 := hR90.ch0 hch178
            replace hR91 := hR91.ch0 hch178
            replace hO116 := hO116.ch0 hch178
            replace hR136 := hR136.ch0 hch178
            replace hR137 := hR137.ch0 hch178
            replace hO162 := hO162.ch0 hch178
            replace hc := hc.step0 hch178
            refine rw_cons (op_pv (w0 rfl) rfl rfl (pv_move (v := (.bool (dec (ServersOK (((([] : List Int) ++ (xs31.take d79)) ++ (xs31.drop ((d79 + 1))))))))) rfl rfl) ?_)
            refine rw_split 67 rfl (fun hb180 => ?_) (fun hb180 => ?_)
            · -- yes
              replace hb180 := dec_t hb180
              refine rw_cons (op_pv (w1y rfl rfl rfl rfl) rfl rfl (pv_move (v := (.slice A168 (((([] : List Int) ++ (xs31.take (d79 + 1))) ++ (xs31.drop d79)).length) c169)) rfl rfl) ?_)
              refine rw_cons (op_call (w1y rfl rfl rfl rfl) rfl rfl (rc_call C17 rfl rfl) (ServersValid_i _ _ _ (((([] : List Int) ++ (xs31.take (d79 + 1))) ++ (xs31.drop d79))) _ (hO162.rs (fun _ => rfl)) (by omega)) ?_)
              rintro _ w181 ⟨rfl, hch182⟩
              have hsz183 := hch182.size
              replace hR0 := hR0.ch0 hch182
              replace hR1 := hR1.ch0 hch182
              replace hO32 := hO32.ch0 hch182
              replace hR90 := hR90.ch0 hch182
              replace hR91 := hR91.ch0 hch182
              replace hO116 := hO116.ch0 hch182
              replace hR136 := hR136.ch0 hch182
              replace hR137 := hR137.ch0 hch182
              replace hO162 := hO162.ch0 hch182
              replace hc := hc.step0 hch182
              refine rw_cons (op_pv (w1y rfl rfl rfl rfl) rfl rfl (pv_not rfl rfl) ?_)
              refine rw_cons (op_pv (w0 rfl) rfl rfl (pv_pickT (v := (.bool (!(dec (ServersOK (((([] : List Int) ++ (xs31.take (d79 + 1))) ++ (xs31.drop d79)))))))) rfl rfl rfl) ?_)
              refine rw_cons (op_pv (w0 rfl) rfl rfl (pv_assign (v := (.bool (!(dec (ServersOK (((([] : List Int) ++ (xs31.take (d79 + 1))) ++ (xs31.drop d79)))))))) rfl rfl) ?_)
              refine rw_nil (hK176 _ _ ?_)
              refine hK174 _ _ ?_
              refine cw_ret ?_
              refine fin1 rfl ?_
              have hdl : d79 < xs31.length := by omega
              have hok : ServersOK ((([] : List Int) ++ (xs31.take d79)) ++ (xs31.drop ((d79 + 1)))) := ok_without ‹ServersOK xs31› (d := d79) (e := d79 + 1) (by omega) hdl
              have hbad : ¬ServersOK ((([] : List Int) ++ (xs31.take (d79 + 1))) ++ (xs31.drop d79)) := bad_twice (xs := xs31) (d := d79) (e := d79 + 1) (by omega) hdl
              first
                | exact absurd hok ‹¬ ServersOK _›
                | exact ⟨congrArg Value.bool (by rw [dec_no hbad]; rfl), hc⟩
            · -- no
              replace hb180 := dec_f hb180
              refine rw_cons (op_pass (w1n1 rfl rfl rfl rfl) rfl rfl ?_)
              refine rw_cons (op_pass (w1n1 rfl rfl rfl rfl) rfl rfl ?_)
              refine rw_cons (op_pass (w1n1 rfl rfl rfl rfl) rfl rfl ?_)
              refine rw_cons (op_pv (w0 rfl) rfl rfl (pv_pickF (v := (.bool false)) rfl rfl rfl) ?_)
              refine rw_cons (op_pv (w0 rfl) rfl rfl (pv_assign (v := (.bool false)) rfl rfl) ?_)
              refine rw_nil (hK176 _ _ ?_)
              refine hK174 _ _ ?_
              refine cw_ret ?_
              refine fin1 rfl ?_
              have hdl : d79 < xs31.length := by omega
              have hok : ServersOK ((([] : List Int) ++ (xs31.take d79)) ++ (xs31.drop ((d79 + 1)))) := ok_without ‹ServersOK xs31› (d := d79) (e := d79 + 1) (by omega) hdl
              have hbad : ¬ServersOK ((([] : List Int) ++ (xs31.take (d79 + 1))) ++ (xs31.drop d79)) := bad_twice (xs := xs31) (d := d79) (e := d79 + 1) (by omega) hdl
              first
                | exact absurd hok ‹¬ ServersOK _›
                | exact ⟨congrArg Value.bool (by rw [dec_no hbad]; rfl), hc⟩
end Go.Proofs.Ytielahdnccocdaa
