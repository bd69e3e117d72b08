/-
  The walk of laws.FnFilesPart, written by program: each line names the law of one operation. Conditions: those of the theorem.
-/
import Derived.Test.YthgnlljpjpklpaaProg
import Derived.Test.YthgnlljpjpklpaaDeep
import Derived.Test.YthgnlljpjpklpaaFlaw
import Derived.Test.YthgnlljpjpklpaaFspecDrawFilesValid
import Derived.Test.YthgnlljpjpklpaaFimplFilesValid
import Derived.Test.YthgnlljpjpklpaaFspecFilesValid
import Derived.KernelRfl
namespace Go.Proofs.Ythgnlljpjpklpaa
open Go Go.RowKit
set_option linter.unusedVariables false
set_option linter.unusedSimpArgs false
namespace FnFilesPart_okF
theorem T48 : TI Try.prog 48 true (.agg #[.string { data := #[] }, .slice none 0 0]) 2 40 := TI.mk' Try.underlying48 rfl (by kernel_rfl)
theorem C30 : Callable Try.prog 30 := ⟨_, Try.func30, by kernel_rfl, by kernel_rfl⟩
theorem C31 : Callable Try.prog 31 := ⟨_, Try.func31, by kernel_rfl, by kernel_rfl⟩
theorem C32 : Callable Try.prog 32 := ⟨_, Try.func32, by kernel_rfl, by kernel_rfl⟩
end FnFilesPart_okF
open FnFilesPart_okF in
set_option maxHeartbeats 4000000 in
theorem FnFilesPart_ok (A0 : Option Addr) (n0 c0 : Nat) (xs0 : List UInt8) (A1 : Option Addr) (n1 c1 : Nat) (xs1 : List UInt8) (w : World) (hR0 : RS encU 1 w w.heap.size A0 n0 xs0) (hn0 : n0 ≤ c0) (hR1 : RS encU 1 w w.heap.size A1 n1 xs1) (hn1 : n1 ≤ c1) :
    Fn Try.prog 5 [(.slice A0 n0 c0), (.slice A1 n1 c1)] w fun v w' => v = .bool true ∧ Ch [] w w' := by
  have hlen0 := hR0.len
  have hlen1 := hR1.len
  refine fn_of (n := 72) Try.func5 rfl rfl rfl rfl ?_
  have hc : Ch [] w w := Ch.refl _ _
  refine cw_seq fun K1 hK2 => ?_
  refine cw_region fun K3 hK4 => ?_
  refine rw_cons (op_pv (w0 rfl) rfl rfl (pv_assign (v := (.bool false)) rfl rfl) ?_)
  refine rw_nil (hK4 _ _ ?_)
  refine hK2 _ _ ?_
  refine cw_seq fun K5 hK6 => ?_
  refine cw_seq fun K7 hK8 => ?_
  refine cw_region fun K9 hK10 => ?_
  refine rw_cons (op_pv (w0 rfl) rfl rfl (pv_move (v := (.slice A0 n0 c0)) rfl rfl) ?_)
  refine rw_cons (op_pv (w0 rfl) rfl rfl (pv_len Try.underlying36 rfl rfl) ?_)
  refine rw_cons (op_pv (w0 rfl) rfl rfl (pv_gtr rfl rfl rfl) ?_)
  refine rw_cons (op_pv (w0 rfl) rfl rfl (pv_move (v := (.bool (decide (1048576 < (n0 : Int))))) rfl rfl) ?_)
  refine rw_split 14 rfl (fun hb11 => ?_) (fun hb11 => ?_)
  · -- yes
    replace hb11 := of_decide_eq_true hb11
    refine rw_cons (op_pass (w1n2 rfl rfl rfl rfl) rfl rfl ?_)
    refine rw_cons (op_pass (w1n2 rfl rfl rfl rfl) rfl rfl ?_)
    refine rw_cons (op_pass (w1n2 rfl rfl rfl rfl) rfl rfl ?_)
    refine rw_cons (op_pv (w0 rfl) rfl rfl (pv_pickT (v := (.bool true)) rfl rfl rfl) ?_)
    refine rw_nil (hK10 _ _ ?_)
    refine hK8 _ _ ?_
    refine cw_cond rfl (fun h12 => ?_) (fun h12 => ?_)
    · -- then
      clear h12
      refine cw_seq fun K13 hK14 => ?_
      refine cw_region fun K15 hK16 => ?_
      refine rw_cons (op_pv (w0 rfl) rfl rfl (pv_assign (v := (.bool true)) rfl rfl) ?_)
      refine rw_nil (hK16 _ _ ?_)
      refine hK14 _ _ ?_
      refine cw_ret ?_
      refine fin1 rfl ?_
      exact ⟨rfl, hc⟩
    · -- else
      cases h12
  · -- no
    replace hb11 := of_decide_eq_false hb11
    refine rw_cons (op_pv (w1y rfl rfl rfl rfl) rfl rfl (pv_move (v := (.slice A1 n1 c1)) rfl rfl) ?_)
    refine rw_cons (op_pv (w1y rfl rfl rfl rfl) rfl rfl (pv_len Try.underlying36 rfl rfl) ?_)
    refine rw_cons (op_pv (w1y rfl rfl rfl rfl) rfl rfl (pv_gtr rfl rfl rfl) ?_)
    refine rw_cons (op_pv (w0 rfl) rfl rfl (pv_pickF (v := (.bool (decide (1048576 < (n1 : Int))))) rfl rfl rfl) ?_)
    refine rw_nil (hK10 _ _ ?_)
    refine hK8 _ _ ?_
    refine cw_cond rfl (fun h17 => ?_) (fun h17 => ?_)
    · -- then
      replace h17 := of_decide_eq_true h17
      refine cw_seq fun K18 hK19 => ?_
      refine cw_region fun K20 hK21 => ?_
      refine rw_cons (op_pv (w0 rfl) rfl rfl (pv_assign (v := (.bool true)) rfl rfl) ?_)
      refine rw_nil (hK21 _ _ ?_)
      refine hK19 _ _ ?_
      refine cw_ret ?_
      refine fin1 rfl ?_
      exact ⟨rfl, hc⟩
    · -- else
      replace h17 := of_decide_eq_false h17
      refine cw_skip ?_
      refine hK6 _ _ ?_
      refine cw_seq fun K22 hK23 => ?_
      refine cw_region fun K24 hK25 => ?_
      refine rw_cons (op_pv (w0 rfl) rfl rfl (pv_move (v := (.slice A0 n0 c0)) rfl rfl) ?_)
      refine rw_cons (op_call (w0 rfl) rfl rfl (rc_call C30 rfl rfl) (DrawFilesValid_ok _ _ _ _ _ (hR0.more (by omega)) (by omega)) ?_)
      rintro _ w26 ⟨A29, c30, hs28, rfl, hO31, hl33, hD34, hZ35, hch27⟩
      have hsz36 := hch27.size
      replace hR0 := hR0.ch0 hch27
      replace hR1 := hR1.ch0 hch27
      replace hc := hc.step0 hch27
      have hub32 := hO31.lt
      have hcap37 : hs28.length ≤ c30 := by obtain ⟨_, _, hv, h1, _⟩ := hO31.form; injection hv with _ _ h3; omega
      refine rw_cons (op_pv (w0 rfl) rfl rfl (pv_assign (v := (.slice A29 hs28.length c30)) rfl rfl) ?_)
      refine rw_nil (hK25 _ _ ?_)
      refine hK23 _ _ ?_
      refine cw_seq fun K38 hK39 => ?_
      refine cw_region fun K40 hK41 => ?_
      refine rw_cons (op_pv (w0 rfl) rfl rfl (pv_move (v := (.slice A29 hs28.length c30)) rfl rfl) ?_)
      refine rw_cons (op_call (w0 rfl) rfl rfl (rc_call C31 rfl rfl) (FilesValid_i _ hs28.length _ hs28 _ (hO31.rs (fun _ => rfl)) (hD34.any (by omega)) (by first | assumption | exact SzOK.nil) (by omega)) ?_)
      rintro _ w42 ⟨rfl, hch43⟩
      have hsz44 := hch43.size
      replace hR0 := hR0.ch0 hch43
      replace hR1 := hR1.ch0 hch43
      replace hO31 := hO31.ch0 hch43
      replace hD34 := hD34.ch0 hch43
      replace hc := hc.step0 hch43
      refine rw_cons (op_pv (w0 rfl) rfl rfl (pv_assign (v := (.bool (dec (FOK (fvs hs28))))) rfl rfl) ?_)
      refine rw_nil (hK41 _ _ ?_)
      refine hK39 _ _ ?_
      refine cw_seq fun K45 hK46 => ?_
      refine cw_region fun K47 hK48 => ?_
      refine rw_cons (op_pv (w0 rfl) rfl rfl (pv_move (v := (.slice A29 hs28.length c30)) rfl rfl) ?_)
      refine rw_cons (op_call (w0 rfl) rfl rfl (rc_call C32 rfl rfl) (FilesValid_s _ hs28.length _ hs28 _ (hO31.rs (fun _ => rfl)) (hD34.any (by omega)) (by first | assumption | exact SzOK.nil) (by omega) (by omega)) ?_)
      rintro _ w49 ⟨rfl, hch50⟩
      have hsz51 := hch50.size
      replace hR0 := hR0.ch0 hch50
      replace hR1 := hR1.ch0 hch50
      replace hO31 := hO31.ch0 hch50
      replace hD34 := hD34.ch0 hch50
      replace hc := hc.step0 hch50
      refine rw_cons (op_pv (w0 rfl) rfl rfl (pv_assign (v := (.bool (dec (FOK (fvs hs28))))) rfl rfl) ?_)
      refine rw_nil (hK48 _ _ ?_)
      refine hK46 _ _ ?_
      refine cw_seq fun K52 hK53 => ?_
      refine cw_seq fun K54 hK55 => ?_
      refine cw_region fun K56 hK57 => ?_
      refine rw_cons (op_pv (w0 rfl) rfl rfl (pv_move (v := (.bool (dec (FOK (fvs hs28))))) rfl rfl) ?_)
      refine rw_cons (op_pv (w0 rfl) rfl rfl (pv_move (v := (.bool (dec (FOK (fvs hs28))))) rfl rfl) ?_)
      refine rw_cons (op_pv (w0 rfl) rfl rfl (pv_neBs Try.underlying4 rfl rfl rfl) ?_)
      refine rw_cons (op_pv (w0 rfl) rfl rfl (pv_move (v := (.bool false)) rfl rfl) ?_)
      refine rw_cons (op_pv (w1y rfl rfl rfl rfl) rfl rfl (pv_move (v := (.bool (dec (FOK (fvs hs28))))) rfl rfl) ?_)
      refine rw_cons (op_pv (w1y rfl rfl rfl rfl) rfl rfl (pv_not rfl rfl) ?_)
      refine rw_cons (op_pv (w0 rfl) rfl rfl (pv_pickF (v := (.bool (!(dec (FOK (fvs hs28)))))) rfl rfl rfl) ?_)
      refine rw_cons (op_pv (w0 rfl) rfl rfl (pv_move (v := (.bool (!(dec (FOK (fvs hs28)))))) rfl rfl) ?_)
      refine rw_split 32 rfl (fun hb58 => ?_) (fun hb58 => ?_)
      · -- yes
        replace hb58 := not_t hb58
        replace hb58 := dec_f hb58
        refine rw_cons (op_pass (w1n2 rfl rfl rfl rfl) rfl rfl ?_)
        refine rw_cons (op_pass (w1n2 rfl rfl rfl rfl) rfl rfl ?_)
        refine rw_cons (op_pass (w1n2 rfl rfl rfl rfl) rfl rfl ?_)
        refine rw_cons (op_pv (w0 rfl) rfl rfl (pv_pickT (v := (.bool true)) rfl rfl rfl) ?_)
        refine rw_nil (hK57 _ _ ?_)
        refine hK55 _ _ ?_
        refine cw_cond rfl (fun h59 => ?_) (fun h59 => ?_)
        · -- then
          clear h59
          refine cw_seq fun K60 hK61 => ?_
          refine cw_region fun K62 hK63 => ?_
          refine rw_cons (op_pv (w0 rfl) rfl rfl (pv_move (v := (.bool (dec (FOK (fvs hs28))))) rfl rfl) ?_)
          refine rw_cons (op_pv (w0 rfl) rfl rfl (pv_move (v := (.bool (dec (FOK (fvs hs28))))) rfl rfl) ?_)
          refine rw_cons (op_pv (w0 rfl) rfl rfl (pv_eqBs Try.underlying4 rfl rfl rfl) ?_)
          refine rw_cons (op_pv (w0 rfl) rfl rfl (pv_assign (v := (.bool true)) rfl rfl) ?_)
          refine rw_nil (hK63 _ _ ?_)
          refine hK61 _ _ ?_
          refine cw_ret ?_
          refine fin1 rfl ?_
          first
            | exact ⟨rfl, hc⟩
            | exact absurd rfl (by assumption)
            | exact ⟨congrArg Value.bool (beq_self_eq_true _), hc⟩
            | exact ⟨congrArg Value.bool (decide_eq_true rfl), hc⟩
        · -- else
          cases h59
      · -- no
        replace hb58 := not_f hb58
        replace hb58 := dec_t hb58
        refine rw_cons (op_pv (w1y rfl rfl rfl rfl) rfl rfl (pv_move (v := (.slice A29 hs28.length c30)) rfl rfl) ?_)
        refine rw_cons (op_pv (w1y rfl rfl rfl rfl) rfl rfl (pv_len Try.underlying24 rfl rfl) ?_)
        refine rw_cons (op_pv (w1y rfl rfl rfl rfl) rfl rfl (pv_eql rfl rfl rfl) ?_)
        refine rw_cons (op_pv (w0 rfl) rfl rfl (pv_pickF (v := (.bool (decide (((hs28.length : Int) : Int) = 0)))) rfl rfl rfl) ?_)
        refine rw_nil (hK57 _ _ ?_)
        refine hK55 _ _ ?_
        refine cw_cond rfl (fun h64 => ?_) (fun h64 => ?_)
        · -- then
          replace h64 := of_decide_eq_true h64
          refine cw_seq fun K65 hK66 => ?_
          refine cw_region fun K67 hK68 => ?_
          refine rw_cons (op_pv (w0 rfl) rfl rfl (pv_move (v := (.bool (dec (FOK (fvs hs28))))) rfl rfl) ?_)
          refine rw_cons (op_pv (w0 rfl) rfl rfl (pv_move (v := (.bool (dec (FOK (fvs hs28))))) rfl rfl) ?_)
          refine rw_cons (op_pv (w0 rfl) rfl rfl (pv_eqBs Try.underlying4 rfl rfl rfl) ?_)
          refine rw_cons (op_pv (w0 rfl) rfl rfl (pv_assign (v := (.bool true)) rfl rfl) ?_)
          refine rw_nil (hK68 _ _ ?_)
          refine hK66 _ _ ?_
          refine cw_ret ?_
          refine fin1 rfl ?_
          first
            | exact ⟨rfl, hc⟩
            | exact absurd rfl (by assumption)
            | exact ⟨congrArg Value.bool (beq_self_eq_true _), hc⟩
            | exact ⟨congrArg Value.bool (decide_eq_true rfl), hc⟩
        · -- else
          replace h64 := of_decide_eq_false h64
          refine cw_skip ?_
          refine hK53 _ _ ?_
          refine cw_seq fun K69 hK70 => ?_
          refine cw_region fun K71 hK72 => ?_
          refine rw_cons (op_pv (w0 rfl) rfl rfl (pv_move (v := (.slice A1 n1 c1)) rfl rfl) ?_)
          refine rw_cons (op_pv (w0 rfl) rfl rfl (pv_len Try.underlying36 rfl rfl) ?_)
          refine rw_cons (op_pv (w0 rfl) rfl rfl (pv_move (v := (.slice A29 hs28.length c30)) rfl rfl) ?_)
          refine rw_cons (op_pv (w0 rfl) rfl rfl (pv_len Try.underlying24 rfl rfl) ?_)
          refine rw_cons (op_pv (w0 rfl) rfl rfl (pv_rem rfl rfl rfl (by omega) (by omega)) ?_)
          have hq73 := Int.emod_nonneg (n1 : Int) (b := (hs28.length : Int)) (by omega); have hq74 := Int.emod_lt_of_pos (n1 : Int) (b := (hs28.length : Int)) (by omega)
          obtain ⟨d75, hd76⟩ : ∃ d : Nat, (n1 : Int) % (hs28.length : Int) = (d : Int) := ⟨((n1 : Int) % (hs28.length : Int)).toNat, by omega⟩
          rw [hd76]
          rw [hd76] at hq73
          rw [hd76] at hq74
          refine rw_cons (op_pv (w0 rfl) rfl rfl (pv_assign (v := (.int .i64 (d75 : Int))) rfl rfl) ?_)
          refine rw_nil (hK72 _ _ ?_)
          refine hK70 _ _ ?_
          refine cw_seq fun K77 hK78 => ?_
          refine cw_drawn (fun u => Ch [] w49 u) (.free 1 (.free 2 (.free 3 (.free 5 (.free 6 (.free 7 (.free 8 (.one 0 true (.one 4 true (.one 9 true (.free 10 (.done)))))))))))) (by kernel_rfl) (by kernel_rfl) (Ch.refl _ _).drew fun K82 hK83 => ?_
          obtain ⟨w79, hw_, hch80, hsz81⟩ : ∃ w1 : World, w1 = w49.drew ∧ Ch [] w49 w1 ∧ w1.heap.size = w49.heap.size := ⟨_, rfl, (Ch.refl _ _).drew, rfl⟩
          rw [← hw_]; clear hw_
          have hr84 : Ch [] w49 w79 := hch80.sub (fun s hs => by cases hs)
          have hR0_r := hR0
          have hR1_r := hR1
          have hO31_r := hO31
          have hD34_r := hD34
          have hsz85 := hch80.size
          replace hR0 := hR0.ch0 hch80
          replace hR1 := hR1.ch0 hch80
          replace hO31 := hO31.ch0 hch80
          replace hD34 := hD34.ch0 hch80
          replace hc := hc.step0 hch80
          refine tw_free rfl (w0 rfl) rfl rfl (fun u hu => (pv_move (v := (.slice A29 hs28.length c30)) rfl rfl : PV _ _ _ _) u) ?_
          refine tw_free rfl (w0 rfl) rfl rfl (fun u hu => (pv_move (v := (.int .i64 (d75 : Int))) rfl rfl : PV _ _ _ _) u) ?_
          refine tw_free rfl (w0 rfl) rfl rfl (fun u hu => (pv_upto Try.underlying24 T48 rfl rfl rfl (by omega) (by omega) : PV _ _ _ _) u) ?_
          have hR86 : RS encF 2 w79 w79.heap.size A29 d75 (hs28.take d75) := ((hO31.rs (fun _ => rfl))).upto (by omega)
          refine tw_free rfl (w0 rfl) rfl rfl (fun u hu => (pv_move (v := (.slice A29 hs28.length c30)) rfl rfl : PV _ _ _ _) u) ?_
          refine tw_free rfl (w0 rfl) rfl rfl (fun u hu => (pv_move (v := (.int .i64 (d75 : Int))) rfl rfl : PV _ _ _ _) u) ?_
          refine tw_free rfl (w0 rfl) rfl rfl (fun u hu => (pv_add rfl rfl rfl (by omega) (by omega) : PV _ _ _ _) u) ?_
          refine tw_free rfl (w0 rfl) rfl rfl (fun u hu => (pv_from Try.underlying24 T48 rfl rfl rfl (by omega) (by omega) : PV _ _ _ _) u) ?_
          have hR87 : RS encF 2 w79 w79.heap.size (if c30 = (d75 + 1) then A29 else (A29 : Option Addr).map (·.add ((d75 + 1) * 2))) (hs28.length - (d75 + 1)) (hs28.drop (d75 + 1)) := ((hO31.rs (fun _ => rfl))).from (by omega) (by omega)
          refine tw_one rfl (op_bslice [] Try.underlying24 T48 (w0 rfl) rfl rfl rfl rfl rfl (by simp [Value.cells]) (by decide) ?_)
          intro g89 w88 hg92 hg93 hK91 hch90
          have hO94 : Own encF 2 w88 w79.heap.size 48 (.slice (some ⟨g89, 0, none⟩) 0 0) ([] : List Fl) := Blk.own (xs := ([] : List Fl)) hK91 (by omega) rfl (by decide) rfl
          have hsz95 := hch90.size
          replace hR0 := hR0.ch0 hch90
          replace hR1 := hR1.ch0 hch90
          replace hO31 := hO31.ch0 hch90
          replace hD34 := hD34.ch0 hch90
          replace hR86 := hR86.ch0 hch90
          replace hR87 := hR87.ch0 hch90
          replace hc := hc.step0 hch90
          replace hr84 := hr84.step0 hch90
          have hub96 := hO94.lt
          refine ⟨fun _ => hr84, ?_⟩
          refine tw_one rfl (op_append Try.underlying24 T48 (fun _ => rfl) rfl (by decide) (fun _ => one_all rfl) (w0 rfl) rfl rfl rfl rfl rfl hO94 hR86 (by unfold maxLen; first | omega | (simp; omega)) (by first | omega | (simp; omega)) (by omega) ?_)
          rintro v97 w98 hO99 hch100 hs101
          replace hO99 : Own encF 2 w98 w79.heap.size 48 v97 (hs28.take d75) := hO99
          have hl102 : (hs28.take d75).length = 0 + d75 := by first | (have hl0 := hR86.len; omega) | (have hl0 := hR86.len; simp only [List.length_append, List.length_cons, List.length_nil] at hl0 ⊢; omega) | simp | rfl
          have hsz103 := hch100.size
          replace hR0 := hR0.ch hch100 (hO94.off.le (by omega))
          replace hR1 := hR1.ch hch100 (hO94.off.le (by omega))
          replace hO31 := hO31.ch hch100 (fun s hs hs2 => by first | (have h1 := hO31.off s hs; have h2 := hub96 s hs2; omega) | (have h1 := hub32 s hs; have h2 := hO94.off s hs2; omega) | (have h2 := hub96 s hs2; simp [obl, Value.ownBlock] at hs; omega) | (have h1 := hub32 s hs; simp [obl, Value.ownBlock] at hs2; omega))
          replace hD34 := hD34.ch hch100 (fun s hs => by first | exact .inr (.inl hs) | exact .inr (.inr (Nat.le_trans (by omega) (hO94.off s hs))))
          replace hR86 := hR86.ch hch100 (hO94.off.le (by omega))
          replace hR87 := hR87.ch hch100 (hO94.off.le (by omega))
          replace hc := (hO94.off.le (by omega)).step hc hch100
          replace hr84 := (hO94.off.le (by omega)).step hr84 hch100
          have hub104 := hO99.lt
          obtain ⟨A105, c106, hv107, hcap108, hcap109⟩ := hO99.form; subst hv107
          refine ⟨fun _ => hr84, ?_⟩
          refine tw_one rfl (op_append Try.underlying24 T48 (fun _ => rfl) rfl (by decide) (fun _ => one_all rfl) (w0 rfl) rfl rfl rfl rfl rfl hO99 hR87 (by unfold maxLen; first | omega | (simp; omega)) (by first | omega | (simp; omega)) (by omega) ?_)
          rintro v110 w111 hO112 hch113 hs114
          have hl115 : ((hs28.take d75) ++ (hs28.drop (d75 + 1))).length = (hs28.take d75).length + (hs28.length - (d75 + 1)) := by first | (have hl0 := hR87.len; omega) | (have hl0 := hR87.len; simp only [List.length_append, List.length_cons, List.length_nil] at hl0 ⊢; omega) | simp | rfl
          have hsz116 := hch113.size
          replace hR0 := hR0.ch hch113 (hO99.off.le (by omega))
          replace hR1 := hR1.ch hch113 (hO99.off.le (by omega))
          replace hO31 := hO31.ch hch113 (fun s hs hs2 => by first | (have h1 := hO31.off s hs; have h2 := hub104 s hs2; omega) | (have h1 := hub32 s hs; have h2 := hO99.off s hs2; omega) | (have h2 := hub104 s hs2; simp [obl, Value.ownBlock] at hs; omega) | (have h1 := hub32 s hs; simp [obl, Value.ownBlock] at hs2; omega))
          replace hD34 := hD34.ch hch113 (fun s hs => by first | exact .inr (.inl hs) | exact .inr (.inr (Nat.le_trans (by omega) (hO99.off s hs))))
          replace hR86 := hR86.ch hch113 (hO99.off.le (by omega))
          replace hR87 := hR87.ch hch113 (hO99.off.le (by omega))
          replace hc := (hO99.off.le (by omega)).step hc hch113
          replace hr84 := (hO99.off.le (by omega)).step hr84 hch113
          have hub117 := hO112.lt
          obtain ⟨A118, c119, hv120, hcap121, hcap122⟩ := hO112.form; subst hv120
          refine ⟨fun _ => hr84, ?_⟩
          have hD123 : DX w.heap.size w26.heap.size [] w111 ((hs28.take d75) ++ (hs28.drop (d75 + 1))) := (hD34.take d75).app (hD34.drop (d75 + 1))
          have hZ124 : SzOK ((hs28.take d75) ++ (hs28.drop (d75 + 1))) := (SzOK.take (by assumption) _).app (SzOK.drop (by assumption) _)
          refine tw_free rfl (w0 rfl) rfl rfl (fun u hu => (pv_assign (v := (.slice A118 ((hs28.take d75) ++ (hs28.drop (d75 + 1))).length c119)) rfl rfl : PV _ _ _ _) u) ?_
          clear hD34_r
          clear hO31_r
          clear hR0_r
          clear hR1_r
          refine tw_done (hK83 _ _ ?_)
          refine hK78 _ _ ?_
          refine cw_seq fun K125 hK126 => ?_
          refine cw_drawn (fun u => Ch [] w111 u) (.free 1 (.free 2 (.free 3 (.free 4 (.free 6 (.free 7 (.free 8 (.one 0 true (.one 5 true (.one 9 true (.free 10 (.done)))))))))))) (by kernel_rfl) (by kernel_rfl) (Ch.refl _ _).drew fun K130 hK131 => ?_
          obtain ⟨w127, hw_, hch128, hsz129⟩ : ∃ w1 : World, w1 = w111.drew ∧ Ch [] w111 w1 ∧ w1.heap.size = w111.heap.size := ⟨_, rfl, (Ch.refl _ _).drew, rfl⟩
          rw [← hw_]; clear hw_
          have hr132 : Ch [] w111 w127 := hch128.sub (fun s hs => by cases hs)
          have hR0_r := hR0
          have hR1_r := hR1
          have hO31_r := hO31
          have hD34_r := hD34
          have hR86_r := hR86
          have hR87_r := hR87
          have hO112_r := hO112
          have hD123_r := hD123
          have hsz133 := hch128.size
          replace hR0 := hR0.ch0 hch128
          replace hR1 := hR1.ch0 hch128
          replace hO31 := hO31.ch0 hch128
          replace hD34 := hD34.ch0 hch128
          replace hR86 := hR86.ch0 hch128
          replace hR87 := hR87.ch0 hch128
          replace hO112 := hO112.ch0 hch128
          replace hD123 := hD123.ch0 hch128
          replace hc := hc.step0 hch128
          refine tw_free rfl (w0 rfl) rfl rfl (fun u hu => (pv_move (v := (.slice A29 hs28.length c30)) rfl rfl : PV _ _ _ _) u) ?_
          refine tw_free rfl (w0 rfl) rfl rfl (fun u hu => (pv_move (v := (.int .i64 (d75 : Int))) rfl rfl : PV _ _ _ _) u) ?_
          refine tw_free rfl (w0 rfl) rfl rfl (fun u hu => (pv_add rfl rfl rfl (by omega) (by omega) : PV _ _ _ _) u) ?_
          refine tw_free rfl (w0 rfl) rfl rfl (fun u hu => (pv_upto Try.underlying24 T48 rfl rfl rfl (by omega) (by omega) : PV _ _ _ _) u) ?_
          have hR134 : RS encF 2 w127 w127.heap.size A29 (d75 + 1) (hs28.take (d75 + 1)) := ((hO31.rs (fun _ => rfl))).upto (by omega)
          refine tw_free rfl (w0 rfl) rfl rfl (fun u hu => (pv_move (v := (.slice A29 hs28.length c30)) rfl rfl : PV _ _ _ _) u) ?_
          refine tw_free rfl (w0 rfl) rfl rfl (fun u hu => (pv_move (v := (.int .i64 (d75 : Int))) rfl rfl : PV _ _ _ _) u) ?_
          refine tw_free rfl (w0 rfl) rfl rfl (fun u hu => (pv_from Try.underlying24 T48 rfl rfl rfl (by omega) (by omega) : PV _ _ _ _) u) ?_
          have hR135 : RS encF 2 w127 w127.heap.size (if c30 = d75 then A29 else (A29 : Option Addr).map (·.add (d75 * 2))) (hs28.length - d75) (hs28.drop d75) := ((hO31.rs (fun _ => rfl))).from (by omega) (by omega)
          refine tw_one rfl (op_bslice [] Try.underlying24 T48 (w0 rfl) rfl rfl rfl rfl rfl (by simp [Value.cells]) (by decide) ?_)
          intro g137 w136 hg140 hg141 hK139 hch138
          have hO142 : Own encF 2 w136 w127.heap.size 48 (.slice (some ⟨g137, 0, none⟩) 0 0) ([] : List Fl) := Blk.own (xs := ([] : List Fl)) hK139 (by omega) rfl (by decide) rfl
          have hsz143 := hch138.size
          replace hR0 := hR0.ch0 hch138
          replace hR1 := hR1.ch0 hch138
          replace hO31 := hO31.ch0 hch138
          replace hD34 := hD34.ch0 hch138
          replace hR86 := hR86.ch0 hch138
          replace hR87 := hR87.ch0 hch138
          replace hO112 := hO112.ch0 hch138
          replace hD123 := hD123.ch0 hch138
          replace hR134 := hR134.ch0 hch138
          replace hR135 := hR135.ch0 hch138
          replace hc := hc.step0 hch138
          replace hr132 := hr132.step0 hch138
          have hub144 := hO142.lt
          refine ⟨fun _ => hr132, ?_⟩
          refine tw_one rfl (op_append Try.underlying24 T48 (fun _ => rfl) rfl (by decide) (fun _ => one_all rfl) (w0 rfl) rfl rfl rfl rfl rfl hO142 hR134 (by unfold maxLen; first | omega | (simp; omega)) (by first | omega | (simp; omega)) (by omega) ?_)
          rintro v145 w146 hO147 hch148 hs149
          replace hO147 : Own encF 2 w146 w127.heap.size 48 v145 (hs28.take (d75 + 1)) := hO147
          have hl150 : (hs28.take (d75 + 1)).length = 0 + (d75 + 1) := by first | (have hl0 := hR134.len; omega) | (have hl0 := hR134.len; simp only [List.length_append, List.length_cons, List.length_nil] at hl0 ⊢; omega) | simp | rfl
          have hsz151 := hch148.size
          replace hR0 := hR0.ch hch148 (hO142.off.le (by omega))
          replace hR1 := hR1.ch hch148 (hO142.off.le (by omega))
          replace hO31 := hO31.ch hch148 (fun s hs hs2 => by first | (have h1 := hO31.off s hs; have h2 := hub144 s hs2; omega) | (have h1 := hub32 s hs; have h2 := hO142.off s hs2; omega) | (have h2 := hub144 s hs2; simp [obl, Value.ownBlock] at hs; omega) | (have h1 := hub32 s hs; simp [obl, Value.ownBlock] at hs2; omega))
          replace hD34 := hD34.ch hch148 (fun s hs => by first | exact .inr (.inl hs) | exact .inr (.inr (Nat.le_trans (by omega) (hO142.off s hs))))
          replace hR86 := hR86.ch hch148 (hO142.off.le (by omega))
          replace hR87 := hR87.ch hch148 (hO142.off.le (by omega))
          replace hO112 := hO112.ch hch148 (fun s hs hs2 => by first | (have h1 := hO112.off s hs; have h2 := hub144 s hs2; omega) | (have h1 := hub117 s hs; have h2 := hO142.off s hs2; omega) | (have h2 := hub144 s hs2; simp [obl, Value.ownBlock] at hs; omega) | (have h1 := hub117 s hs; simp [obl, Value.ownBlock] at hs2; omega))
          replace hD123 := hD123.ch hch148 (fun s hs => by first | exact .inr (.inl hs) | exact .inr (.inr (Nat.le_trans (by omega) (hO142.off s hs))))
          replace hR134 := hR134.ch hch148 (hO142.off.le (by omega))
          replace hR135 := hR135.ch hch148 (hO142.off.le (by omega))
          replace hc := (hO142.off.le (by omega)).step hc hch148
          replace hr132 := (hO142.off.le (by omega)).step hr132 hch148
          have hub152 := hO147.lt
          obtain ⟨A153, c154, hv155, hcap156, hcap157⟩ := hO147.form; subst hv155
          refine ⟨fun _ => hr132, ?_⟩
          refine tw_one rfl (op_append Try.underlying24 T48 (fun _ => rfl) rfl (by decide) (fun _ => one_all rfl) (w0 rfl) rfl rfl rfl rfl rfl hO147 hR135 (by unfold maxLen; first | omega | (simp; omega)) (by first | omega | (simp; omega)) (by omega) ?_)
          rintro v158 w159 hO160 hch161 hs162
          have hl163 : ((hs28.take (d75 + 1)) ++ (hs28.drop d75)).length = (hs28.take (d75 + 1)).length + (hs28.length - d75) := by first | (have hl0 := hR135.len; omega) | (have hl0 := hR135.len; simp only [List.length_append, List.length_cons, List.length_nil] at hl0 ⊢; omega) | simp | rfl
          have hsz164 := hch161.size
          replace hR0 := hR0.ch hch161 (hO147.off.le (by omega))
          replace hR1 := hR1.ch hch161 (hO147.off.le (by omega))
          replace hO31 := hO31.ch hch161 (fun s hs hs2 => by first | (have h1 := hO31.off s hs; have h2 := hub152 s hs2; omega) | (have h1 := hub32 s hs; have h2 := hO147.off s hs2; omega) | (have h2 := hub152 s hs2; simp [obl, Value.ownBlock] at hs; omega) | (have h1 := hub32 s hs; simp [obl, Value.ownBlock] at hs2; omega))
          replace hD34 := hD34.ch hch161 (fun s hs => by first | exact .inr (.inl hs) | exact .inr (.inr (Nat.le_trans (by omega) (hO147.off s hs))))
          replace hR86 := hR86.ch hch161 (hO147.off.le (by omega))
          replace hR87 := hR87.ch hch161 (hO147.off.le (by omega))
          replace hO112 := hO112.ch hch161 (fun s hs hs2 => by first | (have h1 := hO112.off s hs; have h2 := hub152 s hs2; omega) | (have h1 := hub117 s hs; have h2 := hO147.off s hs2; omega) | (have h2 := hub152 s hs2; simp [obl, Value.ownBlock] at hs; omega) | (have h1 := hub117 s hs; simp [obl, Value.ownBlock] at hs2; omega))
          replace hD123 := hD123.ch hch161 (fun s hs => by first | exact .inr (.inl hs) | exact .inr (.inr (Nat.le_trans (by omega) (hO147.off s hs))))
          replace hR134 := hR134.ch hch161 (hO147.off.le (by omega))
          replace hR135 := hR135.ch hch161 (hO147.off.le (by omega))
          replace hc := (hO147.off.le (by omega)).step hc hch161
          replace hr132 := (hO147.off.le (by omega)).step hr132 hch161
          have hub165 := hO160.lt
          obtain ⟨A166, c167, hv168, hcap169, hcap170⟩ := hO160.form; subst hv168
          refine ⟨fun _ => hr132, ?_⟩
          have hD171 : DX w.heap.size w26.heap.size [] w159 ((hs28.take (d75 + 1)) ++ (hs28.drop d75)) := (hD34.take (d75 + 1)).app (hD34.drop d75)
          have hZ172 : SzOK ((hs28.take (d75 + 1)) ++ (hs28.drop d75)) := (SzOK.take (by assumption) _).app (SzOK.drop (by assumption) _)
          refine tw_free rfl (w0 rfl) rfl rfl (fun u hu => (pv_assign (v := (.slice A166 ((hs28.take (d75 + 1)) ++ (hs28.drop d75)).length c167)) rfl rfl : PV _ _ _ _) u) ?_
          clear hD123_r
          clear hD34_r
          clear hO112_r
          clear hO31_r
          clear hR0_r
          clear hR1_r
          clear hR86_r
          clear hR87_r
          refine tw_done (hK131 _ _ ?_)
          refine hK126 _ _ ?_
          refine cw_seq fun K173 hK174 => ?_
          refine cw_region fun K175 hK176 => ?_
          refine rw_cons (op_pv (w0 rfl) rfl rfl (pv_move (v := (.slice A118 ((hs28.take d75) ++ (hs28.drop (d75 + 1))).length c119)) rfl rfl) ?_)
          refine rw_cons (op_call (w0 rfl) rfl rfl (rc_call C31 rfl rfl) (FilesValid_i _ ((hs28.take d75) ++ (hs28.drop (d75 + 1))).length _ ((hs28.take d75) ++ (hs28.drop (d75 + 1))) _ (hO112.rs (fun _ => rfl)) (hD123.any (by omega)) (by first | assumption | exact SzOK.nil) (by omega)) ?_)
          rintro _ w177 ⟨rfl, hch178⟩
          have hsz179 := hch178.size
          replace hR0 := hR0.ch0 hch178
          replace hR1 := hR1.ch0 hch178
          replace hO31 := hO31.ch0 hch178
          replace hD34 := hD34.ch0 hch178
          replace hR86 := hR86.ch0 hch178
          replace hR87 := hR87.ch0 hch178
          replace hO112 := hO112.ch0 hch178
          replace hD123 := hD123.ch0 hch178
          replace hR134 := hR134.ch0 hch178
          replace hR135 := hR135.ch0 hch178
          replace hO160 := hO160.ch0 hch178
          replace hD171 := hD171.ch0 hch178
          replace hc := hc.step0 hch178
          refine rw_cons (op_pv (w0 rfl) rfl rfl (pv_move (v := (.bool (dec (FOK (fvs ((hs28.take d75) ++ (hs28.drop (d75 + 1)))))))) rfl rfl) ?_)
          refine rw_split 67 rfl (fun hb180 => ?_) (fun hb180 => ?_)
          · -- yes
            replace hb180 := dec_t hb180
            refine rw_cons (op_pv (w1y rfl rfl rfl rfl) rfl rfl (pv_move (v := (.slice A166 ((hs28.take (d75 + 1)) ++ (hs28.drop d75)).length c167)) rfl rfl) ?_)
            refine rw_cons (op_call (w1y rfl rfl rfl rfl) rfl rfl (rc_call C31 rfl rfl) (FilesValid_i _ ((hs28.take (d75 + 1)) ++ (hs28.drop d75)).length _ ((hs28.take (d75 + 1)) ++ (hs28.drop d75)) _ (hO160.rs (fun _ => rfl)) (hD171.any (by omega)) (by first | assumption | exact SzOK.nil) (by omega)) ?_)
            rintro _ w181 ⟨rfl, hch182⟩
            have hsz183 := hch182.size
            replace hR0 := hR0.ch0 hch182
            replace hR1 := hR1.ch0 hch182
            replace hO31 := hO31.ch0 hch182
            replace hD34 := hD34.ch0 hch182
            replace hR86 := hR86.ch0 hch182
            replace hR87 := hR87.ch0 hch182
            replace hO112 := hO112.ch0 hch182
            replace hD123 := hD123.ch0 hch182
            replace hR134 := hR134.ch0 hch182
            replace hR135 := hR135.ch0 hch182
            replace hO160 := hO160.ch0 hch182
            replace hD171 := hD171.ch0 hch182
            replace hc := hc.step0 hch182
            refine rw_cons (op_pv (w1y rfl rfl rfl rfl) rfl rfl (pv_not rfl rfl) ?_)
            refine rw_cons (op_pv (w0 rfl) rfl rfl (pv_pickT (v := (.bool (!(dec (FOK (fvs ((hs28.take (d75 + 1)) ++ (hs28.drop d75)))))))) rfl rfl rfl) ?_)
            refine rw_cons (op_pv (w0 rfl) rfl rfl (pv_assign (v := (.bool (!(dec (FOK (fvs ((hs28.take (d75 + 1)) ++ (hs28.drop d75)))))))) rfl rfl) ?_)
            refine rw_nil (hK176 _ _ ?_)
            refine hK174 _ _ ?_
            refine cw_ret ?_
            refine fin1 rfl ?_
            have hdl : d75 < (fvs hs28).length := by rw [fvs_len]; omega
            have hok : FOK (fvs (hs28.take d75 ++ hs28.drop (d75 + 1))) := by rw [fvs_app, fvs_take, fvs_drop]; exact fok_less ‹FOK (fvs hs28)› rfl hdl
            have hbad : ¬FOK (fvs (hs28.take (d75 + 1) ++ hs28.drop d75)) := by rw [fvs_app, fvs_take, fvs_drop]; exact fok_twice rfl hdl
            first
              | exact absurd hok (by assumption)
              | exact ⟨rfl, hc⟩
              | exact ⟨congrArg Value.bool (by rw [dec_no hbad]; rfl), hc⟩
          · -- no
            replace hb180 := dec_f hb180
            refine rw_cons (op_pass (w1n1 rfl rfl rfl rfl) rfl rfl ?_)
            refine rw_cons (op_pass (w1n1 rfl rfl rfl rfl) rfl rfl ?_)
            refine rw_cons (op_pass (w1n1 rfl rfl rfl rfl) rfl rfl ?_)
            refine rw_cons (op_pv (w0 rfl) rfl rfl (pv_pickF (v := (.bool false)) rfl rfl rfl) ?_)
            refine rw_cons (op_pv (w0 rfl) rfl rfl (pv_assign (v := (.bool false)) rfl rfl) ?_)
            refine rw_nil (hK176 _ _ ?_)
            refine hK174 _ _ ?_
            refine cw_ret ?_
            refine fin1 rfl ?_
            have hdl : d75 < (fvs hs28).length := by rw [fvs_len]; omega
            have hok : FOK (fvs (hs28.take d75 ++ hs28.drop (d75 + 1))) := by rw [fvs_app, fvs_take, fvs_drop]; exact fok_less ‹FOK (fvs hs28)› rfl hdl
            have hbad : ¬FOK (fvs (hs28.take (d75 + 1) ++ hs28.drop d75)) := by rw [fvs_app, fvs_take, fvs_drop]; exact fok_twice rfl hdl
            first
              | exact absurd hok (by assumption)
              | exact ⟨rfl, hc⟩
              | exact ⟨congrArg Value.bool (by rw [dec_no hbad]; rfl), hc⟩
end Go.Proofs.Ythgnlljpjpklpaa
