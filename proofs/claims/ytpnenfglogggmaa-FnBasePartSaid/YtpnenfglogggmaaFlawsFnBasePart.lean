/-
  The walk of laws.FnBasePart, written by program: each line names the law of one operation. Conditions: those of the theorem.
-/
import Derived.Test.YtpnenfglogggmaaProg
import Derived.Test.YtpnenfglogggmaaBase
import Derived.Test.YtpnenfglogggmaaFspecDrawBaseValid
import Derived.Test.YtpnenfglogggmaaFimplBaseValid
import Derived.Test.YtpnenfglogggmaaFspecBaseValid
import Derived.KernelRfl
namespace Go.Proofs.Ytpnenfglogggmaa
open Go Go.RowKit
set_option linter.unusedVariables false
set_option linter.unusedSimpArgs false
namespace FnBasePart_okF
theorem T3 : TI Try.prog 3 false (.int .i64 0) 1 8 := TI.mk' Try.underlying3 rfl (by kernel_rfl)
theorem T25 : TI Try.prog 25 true (.agg #[.int .i64 0, .slice none 0 0]) 2 32 := TI.mk' Try.underlying25 rfl (by kernel_rfl)
theorem F25_0 : FldOK Try.prog 25 0 0 := ⟨_, _, 0, Try.underlying25, rfl, rfl, by kernel_rfl⟩
theorem C8 : Callable Try.prog 8 := ⟨_, Try.func8, by kernel_rfl, by kernel_rfl⟩
theorem C9 : Callable Try.prog 9 := ⟨_, Try.func9, by kernel_rfl, by kernel_rfl⟩
theorem C10 : Callable Try.prog 10 := ⟨_, Try.func10, by kernel_rfl, by kernel_rfl⟩
end FnBasePart_okF
open FnBasePart_okF in
set_option maxHeartbeats 4000000 in
theorem FnBasePart_ok (A0 : Option Addr) (n0 c0 : Nat) (xs0 : List UInt8) (w : World) (hR0 : RS encU 1 w w.heap.size A0 n0 xs0) (hn0 : n0 ≤ c0) :
    Fn Try.prog 3 [(.slice A0 n0 c0)] w fun v w' => v = .bool true ∧ Ch [] w w' := by
  have hlen0 := hR0.len
  refine fn_of (n := 44) Try.func3 rfl rfl rfl rfl ?_
  have hc : Ch [] w w := Ch.refl _ _
  refine cw_seq fun K1 hK2 => ?_
  refine cw_region fun K3 hK4 => ?_
  refine rw_cons (op_pv (w0 rfl) rfl rfl (pv_assign (v := (.bool false)) rfl rfl) ?_)
  refine rw_nil (hK4 _ _ ?_)
  refine hK2 _ _ ?_
  refine cw_seq fun K5 hK6 => ?_
  refine cw_seq fun K7 hK8 => ?_
  refine cw_region fun K9 hK10 => ?_
  refine rw_cons (op_pv (w0 rfl) rfl rfl (pv_move (v := (.slice A0 n0 c0)) rfl rfl) ?_)
  refine rw_cons (op_pv (w0 rfl) rfl rfl (pv_len Try.underlying22 rfl rfl) ?_)
  refine rw_cons (op_pv (w0 rfl) rfl rfl (pv_gtr rfl rfl rfl) ?_)
  refine rw_nil (hK10 _ _ ?_)
  refine hK8 _ _ ?_
  refine cw_cond rfl (fun h11 => ?_) (fun h11 => ?_)
  · -- then
    replace h11 := of_decide_eq_true h11
    refine cw_seq fun K12 hK13 => ?_
    refine cw_region fun K14 hK15 => ?_
    refine rw_cons (op_pv (w0 rfl) rfl rfl (pv_assign (v := (.bool true)) rfl rfl) ?_)
    refine rw_nil (hK15 _ _ ?_)
    refine hK13 _ _ ?_
    refine cw_ret ?_
    refine fin1 rfl ?_
    exact ⟨rfl, hc⟩
  · -- else
    replace h11 := of_decide_eq_false h11
    refine cw_skip ?_
    refine hK6 _ _ ?_
    refine cw_seq fun K16 hK17 => ?_
    refine cw_region fun K18 hK19 => ?_
    refine rw_cons (op_pv (w0 rfl) rfl rfl (pv_move (v := (.slice A0 n0 c0)) rfl rfl) ?_)
    refine rw_cons (op_call (w0 rfl) rfl rfl (rc_call C8 rfl rfl) (DrawBaseValid_ok _ _ _ _ _ (hR0.more (by omega)) (by omega)) ?_)
    rintro _ w20 ⟨m22, A24, c25, xs23, rfl, hO26, hl28, hch21⟩
    have hsz29 := hch21.size
    replace hR0 := hR0.ch0 hch21
    replace hc := hc.step0 hch21
    have hub27 := hO26.lt
    have hcap30 : xs23.length ≤ c25 := by obtain ⟨_, _, hv, h1, _⟩ := hO26.form; injection hv with _ _ h3; omega
    refine rw_cons (op_alloc T25 (w0 rfl) rfl rfl rfl ?_)
    rintro g32 w31 hg35 hg36 hB34 hch33
    have hsz37 := hch33.size
    replace hR0 := hR0.ch0 hch33
    replace hO26 := hO26.ch0 hch33
    replace hc := hc.step0 hch33
    replace hB34 : Blk w31 g32 25 [(.int .i64 0), (.slice none 0 0)] := hB34
    have hdj38 : ∀ s ∈ obl (.slice A24 xs23.length c25), s ≠ g32 := fun s hs => by have := hub27 s hs; omega
    refine rw_cons (op_store_blk T25 hB34 (w0 rfl) rfl rfl rfl rfl rfl (one_all rfl) (Nat.le_of_ble_eq_true rfl) ?_)
    rintro w39 hB41 hch40
    have hsz42 := hch40.size
    replace hR0 := hR0.ch hch40 (off1 (by omega))
    replace hO26 := hO26.ch hch40 (fun s hs => by have := dj_asg hdj38 s hs; simpa using this)
    replace hc := (off1 (by omega)).step hc hch40
    replace hB34 : Blk w39 g32 25 [(.int .i64 m22), (.slice A24 xs23.length c25)] := hB41
    clear hB41
    refine rw_nil (hK19 _ _ ?_)
    refine hK17 _ _ ?_
    refine cw_seq fun K43 hK44 => ?_
    refine cw_region fun K45 hK46 => ?_
    refine rw_cons (op_lv (w0 rfl) rfl rfl (lv_loadN T25 rfl rfl rfl (fun j v hv => hB34.cellA hv)) ?_)
    refine rw_cons (op_call (w0 rfl) rfl rfl (rc_call C9 rfl rfl) (BaseValid_i m22 _ xs23.length _ xs23 _ (hO26.rs (fun _ => rfl)) (by omega)) ?_)
    rintro _ w47 ⟨rfl, hch48⟩
    have hsz49 := hch48.size
    replace hR0 := hR0.ch0 hch48
    replace hO26 := hO26.ch0 hch48
    replace hB34 := hB34.ch0 hch48
    replace hc := hc.step0 hch48
    refine rw_cons (op_pv (w0 rfl) rfl rfl (pv_assign (v := (.bool (dec (BaseOK m22 xs23)))) rfl rfl) ?_)
    refine rw_nil (hK46 _ _ ?_)
    refine hK44 _ _ ?_
    refine cw_seq fun K50 hK51 => ?_
    refine cw_region fun K52 hK53 => ?_
    refine rw_cons (op_lv (w0 rfl) rfl rfl (lv_loadN T25 rfl rfl rfl (fun j v hv => hB34.cellA hv)) ?_)
    refine rw_cons (op_call (w0 rfl) rfl rfl (rc_call C10 rfl rfl) (BaseValid_s m22 _ xs23.length _ xs23 _ (hO26.rs (fun _ => rfl)) (by omega)) ?_)
    rintro _ w54 ⟨rfl, hch55⟩
    have hsz56 := hch55.size
    replace hR0 := hR0.ch0 hch55
    replace hO26 := hO26.ch0 hch55
    replace hB34 := hB34.ch0 hch55
    replace hc := hc.step0 hch55
    refine rw_cons (op_pv (w0 rfl) rfl rfl (pv_assign (v := (.bool (dec (BaseOK m22 xs23)))) rfl rfl) ?_)
    refine rw_nil (hK53 _ _ ?_)
    refine hK51 _ _ ?_
    refine cw_seq fun K57 hK58 => ?_
    refine cw_seq fun K59 hK60 => ?_
    refine cw_region fun K61 hK62 => ?_
    refine rw_cons (op_pv (w0 rfl) rfl rfl (pv_move (v := (.bool (dec (BaseOK m22 xs23)))) rfl rfl) ?_)
    refine rw_cons (op_pv (w0 rfl) rfl rfl (pv_move (v := (.bool (dec (BaseOK m22 xs23)))) rfl rfl) ?_)
    refine rw_cons (op_pv (w0 rfl) rfl rfl (pv_neBs Try.underlying4 rfl rfl rfl) ?_)
    refine rw_cons (op_pv (w0 rfl) rfl rfl (pv_move (v := (.bool false)) rfl rfl) ?_)
    refine rw_cons (op_pv (w1y rfl rfl rfl rfl) rfl rfl (pv_move (v := (.bool (dec (BaseOK m22 xs23)))) rfl rfl) ?_)
    refine rw_cons (op_pv (w1y rfl rfl rfl rfl) rfl rfl (pv_not rfl rfl) ?_)
    refine rw_cons (op_pv (w0 rfl) rfl rfl (pv_pickF (v := (.bool (!(dec (BaseOK m22 xs23))))) rfl rfl rfl) ?_)
    refine rw_nil (hK62 _ _ ?_)
    refine hK60 _ _ ?_
    refine cw_cond rfl (fun h63 => ?_) (fun h63 => ?_)
    · -- then
      replace h63 := not_t h63
      replace h63 := dec_f h63
      refine cw_seq fun K64 hK65 => ?_
      refine cw_region fun K66 hK67 => ?_
      refine rw_cons (op_pv (w0 rfl) rfl rfl (pv_move (v := (.bool (dec (BaseOK m22 xs23)))) rfl rfl) ?_)
      refine rw_cons (op_pv (w0 rfl) rfl rfl (pv_move (v := (.bool (dec (BaseOK m22 xs23)))) rfl rfl) ?_)
      refine rw_cons (op_pv (w0 rfl) rfl rfl (pv_eqBs Try.underlying4 rfl rfl rfl) ?_)
      refine rw_cons (op_pv (w0 rfl) rfl rfl (pv_assign (v := (.bool true)) rfl rfl) ?_)
      refine rw_nil (hK67 _ _ ?_)
      refine hK65 _ _ ?_
      refine cw_ret ?_
      refine fin1 rfl ?_
      exact ⟨rfl, hc⟩
    · -- else
      replace h63 := not_f h63
      replace h63 := dec_t h63
      refine cw_skip ?_
      refine hK58 _ _ ?_
      refine cw_seq fun K68 hK69 => ?_
      refine cw_region fun K70 hK71 => ?_
      refine rw_cons (op_lv (w0 rfl) rfl rfl (lv_loadN T25 rfl rfl rfl (fun j v hv => hB34.cellA hv)) ?_)
      refine rw_cons (op_alloc T25 (w0 rfl) rfl rfl rfl ?_)
      rintro g73 w72 hg76 hg77 hB75 hch74
      have hsz78 := hch74.size
      replace hR0 := hR0.ch0 hch74
      replace hO26 := hO26.ch0 hch74
      replace hB34 := hB34.ch0 hch74
      replace hc := hc.step0 hch74
      replace hB75 : Blk w72 g73 25 [(.int .i64 0), (.slice none 0 0)] := hB75
      have hdj79 : ∀ s ∈ obl (.slice A24 xs23.length c25), s ≠ g73 := fun s hs => by have := hub27 s hs; omega
      refine rw_cons (op_store_blk T25 hB75 (w0 rfl) rfl rfl rfl rfl rfl (one_all rfl) (Nat.le_of_ble_eq_true rfl) ?_)
      rintro w80 hB82 hch81
      have hsz83 := hch81.size
      replace hR0 := hR0.ch hch81 (off1 (by omega))
      replace hO26 := hO26.ch hch81 (fun s hs => by have := dj_asg hdj79 s hs; simpa using this)
      replace hB34 := hB34.ch hch81 (by simp; omega)
      replace hc := (off1 (by omega)).step hc hch81
      replace hB75 : Blk w80 g73 25 [(.int .i64 m22), (.slice A24 xs23.length c25)] := hB82
      clear hB82
      refine rw_nil (hK71 _ _ ?_)
      refine hK69 _ _ ?_
      refine cw_seq fun K84 hK85 => ?_
      refine cw_region fun K86 hK87 => ?_
      refine rw_cons (op_pv (w0 rfl) rfl rfl (pv_fld F25_0 rfl rfl) ?_)
      refine rw_cons (op_store_blk T3 hB75 (w0 rfl) rfl rfl rfl rfl rfl (one_all rfl) (Nat.le_of_ble_eq_true rfl) ?_)
      rintro w88 hB90 hch89
      have hsz91 := hch89.size
      replace hR0 := hR0.ch hch89 (off1 (by omega))
      replace hO26 := hO26.ch hch89 (fun s hs => by have := dj_asg hdj79 s hs; simpa using this)
      replace hB34 := hB34.ch hch89 (by simp; omega)
      replace hc := (off1 (by omega)).step hc hch89
      replace hB75 : Blk w88 g73 25 [(.int .i64 (-1)), (.slice A24 xs23.length c25)] := hB90
      clear hB90
      refine rw_nil (hK87 _ _ ?_)
      refine hK85 _ _ ?_
      refine cw_seq fun K92 hK93 => ?_
      refine cw_region fun K94 hK95 => ?_
      refine rw_cons (op_lv (w0 rfl) rfl rfl (lv_loadN T25 rfl rfl rfl (fun j v hv => hB34.cellA hv)) ?_)
      refine rw_cons (op_alloc T25 (w0 rfl) rfl rfl rfl ?_)
      rintro g97 w96 hg100 hg101 hB99 hch98
      have hsz102 := hch98.size
      replace hR0 := hR0.ch0 hch98
      replace hO26 := hO26.ch0 hch98
      replace hB34 := hB34.ch0 hch98
      replace hB75 := hB75.ch0 hch98
      replace hc := hc.step0 hch98
      replace hB99 : Blk w96 g97 25 [(.int .i64 0), (.slice none 0 0)] := hB99
      have hdj103 : ∀ s ∈ obl (.slice A24 xs23.length c25), s ≠ g97 := fun s hs => by have := hub27 s hs; omega
      refine rw_cons (op_store_blk T25 hB99 (w0 rfl) rfl rfl rfl rfl rfl (one_all rfl) (Nat.le_of_ble_eq_true rfl) ?_)
      rintro w104 hB106 hch105
      have hsz107 := hch105.size
      replace hR0 := hR0.ch hch105 (off1 (by omega))
      replace hO26 := hO26.ch hch105 (fun s hs => by have := dj_asg hdj103 s hs; simpa using this)
      replace hB34 := hB34.ch hch105 (by simp; omega)
      replace hB75 := hB75.ch hch105 (by simp; omega)
      replace hc := (off1 (by omega)).step hc hch105
      replace hB99 : Blk w104 g97 25 [(.int .i64 m22), (.slice A24 xs23.length c25)] := hB106
      clear hB106
      refine rw_nil (hK95 _ _ ?_)
      refine hK93 _ _ ?_
      refine cw_seq fun K108 hK109 => ?_
      refine cw_region fun K110 hK111 => ?_
      refine rw_cons (op_pv (w0 rfl) rfl rfl (pv_fld F25_0 rfl rfl) ?_)
      refine rw_cons (op_store_blk T3 hB99 (w0 rfl) rfl rfl rfl rfl rfl (one_all rfl) (Nat.le_of_ble_eq_true rfl) ?_)
      rintro w112 hB114 hch113
      have hsz115 := hch113.size
      replace hR0 := hR0.ch hch113 (off1 (by omega))
      replace hO26 := hO26.ch hch113 (fun s hs => by have := dj_asg hdj103 s hs; simpa using this)
      replace hB34 := hB34.ch hch113 (by simp; omega)
      replace hB75 := hB75.ch hch113 (by simp; omega)
      replace hc := (off1 (by omega)).step hc hch113
      replace hB99 : Blk w112 g97 25 [(.int .i64 0), (.slice A24 xs23.length c25)] := hB114
      clear hB114
      refine rw_nil (hK111 _ _ ?_)
      refine hK109 _ _ ?_
      refine cw_seq fun K116 hK117 => ?_
      refine cw_region fun K118 hK119 => ?_
      refine rw_cons (op_lv (w0 rfl) rfl rfl (lv_loadN T25 rfl rfl rfl (fun j v hv => hB75.cellA hv)) ?_)
      refine rw_cons (op_call (w0 rfl) rfl rfl (rc_call C9 rfl rfl) (BaseValid_i (-1) _ xs23.length _ xs23 _ (hO26.rs (fun _ => rfl)) (by omega)) ?_)
      rintro _ w120 ⟨rfl, hch121⟩
      have hsz122 := hch121.size
      replace hR0 := hR0.ch0 hch121
      replace hO26 := hO26.ch0 hch121
      replace hB34 := hB34.ch0 hch121
      replace hB75 := hB75.ch0 hch121
      replace hB99 := hB99.ch0 hch121
      replace hc := hc.step0 hch121
      refine rw_cons (op_pv (w0 rfl) rfl rfl (pv_not rfl rfl) ?_)
      refine rw_cons (op_pv (w0 rfl) rfl rfl (pv_move (v := (.bool (!(dec (BaseOK (-1) xs23))))) rfl rfl) ?_)
      refine rw_split 34 rfl (fun hb123 => ?_) (fun hb123 => ?_)
      · -- yes
        replace hb123 := not_t hb123
        replace hb123 := dec_f hb123
        refine rw_cons (op_pv (w1y rfl rfl rfl rfl) rfl rfl (pv_fld F25_0 rfl rfl) ?_)
        refine rw_cons (op_lv (w1y rfl rfl rfl rfl) rfl rfl (lv_load T3 rfl rfl (hB34.cellA (i := 0) rfl)) ?_)
        refine rw_cons (op_pv (w1y rfl rfl rfl rfl) rfl rfl (pv_eql rfl rfl rfl) ?_)
        refine rw_cons (op_pv (w1y rfl rfl rfl rfl) rfl rfl (pv_move (v := (.bool (decide ((m22 : Int) = 0)))) rfl rfl) ?_)
        refine rw_split 38 rfl (fun hb124 => ?_) (fun hb124 => ?_)
        · -- yes
          replace hb124 := of_decide_eq_true hb124
          refine rw_cons (op_pass (w1n2 rfl rfl rfl rfl) rfl rfl ?_)
          refine rw_cons (op_pass (w1n2 rfl rfl rfl rfl) rfl rfl ?_)
          refine rw_cons (op_pass (w1n2 rfl rfl rfl rfl) rfl rfl ?_)
          refine rw_cons (op_pv (w1y rfl rfl rfl rfl) rfl rfl (pv_pickT (v := (.bool true)) rfl rfl rfl) ?_)
          refine rw_cons (op_pv (w0 rfl) rfl rfl (pv_pickT (v := (.bool true)) rfl rfl rfl) ?_)
          refine rw_cons (op_pv (w0 rfl) rfl rfl (pv_assign (v := (.bool true)) rfl rfl) ?_)
          refine rw_nil (hK119 _ _ ?_)
          refine hK117 _ _ ?_
          refine cw_ret ?_
          refine fin1 rfl ?_
          exact ⟨rfl, hc⟩
        · -- no
          replace hb124 := of_decide_eq_false hb124
          refine rw_cons (op_lv (w1y rfl rfl rfl rfl) rfl rfl (lv_loadN T25 rfl rfl rfl (fun j v hv => hB99.cellA hv)) ?_)
          refine rw_cons (op_call (w1y rfl rfl rfl rfl) rfl rfl (rc_call C9 rfl rfl) (BaseValid_i 0 _ xs23.length _ xs23 _ (hO26.rs (fun _ => rfl)) (by omega)) ?_)
          rintro _ w125 ⟨rfl, hch126⟩
          have hsz127 := hch126.size
          replace hR0 := hR0.ch0 hch126
          replace hO26 := hO26.ch0 hch126
          replace hB34 := hB34.ch0 hch126
          replace hB75 := hB75.ch0 hch126
          replace hB99 := hB99.ch0 hch126
          replace hc := hc.step0 hch126
          refine rw_cons (op_pv (w1y rfl rfl rfl rfl) rfl rfl (pv_not rfl rfl) ?_)
          refine rw_cons (op_pv (w1y rfl rfl rfl rfl) rfl rfl (pv_pickF (v := (.bool (!(dec (BaseOK 0 xs23))))) rfl rfl rfl) ?_)
          refine rw_cons (op_pv (w0 rfl) rfl rfl (pv_pickT (v := (.bool (!(dec (BaseOK 0 xs23))))) rfl rfl rfl) ?_)
          refine rw_cons (op_pv (w0 rfl) rfl rfl (pv_assign (v := (.bool (!(dec (BaseOK 0 xs23))))) rfl rfl) ?_)
          refine rw_nil (hK119 _ _ ?_)
          refine hK117 _ _ ?_
          refine cw_ret ?_
          refine fin1 rfl ?_
          have hno1 : ¬BaseOK (-1) xs23 := fun h => by have := h.1; omega
          have hno2 : m22 ≠ 0 → ¬BaseOK 0 xs23 := fun h0 h => by obtain ⟨h1, h2, h3, h4⟩ := (‹BaseOK m22 xs23›); have h5 := h.2.2.2; omega
          first
            | exact absurd ‹BaseOK (-1) _› hno1
            | exact ⟨congrArg Value.bool (by first | rfl | decide), hc⟩
            | exact ⟨congrArg Value.bool (by rw [dec_no (hno2 (by assumption))]; rfl), hc⟩
            | exact ⟨congrArg Value.bool (beq_self_eq_true _), hc⟩
      · -- no
        replace hb123 := not_f hb123
        replace hb123 := dec_t hb123
        refine rw_cons (op_pass (w1n1 rfl rfl rfl rfl) rfl rfl ?_)
        refine rw_cons (op_pass (w1n1 rfl rfl rfl rfl) rfl rfl ?_)
        refine rw_cons (op_pass (w1n1 rfl rfl rfl rfl) rfl rfl ?_)
        refine rw_cons (op_pass (w1n1 rfl rfl rfl rfl) rfl rfl ?_)
        refine rw_cons (op_pass (w1u rfl rfl rfl) rfl rfl ?_)
        refine rw_cons (op_pass (w1u rfl rfl rfl) rfl rfl ?_)
        refine rw_cons (op_pass (w1u rfl rfl rfl) rfl rfl ?_)
        refine rw_cons (op_pass (w1n1 rfl rfl rfl rfl) rfl rfl ?_)
        refine rw_cons (op_pv (w0 rfl) rfl rfl (pv_pickF (v := (.bool false)) rfl rfl rfl) ?_)
        refine rw_cons (op_pv (w0 rfl) rfl rfl (pv_assign (v := (.bool false)) rfl rfl) ?_)
        refine rw_nil (hK119 _ _ ?_)
        refine hK117 _ _ ?_
        refine cw_ret ?_
        refine fin1 rfl ?_
        have hno1 : ¬BaseOK (-1) xs23 := fun h => by have := h.1; omega
        have hno2 : m22 ≠ 0 → ¬BaseOK 0 xs23 := fun h0 h => by obtain ⟨h1, h2, h3, h4⟩ := (‹BaseOK m22 xs23›); have h5 := h.2.2.2; omega
        first
          | exact absurd ‹BaseOK (-1) _› hno1
          | exact ⟨congrArg Value.bool (by first | rfl | decide), hc⟩
          | exact ⟨congrArg Value.bool (by rw [dec_no (hno2 (by assumption))]; rfl), hc⟩
          | exact ⟨congrArg Value.bool (beq_self_eq_true _), hc⟩
end Go.Proofs.Ytpnenfglogggmaa
