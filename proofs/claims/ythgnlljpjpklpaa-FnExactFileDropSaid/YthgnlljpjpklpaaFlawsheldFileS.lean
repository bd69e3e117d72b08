/-
  The walk of laws.heldFileS, written by program: each line names the law of one operation. Conditions: those of the theorem.
-/
import Derived.Test.YthgnlljpjpklpaaProg
import Derived.Test.YthgnlljpjpklpaaDeep
import Derived.Test.YthgnlljpjpklpaaMark
import Derived.Test.YthgnlljpjpklpaaFlawsmarkText
import Derived.Test.YthgnlljpjpklpaaFlawsheldIntS
import Derived.KernelRfl
namespace Go.Proofs.Ythgnlljpjpklpaa
open Go Go.RowKit
set_option linter.unusedVariables false
set_option linter.unusedSimpArgs false
namespace heldFileS_okF
theorem T9 : TI Try.prog 9 false (.string { data := #[] }) 1 16 := TI.mk' Try.underlying9 rfl (by kernel_rfl)
theorem T25 : TI Try.prog 25 false (.slice none 0 0) 1 24 := TI.mk' Try.underlying25 rfl (by kernel_rfl)
theorem T48 : TI Try.prog 48 true (.agg #[.string { data := #[] }, .slice none 0 0]) 2 40 := TI.mk' Try.underlying48 rfl (by kernel_rfl)
theorem F48_0 : FldOK Try.prog 48 0 0 := ⟨_, _, 0, Try.underlying48, rfl, rfl, by kernel_rfl⟩
theorem F48_1 : FldOK Try.prog 48 1 1 := ⟨_, _, 0, Try.underlying48, rfl, rfl, by kernel_rfl⟩
theorem C27 : Callable Try.prog 27 := ⟨_, Try.func27, by kernel_rfl, by kernel_rfl⟩
theorem C52 : Callable Try.prog 52 := ⟨_, Try.func52, by kernel_rfl, by kernel_rfl⟩
end heldFileS_okF
open heldFileS_okF in
set_option maxHeartbeats 4000000 in
theorem heldFileS_ok (A : Option Addr) (n c : Nat) (hs : List Fl) (m : Int) (w : World) (hR : RS encF 2 w w.heap.size A n hs) (hD : DX 0 w.heap.size [] w hs) (hZ : NOK hs) (hM : Marked m hs) (hm0 : 0 ≤ m) (hm : m ≤ 1099511627776) (hn : n ≤ 1048576) :
    Fn Try.prog 26 [(.slice A n c), (.int .i64 m)] w fun v w' => v = .int .i64 (m + ((offs hs n : Nat) : Int)) ∧ Ch [] w w' := by
  have hlen := hR.len
  refine fn_of (n := 32) Try.func26 rfl rfl rfl rfl ?_
  have hc : Ch [] w w := Ch.refl _ _
  refine cw_seq fun K1 hK2 => ?_
  refine cw_region fun K3 hK4 => ?_
  refine rw_cons (op_pv (w0 rfl) rfl rfl (pv_assign (v := (.int .i64 0)) rfl rfl) ?_)
  refine rw_nil (hK4 _ _ ?_)
  refine hK2 _ _ ?_
  refine cw_seq fun K5 hK6 => ?_
  refine cw_seq fun K7 hK8 => ?_
  refine cw_region fun K9 hK10 => ?_
  refine rw_cons (op_pv (w0 rfl) rfl rfl (pv_assign (v := (.int .i64 0)) rfl rfl) ?_)
  refine rw_nil (hK10 _ _ ?_)
  refine hK8 _ _ ?_
  refine cw_block ?_
  refine cw_loop (σ := Nat) (fun i => [(1, (.int .i64 (m + ((offs hs i : Nat) : Int)))), (5, (.int .i64 (i : Int))), (0, (.slice A n c))]) (fun i W => (i ≤ n) ∧ RS encF 2 W w.heap.size A n hs ∧ DX 0 w.heap.size ([]) W hs ∧ Ch [] w W) (fun i => n - i) 0 ?_ ?_ ?_
  · exact ⟨(iv (by simp [offs])), rfl, rfl, trivial⟩
  · refine ⟨Nat.zero_le _, hR, hD, hc⟩
  · rintro i J15 w11 ⟨hi, hR, hD, hc⟩ K12 hK13
    have hsz17 := hc.size
    have hob := offs_bd hZ i (by omega)
    have hzi := fun h => hZ i h
    have hmi := fun h => hM i h
    refine cw_seq fun K18 hK19 => ?_
    refine cw_seq fun K20 hK21 => ?_
    refine cw_region fun K22 hK23 => ?_
    refine rw_cons (op_pv (w0 rfl) rfl rfl (pv_move (v := (.int .i64 (i : Int))) rfl rfl) ?_)
    refine rw_cons (op_pv (w0 rfl) rfl rfl (pv_move (v := (.slice A n c)) rfl rfl) ?_)
    refine rw_cons (op_pv (w0 rfl) rfl rfl (pv_len Try.underlying24 rfl rfl) ?_)
    refine rw_cons (op_pv (w0 rfl) rfl rfl (pv_lss rfl rfl rfl) ?_)
    refine rw_nil (hK23 _ _ ?_)
    refine hK21 _ _ ?_
    refine cw_cond rfl (fun h24 => ?_) (fun h24 => ?_)
    · -- then
      replace h24 := of_decide_eq_true h24
      refine cw_skip ?_
      refine hK19 _ _ ?_
      refine cw_seq fun K25 hK26 => ?_
      refine cw_block ?_
      refine cw_seq fun K27 hK28 => ?_
      refine cw_seq fun K29 hK30 => ?_
      have hzi4 := hzi (by omega)
      refine cw_drawn (fun u => Ch [] w11 u) (.free 0 (.free 1 (.free 2 (.free 3 (.free 4 (.free 5 (.one 6 true (.free 7 (.done))))))))) (by kernel_rfl) (by kernel_rfl) (Ch.refl _ _).drew fun K34 hK35 => ?_
      obtain ⟨w31, hw_, hch32, hsz33⟩ : ∃ w1 : World, w1 = w11.drew ∧ Ch [] w11 w1 ∧ w1.heap.size = w11.heap.size := ⟨_, rfl, (Ch.refl _ _).drew, rfl⟩
      rw [← hw_]; clear hw_
      have hr36 : Ch [] w11 w31 := hch32.sub (fun s hs => by cases hs)
      have hR_r := hR
      have hD_r := hD
      have hsz37 := hch32.size
      replace hR := hR.ch0 hch32
      replace hD := hD.ch0 hch32
      replace hc := hc.step0 hch32
      refine tw_free rfl (w0 rfl) rfl rfl (fun u hu => (pv_move (v := (.slice A n c)) rfl rfl : PV _ _ _ _) u) ?_
      refine tw_free rfl (w0 rfl) rfl rfl (fun u hu => (pv_move (v := (.int .i64 (i : Int))) rfl rfl : PV _ _ _ _) u) ?_
      refine tw_free rfl (w0 rfl) rfl rfl (fun u hu => (pv_idx Try.underlying24 T48 rfl rfl rfl (hR.some (k := i) (by omega)) (by omega) (by omega) : PV _ _ _ _) u) ?_
      refine tw_free rfl (w0 rfl) rfl rfl (fun u hu => (pv_fld F48_0 rfl rfl : PV _ _ _ _) u) ?_
      refine tw_free rfl (w0 rfl) rfl rfl (fun u hu => lv_load T9 rfl rfl ((hR_r.ch0 hu).cellE (k := i) (j := 0) (by omega) rfl)) ?_
      have hR38 : RS encI 1 w31 w.heap.size (el hs i).A (el hs i).n (el hs i).ps := hD.rs (k := i) (by omega)
      have hR38_r : RS encI 1 w11 w.heap.size (el hs i).A (el hs i).n (el hs i).ps := hD_r.rs (k := i) (by omega)
      have hln39 := hR38.len
      refine tw_free rfl (w0 rfl) rfl rfl (fun u hu => (pv_move (v := (.int .i64 (m + ((offs hs i : Nat) : Int)))) rfl rfl : PV _ _ _ _) u) ?_
      refine tw_one rfl (op_call (w0 rfl) rfl rfl (rc_call C52 rfl rfl) (markText_ok (m + ((offs hs i : Nat) : Int)) _ (by omega)) ?_)
      rintro _ w40 ⟨rfl, hch41⟩
      have hsz42 := hch41.size
      replace hR := hR.ch0 hch41
      replace hD := hD.ch0 hch41
      replace hR38 := hR38.ch0 hch41
      replace hc := hc.step0 hch41
      replace hr36 := hr36.step0 hch41
      refine ⟨fun _ => hr36, ?_⟩
      refine tw_free rfl (w0 rfl) rfl rfl (fun u hu => (pv_neS rfl rfl rfl : PV _ _ _ _) u) ?_
      try clear hD_r
      try clear hR_r
      try clear hR38_r
      refine tw_done (hK35 _ _ ?_)
      refine hK30 _ _ ?_
      refine cw_cond rfl (fun h43 => ?_) (fun h43 => ?_)
      · -- then
        replace h43 := not_t h43
        replace h43 := of_decide_eq_false h43
        refine cw_seq fun K44 hK45 => ?_
        refine cw_region fun K46 hK47 => ?_
        refine rw_cons (op_pv (w0 rfl) rfl rfl (pv_assign (v := (.int .i64 (-1))) rfl rfl) ?_)
        refine rw_nil (hK47 _ _ ?_)
        refine hK45 _ _ ?_
        refine cw_ret ?_
        refine fin1 rfl ?_
        exfalso
        first
          | omega
          | exact absurd (hmi (by omega)).1 (by assumption)
      · -- else
        replace h43 := not_f h43
        replace h43 := of_decide_eq_true h43
        refine cw_skip ?_
        refine hK28 _ _ ?_
        refine cw_seq fun K48 hK49 => ?_
        refine cw_region fun K50 hK51 => ?_
        refine rw_cons (op_pv (w0 rfl) rfl rfl (pv_move (v := (.int .i64 (m + ((offs hs i : Nat) : Int)))) rfl rfl) ?_)
        refine rw_cons (op_pv (w0 rfl) rfl rfl (pv_add rfl rfl rfl (by omega) (by omega)) ?_)
        refine rw_cons (op_pv (w0 rfl) rfl rfl (pv_assign (v := (.int .i64 ((m + ((offs hs i : Nat) : Int)) + 1))) rfl rfl) ?_)
        refine rw_nil (hK51 _ _ ?_)
        refine hK49 _ _ ?_
        refine cw_seq fun K52 hK53 => ?_
        refine cw_region fun K54 hK55 => ?_
        refine rw_cons (op_pv (w0 rfl) rfl rfl (pv_move (v := (.slice A n c)) rfl rfl) ?_)
        refine rw_cons (op_pv (w0 rfl) rfl rfl (pv_move (v := (.int .i64 (i : Int))) rfl rfl) ?_)
        refine rw_cons (op_pv (w0 rfl) rfl rfl (pv_idx Try.underlying24 T48 rfl rfl rfl (hR.some (k := i) (by omega)) (by omega) (by omega)) ?_)
        refine rw_cons (op_pv (w0 rfl) rfl rfl (pv_fld F48_1 rfl rfl) ?_)
        have hR56 : RS encI 1 w40 w.heap.size (el hs i).A (el hs i).n (el hs i).ps := hD.rs (k := i) (by omega)
        have hln57 := hR56.len
        refine rw_cons (op_lv (w0 rfl) rfl rfl (lv_load T25 rfl rfl (hR.cellE (k := i) (j := 1) (by omega) rfl)) ?_)
        refine rw_cons (op_pv (w0 rfl) rfl rfl (pv_move (v := (.int .i64 ((m + ((offs hs i : Nat) : Int)) + 1))) rfl rfl) ?_)
        refine rw_cons (op_call (w0 rfl) rfl rfl (rc_call C27 rfl rfl) (heldIntS_ok _ (el hs i).n _ (el hs i).ps ((m + ((offs hs i : Nat) : Int)) + 1) _ (hR56.more (by omega)) (by omega) (by omega) (by omega) (fun j hj => by have := (hmi (by omega)).2.2 j hj; omega)) ?_)
        rintro _ w58 ⟨rfl, hch59⟩
        have hsz60 := hch59.size
        replace hR := hR.ch0 hch59
        replace hD := hD.ch0 hch59
        replace hR38 := hR38.ch0 hch59
        replace hR56 := hR56.ch0 hch59
        replace hc := hc.step0 hch59
        refine rw_cons (op_pv (w0 rfl) rfl rfl (pv_assign (v := (.int .i64 (((m + ((offs hs i : Nat) : Int)) + 1) + (((el hs i).n) : Int)))) rfl rfl) ?_)
        refine rw_nil (hK55 _ _ ?_)
        refine hK53 _ _ ?_
        refine cw_seq fun K61 hK62 => ?_
        refine cw_region fun K63 hK64 => ?_
        refine rw_cons (op_pv (w0 rfl) rfl rfl (pv_move (v := (.int .i64 (((m + ((offs hs i : Nat) : Int)) + 1) + (((el hs i).n) : Int)))) rfl rfl) ?_)
        refine rw_cons (op_pv (w0 rfl) rfl rfl (pv_lss rfl rfl rfl) ?_)
        refine rw_nil (hK64 _ _ ?_)
        refine hK62 _ _ ?_
        refine cw_cond rfl (fun h65 => ?_) (fun h65 => ?_)
        · -- then
          replace h65 := of_decide_eq_true h65
          refine cw_seq fun K66 hK67 => ?_
          refine cw_region fun K68 hK69 => ?_
          refine rw_cons (op_pv (w0 rfl) rfl rfl (pv_assign (v := (.int .i64 (-1))) rfl rfl) ?_)
          refine rw_nil (hK69 _ _ ?_)
          refine hK67 _ _ ?_
          refine cw_ret ?_
          refine fin1 rfl ?_
          exfalso
          first
            | omega
            | exact absurd (hmi (by omega)).1 (by assumption)
        · -- else
          replace h65 := of_decide_eq_false h65
          refine cw_skip ?_
          refine hK26 _ _ ?_
          refine cw_region fun K70 hK71 => ?_
          refine rw_cons (op_pv (w0 rfl) rfl rfl (pv_move (v := (.int .i64 (i : Int))) rfl rfl) ?_)
          refine rw_cons (op_pv (w0 rfl) rfl rfl (pv_add rfl rfl rfl (by omega) (by omega)) ?_)
          refine rw_cons (op_pv (w0 rfl) rfl rfl (pv_assign (v := (.int .i64 ((i : Int) + 1))) rfl rfl) ?_)
          refine rw_nil (hK71 _ _ ?_)
          refine hK13 _ _ (i + 1) ⟨(iv (by simp only [offs]; omega)), (iv (by omega)), rfl, trivial⟩ ⟨?_, hR, hD, hc⟩ ?_
          · omega
          · (first | omega | (simp only []; omega))
    · -- else
      replace h24 := of_decide_eq_false h24
      refine cw_exit ?_
      refine hK6 _ _ ?_
      refine cw_seq fun K72 hK73 => ?_
      refine cw_region fun K74 hK75 => ?_
      refine rw_cons (op_pv (w0 rfl) rfl rfl (pv_move (v := (.int .i64 (m + ((offs hs i : Nat) : Int)))) rfl rfl) ?_)
      refine rw_cons (op_pv (w0 rfl) rfl rfl (pv_assign (v := (.int .i64 (m + ((offs hs i : Nat) : Int)))) rfl rfl) ?_)
      refine rw_nil (hK75 _ _ ?_)
      refine hK73 _ _ ?_
      refine cw_ret ?_
      refine fin1 rfl ?_
      obtain rfl : i = n := by omega
      exact ⟨rfl, hc⟩
end Go.Proofs.Ythgnlljpjpklpaa
