/-
  The walk of spec.StepsValid, written by program: each line names the law of one operation. Conditions: those of the theorem.
-/
import Derived.Test.YtdnncgapbjnfoaaProg
import Derived.Test.YtdnncgapbjnfoaaSteps
import Derived.Test.YtdnncgapbjnfoaaFspecl6In
import Derived.KernelRfl
namespace Go.Proofs.Ytdnncgapbjnfoaa
open Go Go.RowKit
set_option linter.unusedVariables false
set_option linter.unusedSimpArgs false
namespace StepsValid_sF
theorem T3 : TI Try.prog 3 false (.int .i64 0) 1 8 := TI.mk' Try.underlying3 rfl (by kernel_rfl)
theorem T4 : TI Try.prog 4 false (.bool false) 1 1 := TI.mk' Try.underlying4 rfl (by kernel_rfl)
theorem T27 : TI Try.prog 27 true (.agg #[.bool false, .int .i64 0, .int .i64 0]) 3 24 := TI.mk' Try.underlying27 rfl (by kernel_rfl)
theorem F27_0 : FldOK Try.prog 27 0 0 := ⟨_, _, 0, Try.underlying27, rfl, rfl, by kernel_rfl⟩
theorem F27_1 : FldOK Try.prog 27 1 1 := ⟨_, _, 0, Try.underlying27, rfl, rfl, by kernel_rfl⟩
theorem F27_2 : FldOK Try.prog 27 2 2 := ⟨_, _, 0, Try.underlying27, rfl, rfl, by kernel_rfl⟩
theorem C31 : Callable Try.prog 31 := ⟨_, Try.func31, by kernel_rfl, by kernel_rfl⟩
end StepsValid_sF
open StepsValid_sF in
set_option maxHeartbeats 4000000 in
theorem StepsValid_s (Ahs : Option Addr) (nhs chs : Nat) (hs : List Stp) (w : World) (hRhs : RS encP 3 w w.heap.size Ahs nhs hs) (hNhs : nhs ≤ 1099511627776) :
    Fn Try.prog 15 [(.slice Ahs nhs chs)] w fun v w' => v = .bool (dec (StepsOK hs)) ∧ Ch [] w w' := by
  have hlenhs := hRhs.len
  refine fn_of (n := 48) Try.func15 rfl rfl rfl rfl ?_
  have hc : Ch [] w w := Ch.refl _ _
  refine cw_seq fun K1 hK2 => ?_
  refine cw_region fun K3 hK4 => ?_
  refine rw_cons (op_pv (w0 rfl) rfl rfl (pv_assign (v := (.bool false)) rfl rfl) ?_)
  refine rw_nil (hK4 _ _ ?_)
  refine hK2 _ _ ?_
  refine cw_seq fun K5 hK6 => ?_
  refine cw_region fun K7 hK8 => ?_
  refine rw_cons (op_pv (w0 rfl) rfl rfl (pv_assign (v := (.int .i64 0)) rfl rfl) ?_)
  refine rw_nil (hK8 _ _ ?_)
  refine hK6 _ _ ?_
  refine cw_seq fun K9 hK10 => ?_
  refine cw_seq fun K11 hK12 => ?_
  refine cw_region fun K13 hK14 => ?_
  refine rw_cons (op_pv (w0 rfl) rfl rfl (pv_assign (v := (.int .i64 0)) rfl rfl) ?_)
  refine rw_nil (hK14 _ _ ?_)
  refine hK12 _ _ ?_
  refine cw_block ?_
  refine cw_loop (σ := Nat) (fun k => [(3, (.int .i64 (puts (hs.take k) : Int))), (4, (.int .i64 (k : Int))), (0, (.slice Ahs nhs chs))]) (fun k W => (k ≤ nhs ∧ ∀ j, j < k → StepOK (el hs j)) ∧ RS encP 3 W w.heap.size Ahs nhs hs ∧ Ch [] w W) (fun k => nhs - k) 0 ?_ ?_ ?_
  · exact ⟨rfl, rfl, rfl, trivial⟩
  · refine ⟨⟨Nat.zero_le _, fun j hj => by omega⟩, hRhs, hc⟩
  · rintro k J19 w15 ⟨⟨hk, hye⟩, hRhs, hc⟩ K16 hK17
    have hsz21 := hc.size
    have hpl := puts_le (hs.take k)
    have htl : (hs.take k).length ≤ k := List.length_take_le _ _
    refine cw_seq fun K22 hK23 => ?_
    refine cw_seq fun K24 hK25 => ?_
    refine cw_region fun K26 hK27 => ?_
    refine rw_cons (op_pv (w0 rfl) rfl rfl (pv_move (v := (.int .i64 (k : Int))) rfl rfl) ?_)
    refine rw_cons (op_pv (w0 rfl) rfl rfl (pv_move (v := (.slice Ahs nhs chs)) rfl rfl) ?_)
    refine rw_cons (op_pv (w0 rfl) rfl rfl (pv_len Try.underlying23 rfl rfl) ?_)
    refine rw_cons (op_pv (w0 rfl) rfl rfl (pv_lss rfl rfl rfl) ?_)
    refine rw_nil (hK27 _ _ ?_)
    refine hK25 _ _ ?_
    refine cw_cond rfl (fun h28 => ?_) (fun h28 => ?_)
    · -- then
      replace h28 := of_decide_eq_true h28
      refine cw_skip ?_
      refine hK23 _ _ ?_
      refine cw_seq fun K29 hK30 => ?_
      refine cw_block ?_
      refine cw_seq fun K31 hK32 => ?_
      refine cw_region fun K33 hK34 => ?_
      refine rw_cons (op_pv (w0 rfl) rfl rfl (pv_move (v := (.slice Ahs nhs chs)) rfl rfl) ?_)
      refine rw_cons (op_pv (w0 rfl) rfl rfl (pv_move (v := (.int .i64 (k : Int))) rfl rfl) ?_)
      refine rw_cons (op_pv (w0 rfl) rfl rfl (pv_idx Try.underlying23 T27 rfl rfl rfl (hRhs.some (k := k) (by omega)) (by omega) (by omega)) ?_)
      refine rw_cons (op_lv (w0 rfl) rfl rfl (lv_loadN T27 rfl rfl rfl (fun j v hv => hRhs.cellE (k := k) (by omega) hv)) ?_)
      refine rw_cons (op_alloc T27 (w0 rfl) rfl rfl rfl ?_)
      rintro g36 w35 hg39 hg40 hB38 hch37
      have hsz41 := hch37.size
      replace hRhs := hRhs.ch0 hch37
      replace hc := hc.step0 hch37
      replace hB38 : Blk w35 g36 27 [(.bool false), (.int .i64 0), (.int .i64 0)] := hB38
      refine rw_cons (op_store_blk T27 hB38 (w0 rfl) rfl rfl rfl rfl rfl (one_all rfl) (Nat.le_of_ble_eq_true rfl) ?_)
      rintro w42 hB44 hch43
      have hsz45 := hch43.size
      replace hRhs := hRhs.ch hch43 (off1 (by omega))
      replace hc := (off1 (by omega)).step hc hch43
      replace hB38 : Blk w42 g36 27 [(.bool (el hs k).r), (.int .i64 (el hs k).k), (.int .i64 (el hs k).v)] := hB44
      clear hB44
      refine rw_nil (hK34 _ _ ?_)
      refine hK32 _ _ ?_
      refine cw_seq fun K46 hK47 => ?_
      refine cw_seq fun K48 hK49 => ?_
      refine cw_region fun K50 hK51 => ?_
      refine rw_cons (op_pv (w0 rfl) rfl rfl (pv_fld F27_1 rfl rfl) ?_)
      refine rw_cons (op_lv (w0 rfl) rfl rfl (lv_load T3 rfl rfl (hB38.cellA (i := 1) rfl)) ?_)
      refine rw_cons (op_call (w0 rfl) rfl rfl (rc_call C31 rfl rfl) (l6In_ok (el hs k).k 0 4 _  ) ?_)
      rintro _ w52 ⟨rfl, hch53⟩
      have hsz54 := hch53.size
      replace hRhs := hRhs.ch0 hch53
      replace hB38 := hB38.ch0 hch53
      replace hc := hc.step0 hch53
      refine rw_cons (op_pv (w0 rfl) rfl rfl (pv_not rfl rfl) ?_)
      refine rw_cons (op_pv (w0 rfl) rfl rfl (pv_move (v := (.bool (!(dec (0 ≤ (el hs k).k ∧ (el hs k).k ≤ 4))))) rfl rfl) ?_)
      refine rw_split 20 rfl (fun hb55 => ?_) (fun hb55 => ?_)
      · -- yes
        replace hb55 := not_t hb55
        replace hb55 := dec_f hb55
        refine rw_cons (op_pass (w1n2 rfl rfl rfl rfl) rfl rfl ?_)
        refine rw_cons (op_pass (w1n2 rfl rfl rfl rfl) rfl rfl ?_)
        refine rw_cons (op_pass (w1n2 rfl rfl rfl rfl) rfl rfl ?_)
        refine rw_cons (op_pass (w1n2 rfl rfl rfl rfl) rfl rfl ?_)
        refine rw_cons (op_pv (w0 rfl) rfl rfl (pv_pickT (v := (.bool true)) rfl rfl rfl) ?_)
        refine rw_cons (op_pv (w0 rfl) rfl rfl (pv_move (v := (.bool true)) rfl rfl) ?_)
        refine rw_cons (op_pass (w1n2 rfl rfl rfl rfl) rfl rfl ?_)
        refine rw_cons (op_pass (w1n2 rfl rfl rfl rfl) rfl rfl ?_)
        refine rw_cons (op_pass (w1n2 rfl rfl rfl rfl) rfl rfl ?_)
        refine rw_cons (op_pass (w1n2 rfl rfl rfl rfl) rfl rfl ?_)
        refine rw_cons (op_pass (w1u rfl rfl rfl) rfl rfl ?_)
        refine rw_cons (op_pass (w1u rfl rfl rfl) rfl rfl ?_)
        refine rw_cons (op_pass (w1u rfl rfl rfl) rfl rfl ?_)
        refine rw_cons (op_pass (w1n2 rfl rfl rfl rfl) rfl rfl ?_)
        refine rw_cons (op_pv (w0 rfl) rfl rfl (pv_pickT (v := (.bool true)) rfl rfl rfl) ?_)
        refine rw_nil (hK51 _ _ ?_)
        refine hK49 _ _ ?_
        refine cw_cond rfl (fun h56 => ?_) (fun h56 => ?_)
        · -- then
          clear h56
          refine cw_seq fun K57 hK58 => ?_
          refine cw_region fun K59 hK60 => ?_
          refine rw_cons (op_pv (w0 rfl) rfl rfl (pv_assign (v := (.bool false)) rfl rfl) ?_)
          refine rw_nil (hK60 _ _ ?_)
          refine hK58 _ _ ?_
          refine cw_ret ?_
          refine fin1 rfl ?_
          exact ⟨(bvf (fun h => by first | (have h0 := h.len; omega) | (obtain ⟨h1, h2, h3, h4⟩ := stepok_s.1 (h.each k (by omega)); first | omega | (have h5 := h3 (by assumption); omega) | (cases h6 : (el hs k).r; have h5 := h3 h6; omega; have h5 := h2 h6; omega)))), hc⟩
        · -- else
          cases h56
      · -- no
        replace hb55 := not_f hb55
        replace hb55 := dec_t hb55
        refine rw_cons (op_pv (w1y rfl rfl rfl rfl) rfl rfl (pv_fld F27_2 rfl rfl) ?_)
        refine rw_cons (op_lv (w1y rfl rfl rfl rfl) rfl rfl (lv_load T3 rfl rfl (hB38.cellA (i := 2) rfl)) ?_)
        refine rw_cons (op_call (w1y rfl rfl rfl rfl) rfl rfl (rc_call C31 rfl rfl) (l6In_ok (el hs k).v (-1) 99 _  ) ?_)
        rintro _ w61 ⟨rfl, hch62⟩
        have hsz63 := hch62.size
        replace hRhs := hRhs.ch0 hch62
        replace hB38 := hB38.ch0 hch62
        replace hc := hc.step0 hch62
        refine rw_cons (op_pv (w1y rfl rfl rfl rfl) rfl rfl (pv_not rfl rfl) ?_)
        refine rw_cons (op_pv (w0 rfl) rfl rfl (pv_pickF (v := (.bool (!(dec ((-1) ≤ (el hs k).v ∧ (el hs k).v ≤ 99))))) rfl rfl rfl) ?_)
        refine rw_cons (op_pv (w0 rfl) rfl rfl (pv_move (v := (.bool (!(dec ((-1) ≤ (el hs k).v ∧ (el hs k).v ≤ 99))))) rfl rfl) ?_)
        refine rw_split 26 rfl (fun hb64 => ?_) (fun hb64 => ?_)
        · -- yes
          replace hb64 := not_t hb64
          replace hb64 := dec_f hb64
          refine rw_cons (op_pass (w1n2 rfl rfl rfl rfl) rfl rfl ?_)
          refine rw_cons (op_pass (w1n2 rfl rfl rfl rfl) rfl rfl ?_)
          refine rw_cons (op_pass (w1n2 rfl rfl rfl rfl) rfl rfl ?_)
          refine rw_cons (op_pass (w1n2 rfl rfl rfl rfl) rfl rfl ?_)
          refine rw_cons (op_pass (w1u rfl rfl rfl) rfl rfl ?_)
          refine rw_cons (op_pass (w1u rfl rfl rfl) rfl rfl ?_)
          refine rw_cons (op_pass (w1u rfl rfl rfl) rfl rfl ?_)
          refine rw_cons (op_pass (w1n2 rfl rfl rfl rfl) rfl rfl ?_)
          refine rw_cons (op_pv (w0 rfl) rfl rfl (pv_pickT (v := (.bool true)) rfl rfl rfl) ?_)
          refine rw_nil (hK51 _ _ ?_)
          refine hK49 _ _ ?_
          refine cw_cond rfl (fun h65 => ?_) (fun h65 => ?_)
          · -- then
            clear h65
            refine cw_seq fun K66 hK67 => ?_
            refine cw_region fun K68 hK69 => ?_
            refine rw_cons (op_pv (w0 rfl) rfl rfl (pv_assign (v := (.bool false)) rfl rfl) ?_)
            refine rw_nil (hK69 _ _ ?_)
            refine hK67 _ _ ?_
            refine cw_ret ?_
            refine fin1 rfl ?_
            exact ⟨(bvf (fun h => by first | (have h0 := h.len; omega) | (obtain ⟨h1, h2, h3, h4⟩ := stepok_s.1 (h.each k (by omega)); first | omega | (have h5 := h3 (by assumption); omega) | (cases h6 : (el hs k).r; have h5 := h3 h6; omega; have h5 := h2 h6; omega)))), hc⟩
          · -- else
            cases h65
        · -- no
          replace hb64 := not_f hb64
          replace hb64 := dec_t hb64
          refine rw_cons (op_pv (w1y rfl rfl rfl rfl) rfl rfl (pv_fld F27_0 rfl rfl) ?_)
          refine rw_cons (op_lv (w1y rfl rfl rfl rfl) rfl rfl (lv_load T4 rfl rfl (hB38.cellA (i := 0) rfl)) ?_)
          refine rw_cons (op_pv (w1y rfl rfl rfl rfl) rfl rfl (pv_not rfl rfl) ?_)
          refine rw_cons (op_pv (w1y rfl rfl rfl rfl) rfl rfl (pv_move (v := (.bool (!(el hs k).r))) rfl rfl) ?_)
          refine rw_split 30 rfl (fun hb70 => ?_) (fun hb70 => ?_)
          · -- yes
            replace hb70 := not_t hb70
            refine rw_cons (op_pv (w1y rfl rfl rfl rfl) rfl rfl (pv_fld F27_2 rfl rfl) ?_)
            refine rw_cons (op_lv (w1y rfl rfl rfl rfl) rfl rfl (lv_load T3 rfl rfl (hB38.cellA (i := 2) rfl)) ?_)
            refine rw_cons (op_pv (w1y rfl rfl rfl rfl) rfl rfl (pv_lss rfl rfl rfl) ?_)
            refine rw_cons (op_pv (w1y rfl rfl rfl rfl) rfl rfl (pv_pickT (v := (.bool (decide ((el hs k).v < 0)))) rfl rfl rfl) ?_)
            refine rw_cons (op_pv (w0 rfl) rfl rfl (pv_pickF (v := (.bool (decide ((el hs k).v < 0)))) rfl rfl rfl) ?_)
            refine rw_nil (hK51 _ _ ?_)
            refine hK49 _ _ ?_
            refine cw_cond rfl (fun h71 => ?_) (fun h71 => ?_)
            · -- then
              replace h71 := of_decide_eq_true h71
              refine cw_seq fun K72 hK73 => ?_
              refine cw_region fun K74 hK75 => ?_
              refine rw_cons (op_pv (w0 rfl) rfl rfl (pv_assign (v := (.bool false)) rfl rfl) ?_)
              refine rw_nil (hK75 _ _ ?_)
              refine hK73 _ _ ?_
              refine cw_ret ?_
              refine fin1 rfl ?_
              exact ⟨(bvf (fun h => by first | (have h0 := h.len; omega) | (obtain ⟨h1, h2, h3, h4⟩ := stepok_s.1 (h.each k (by omega)); first | omega | (have h5 := h3 (by assumption); omega) | (cases h6 : (el hs k).r; have h5 := h3 h6; omega; have h5 := h2 h6; omega)))), hc⟩
            · -- else
              replace h71 := of_decide_eq_false h71
              refine cw_skip ?_
              refine hK47 _ _ ?_
              refine cw_seq fun K76 hK77 => ?_
              refine cw_region fun K78 hK79 => ?_
              refine rw_cons (op_pv (w0 rfl) rfl rfl (pv_fld F27_0 rfl rfl) ?_)
              refine rw_cons (op_lv (w0 rfl) rfl rfl (lv_load T4 rfl rfl (hB38.cellA (i := 0) rfl)) ?_)
              refine rw_cons (op_pv (w0 rfl) rfl rfl (pv_not rfl rfl) ?_)
              refine rw_nil (hK79 _ _ ?_)
              refine hK77 _ _ ?_
              refine cw_cond rfl (fun h80 => ?_) (fun h80 => ?_)
              · -- then
                replace h80 := not_t h80
                refine cw_region fun K81 hK82 => ?_
                refine rw_cons (op_pv (w0 rfl) rfl rfl (pv_move (v := (.int .i64 (puts (hs.take k) : Int))) rfl rfl) ?_)
                refine rw_cons (op_pv (w0 rfl) rfl rfl (pv_add rfl rfl rfl (by omega) (by omega)) ?_)
                refine rw_cons (op_pv (w0 rfl) rfl rfl (pv_assign (v := (.int .i64 ((puts (hs.take k) : Int) + 1))) rfl rfl) ?_)
                refine rw_nil (hK82 _ _ ?_)
                refine hK30 _ _ ?_
                refine cw_region fun K83 hK84 => ?_
                refine rw_cons (op_pv (w0 rfl) rfl rfl (pv_move (v := (.int .i64 (k : Int))) rfl rfl) ?_)
                refine rw_cons (op_pv (w0 rfl) rfl rfl (pv_add rfl rfl rfl (by omega) (by omega)) ?_)
                refine rw_cons (op_pv (w0 rfl) rfl rfl (pv_assign (v := (.int .i64 ((k : Int) + 1))) rfl rfl) ?_)
                refine rw_nil (hK84 _ _ ?_)
                refine hK17 _ _ (k + 1) ⟨(iv (by rw [puts_take_put (by omega) (by first | assumption | simp_all)])), (iv (by omega)), rfl, trivial⟩ ⟨?_, hRhs, hc⟩ ?_
                · refine ⟨by omega, fun j hj => ?_⟩
                  by_cases hjk : j = k
                  · subst hjk; exact stepok_s.2 ⟨by omega, fun e => (by omega), fun e => (by first | omega | (exfalso; simp_all; done)), by omega⟩
                  · exact hye j (by omega)
                · (first | omega | (simp only []; omega))
              · -- else
                replace h80 := not_f h80
                refine cw_skip ?_
                refine hK30 _ _ ?_
                refine cw_region fun K85 hK86 => ?_
                refine rw_cons (op_pv (w0 rfl) rfl rfl (pv_move (v := (.int .i64 (k : Int))) rfl rfl) ?_)
                refine rw_cons (op_pv (w0 rfl) rfl rfl (pv_add rfl rfl rfl (by omega) (by omega)) ?_)
                refine rw_cons (op_pv (w0 rfl) rfl rfl (pv_assign (v := (.int .i64 ((k : Int) + 1))) rfl rfl) ?_)
                refine rw_nil (hK86 _ _ ?_)
                refine hK17 _ _ (k + 1) ⟨(iv (by rw [puts_take_read (by omega) (by first | assumption | simp_all)])), (iv (by omega)), rfl, trivial⟩ ⟨?_, hRhs, hc⟩ ?_
                · refine ⟨by omega, fun j hj => ?_⟩
                  by_cases hjk : j = k
                  · subst hjk; exact stepok_s.2 ⟨by omega, fun e => (by omega), fun e => (by first | omega | (exfalso; simp_all; done)), by omega⟩
                  · exact hye j (by omega)
                · (first | omega | (simp only []; omega))
          · -- no
            replace hb70 := not_f hb70
            refine rw_cons (op_pass (w1n1 rfl rfl rfl rfl) rfl rfl ?_)
            refine rw_cons (op_pass (w1n1 rfl rfl rfl rfl) rfl rfl ?_)
            refine rw_cons (op_pass (w1n1 rfl rfl rfl rfl) rfl rfl ?_)
            refine rw_cons (op_pv (w1y rfl rfl rfl rfl) rfl rfl (pv_pickF (v := (.bool false)) rfl rfl rfl) ?_)
            refine rw_cons (op_pv (w0 rfl) rfl rfl (pv_pickF (v := (.bool false)) rfl rfl rfl) ?_)
            refine rw_nil (hK51 _ _ ?_)
            refine hK49 _ _ ?_
            refine cw_cond rfl (fun h87 => ?_) (fun h87 => ?_)
            · -- then
              cases h87
            · -- else
              clear h87
              refine cw_skip ?_
              refine hK47 _ _ ?_
              refine cw_seq fun K88 hK89 => ?_
              refine cw_region fun K90 hK91 => ?_
              refine rw_cons (op_pv (w0 rfl) rfl rfl (pv_fld F27_0 rfl rfl) ?_)
              refine rw_cons (op_lv (w0 rfl) rfl rfl (lv_load T4 rfl rfl (hB38.cellA (i := 0) rfl)) ?_)
              refine rw_cons (op_pv (w0 rfl) rfl rfl (pv_not rfl rfl) ?_)
              refine rw_nil (hK91 _ _ ?_)
              refine hK89 _ _ ?_
              refine cw_cond rfl (fun h92 => ?_) (fun h92 => ?_)
              · -- then
                replace h92 := not_t h92
                refine cw_region fun K93 hK94 => ?_
                refine rw_cons (op_pv (w0 rfl) rfl rfl (pv_move (v := (.int .i64 (puts (hs.take k) : Int))) rfl rfl) ?_)
                refine rw_cons (op_pv (w0 rfl) rfl rfl (pv_add rfl rfl rfl (by omega) (by omega)) ?_)
                refine rw_cons (op_pv (w0 rfl) rfl rfl (pv_assign (v := (.int .i64 ((puts (hs.take k) : Int) + 1))) rfl rfl) ?_)
                refine rw_nil (hK94 _ _ ?_)
                refine hK30 _ _ ?_
                refine cw_region fun K95 hK96 => ?_
                refine rw_cons (op_pv (w0 rfl) rfl rfl (pv_move (v := (.int .i64 (k : Int))) rfl rfl) ?_)
                refine rw_cons (op_pv (w0 rfl) rfl rfl (pv_add rfl rfl rfl (by omega) (by omega)) ?_)
                refine rw_cons (op_pv (w0 rfl) rfl rfl (pv_assign (v := (.int .i64 ((k : Int) + 1))) rfl rfl) ?_)
                refine rw_nil (hK96 _ _ ?_)
                refine hK17 _ _ (k + 1) ⟨(iv (by rw [puts_take_put (by omega) (by first | assumption | simp_all)])), (iv (by omega)), rfl, trivial⟩ ⟨?_, hRhs, hc⟩ ?_
                · refine ⟨by omega, fun j hj => ?_⟩
                  by_cases hjk : j = k
                  · subst hjk; exact stepok_s.2 ⟨by omega, fun e => (by omega), fun e => (by first | omega | (exfalso; simp_all; done)), by omega⟩
                  · exact hye j (by omega)
                · (first | omega | (simp only []; omega))
              · -- else
                replace h92 := not_f h92
                refine cw_skip ?_
                refine hK30 _ _ ?_
                refine cw_region fun K97 hK98 => ?_
                refine rw_cons (op_pv (w0 rfl) rfl rfl (pv_move (v := (.int .i64 (k : Int))) rfl rfl) ?_)
                refine rw_cons (op_pv (w0 rfl) rfl rfl (pv_add rfl rfl rfl (by omega) (by omega)) ?_)
                refine rw_cons (op_pv (w0 rfl) rfl rfl (pv_assign (v := (.int .i64 ((k : Int) + 1))) rfl rfl) ?_)
                refine rw_nil (hK98 _ _ ?_)
                refine hK17 _ _ (k + 1) ⟨(iv (by rw [puts_take_read (by omega) (by first | assumption | simp_all)])), (iv (by omega)), rfl, trivial⟩ ⟨?_, hRhs, hc⟩ ?_
                · refine ⟨by omega, fun j hj => ?_⟩
                  by_cases hjk : j = k
                  · subst hjk; exact stepok_s.2 ⟨by omega, fun e => (by omega), fun e => (by first | omega | (exfalso; simp_all; done)), by omega⟩
                  · exact hye j (by omega)
                · (first | omega | (simp only []; omega))
    · -- else
      replace h28 := of_decide_eq_false h28
      refine cw_exit ?_
      refine hK10 _ _ ?_
      refine cw_seq fun K99 hK100 => ?_
      refine cw_region fun K101 hK102 => ?_
      refine rw_cons (op_pv (w0 rfl) rfl rfl (pv_move (v := (.slice Ahs nhs chs)) rfl rfl) ?_)
      refine rw_cons (op_pv (w0 rfl) rfl rfl (pv_len Try.underlying23 rfl rfl) ?_)
      refine rw_cons (op_pv (w0 rfl) rfl rfl (pv_leq rfl rfl rfl) ?_)
      refine rw_cons (op_pv (w0 rfl) rfl rfl (pv_move (v := (.bool (decide ((nhs : Int) ≤ 20)))) rfl rfl) ?_)
      refine rw_split 44 rfl (fun hb103 => ?_) (fun hb103 => ?_)
      · -- yes
        replace hb103 := of_decide_eq_true hb103
        refine rw_cons (op_pv (w1y rfl rfl rfl rfl) rfl rfl (pv_move (v := (.int .i64 (puts (hs.take k) : Int))) rfl rfl) ?_)
        refine rw_cons (op_pv (w1y rfl rfl rfl rfl) rfl rfl (pv_leq rfl rfl rfl) ?_)
        refine rw_cons (op_pv (w0 rfl) rfl rfl (pv_pickT (v := (.bool (decide ((puts (hs.take k) : Int) ≤ 12)))) rfl rfl rfl) ?_)
        refine rw_cons (op_pv (w0 rfl) rfl rfl (pv_assign (v := (.bool (decide ((puts (hs.take k) : Int) ≤ 12)))) rfl rfl) ?_)
        refine rw_nil (hK102 _ _ ?_)
        refine hK100 _ _ ?_
        refine cw_ret ?_
        refine fin1 rfl ?_
        have hpa : puts (hs.take k) = puts hs := by rw [el_take_all hs k (by omega)]
        exact ⟨(bv (dec_dec ⟨fun h => ⟨by omega, fun j hj => hye j (by omega), by omega⟩, fun h => by have := h.few; omega⟩)), hc⟩
      · -- no
        replace hb103 := of_decide_eq_false hb103
        refine rw_cons (op_pass (w1n1 rfl rfl rfl rfl) rfl rfl ?_)
        refine rw_cons (op_pass (w1n1 rfl rfl rfl rfl) rfl rfl ?_)
        refine rw_cons (op_pv (w0 rfl) rfl rfl (pv_pickF (v := (.bool false)) rfl rfl rfl) ?_)
        refine rw_cons (op_pv (w0 rfl) rfl rfl (pv_assign (v := (.bool false)) rfl rfl) ?_)
        refine rw_nil (hK102 _ _ ?_)
        refine hK100 _ _ ?_
        refine cw_ret ?_
        refine fin1 rfl ?_
        exact ⟨(bvf (fun h => by first | (have h0 := h.len; omega) | (obtain ⟨h1, h2, h3, h4⟩ := stepok_s.1 (h.each k (by omega)); first | omega | (have h5 := h3 (by assumption); omega) | (cases h6 : (el hs k).r; have h5 := h3 h6; omega; have h5 := h2 h6; omega)))), hc⟩
end Go.Proofs.Ytdnncgapbjnfoaa
