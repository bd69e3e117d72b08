/-
  The walk of spec.PlaceOf, written by program: each line names the law of one operation. Conditions: those of the theorem.
-/
import Derived.Test.YtielahdnccocdaaProg
import Derived.Test.YtielahdnccocdaaRank
import Derived.Test.YtielahdnccocdaaFspecl6In
import Derived.Test.YtielahdnccocdaaFspecServersValid
import Derived.Test.YtielahdnccocdaaFspecl22Best
import Derived.KernelRfl
namespace Go.Proofs.Ytielahdnccocdaa
open Go Go.RowKit
set_option linter.unusedVariables false
set_option linter.unusedSimpArgs false
namespace PlaceOf_sF
theorem T3 : TI Try.prog 3 false (.int .i64 0) 1 8 := TI.mk' Try.underlying3 rfl (by kernel_rfl)
theorem C15 : Callable Try.prog 15 := ⟨_, Try.func15, by kernel_rfl, by kernel_rfl⟩
theorem C28 : Callable Try.prog 28 := ⟨_, Try.func28, by kernel_rfl, by kernel_rfl⟩
theorem C35 : Callable Try.prog 35 := ⟨_, Try.func35, by kernel_rfl, by kernel_rfl⟩
end PlaceOf_sF
open PlaceOf_sF in
set_option maxHeartbeats 4000000 in
theorem PlaceOf_s (p : Int) (Axs : Option Addr) (nxs cxs : Nat) (xs : List Int) (m : Int) (w : World) (hRxs : RS encI 1 w w.heap.size Axs nxs xs) (hNxs : nxs ≤ 1099511627776) :
    Fn Try.prog 21 [(.int .i64 p), (.slice Axs nxs cxs), (.int .i64 m)] w fun v w' => ∃ A_0 c_0, v = .tuple #[.slice A_0 (placeV p xs m).length c_0, .bool (dec (PlaceOK p xs m))] ∧ Own encI 1 w' w.heap.size 3 (.slice A_0 (placeV p xs m).length c_0) (placeV p xs m) ∧ Ch [] w w' := by
  have hlenxs := hRxs.len
  refine fn_of (n := 40) Try.func21 rfl rfl rfl rfl ?_
  have hc : Ch [] w w := Ch.refl _ _
  refine cw_seq fun K1 hK2 => ?_
  refine cw_region fun K3 hK4 => ?_
  refine rw_cons (op_pv (w0 rfl) rfl rfl (pv_assign (v := (.slice none 0 0)) rfl rfl) ?_)
  refine rw_cons (op_pv (w0 rfl) rfl rfl (pv_assign (v := (.bool false)) rfl rfl) ?_)
  refine rw_nil (hK4 _ _ ?_)
  refine hK2 _ _ ?_
  refine cw_seq fun K5 hK6 => ?_
  refine cw_region fun K7 hK8 => ?_
  refine rw_cons (op_bslice [] Try.underlying24 T3 (w0 rfl) rfl rfl rfl rfl rfl (by simp [Value.cells]) (by decide) ?_)
  intro g10 w9 hg13 hg14 hK12 hch11
  have hO15 : Own encI 1 w9 w.heap.size 3 (.slice (some ⟨g10, 0, none⟩) 0 0) ([] : List Int) := Blk.own (xs := ([] : List Int)) hK12 (by omega) rfl (by decide) rfl
  have hsz16 := hch11.size
  replace hRxs := hRxs.ch0 hch11
  replace hc := hc.step0 hch11
  have hub17 := hO15.lt
  refine rw_cons (op_pv (w0 rfl) rfl rfl (pv_assign (v := (.slice (some ⟨g10, 0, none⟩) 0 0)) rfl rfl) ?_)
  refine rw_nil (hK8 _ _ ?_)
  refine hK6 _ _ ?_
  refine cw_seq fun K18 hK19 => ?_
  refine cw_seq fun K20 hK21 => ?_
  refine cw_region fun K22 hK23 => ?_
  refine rw_cons (op_pv (w0 rfl) rfl rfl (pv_move (v := (.int .i64 p)) rfl rfl) ?_)
  refine rw_cons (op_call (w0 rfl) rfl rfl (rc_call C28 rfl rfl) (l6In_ok p 1 99 _  ) ?_)
  rintro _ w24 ⟨rfl, hch25⟩
  have hsz26 := hch25.size
  replace hRxs := hRxs.ch0 hch25
  replace hO15 := hO15.ch0 hch25
  replace hc := hc.step0 hch25
  refine rw_cons (op_pv (w0 rfl) rfl rfl (pv_not rfl rfl) ?_)
  refine rw_cons (op_pv (w0 rfl) rfl rfl (pv_move (v := (.bool (!(dec (1 ≤ p ∧ p ≤ 99))))) rfl rfl) ?_)
  refine rw_split 14 rfl (fun hb27 => ?_) (fun hb27 => ?_)
  · -- yes
    replace hb27 := not_t hb27
    replace hb27 := dec_f hb27
    refine rw_cons (op_pass (w1n2 rfl rfl rfl rfl) rfl rfl ?_)
    refine rw_cons (op_pass (w1n2 rfl rfl rfl rfl) rfl rfl ?_)
    refine rw_cons (op_pass (w1n2 rfl rfl rfl rfl) rfl rfl ?_)
    refine rw_cons (op_pv (w0 rfl) rfl rfl (pv_pickT (v := (.bool true)) rfl rfl rfl) ?_)
    refine rw_cons (op_pv (w0 rfl) rfl rfl (pv_move (v := (.bool true)) rfl rfl) ?_)
    refine rw_cons (op_pass (w1n2 rfl rfl rfl rfl) rfl rfl ?_)
    refine rw_cons (op_pass (w1n2 rfl rfl rfl rfl) rfl rfl ?_)
    refine rw_cons (op_pass (w1n2 rfl rfl rfl rfl) rfl rfl ?_)
    refine rw_cons (op_pass (w1n2 rfl rfl rfl rfl) rfl rfl ?_)
    refine rw_cons (op_pass (w1n2 rfl rfl rfl rfl) rfl rfl ?_)
    refine rw_cons (op_pv (w0 rfl) rfl rfl (pv_pickT (v := (.bool true)) rfl rfl rfl) ?_)
    refine rw_nil (hK23 _ _ ?_)
    refine hK21 _ _ ?_
    refine cw_cond rfl (fun h28 => ?_) (fun h28 => ?_)
    · -- then
      clear h28
      refine cw_seq fun K29 hK30 => ?_
      refine cw_region fun K31 hK32 => ?_
      refine rw_cons (op_pv (w0 rfl) rfl rfl (pv_move (v := (.slice (some ⟨g10, 0, none⟩) 0 0)) rfl rfl) ?_)
      refine rw_cons (op_pv (w0 rfl) rfl rfl (pv_assign (v := (.slice (some ⟨g10, 0, none⟩) 0 0)) rfl rfl) ?_)
      refine rw_cons (op_pv (w0 rfl) rfl rfl (pv_assign (v := (.bool false)) rfl rfl) ?_)
      refine rw_nil (hK32 _ _ ?_)
      refine hK30 _ _ ?_
      refine cw_ret ?_
      refine fin2 rfl rfl ?_
      have hno : ¬PlaceOK p xs m := by rintro ⟨h1, h2, h3, h4⟩; first | contradiction | omega
      have he_0 : ([] : List Int) = placeV p xs m := (placeV_no hno).symm
      exact ⟨_, _, tup2 (sl_as hO15 he_0) (bvf hno), own_as (hO15.less (by omega)) he_0, hc⟩
    · -- else
      cases h28
  · -- no
    replace hb27 := not_f hb27
    replace hb27 := dec_t hb27
    refine rw_cons (op_pv (w1y rfl rfl rfl rfl) rfl rfl (pv_move (v := (.slice Axs nxs cxs)) rfl rfl) ?_)
    refine rw_cons (op_call (w1y rfl rfl rfl rfl) rfl rfl (rc_call C15 rfl rfl) (ServersValid_s _ _ _ xs _ (hRxs.more (by omega)) (by omega)) ?_)
    rintro _ w33 ⟨rfl, hch34⟩
    have hsz35 := hch34.size
    replace hRxs := hRxs.ch0 hch34
    replace hO15 := hO15.ch0 hch34
    replace hc := hc.step0 hch34
    refine rw_cons (op_pv (w1y rfl rfl rfl rfl) rfl rfl (pv_not rfl rfl) ?_)
    refine rw_cons (op_pv (w0 rfl) rfl rfl (pv_pickF (v := (.bool (!(dec (ServersOK xs))))) rfl rfl rfl) ?_)
    refine rw_cons (op_pv (w0 rfl) rfl rfl (pv_move (v := (.bool (!(dec (ServersOK xs))))) rfl rfl) ?_)
    refine rw_split 19 rfl (fun hb36 => ?_) (fun hb36 => ?_)
    · -- yes
      replace hb36 := not_t hb36
      replace hb36 := dec_f hb36
      refine rw_cons (op_pass (w1n2 rfl rfl rfl rfl) rfl rfl ?_)
      refine rw_cons (op_pass (w1n2 rfl rfl rfl rfl) rfl rfl ?_)
      refine rw_cons (op_pass (w1n2 rfl rfl rfl rfl) rfl rfl ?_)
      refine rw_cons (op_pass (w1n2 rfl rfl rfl rfl) rfl rfl ?_)
      refine rw_cons (op_pass (w1n2 rfl rfl rfl rfl) rfl rfl ?_)
      refine rw_cons (op_pv (w0 rfl) rfl rfl (pv_pickT (v := (.bool true)) rfl rfl rfl) ?_)
      refine rw_nil (hK23 _ _ ?_)
      refine hK21 _ _ ?_
      refine cw_cond rfl (fun h37 => ?_) (fun h37 => ?_)
      · -- then
        clear h37
        refine cw_seq fun K38 hK39 => ?_
        refine cw_region fun K40 hK41 => ?_
        refine rw_cons (op_pv (w0 rfl) rfl rfl (pv_move (v := (.slice (some ⟨g10, 0, none⟩) 0 0)) rfl rfl) ?_)
        refine rw_cons (op_pv (w0 rfl) rfl rfl (pv_assign (v := (.slice (some ⟨g10, 0, none⟩) 0 0)) rfl rfl) ?_)
        refine rw_cons (op_pv (w0 rfl) rfl rfl (pv_assign (v := (.bool false)) rfl rfl) ?_)
        refine rw_nil (hK41 _ _ ?_)
        refine hK39 _ _ ?_
        refine cw_ret ?_
        refine fin2 rfl rfl ?_
        have hno : ¬PlaceOK p xs m := by rintro ⟨h1, h2, h3, h4⟩; first | contradiction | omega
        have he_0 : ([] : List Int) = placeV p xs m := (placeV_no hno).symm
        exact ⟨_, _, tup2 (sl_as hO15 he_0) (bvf hno), own_as (hO15.less (by omega)) he_0, hc⟩
      · -- else
        cases h37
    · -- no
      replace hb36 := not_f hb36
      replace hb36 := dec_t hb36
      refine rw_cons (op_pv (w1y rfl rfl rfl rfl) rfl rfl (pv_move (v := (.int .i64 m)) rfl rfl) ?_)
      refine rw_cons (op_pv (w1y rfl rfl rfl rfl) rfl rfl (pv_move (v := (.slice Axs nxs cxs)) rfl rfl) ?_)
      refine rw_cons (op_pv (w1y rfl rfl rfl rfl) rfl rfl (pv_len Try.underlying24 rfl rfl) ?_)
      refine rw_cons (op_call (w1y rfl rfl rfl rfl) rfl rfl (rc_call C28 rfl rfl) (l6In_ok m 1 (nxs : Int) _  ) ?_)
      rintro _ w42 ⟨rfl, hch43⟩
      have hsz44 := hch43.size
      replace hRxs := hRxs.ch0 hch43
      replace hO15 := hO15.ch0 hch43
      replace hc := hc.step0 hch43
      refine rw_cons (op_pv (w1y rfl rfl rfl rfl) rfl rfl (pv_not rfl rfl) ?_)
      refine rw_cons (op_pv (w0 rfl) rfl rfl (pv_pickF (v := (.bool (!(dec (1 ≤ m ∧ m ≤ (nxs : Int)))))) rfl rfl rfl) ?_)
      refine rw_nil (hK23 _ _ ?_)
      refine hK21 _ _ ?_
      refine cw_cond rfl (fun h45 => ?_) (fun h45 => ?_)
      · -- then
        replace h45 := not_t h45
        replace h45 := dec_f h45
        refine cw_seq fun K46 hK47 => ?_
        refine cw_region fun K48 hK49 => ?_
        refine rw_cons (op_pv (w0 rfl) rfl rfl (pv_move (v := (.slice (some ⟨g10, 0, none⟩) 0 0)) rfl rfl) ?_)
        refine rw_cons (op_pv (w0 rfl) rfl rfl (pv_assign (v := (.slice (some ⟨g10, 0, none⟩) 0 0)) rfl rfl) ?_)
        refine rw_cons (op_pv (w0 rfl) rfl rfl (pv_assign (v := (.bool false)) rfl rfl) ?_)
        refine rw_nil (hK49 _ _ ?_)
        refine hK47 _ _ ?_
        refine cw_ret ?_
        refine fin2 rfl rfl ?_
        have hno : ¬PlaceOK p xs m := by rintro ⟨h1, h2, h3, h4⟩; first | contradiction | omega
        have he_0 : ([] : List Int) = placeV p xs m := (placeV_no hno).symm
        exact ⟨_, _, tup2 (sl_as hO15 he_0) (bvf hno), own_as (hO15.less (by omega)) he_0, hc⟩
      · -- else
        replace h45 := not_f h45
        replace h45 := dec_t h45
        refine cw_skip ?_
        refine hK19 _ _ ?_
        refine cw_seq fun K50 hK51 => ?_
        refine cw_seq fun K52 hK53 => ?_
        have hx8 := (‹ServersOK xs›).1
        refine cw_region fun K54 hK55 => ?_
        refine rw_cons (op_pv (w0 rfl) rfl rfl (pv_assign (v := (.int .i64 0)) rfl rfl) ?_)
        refine rw_nil (hK55 _ _ ?_)
        refine hK53 _ _ ?_
        refine cw_block ?_
        refine cw_loop (σ := Nat × (Option Addr) × Nat) (fun ⟨k, Ao, co⟩ => [(8, (.slice Ao ((rankP p xs).take k).length co)), (9, (.int .i64 (k : Int))), (0, (.int .i64 p)), (1, (.slice Axs nxs cxs)), (2, (.int .i64 m)), (6, (.slice none 0 0)), (7, (.bool false))]) (fun ⟨k, Ao, co⟩ W => ((k : Int) ≤ m) ∧ RS encI 1 W w.heap.size Axs nxs xs ∧ Own encI 1 W w.heap.size 3 (.slice Ao ((rankP p xs).take k).length co) ((rankP p xs).take k) ∧ Ch [] w W) (fun ⟨k, Ao, co⟩ => m.toNat - k) (0, (some ⟨g10, 0, none⟩), 0) ?_ ?_ ?_
        · exact ⟨rfl, rfl, rfl, rfl, rfl, rfl, rfl, trivial⟩
        · refine ⟨by omega, hRxs, (hO15.less (by omega)), hc⟩
        · rintro ⟨k, Ao, co⟩ J60 w56 ⟨hk, hRxs, hOut, hc⟩ K57 hK58
          have hsz62 := hc.size
          have hubO := hOut.lt
          have hrl := rankP_len p xs; have htl : ((rankP p xs).take k).length ≤ k := List.length_take_le _ _
          refine cw_seq fun K63 hK64 => ?_
          refine cw_seq fun K65 hK66 => ?_
          refine cw_region fun K67 hK68 => ?_
          refine rw_cons (op_pv (w0 rfl) rfl rfl (pv_move (v := (.int .i64 (k : Int))) rfl rfl) ?_)
          refine rw_cons (op_pv (w0 rfl) rfl rfl (pv_move (v := (.int .i64 m)) rfl rfl) ?_)
          refine rw_cons (op_pv (w0 rfl) rfl rfl (pv_lss rfl rfl rfl) ?_)
          refine rw_nil (hK68 _ _ ?_)
          refine hK66 _ _ ?_
          refine cw_cond rfl (fun h69 => ?_) (fun h69 => ?_)
          · -- then
            replace h69 := of_decide_eq_true h69
            refine cw_skip ?_
            refine hK64 _ _ ?_
            refine cw_seq fun K70 hK71 => ?_
            refine cw_block ?_
            refine cw_region fun K72 hK73 => ?_
            refine rw_cons (op_pv (w0 rfl) rfl rfl (pv_move (v := (.slice Ao ((rankP p xs).take k).length co)) rfl rfl) ?_)
            refine rw_cons (op_pv (w0 rfl) rfl rfl (pv_move (v := (.int .i64 p)) rfl rfl) ?_)
            refine rw_cons (op_pv (w0 rfl) rfl rfl (pv_move (v := (.slice Axs nxs cxs)) rfl rfl) ?_)
            refine rw_cons (op_pv (w0 rfl) rfl rfl (pv_move (v := (.slice Ao ((rankP p xs).take k).length co)) rfl rfl) ?_)
            refine rw_cons (op_call (w0 rfl) rfl rfl (rc_call C35 rfl rfl) (l22Best_ok p _ nxs _ xs _ ((rankP p xs).take k).length _ ((rankP p xs).take k) _ (hRxs.more (by omega)) (by omega) (hOut.rs (fun _ => rfl)) (by omega) (by omega) (‹ServersOK xs›).2) ?_)
            rintro _ w74 ⟨rfl, hch75⟩
            have hsz76 := hch75.size
            replace hRxs := hRxs.ch0 hch75
            replace hOut := hOut.ch0 hch75
            replace hc := hc.step0 hch75
            refine rw_cons (op_bslice [(.int .i64 (bestL p ((rankP p xs).take k) xs))] Try.underlying24 T3 (w0 rfl) rfl rfl rfl rfl rfl (by simp [Value.cells]) (by decide) ?_)
            intro g78 w77 hg81 hg82 hK80 hch79
            have hO83 : Own encI 1 w77 w74.heap.size 3 (.slice (some ⟨g78, 0, none⟩) 1 1) ([bestL p ((rankP p xs).take k) xs] : List Int) := Blk.own (xs := ([bestL p ((rankP p xs).take k) xs] : List Int)) hK80 (by omega) rfl (by decide) rfl
            have hsz84 := hch79.size
            replace hRxs := hRxs.ch0 hch79
            replace hOut := hOut.ch0 hch79
            replace hc := hc.step0 hch79
            have hub85 := hO83.lt
            refine rw_cons (op_append Try.underlying24 T3 (fun _ => rfl) rfl (by decide) (fun _ => one_all rfl) (w0 rfl) rfl rfl rfl rfl rfl hOut (hO83.rs (fun _ => rfl)) (by unfold maxLen; first | omega | (simp; omega)) (by first | omega | (simp; omega)) (by omega) ?_)
            rintro v86 w87 hO88 hch89 hs90
            have hl91 : (((rankP p xs).take k) ++ ([bestL p ((rankP p xs).take k) xs] : List Int)).length = ((rankP p xs).take k).length + 1 := by first | (have hl0 := (hO83.rs (fun _ => rfl)).len; omega) | (have hl0 := (hO83.rs (fun _ => rfl)).len; simp only [List.length_append, List.length_cons, List.length_nil] at hl0 ⊢; omega) | simp | rfl
            clear hO83
            have hsz92 := hch89.size
            replace hRxs := hRxs.ch hch89 (hOut.off.le (by omega))
            replace hc := (hOut.off.le (by omega)).step hc hch89
            have hub93 := hO88.lt
            obtain ⟨A94, c95, hv96, hcap97, hcap98⟩ := hO88.form; subst hv96
            refine rw_cons (op_pv (w0 rfl) rfl rfl (pv_assign (v := (.slice A94 (((rankP p xs).take k) ++ ([bestL p ((rankP p xs).take k) xs] : List Int)).length c95)) rfl rfl) ?_)
            refine rw_nil (hK73 _ _ ?_)
            refine hK71 _ _ ?_
            refine cw_region fun K99 hK100 => ?_
            refine rw_cons (op_pv (w0 rfl) rfl rfl (pv_move (v := (.int .i64 (k : Int))) rfl rfl) ?_)
            refine rw_cons (op_pv (w0 rfl) rfl rfl (pv_add rfl rfl rfl (by omega) (by omega)) ?_)
            refine rw_cons (op_pv (w0 rfl) rfl rfl (pv_assign (v := (.int .i64 ((k : Int) + 1))) rfl rfl) ?_)
            refine rw_nil (hK100 _ _ ?_)
            have hEQ101 : (((rankP p xs).take k) ++ ([bestL p ((rankP p xs).take k) xs] : List Int)) = (rankP p xs).take (k + 1) := by rw [best_rank (‹ServersOK xs›).2 (by omega)]; exact (take_snoc _ _ (by rw [rankP_len]; omega)).symm
            have hO102 := own_as hO88 hEQ101
            refine hK58 _ _ (k + 1, A94, c95) ⟨(sl_as hO88 hEQ101), (iv (by omega)), rfl, rfl, rfl, rfl, rfl, trivial⟩ ⟨?_, hRxs, hO102, hc⟩ ?_
            · omega
            · show m.toNat - (k + 1) < m.toNat - k; omega
          · -- else
            replace h69 := of_decide_eq_false h69
            refine cw_exit ?_
            refine hK51 _ _ ?_
            refine cw_seq fun K103 hK104 => ?_
            refine cw_region fun K105 hK106 => ?_
            refine rw_cons (op_pv (w0 rfl) rfl rfl (pv_move (v := (.slice Ao ((rankP p xs).take k).length co)) rfl rfl) ?_)
            refine rw_cons (op_pv (w0 rfl) rfl rfl (pv_assign (v := (.slice Ao ((rankP p xs).take k).length co)) rfl rfl) ?_)
            refine rw_cons (op_pv (w0 rfl) rfl rfl (pv_assign (v := (.bool true)) rfl rfl) ?_)
            refine rw_nil (hK106 _ _ ?_)
            refine hK104 _ _ ?_
            refine cw_ret ?_
            refine fin2 rfl rfl ?_
            have hyes : PlaceOK p xs m := ⟨by omega, by assumption, by omega, by omega⟩
            have he_0 : ((rankP p xs).take k) = placeV p xs m := (by rw [placeV_yes hyes, show m.toNat = k by omega])
            exact ⟨_, _, tup2 (sl_as hOut he_0) (bvt hyes), own_as (hOut.less (by omega)) he_0, hc⟩
end Go.Proofs.Ytielahdnccocdaa
