/-
  The walk of spec.l32Bad, written by program: each line names the law of one operation. Conditions: those of the theorem.
-/
import Derived.Test.YthgnnpafieifmaaProg
import Derived.Test.YthgnnpafieifmaaSums
import Derived.Test.YthgnnpafieifmaaFspecl32Sums
import Derived.KernelRfl
namespace Go.Proofs.Ythgnnpafieifmaa
open Go Go.RowKit
set_option linter.unusedVariables false
set_option linter.unusedSimpArgs false
namespace l32Bad_okF
theorem T3 : TI Try.prog 3 false (.int .i64 0) 1 8 := TI.mk' Try.underlying3 rfl (by kernel_rfl)
theorem C37 : Callable Try.prog 37 := ⟨_, Try.func37, by kernel_rfl, by kernel_rfl⟩
end l32Bad_okF
open l32Bad_okF in
set_option maxHeartbeats 4000000 in
theorem l32Bad_ok (Axs : Option Addr) (nxs cxs : Nat) (xs : List Int) (Ass : Option Addr) (nss css : Nat) (ss : List Int) (w : World) (hRxs : RS encI 1 w w.heap.size Axs nxs xs) (hnxs : nxs ≤ cxs) (hNxs : nxs ≤ 1099511627776) (hRss : RS encI 1 w w.heap.size Ass nss ss) (hNss : nss ≤ 1099511627776) (hb : ∀ j, j < nxs → -1000000 ≤ el xs j ∧ el xs j ≤ 1000000) :
    Fn Try.prog 39 [(.slice Axs nxs cxs), (.slice Ass nss css)] w fun v w' => ∃ A_0 c_0, v = .slice A_0 (badL (sumsL xs) ss).length c_0 ∧ Own encI 1 w' w.heap.size 3 (.slice A_0 (badL (sumsL xs) ss).length c_0) (badL (sumsL xs) ss) ∧ Ch [] w w' := by
  have hlenxs := hRxs.len
  have hlenss := hRss.len
  have hnp : nparts xs = (xs.length + 3) / 4 := rfl
  refine fn_of (n := 37) Try.func39 rfl rfl rfl rfl ?_
  have hc : Ch [] w w := Ch.refl _ _
  refine cw_seq fun K1 hK2 => ?_
  refine cw_region fun K3 hK4 => ?_
  refine rw_cons (op_pv (w0 rfl) rfl rfl (pv_assign (v := (.slice none 0 0)) rfl rfl) ?_)
  refine rw_nil (hK4 _ _ ?_)
  refine hK2 _ _ ?_
  refine cw_seq fun K5 hK6 => ?_
  refine cw_region fun K7 hK8 => ?_
  refine rw_cons (op_bslice [] Try.underlying22 T3 (w0 rfl) rfl rfl rfl rfl rfl (by simp [Value.cells]) (by decide) ?_)
  intro g10 w9 hg13 hg14 hK12 hch11
  have hO15 : Own encI 1 w9 w.heap.size 3 (.slice (some ⟨g10, 0, none⟩) 0 0) ([] : List Int) := Blk.own (xs := ([] : List Int)) hK12 (by omega) rfl (by decide) rfl
  have hsz16 := hch11.size
  replace hRxs := hRxs.ch0 hch11
  replace hRss := hRss.ch0 hch11
  replace hc := hc.step0 hch11
  have hub17 := hO15.lt
  refine rw_cons (op_pv (w0 rfl) rfl rfl (pv_assign (v := (.slice (some ⟨g10, 0, none⟩) 0 0)) rfl rfl) ?_)
  refine rw_nil (hK8 _ _ ?_)
  refine hK6 _ _ ?_
  refine cw_seq fun K18 hK19 => ?_
  refine cw_region fun K20 hK21 => ?_
  refine rw_cons (op_pv (w0 rfl) rfl rfl (pv_move (v := (.slice Axs nxs cxs)) rfl rfl) ?_)
  refine rw_cons (op_call (w0 rfl) rfl rfl (rc_call C37 rfl rfl) (l32Sums_ok _ nxs _ xs _ (hRxs.more (by omega)) (by omega) (by omega) hb) ?_)
  rintro _ w22 ⟨A24, c25, rfl, hO26, hch23⟩
  have hsz27 := hch23.size
  replace hRxs := hRxs.ch0 hch23
  replace hRss := hRss.ch0 hch23
  replace hO15 := hO15.ch0 hch23
  replace hc := hc.step0 hch23
  have hub28 := hO26.lt
  have hcap29 : (sumsL xs).length ≤ c25 := by obtain ⟨_, _, hv, h1, _⟩ := hO26.form; injection hv with _ _ h3; omega
  have hnt30 := sumsL_len xs
  have hnt31 := sumsL_le xs
  refine rw_cons (op_pv (w0 rfl) rfl rfl (pv_assign (v := (.slice A24 (sumsL xs).length c25)) rfl rfl) ?_)
  refine rw_nil (hK21 _ _ ?_)
  refine hK19 _ _ ?_
  refine cw_seq fun K32 hK33 => ?_
  refine cw_seq fun K34 hK35 => ?_
  refine cw_region fun K36 hK37 => ?_
  refine rw_cons (op_pv (w0 rfl) rfl rfl (pv_assign (v := (.int .i64 0)) rfl rfl) ?_)
  refine rw_nil (hK37 _ _ ?_)
  refine hK35 _ _ ?_
  refine cw_block ?_
  refine cw_loop (σ := Nat × (Option Addr) × Nat) (fun ⟨k, Ao, co⟩ => [(5, (.slice Ao (badTo (sumsL xs) ss k).length co)), (7, (.int .i64 (k : Int))), (1, (.slice Ass nss css)), (4, (.slice none 0 0)), (6, (.slice A24 (sumsL xs).length c25))]) (fun ⟨k, Ao, co⟩ W => (k ≤ (sumsL xs).length) ∧ RS encI 1 W w.heap.size Axs nxs xs ∧ RS encI 1 W w.heap.size Ass nss ss ∧ Own encI 1 W w9.heap.size 3 (.slice A24 (sumsL xs).length c25) (sumsL xs) ∧ Own encI 1 W w.heap.size 3 (.slice Ao (badTo (sumsL xs) ss k).length co) (badTo (sumsL xs) ss k) ∧ Ch [] w W ∧ w9.heap.size ≤ W.heap.size ∧ (∀ s ∈ obl (.slice A24 (sumsL xs).length c25), s ∉ obl (.slice Ao (badTo (sumsL xs) ss k).length co))) (fun ⟨k, Ao, co⟩ => (sumsL xs).length - k) (0, (some ⟨g10, 0, none⟩), 0) ?_ ?_ ?_
  · exact ⟨rfl, rfl, rfl, rfl, rfl, trivial⟩
  · refine ⟨Nat.zero_le _, hRxs, hRss, hO26, (hO15.less (by omega)), hc, (by omega), (fun s hs hs2 => by first | (have h1 := hO15.off s hs; have h2 := hub28 s hs2; omega) | (have h1 := hO26.off s hs; have h2 := hub17 s hs2; omega) | (have h1 := hub17 s hs; have h2 := hO26.off s hs2; omega) | (have h1 := hub28 s hs; have h2 := hO15.off s hs2; omega) | (simp [obl, Value.ownBlock] at hs; done) | (simp [obl, Value.ownBlock] at hs2; done))⟩
  · rintro ⟨k, Ao, co⟩ J44 w38 ⟨hk, hRxs, hRss, hO26, hOut, hc, hmono39, hdj40⟩ K41 hK42
    have hsz46 := hc.size
    have hub28 := hO26.lt
    have hubO := hOut.lt
    have hbl := badTo_le (sumsL xs) ss k
    refine cw_seq fun K47 hK48 => ?_
    refine cw_seq fun K49 hK50 => ?_
    refine cw_region fun K51 hK52 => ?_
    refine rw_cons (op_pv (w0 rfl) rfl rfl (pv_move (v := (.int .i64 (k : Int))) rfl rfl) ?_)
    refine rw_cons (op_pv (w0 rfl) rfl rfl (pv_move (v := (.slice A24 (sumsL xs).length c25)) rfl rfl) ?_)
    refine rw_cons (op_pv (w0 rfl) rfl rfl (pv_len Try.underlying22 rfl rfl) ?_)
    refine rw_cons (op_pv (w0 rfl) rfl rfl (pv_lss rfl rfl rfl) ?_)
    refine rw_nil (hK52 _ _ ?_)
    refine hK50 _ _ ?_
    refine cw_cond rfl (fun h53 => ?_) (fun h53 => ?_)
    · -- then
      replace h53 := of_decide_eq_true h53
      refine cw_skip ?_
      refine hK48 _ _ ?_
      refine cw_seq fun K54 hK55 => ?_
      refine cw_block ?_
      refine cw_seq fun K56 hK57 => ?_
      refine cw_drawn (fun u => Ch [] w38 u) (.free 0 (.free 1 (.free 2 (.free 3 (.free 4 (.free 5 (.free 6 (.free 7 (.free 8 (.free 9 (.free 10 (.free 11 (.free 12 (.free 13 (.free 14 (.done)))))))))))))))) (by kernel_rfl) (by kernel_rfl) (Ch.refl _ _).drew fun K61 hK62 => ?_
      obtain ⟨w58, hw_, hch59, hsz60⟩ : ∃ w1 : World, w1 = w38.drew ∧ Ch [] w38 w1 ∧ w1.heap.size = w38.heap.size := ⟨_, rfl, (Ch.refl _ _).drew, rfl⟩
      rw [← hw_]; clear hw_
      have hr63 : Ch [] w38 w58 := hch59.sub (fun s hs => by cases hs)
      have hRxs_r := hRxs
      have hRss_r := hRss
      have hO26_r := hO26
      have hOut_r := hOut
      have hsz64 := hch59.size
      replace hRxs := hRxs.ch0 hch59
      replace hRss := hRss.ch0 hch59
      replace hO26 := hO26.ch0 hch59
      replace hOut := hOut.ch0 hch59
      replace hc := hc.step0 hch59
      refine tw_free rfl (w0 rfl) rfl rfl (fun u hu => (pv_move (v := (.int .i64 (k : Int))) rfl rfl : PV _ _ _ _) u) ?_
      refine tw_free rfl (w0 rfl) rfl rfl (fun u hu => (pv_move (v := (.slice Ass nss css)) rfl rfl : PV _ _ _ _) u) ?_
      refine tw_free rfl (w0 rfl) rfl rfl (fun u hu => (pv_len Try.underlying22 rfl rfl : PV _ _ _ _) u) ?_
      refine tw_free rfl (w0 rfl) rfl rfl (fun u hu => (pv_geq rfl rfl rfl : PV _ _ _ _) u) ?_
      refine tw_free rfl (w0 rfl) rfl rfl (fun u hu => (pv_move (v := (.bool (decide ((nss : Int) ≤ (k : Int))))) rfl rfl : PV _ _ _ _) u) ?_
      refine tw_split 21 rfl (fun hb65 => ?_) (fun hb65 => ?_)
      · -- yes
        replace hb65 := of_decide_eq_true hb65
        refine tw_pass rfl (w1n2 rfl rfl rfl rfl) rfl rfl ?_
        refine tw_pass rfl (w1n2 rfl rfl rfl rfl) rfl rfl ?_
        refine tw_pass rfl (w1n2 rfl rfl rfl rfl) rfl rfl ?_
        refine tw_pass rfl (w1n2 rfl rfl rfl rfl) rfl rfl ?_
        refine tw_pass rfl (w1n2 rfl rfl rfl rfl) rfl rfl ?_
        refine tw_pass rfl (w1n2 rfl rfl rfl rfl) rfl rfl ?_
        refine tw_pass rfl (w1n2 rfl rfl rfl rfl) rfl rfl ?_
        refine tw_pass rfl (w1n2 rfl rfl rfl rfl) rfl rfl ?_
        refine tw_pass rfl (w1n2 rfl rfl rfl rfl) rfl rfl ?_
        refine tw_free rfl (w0 rfl) rfl rfl (fun u hu => (pv_pickT (v := (.bool true)) rfl rfl rfl : PV _ _ _ _) u) ?_
        clear hO26_r
        clear hOut_r
        clear hRss_r
        clear hRxs_r
        refine tw_done (hK62 _ _ ?_)
        refine hK57 _ _ ?_
        refine cw_cond rfl (fun h66 => ?_) (fun h66 => ?_)
        · -- then
          clear h66
          refine cw_region fun K67 hK68 => ?_
          refine rw_cons (op_pv (w0 rfl) rfl rfl (pv_move (v := (.slice Ao (badTo (sumsL xs) ss k).length co)) rfl rfl) ?_)
          refine rw_cons (op_pv (w0 rfl) rfl rfl (pv_move (v := (.int .i64 (k : Int))) rfl rfl) ?_)
          refine rw_cons (op_bslice [(.int .i64 (k : Int))] Try.underlying22 T3 (w0 rfl) rfl rfl rfl rfl rfl (by simp [Value.cells]) (by decide) ?_)
          intro g70 w69 hg73 hg74 hK72 hch71
          have hO75 : Own encI 1 w69 w58.heap.size 3 (.slice (some ⟨g70, 0, none⟩) 1 1) ([(k : Int)] : List Int) := Blk.own (xs := ([(k : Int)] : List Int)) hK72 (by omega) rfl (by decide) rfl
          have hsz76 := hch71.size
          replace hRxs := hRxs.ch0 hch71
          replace hRss := hRss.ch0 hch71
          replace hO26 := hO26.ch0 hch71
          replace hOut := hOut.ch0 hch71
          replace hc := hc.step0 hch71
          have hub77 := hO75.lt
          refine rw_cons (op_append Try.underlying22 T3 (fun _ => rfl) rfl (by decide) (fun _ => one_all rfl) (w0 rfl) rfl rfl rfl rfl rfl hOut (hO75.rs (fun _ => rfl)) (by unfold maxLen; first | omega | (simp; omega)) (by first | omega | (simp; omega)) (by omega) ?_)
          rintro v78 w79 hO80 hch81 hs82
          have hl83 : ((badTo (sumsL xs) ss k) ++ ([(k : Int)] : List Int)).length = (badTo (sumsL xs) ss k).length + 1 := by first | (have hl0 := (hO75.rs (fun _ => rfl)).len; omega) | (have hl0 := (hO75.rs (fun _ => rfl)).len; simp only [List.length_append, List.length_cons, List.length_nil] at hl0 ⊢; omega) | simp | rfl
          clear hO75
          have hsz85 := hch81.size
          replace hRxs := hRxs.ch hch81 (hOut.off.le (by omega))
          replace hRss := hRss.ch hch81 (hOut.off.le (by omega))
          replace hO26 := hO26.ch hch81 (dj_as hdj40)
          replace hc := (hOut.off.le (by omega)).step hc hch81
          have hub86 := hO80.lt
          obtain ⟨A87, c88, hv89, hcap90, hcap91⟩ := hO80.form; subst hv89
          have hdj84 : ∀ s ∈ obl (.slice A87 ((badTo (sumsL xs) ss k) ++ ([(k : Int)] : List Int)).length c88), s ∉ obl (.slice A24 (sumsL xs).length c25) := dj_new hs82 (dj_sw hdj40) (fun s hs => by have := hub28 s hs; omega)
          refine rw_cons (op_pv (w0 rfl) rfl rfl (pv_assign (v := (.slice A87 ((badTo (sumsL xs) ss k) ++ ([(k : Int)] : List Int)).length c88)) rfl rfl) ?_)
          refine rw_nil (hK68 _ _ ?_)
          refine hK55 _ _ ?_
          refine cw_region fun K92 hK93 => ?_
          refine rw_cons (op_pv (w0 rfl) rfl rfl (pv_move (v := (.int .i64 (k : Int))) rfl rfl) ?_)
          refine rw_cons (op_pv (w0 rfl) rfl rfl (pv_add rfl rfl rfl (by omega) (by omega)) ?_)
          refine rw_cons (op_pv (w0 rfl) rfl rfl (pv_assign (v := (.int .i64 ((k : Int) + 1))) rfl rfl) ?_)
          refine rw_nil (hK93 _ _ ?_)
          have hEQ94 : ((badTo (sumsL xs) ss k) ++ ([(k : Int)] : List Int)) = badTo (sumsL xs) ss (k + 1) := by exact (badTo_yes _ _ k (by intro h9; omega)).symm
          have hO95 := own_as hO80 hEQ94
          refine hK42 _ _ (k + 1, A87, c88) ⟨(sl_as hO80 hEQ94), (iv (by omega)), rfl, rfl, rfl, trivial⟩ ⟨?_, hRxs, hRss, hO26, hO95, hc, (by omega), (dj_sw hdj84)⟩ ?_
          · omega
          · (first | omega | (simp only []; omega))
        · -- else
          cases h66
      · -- no
        replace hb65 := of_decide_eq_false hb65
        refine tw_free rfl (w1y rfl rfl rfl rfl) rfl rfl (fun u hu => (pv_move (v := (.slice Ass nss css)) rfl rfl : PV _ _ _ _) u) ?_
        refine tw_free rfl (w1y rfl rfl rfl rfl) rfl rfl (fun u hu => (pv_move (v := (.int .i64 (k : Int))) rfl rfl : PV _ _ _ _) u) ?_
        refine tw_free rfl (w1y rfl rfl rfl rfl) rfl rfl (fun u hu => (pv_idx Try.underlying22 T3 rfl rfl rfl (hRss.some (k := k) (by omega)) (by omega) (by omega) : PV _ _ _ _) u) ?_
        refine tw_free rfl (w1y rfl rfl rfl rfl) rfl rfl (fun u hu => lv_load T3 rfl rfl ((hRss_r.ch0 hu).cell0 (k := k) (by omega) rfl)) ?_
        refine tw_free rfl (w1y rfl rfl rfl rfl) rfl rfl (fun u hu => (pv_move (v := (.slice A24 (sumsL xs).length c25)) rfl rfl : PV _ _ _ _) u) ?_
        refine tw_free rfl (w1y rfl rfl rfl rfl) rfl rfl (fun u hu => (pv_move (v := (.int .i64 (k : Int))) rfl rfl : PV _ _ _ _) u) ?_
        refine tw_free rfl (w1y rfl rfl rfl rfl) rfl rfl (fun u hu => (pv_idx Try.underlying22 T3 rfl rfl rfl ((hO26.rs (fun _ => rfl)).some (k := k) (by omega)) (by omega) (by omega) : PV _ _ _ _) u) ?_
        refine tw_free rfl (w1y rfl rfl rfl rfl) rfl rfl (fun u hu => lv_load T3 rfl rfl (((hO26_r.ch0 hu).rs (fun _ => rfl)).cell0 (k := k) (by omega) rfl)) ?_
        refine tw_free rfl (w1y rfl rfl rfl rfl) rfl rfl (fun u hu => (pv_neq rfl rfl rfl : PV _ _ _ _) u) ?_
        refine tw_free rfl (w0 rfl) rfl rfl (fun u hu => (pv_pickF (v := (.bool (decide (((el ss k) : Int) ≠ (el (sumsL xs) k))))) rfl rfl rfl : PV _ _ _ _) u) ?_
        clear hO26_r
        clear hOut_r
        clear hRss_r
        clear hRxs_r
        refine tw_done (hK62 _ _ ?_)
        refine hK57 _ _ ?_
        refine cw_cond rfl (fun h96 => ?_) (fun h96 => ?_)
        · -- then
          replace h96 := of_decide_eq_true h96
          refine cw_region fun K97 hK98 => ?_
          refine rw_cons (op_pv (w0 rfl) rfl rfl (pv_move (v := (.slice Ao (badTo (sumsL xs) ss k).length co)) rfl rfl) ?_)
          refine rw_cons (op_pv (w0 rfl) rfl rfl (pv_move (v := (.int .i64 (k : Int))) rfl rfl) ?_)
          refine rw_cons (op_bslice [(.int .i64 (k : Int))] Try.underlying22 T3 (w0 rfl) rfl rfl rfl rfl rfl (by simp [Value.cells]) (by decide) ?_)
          intro g100 w99 hg103 hg104 hK102 hch101
          have hO105 : Own encI 1 w99 w58.heap.size 3 (.slice (some ⟨g100, 0, none⟩) 1 1) ([(k : Int)] : List Int) := Blk.own (xs := ([(k : Int)] : List Int)) hK102 (by omega) rfl (by decide) rfl
          have hsz106 := hch101.size
          replace hRxs := hRxs.ch0 hch101
          replace hRss := hRss.ch0 hch101
          replace hO26 := hO26.ch0 hch101
          replace hOut := hOut.ch0 hch101
          replace hc := hc.step0 hch101
          have hub107 := hO105.lt
          refine rw_cons (op_append Try.underlying22 T3 (fun _ => rfl) rfl (by decide) (fun _ => one_all rfl) (w0 rfl) rfl rfl rfl rfl rfl hOut (hO105.rs (fun _ => rfl)) (by unfold maxLen; first | omega | (simp; omega)) (by first | omega | (simp; omega)) (by omega) ?_)
          rintro v108 w109 hO110 hch111 hs112
          have hl113 : ((badTo (sumsL xs) ss k) ++ ([(k : Int)] : List Int)).length = (badTo (sumsL xs) ss k).length + 1 := by first | (have hl0 := (hO105.rs (fun _ => rfl)).len; omega) | (have hl0 := (hO105.rs (fun _ => rfl)).len; simp only [List.length_append, List.length_cons, List.length_nil] at hl0 ⊢; omega) | simp | rfl
          clear hO105
          have hsz115 := hch111.size
          replace hRxs := hRxs.ch hch111 (hOut.off.le (by omega))
          replace hRss := hRss.ch hch111 (hOut.off.le (by omega))
          replace hO26 := hO26.ch hch111 (dj_as hdj40)
          replace hc := (hOut.off.le (by omega)).step hc hch111
          have hub116 := hO110.lt
          obtain ⟨A117, c118, hv119, hcap120, hcap121⟩ := hO110.form; subst hv119
          have hdj114 : ∀ s ∈ obl (.slice A117 ((badTo (sumsL xs) ss k) ++ ([(k : Int)] : List Int)).length c118), s ∉ obl (.slice A24 (sumsL xs).length c25) := dj_new hs112 (dj_sw hdj40) (fun s hs => by have := hub28 s hs; omega)
          refine rw_cons (op_pv (w0 rfl) rfl rfl (pv_assign (v := (.slice A117 ((badTo (sumsL xs) ss k) ++ ([(k : Int)] : List Int)).length c118)) rfl rfl) ?_)
          refine rw_nil (hK98 _ _ ?_)
          refine hK55 _ _ ?_
          refine cw_region fun K122 hK123 => ?_
          refine rw_cons (op_pv (w0 rfl) rfl rfl (pv_move (v := (.int .i64 (k : Int))) rfl rfl) ?_)
          refine rw_cons (op_pv (w0 rfl) rfl rfl (pv_add rfl rfl rfl (by omega) (by omega)) ?_)
          refine rw_cons (op_pv (w0 rfl) rfl rfl (pv_assign (v := (.int .i64 ((k : Int) + 1))) rfl rfl) ?_)
          refine rw_nil (hK123 _ _ ?_)
          have hEQ124 : ((badTo (sumsL xs) ss k) ++ ([(k : Int)] : List Int)) = badTo (sumsL xs) ss (k + 1) := by exact (badTo_yes _ _ k (by intro h9; omega)).symm
          have hO125 := own_as hO110 hEQ124
          refine hK42 _ _ (k + 1, A117, c118) ⟨(sl_as hO110 hEQ124), (iv (by omega)), rfl, rfl, rfl, trivial⟩ ⟨?_, hRxs, hRss, hO26, hO125, hc, (by omega), (dj_sw hdj114)⟩ ?_
          · omega
          · (first | omega | (simp only []; omega))
        · -- else
          replace h96 := of_decide_eq_false h96
          refine cw_skip ?_
          refine hK55 _ _ ?_
          refine cw_region fun K126 hK127 => ?_
          refine rw_cons (op_pv (w0 rfl) rfl rfl (pv_move (v := (.int .i64 (k : Int))) rfl rfl) ?_)
          refine rw_cons (op_pv (w0 rfl) rfl rfl (pv_add rfl rfl rfl (by omega) (by omega)) ?_)
          refine rw_cons (op_pv (w0 rfl) rfl rfl (pv_assign (v := (.int .i64 ((k : Int) + 1))) rfl rfl) ?_)
          refine rw_nil (hK127 _ _ ?_)
          have hEQ128 : (badTo (sumsL xs) ss k) = badTo (sumsL xs) ss (k + 1) := by exact (badTo_no _ _ k (by (try simp only [not_le] at *); first | exact ⟨by omega, by omega⟩ | (refine ⟨by omega, ?_⟩; by_cases he : el ss k = el (sumsL xs) k; · exact he; · exact absurd he (by assumption)))).symm
          have hO129 := own_as hOut hEQ128
          refine hK42 _ _ (k + 1, Ao, co) ⟨(sl_as hOut hEQ128), (iv (by omega)), rfl, rfl, rfl, trivial⟩ ⟨?_, hRxs, hRss, hO26, hO129, hc, (by omega), (dj_as hdj40)⟩ ?_
          · omega
          · (first | omega | (simp only []; omega))
    · -- else
      replace h53 := of_decide_eq_false h53
      refine cw_exit ?_
      refine hK33 _ _ ?_
      refine cw_seq fun K130 hK131 => ?_
      refine cw_region fun K132 hK133 => ?_
      refine rw_cons (op_pv (w0 rfl) rfl rfl (pv_move (v := (.slice Ao (badTo (sumsL xs) ss k).length co)) rfl rfl) ?_)
      refine rw_cons (op_pv (w0 rfl) rfl rfl (pv_assign (v := (.slice Ao (badTo (sumsL xs) ss k).length co)) rfl rfl) ?_)
      refine rw_nil (hK133 _ _ ?_)
      refine hK131 _ _ ?_
      refine cw_ret ?_
      refine fin1 rfl ?_
      have he_0 : (badTo (sumsL xs) ss k) = badL (sumsL xs) ss := (by unfold badL; rw [show (sumsL xs).length = k by omega])
      exact ⟨_, _, (sl_as hOut he_0), own_as (hOut.less (by omega)) he_0, hc⟩
end Go.Proofs.Ythgnnpafieifmaa
