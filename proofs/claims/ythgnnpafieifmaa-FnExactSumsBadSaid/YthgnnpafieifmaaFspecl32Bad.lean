/-
  The walk of spec.l32Bad, written by program: each line names the law of one operation. Conditions: those of the theorem.
-/
import Derived.Test.YthgnnpafieifmaaProg
import Derived.Test.YthgnnpafieifmaaSums
import Derived.Test.YthgnnpafieifmaaFspecl32Sums
import Derived.KernelRfl
namespace Go.Proofs.Ythgnnpafieifmaa
open Go Go.RowKit
set_option linter.unusedVariables false
set_option linter.unusedSimpArgs false
namespace l32Bad_okF
theorem T3 : TI Try.prog 3 false (.int .i64 0) 1 8 := TI.mk' Try.underlying3 rfl (by kernel_rfl)
theorem C37 : Callable Try.prog 37 := ⟨_, Try.func37, by kernel_rfl, by kernel_rfl⟩
end l32Bad_okF
open l32Bad_okF in
set_option maxHeartbeats 4000000 in
theorem l32Bad_ok (Axs : Option Addr) (nxs cxs : Nat) (xs : List Int) (Ass : Option Addr) (nss css : Nat) (ss : List Int) (w : World) (hRxs : RS encI 1 w w.heap.size Axs nxs xs) (hnxs : nxs ≤ cxs) (hNxs : nxs ≤ 1099511627776) (hRss : RS encI 1 w w.heap.size Ass nss ss) (hNss : nss ≤ 1099511627776) (hb : ∀ j, j < nxs → -1000000 ≤ el xs j ∧ el xs j ≤ 1000000) :
    Fn Try.prog 39 [(.slice Axs nxs cxs), (.slice Ass nss css)] w fun v w' => ∃ A_0 c_0, v = .slice A_0 (badL (sumsL xs) ss).length c_0 ∧ Own encI 1 w' w.heap.size 3 (.slice A_0 (badL (sumsL xs) ss).length c_0) (badL (sumsL xs) ss) ∧ Ch [] w w' := by
  have hlenxs := hRxs.len
  have hlenss := hRss.len
  have hnp : nparts xs = (xs.length + 3) / 4 := rfl
  refine fn_of (n := 37) Try.func39 rfl rfl rfl rfl ?_
  have hc : Ch [] w w := Ch.refl _ _
  refine cw_seq fun K1 hK2 => ?_
  refine cw_region fun K3 hK4 => ?_
  refine rw_cons (op_pv (w0 rfl) rfl rfl (pv_assign (v := (.slice none 0 0)) rfl rfl) ?_)
  refine rw_nil (hK4 _ _ ?_)
  refine hK2 _ _ ?_
  refine cw_seq fun K5 hK6 => ?_
  refine cw_region fun K7 hK8 => ?_
  refine rw_cons (op_bslice [] Try.underlying22 T3 (w0 rfl) rfl rfl rfl rfl rfl (by simp [Value.cells]) (by decide) ?_)
  intro g10 w9 hg13 hg14 hK12 hch11
  have hO15 : Own encI 1 w9 w.heap.size 3 (.slice (some ⟨g10, 0, none⟩) 0 0) ([] : List Int) := Blk.own (xs := ([] : List Int)) hK12 (by omega) rfl (by decide) rfl
  have hsz16 := hch11.size
  replace hRxs := hRxs.ch0 hch11
  replace hRss := hRss.ch0 hch11
  replace hc := hc.step0 hch11
  have hub17 := hO15.lt
  refine rw_cons (op_pv (w0 rfl) rfl rfl (pv_assign (v := (.slice (some ⟨g10, 0, none⟩) 0 0)) rfl rfl) ?_)
  refine rw_nil (hK8 _ _ ?_)
  refine hK6 _ _ ?_
  refine cw_seq fun K18 hK19 => ?_
  refine cw_region fun K20 hK21 => ?_
  refine rw_cons (op_pv (w0 rfl) rfl rfl (pv_move (v := (.slice Axs nxs cxs)) rfl rfl) ?_)
  refine rw_cons (op_call (w0 rfl) rfl rfl (rc_call C37 rfl rfl) (l32Sums_ok _ nxs _ xs _ (hRxs.more (by omega)) (by omega) (by omega) hb) ?_)
  rintro _ w22 ⟨A24, c25, rfl, hO26, hch23⟩
  have hsz27 := hch23.size
  replace hRxs := hRxs.ch0 hch23
  replace hRss := hRss.ch0 hch23
  replace hO15 := hO15.ch0 hch23
  replace hc := hc.step0 hch23
  have hub28 := hO26.lt
  have hcap29 : (sumsL xs).length ≤ c25 := by obtain ⟨_, _, hv, h1, _⟩ := hO26.form; injection hv with _ _ h3; omega
  have hnt30 := sumsL_len xs
  refine rw_cons (op_pv (w0 rfl) rfl rfl (pv_assign (v := (.slice A24 (sumsL xs).length c25)) rfl rfl) ?_)
  refine rw_nil (hK21 _ _ ?_)
  refine hK19 _ _ ?_
  refine cw_seq fun K31 hK32 => ?_
  refine cw_seq fun K33 hK34 => ?_
  refine cw_region fun K35 hK36 => ?_
  refine rw_cons (op_pv (w0 rfl) rfl rfl (pv_assign (v := (.int .i64 0)) rfl rfl) ?_)
  refine rw_nil (hK36 _ _ ?_)
  refine hK34 _ _ ?_
  refine cw_block ?_
  refine cw_loop (σ := Nat × (Option Addr) × Nat) (fun ⟨k, Ao, co⟩ => [(5, (.slice Ao (badTo (sumsL xs) ss k).length co)), (7, (.int .i64 (k : Int))), (1, (.slice Ass nss css)), (4, (.slice none 0 0)), (6, (.slice A24 (sumsL xs).length c25))]) (fun ⟨k, Ao, co⟩ W => (k ≤ (sumsL xs).length) ∧ RS encI 1 W w.heap.size Axs nxs xs ∧ RS encI 1 W w.heap.size Ass nss ss ∧ Own encI 1 W w9.heap.size 3 (.slice A24 (sumsL xs).length c25) (sumsL xs) ∧ Own encI 1 W w.heap.size 3 (.slice Ao (badTo (sumsL xs) ss k).length co) (badTo (sumsL xs) ss k) ∧ Ch [] w W ∧ w9.heap.size ≤ W.heap.size ∧ (∀ s ∈ obl (.slice A24 (sumsL xs).length c25), s ∉ obl (.slice Ao (badTo (sumsL xs) ss k).length co))) (fun ⟨k, Ao, co⟩ => (sumsL xs).length - k) (0, (some ⟨g10, 0, none⟩), 0) ?_ ?_ ?_
  · exact ⟨rfl, rfl, rfl, rfl, rfl, trivial⟩
  · refine ⟨Nat.zero_le _, hRxs, hRss, hO26, (hO15.less (by omega)), hc, (by omega), (fun s hs hs2 => by first | (have h1 := hO15.off s hs; have h2 := hub28 s hs2; omega) | (have h1 := hO26.off s hs; have h2 := hub17 s hs2; omega) | (have h1 := hub17 s hs; have h2 := hO26.off s hs2; omega) | (have h1 := hub28 s hs; have h2 := hO15.off s hs2; omega) | (simp [obl, Value.ownBlock] at hs; done) | (simp [obl, Value.ownBlock] at hs2; done))⟩
  · rintro ⟨k, Ao, co⟩ J43 w37 ⟨hk, hRxs, hRss, hO26, hOut, hc, hmono38, hdj39⟩ K40 hK41
    have hsz45 := hc.size
    have hub28 := hO26.lt
    have hubO := hOut.lt
    have hbl := badTo_le (sumsL xs) ss k
    refine cw_seq fun K46 hK47 => ?_
    refine cw_seq fun K48 hK49 => ?_
    refine cw_region fun K50 hK51 => ?_
    refine rw_cons (op_pv (w0 rfl) rfl rfl (pv_move (v := (.int .i64 (k : Int))) rfl rfl) ?_)
    refine rw_cons (op_pv (w0 rfl) rfl rfl (pv_move (v := (.slice A24 (sumsL xs).length c25)) rfl rfl) ?_)
    refine rw_cons (op_pv (w0 rfl) rfl rfl (pv_len Try.underlying22 rfl rfl) ?_)
    refine rw_cons (op_pv (w0 rfl) rfl rfl (pv_lss rfl rfl rfl) ?_)
    refine rw_nil (hK51 _ _ ?_)
    refine hK49 _ _ ?_
    refine cw_cond rfl (fun h52 => ?_) (fun h52 => ?_)
    · -- then
      replace h52 := of_decide_eq_true h52
      refine cw_skip ?_
      refine hK47 _ _ ?_
      refine cw_seq fun K53 hK54 => ?_
      refine cw_block ?_
      refine cw_seq fun K55 hK56 => ?_
      refine cw_drawn (fun u => Ch [] w37 u) (.free 0 (.free 1 (.free 2 (.free 3 (.free 4 (.free 5 (.free 6 (.free 7 (.free 8 (.free 9 (.free 10 (.free 11 (.free 12 (.free 13 (.free 14 (.done)))))))))))))))) (by kernel_rfl) (by kernel_rfl) (Ch.refl _ _).drew fun K60 hK61 => ?_
      obtain ⟨w57, hw_, hch58, hsz59⟩ : ∃ w1 : World, w1 = w37.drew ∧ Ch [] w37 w1 ∧ w1.heap.size = w37.heap.size := ⟨_, rfl, (Ch.refl _ _).drew, rfl⟩
      rw [← hw_]; clear hw_
      have hr62 : Ch [] w37 w57 := hch58.sub (fun s hs => by cases hs)
      have hRxs_r := hRxs
      have hRss_r := hRss
      have hO26_r := hO26
      have hOut_r := hOut
      have hsz63 := hch58.size
      replace hRxs := hRxs.ch0 hch58
      replace hRss := hRss.ch0 hch58
      replace hO26 := hO26.ch0 hch58
      replace hOut := hOut.ch0 hch58
      replace hc := hc.step0 hch58
      refine tw_free rfl (w0 rfl) rfl rfl (fun u hu => (pv_move (v := (.int .i64 (k : Int))) rfl rfl : PV _ _ _ _) u) ?_
      refine tw_free rfl (w0 rfl) rfl rfl (fun u hu => (pv_move (v := (.slice Ass nss css)) rfl rfl : PV _ _ _ _) u) ?_
      refine tw_free rfl (w0 rfl) rfl rfl (fun u hu => (pv_len Try.underlying22 rfl rfl : PV _ _ _ _) u) ?_
      refine tw_free rfl (w0 rfl) rfl rfl (fun u hu => (pv_geq rfl rfl rfl : PV _ _ _ _) u) ?_
      refine tw_free rfl (w0 rfl) rfl rfl (fun u hu => (pv_move (v := (.bool (decide ((nss : Int) ≤ (k : Int))))) rfl rfl : PV _ _ _ _) u) ?_
      refine tw_split 21 rfl (fun hb64 => ?_) (fun hb64 => ?_)
      · -- yes
        replace hb64 := of_decide_eq_true hb64
        refine tw_pass rfl (w1n2 rfl rfl rfl rfl) rfl rfl ?_
        refine tw_pass rfl (w1n2 rfl rfl rfl rfl) rfl rfl ?_
        refine tw_pass rfl (w1n2 rfl rfl rfl rfl) rfl rfl ?_
        refine tw_pass rfl (w1n2 rfl rfl rfl rfl) rfl rfl ?_
        refine tw_pass rfl (w1n2 rfl rfl rfl rfl) rfl rfl ?_
        refine tw_pass rfl (w1n2 rfl rfl rfl rfl) rfl rfl ?_
        refine tw_pass rfl (w1n2 rfl rfl rfl rfl) rfl rfl ?_
        refine tw_pass rfl (w1n2 rfl rfl rfl rfl) rfl rfl ?_
        refine tw_pass rfl (w1n2 rfl rfl rfl rfl) rfl rfl ?_
        refine tw_free rfl (w0 rfl) rfl rfl (fun u hu => (pv_pickT (v := (.bool true)) rfl rfl rfl : PV _ _ _ _) u) ?_
        clear hRss_r
        clear hRxs_r
        clear hO26_r
        clear hOut_r
        refine tw_done (hK61 _ _ ?_)
        refine hK56 _ _ ?_
        refine cw_cond rfl (fun h65 => ?_) (fun h65 => ?_)
        · -- then
          clear h65
          refine cw_region fun K66 hK67 => ?_
          refine rw_cons (op_pv (w0 rfl) rfl rfl (pv_move (v := (.slice Ao (badTo (sumsL xs) ss k).length co)) rfl rfl) ?_)
          refine rw_cons (op_pv (w0 rfl) rfl rfl (pv_move (v := (.int .i64 (k : Int))) rfl rfl) ?_)
          refine rw_cons (op_bslice [(.int .i64 (k : Int))] Try.underlying22 T3 (w0 rfl) rfl rfl rfl rfl rfl (by simp [Value.cells]) (by decide) ?_)
          intro g69 w68 hg72 hg73 hK71 hch70
          have hO74 : Own encI 1 w68 w57.heap.size 3 (.slice (some ⟨g69, 0, none⟩) 1 1) ([(k : Int)] : List Int) := Blk.own (xs := ([(k : Int)] : List Int)) hK71 (by omega) rfl (by decide) rfl
          have hsz75 := hch70.size
          replace hRxs := hRxs.ch0 hch70
          replace hRss := hRss.ch0 hch70
          replace hO26 := hO26.ch0 hch70
          replace hOut := hOut.ch0 hch70
          replace hc := hc.step0 hch70
          have hub76 := hO74.lt
          refine rw_cons (op_append Try.underlying22 T3 (fun _ => rfl) rfl (by decide) (fun _ => one_all rfl) (w0 rfl) rfl rfl rfl rfl rfl hOut (hO74.rs (fun _ => rfl)) (by unfold maxLen; first | omega | (simp; omega)) (by first | omega | (simp; omega)) (by omega) ?_)
          rintro v77 w78 hO79 hch80 hs81
          have hl82 : ((badTo (sumsL xs) ss k) ++ ([(k : Int)] : List Int)).length = (badTo (sumsL xs) ss k).length + 1 := by first | (have hl0 := (hO74.rs (fun _ => rfl)).len; simp only [List.length_append, List.length_cons, List.length_nil] at hl0 ⊢; omega) | simp | rfl
          clear hO74
          have hsz84 := hch80.size
          replace hRxs := hRxs.ch hch80 (hOut.off.le (by omega))
          replace hRss := hRss.ch hch80 (hOut.off.le (by omega))
          replace hO26 := hO26.ch hch80 (dj_as hdj39)
          replace hc := (hOut.off.le (by omega)).step hc hch80
          have hub85 := hO79.lt
          obtain ⟨A86, c87, hv88, hcap89, hcap90⟩ := hO79.form; subst hv88
          have hdj83 : ∀ s ∈ obl (.slice A86 ((badTo (sumsL xs) ss k) ++ ([(k : Int)] : List Int)).length c87), s ∉ obl (.slice A24 (sumsL xs).length c25) := dj_new hs81 (dj_sw hdj39) (fun s hs => by have := hub28 s hs; omega)
          refine rw_cons (op_pv (w0 rfl) rfl rfl (pv_assign (v := (.slice A86 ((badTo (sumsL xs) ss k) ++ ([(k : Int)] : List Int)).length c87)) rfl rfl) ?_)
          refine rw_nil (hK67 _ _ ?_)
          refine hK54 _ _ ?_
          refine cw_region fun K91 hK92 => ?_
          refine rw_cons (op_pv (w0 rfl) rfl rfl (pv_move (v := (.int .i64 (k : Int))) rfl rfl) ?_)
          refine rw_cons (op_pv (w0 rfl) rfl rfl (pv_add rfl rfl rfl (by omega) (by omega)) ?_)
          refine rw_cons (op_pv (w0 rfl) rfl rfl (pv_assign (v := (.int .i64 ((k : Int) + 1))) rfl rfl) ?_)
          refine rw_nil (hK92 _ _ ?_)
          have hEQ93 : ((badTo (sumsL xs) ss k) ++ ([(k : Int)] : List Int)) = badTo (sumsL xs) ss (k + 1) := by exact (badTo_yes _ _ k (by intro h9; omega)).symm
          have hO94 := own_as hO79 hEQ93
          refine hK41 _ _ (k + 1, A86, c87) ⟨(sl_as hO79 hEQ93), (iv (by omega)), rfl, rfl, rfl, trivial⟩ ⟨?_, hRxs, hRss, hO26, hO94, hc, (by omega), (dj_sw hdj83)⟩ ?_
          · omega
          · (first | omega | (simp only []; omega))
        · -- else
          cases h65
      · -- no
        replace hb64 := of_decide_eq_false hb64
        refine tw_free rfl (w1y rfl rfl rfl rfl) rfl rfl (fun u hu => (pv_move (v := (.slice Ass nss css)) rfl rfl : PV _ _ _ _) u) ?_
        refine tw_free rfl (w1y rfl rfl rfl rfl) rfl rfl (fun u hu => (pv_move (v := (.int .i64 (k : Int))) rfl rfl : PV _ _ _ _) u) ?_
        refine tw_free rfl (w1y rfl rfl rfl rfl) rfl rfl (fun u hu => (pv_idx Try.underlying22 T3 rfl rfl rfl (hRss.some (k := k) (by omega)) (by omega) (by omega) : PV _ _ _ _) u) ?_
        refine tw_free rfl (w1y rfl rfl rfl rfl) rfl rfl (fun u hu => lv_load T3 rfl rfl ((hRss_r.ch0 hu).cell0 (k := k) (by omega) rfl)) ?_
        refine tw_free rfl (w1y rfl rfl rfl rfl) rfl rfl (fun u hu => (pv_move (v := (.slice A24 (sumsL xs).length c25)) rfl rfl : PV _ _ _ _) u) ?_
        refine tw_free rfl (w1y rfl rfl rfl rfl) rfl rfl (fun u hu => (pv_move (v := (.int .i64 (k : Int))) rfl rfl : PV _ _ _ _) u) ?_
        refine tw_free rfl (w1y rfl rfl rfl rfl) rfl rfl (fun u hu => (pv_idx Try.underlying22 T3 rfl rfl rfl ((hO26.rs (fun _ => rfl)).some (k := k) (by omega)) (by omega) (by omega) : PV _ _ _ _) u) ?_
        refine tw_free rfl (w1y rfl rfl rfl rfl) rfl rfl (fun u hu => lv_load T3 rfl rfl (((hO26_r.ch0 hu).rs (fun _ => rfl)).cell0 (k := k) (by omega) rfl)) ?_
        refine tw_free rfl (w1y rfl rfl rfl rfl) rfl rfl (fun u hu => (pv_neq rfl rfl rfl : PV _ _ _ _) u) ?_
        refine tw_free rfl (w0 rfl) rfl rfl (fun u hu => (pv_pickF (v := (.bool (decide (((el ss k) : Int) ≠ (el (sumsL xs) k))))) rfl rfl rfl : PV _ _ _ _) u) ?_
        clear hRss_r
        clear hRxs_r
        clear hO26_r
        clear hOut_r
        refine tw_done (hK61 _ _ ?_)
        refine hK56 _ _ ?_
        refine cw_cond rfl (fun h95 => ?_) (fun h95 => ?_)
        · -- then
          replace h95 := of_decide_eq_true h95
          refine cw_region fun K96 hK97 => ?_
          refine rw_cons (op_pv (w0 rfl) rfl rfl (pv_move (v := (.slice Ao (badTo (sumsL xs) ss k).length co)) rfl rfl) ?_)
          refine rw_cons (op_pv (w0 rfl) rfl rfl (pv_move (v := (.int .i64 (k : Int))) rfl rfl) ?_)
          refine rw_cons (op_bslice [(.int .i64 (k : Int))] Try.underlying22 T3 (w0 rfl) rfl rfl rfl rfl rfl (by simp [Value.cells]) (by decide) ?_)
          intro g99 w98 hg102 hg103 hK101 hch100
          have hO104 : Own encI 1 w98 w57.heap.size 3 (.slice (some ⟨g99, 0, none⟩) 1 1) ([(k : Int)] : List Int) := Blk.own (xs := ([(k : Int)] : List Int)) hK101 (by omega) rfl (by decide) rfl
          have hsz105 := hch100.size
          replace hRxs := hRxs.ch0 hch100
          replace hRss := hRss.ch0 hch100
          replace hO26 := hO26.ch0 hch100
          replace hOut := hOut.ch0 hch100
          replace hc := hc.step0 hch100
          have hub106 := hO104.lt
          refine rw_cons (op_append Try.underlying22 T3 (fun _ => rfl) rfl (by decide) (fun _ => one_all rfl) (w0 rfl) rfl rfl rfl rfl rfl hOut (hO104.rs (fun _ => rfl)) (by unfold maxLen; first | omega | (simp; omega)) (by first | omega | (simp; omega)) (by omega) ?_)
          rintro v107 w108 hO109 hch110 hs111
          have hl112 : ((badTo (sumsL xs) ss k) ++ ([(k : Int)] : List Int)).length = (badTo (sumsL xs) ss k).length + 1 := by first | (have hl0 := (hO104.rs (fun _ => rfl)).len; simp only [List.length_append, List.length_cons, List.length_nil] at hl0 ⊢; omega) | simp | rfl
          clear hO104
          have hsz114 := hch110.size
          replace hRxs := hRxs.ch hch110 (hOut.off.le (by omega))
          replace hRss := hRss.ch hch110 (hOut.off.le (by omega))
          replace hO26 := hO26.ch hch110 (dj_as hdj39)
          replace hc := (hOut.off.le (by omega)).step hc hch110
          have hub115 := hO109.lt
          obtain ⟨A116, c117, hv118, hcap119, hcap120⟩ := hO109.form; subst hv118
          have hdj113 : ∀ s ∈ obl (.slice A116 ((badTo (sumsL xs) ss k) ++ ([(k : Int)] : List Int)).length c117), s ∉ obl (.slice A24 (sumsL xs).length c25) := dj_new hs111 (dj_sw hdj39) (fun s hs => by have := hub28 s hs; omega)
          refine rw_cons (op_pv (w0 rfl) rfl rfl (pv_assign (v := (.slice A116 ((badTo (sumsL xs) ss k) ++ ([(k : Int)] : List Int)).length c117)) rfl rfl) ?_)
          refine rw_nil (hK97 _ _ ?_)
          refine hK54 _ _ ?_
          refine cw_region fun K121 hK122 => ?_
          refine rw_cons (op_pv (w0 rfl) rfl rfl (pv_move (v := (.int .i64 (k : Int))) rfl rfl) ?_)
          refine rw_cons (op_pv (w0 rfl) rfl rfl (pv_add rfl rfl rfl (by omega) (by omega)) ?_)
          refine rw_cons (op_pv (w0 rfl) rfl rfl (pv_assign (v := (.int .i64 ((k : Int) + 1))) rfl rfl) ?_)
          refine rw_nil (hK122 _ _ ?_)
          have hEQ123 : ((badTo (sumsL xs) ss k) ++ ([(k : Int)] : List Int)) = badTo (sumsL xs) ss (k + 1) := by exact (badTo_yes _ _ k (by intro h9; omega)).symm
          have hO124 := own_as hO109 hEQ123
          refine hK41 _ _ (k + 1, A116, c117) ⟨(sl_as hO109 hEQ123), (iv (by omega)), rfl, rfl, rfl, trivial⟩ ⟨?_, hRxs, hRss, hO26, hO124, hc, (by omega), (dj_sw hdj113)⟩ ?_
          · omega
          · (first | omega | (simp only []; omega))
        · -- else
          replace h95 := of_decide_eq_false h95
          refine cw_skip ?_
          refine hK54 _ _ ?_
          refine cw_region fun K125 hK126 => ?_
          refine rw_cons (op_pv (w0 rfl) rfl rfl (pv_move (v := (.int .i64 (k : Int))) rfl rfl) ?_)
          refine rw_cons (op_pv (w0 rfl) rfl rfl (pv_add rfl rfl rfl (by omega) (by omega)) ?_)
          refine rw_cons (op_pv (w0 rfl) rfl rfl (pv_assign (v := (.int .i64 ((k : Int) + 1))) rfl rfl) ?_)
          refine rw_nil (hK126 _ _ ?_)
          have hEQ127 : (badTo (sumsL xs) ss k) = badTo (sumsL xs) ss (k + 1) := by exact (badTo_no _ _ k (by (try simp only [not_le] at *); first | exact ⟨by omega, by omega⟩ | (refine ⟨by omega, ?_⟩; by_cases he : el ss k = el (sumsL xs) k; · exact he; · exact absurd he (by assumption)))).symm
          have hO128 := own_as hOut hEQ127
          refine hK41 _ _ (k + 1, Ao, co) ⟨(sl_as hOut hEQ127), (iv (by omega)), rfl, rfl, rfl, trivial⟩ ⟨?_, hRxs, hRss, hO26, hO128, hc, (by omega), (dj_as hdj39)⟩ ?_
          · omega
          · (first | omega | (simp only []; omega))
    · -- else
      replace h52 := of_decide_eq_false h52
      refine cw_exit ?_
      refine hK32 _ _ ?_
      refine cw_seq fun K129 hK130 => ?_
      refine cw_region fun K131 hK132 => ?_
      refine rw_cons (op_pv (w0 rfl) rfl rfl (pv_move (v := (.slice Ao (badTo (sumsL xs) ss k).length co)) rfl rfl) ?_)
      refine rw_cons (op_pv (w0 rfl) rfl rfl (pv_assign (v := (.slice Ao (badTo (sumsL xs) ss k).length co)) rfl rfl) ?_)
      refine rw_nil (hK132 _ _ ?_)
      refine hK130 _ _ ?_
      refine cw_ret ?_
      refine fin1 rfl ?_
      have he_0 : (badTo (sumsL xs) ss k) = badL (sumsL xs) ss := (by unfold badL; rw [show (sumsL xs).length = k by omega])
      exact ⟨_, _, (sl_as hOut he_0), own_as (hOut.less (by omega)) he_0, hc⟩
end Go.Proofs.Ythgnnpafieifmaa
