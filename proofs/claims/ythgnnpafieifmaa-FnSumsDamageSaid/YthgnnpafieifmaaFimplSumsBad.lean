/-
  The walk of impl.SumsBad, written by program: each line names the law of one operation. Conditions: those of the theorem.
-/
import Derived.Test.YthgnnpafieifmaaProg
import Derived.Test.YthgnnpafieifmaaSums
import Derived.Test.YthgnnpafieifmaaFimplallSums
import Derived.Test.YthgnnpafieifmaaFimplBytesValid
import Derived.KernelRfl
namespace Go.Proofs.Ythgnnpafieifmaa
open Go Go.RowKit
set_option linter.unusedVariables false
set_option linter.unusedSimpArgs false
namespace SumsBad_iF
theorem T3 : TI Try.prog 3 false (.int .i64 0) 1 8 := TI.mk' Try.underlying3 rfl (by kernel_rfl)
theorem C19 : Callable Try.prog 19 := ⟨_, Try.func19, by kernel_rfl, by kernel_rfl⟩
theorem C38 : Callable Try.prog 38 := ⟨_, Try.func38, by kernel_rfl, by kernel_rfl⟩
end SumsBad_iF
open SumsBad_iF in
set_option maxHeartbeats 4000000 in
theorem SumsBad_i (Axs : Option Addr) (nxs cxs : Nat) (xs : List Int) (Ass : Option Addr) (nss css : Nat) (ss : List Int) (w : World) (hRxs : RS encI 1 w w.heap.size Axs nxs xs) (hnxs : nxs ≤ cxs) (hNxs : nxs ≤ 1099511627776) (hRss : RS encI 1 w w.heap.size Ass nss ss) (hNss : nss ≤ 1099511627776) :
    Fn Try.prog 29 [(.slice Axs nxs cxs), (.slice Ass nss css)] w fun v w' => ∃ A_0 c_0, v = .slice A_0 (badV xs ss).length c_0 ∧ Own encI 1 w' w.heap.size 3 (.slice A_0 (badV xs ss).length c_0) (badV xs ss) ∧ Ch [] w w' := by
  have hlenxs := hRxs.len
  have hlenss := hRss.len
  have hnp : nparts xs = (xs.length + 3) / 4 := rfl
  refine fn_of (n := 39) Try.func29 rfl rfl rfl rfl ?_
  have hc : Ch [] w w := Ch.refl _ _
  refine cw_seq fun K1 hK2 => ?_
  refine cw_region fun K3 hK4 => ?_
  refine rw_cons (op_pv (w0 rfl) rfl rfl (pv_assign (v := (.slice none 0 0)) rfl rfl) ?_)
  refine rw_nil (hK4 _ _ ?_)
  refine hK2 _ _ ?_
  refine cw_seq fun K5 hK6 => ?_
  refine cw_region fun K7 hK8 => ?_
  refine rw_cons (op_bslice [] Try.underlying22 T3 (w0 rfl) rfl rfl rfl rfl rfl (by simp [Value.cells]) (by decide) ?_)
  intro g10 w9 hg13 hg14 hK12 hch11
  have hO15 : Own encI 1 w9 w.heap.size 3 (.slice (some ⟨g10, 0, none⟩) 0 0) ([] : List Int) := Blk.own (xs := ([] : List Int)) hK12 (by omega) rfl (by decide) rfl
  have hsz16 := hch11.size
  replace hRxs := hRxs.ch0 hch11
  replace hRss := hRss.ch0 hch11
  replace hc := hc.step0 hch11
  have hub17 := hO15.lt
  refine rw_cons (op_pv (w0 rfl) rfl rfl (pv_assign (v := (.slice (some ⟨g10, 0, none⟩) 0 0)) rfl rfl) ?_)
  refine rw_nil (hK8 _ _ ?_)
  refine hK6 _ _ ?_
  refine cw_seq fun K18 hK19 => ?_
  refine cw_seq fun K20 hK21 => ?_
  refine cw_region fun K22 hK23 => ?_
  refine rw_cons (op_pv (w0 rfl) rfl rfl (pv_move (v := (.slice Axs nxs cxs)) rfl rfl) ?_)
  refine rw_cons (op_call (w0 rfl) rfl rfl (rc_call C19 rfl rfl) (BytesValid_i _ _ _ xs _ (hRxs.more (by omega)) (by omega)) ?_)
  rintro _ w24 ⟨rfl, hch25⟩
  have hsz26 := hch25.size
  replace hRxs := hRxs.ch0 hch25
  replace hRss := hRss.ch0 hch25
  replace hO15 := hO15.ch0 hch25
  replace hc := hc.step0 hch25
  refine rw_cons (op_pv (w0 rfl) rfl rfl (pv_not rfl rfl) ?_)
  refine rw_nil (hK23 _ _ ?_)
  refine hK21 _ _ ?_
  refine cw_cond rfl (fun h27 => ?_) (fun h27 => ?_)
  · -- then
    replace h27 := not_t h27
    replace h27 := dec_f h27
    refine cw_seq fun K28 hK29 => ?_
    refine cw_region fun K30 hK31 => ?_
    refine rw_cons (op_pv (w0 rfl) rfl rfl (pv_move (v := (.slice (some ⟨g10, 0, none⟩) 0 0)) rfl rfl) ?_)
    refine rw_cons (op_pv (w0 rfl) rfl rfl (pv_assign (v := (.slice (some ⟨g10, 0, none⟩) 0 0)) rfl rfl) ?_)
    refine rw_nil (hK31 _ _ ?_)
    refine hK29 _ _ ?_
    refine cw_ret ?_
    refine fin1 rfl ?_
    have he_0 : ([] : List Int) = badV xs ss := (badV_no ‹¬ BytesOK xs›).symm
    exact ⟨_, _, (sl_as hO15 he_0), own_as (hO15.less (by omega)) he_0, hc⟩
  · -- else
    replace h27 := not_f h27
    replace h27 := dec_t h27
    refine cw_skip ?_
    refine hK19 _ _ ?_
    refine cw_seq fun K32 hK33 => ?_
    refine cw_seq fun K34 hK35 => ?_
    refine cw_region fun K36 hK37 => ?_
    refine rw_cons (op_pv (w0 rfl) rfl rfl (pv_move (v := (.slice Axs nxs cxs)) rfl rfl) ?_)
    refine rw_cons (op_call (w0 rfl) rfl rfl (rc_call C38 rfl rfl) (allSums_ok _ nxs _ xs _ (hRxs.more (by omega)) (by omega) (by omega) (fun j hj => by have h9 := ‹BytesOK xs›.2 j (by omega); omega)) ?_)
    rintro _ w38 ⟨A40, c41, rfl, hO42, hch39⟩
    have hsz43 := hch39.size
    replace hRxs := hRxs.ch0 hch39
    replace hRss := hRss.ch0 hch39
    replace hO15 := hO15.ch0 hch39
    replace hc := hc.step0 hch39
    have hub44 := hO42.lt
    have hcap45 : (sumsL xs).length ≤ c41 := by obtain ⟨_, _, hv, h1, _⟩ := hO42.form; injection hv with _ _ h3; omega
    have hnt46 := sumsL_len xs
    refine rw_cons (op_pv (w0 rfl) rfl rfl (pv_len Try.underlying22 rfl rfl) ?_)
    refine rw_cons (op_pv (w0 rfl) rfl rfl (pv_move (v := (.int .i64 0)) rfl rfl) ?_)
    refine rw_nil (hK37 _ _ ?_)
    refine hK35 _ _ ?_
    refine cw_block ?_
    refine cw_loop (σ := Nat × (Option Addr) × Nat) (fun ⟨k, Ao, co⟩ => [(5, (.slice Ao (badTo (sumsL xs) ss k).length co)), (16, (.int .i64 (k : Int))), (1, (.slice Ass nss css)), (4, (.slice none 0 0)), (14, (.slice A40 (sumsL xs).length c41)), (15, (.int .i64 ((sumsL xs).length : Int)))]) (fun ⟨k, Ao, co⟩ W => (k ≤ (sumsL xs).length) ∧ RS encI 1 W w.heap.size Axs nxs xs ∧ RS encI 1 W w.heap.size Ass nss ss ∧ Own encI 1 W w24.heap.size 3 (.slice A40 (sumsL xs).length c41) (sumsL xs) ∧ Own encI 1 W w.heap.size 3 (.slice Ao (badTo (sumsL xs) ss k).length co) (badTo (sumsL xs) ss k) ∧ Ch [] w W ∧ w24.heap.size ≤ W.heap.size ∧ (∀ s ∈ obl (.slice A40 (sumsL xs).length c41), s ∉ obl (.slice Ao (badTo (sumsL xs) ss k).length co))) (fun ⟨k, Ao, co⟩ => (sumsL xs).length - k) (0, (some ⟨g10, 0, none⟩), 0) ?_ ?_ ?_
    · exact ⟨rfl, rfl, rfl, rfl, rfl, rfl, trivial⟩
    · refine ⟨Nat.zero_le _, hRxs, hRss, hO42, (hO15.less (by omega)), hc, (by omega), (fun s hs hs2 => by first | (have h1 := hO15.off s hs; have h2 := hub44 s hs2; omega) | (have h1 := hO42.off s hs; have h2 := hub17 s hs2; omega) | (have h1 := hub17 s hs; have h2 := hO42.off s hs2; omega) | (have h1 := hub44 s hs; have h2 := hO15.off s hs2; omega) | (simp [obl, Value.ownBlock] at hs; done) | (simp [obl, Value.ownBlock] at hs2; done))⟩
    · rintro ⟨k, Ao, co⟩ J53 w47 ⟨hk, hRxs, hRss, hO42, hOut, hc, hmono48, hdj49⟩ K50 hK51
      have hsz55 := hc.size
      have hub44 := hO42.lt
      have hubO := hOut.lt
      have hbl := badTo_le (sumsL xs) ss k
      refine cw_seq fun K56 hK57 => ?_
      refine cw_region fun K58 hK59 => ?_
      refine rw_cons (op_pv (w0 rfl) rfl rfl (pv_lss rfl rfl rfl) ?_)
      refine rw_nil (hK59 _ _ ?_)
      refine hK57 _ _ ?_
      refine cw_seq fun K60 hK61 => ?_
      refine cw_cond rfl (fun h62 => ?_) (fun h62 => ?_)
      · -- then
        replace h62 := of_decide_eq_true h62
        refine cw_skip ?_
        refine hK61 _ _ ?_
        refine cw_seq fun K63 hK64 => ?_
        refine cw_block ?_
        refine cw_seq fun K65 hK66 => ?_
        refine cw_region fun K67 hK68 => ?_
        refine rw_cons (op_pv (w0 rfl) rfl rfl (pv_move (v := (.int .i64 (k : Int))) rfl rfl) ?_)
        refine rw_cons (op_pv (w0 rfl) rfl rfl (pv_idx Try.underlying22 T3 rfl rfl rfl ((hO42.rs (fun _ => rfl)).some (k := k) (by omega)) (by omega) (by omega)) ?_)
        refine rw_cons (op_lv (w0 rfl) rfl rfl (lv_load T3 rfl rfl ((hO42.rs (fun _ => rfl)).cell0 (k := k) (by omega) rfl)) ?_)
        refine rw_cons (op_pv (w0 rfl) rfl rfl (pv_assign (v := (.int .i64 (k : Int))) rfl rfl) ?_)
        refine rw_cons (op_pv (w0 rfl) rfl rfl (pv_assign (v := (.int .i64 (el (sumsL xs) k))) rfl rfl) ?_)
        refine rw_nil (hK68 _ _ ?_)
        refine hK66 _ _ ?_
        refine cw_seq fun K69 hK70 => ?_
        refine cw_region fun K71 hK72 => ?_
        refine rw_cons (op_pv (w0 rfl) rfl rfl (pv_move (v := (.int .i64 (k : Int))) rfl rfl) ?_)
        refine rw_cons (op_pv (w0 rfl) rfl rfl (pv_move (v := (.slice Ass nss css)) rfl rfl) ?_)
        refine rw_cons (op_pv (w0 rfl) rfl rfl (pv_len Try.underlying22 rfl rfl) ?_)
        refine rw_cons (op_pv (w0 rfl) rfl rfl (pv_geq rfl rfl rfl) ?_)
        refine rw_cons (op_pv (w0 rfl) rfl rfl (pv_move (v := (.bool (decide ((nss : Int) ≤ (k : Int))))) rfl rfl) ?_)
        refine rw_split 25 rfl (fun hb73 => ?_) (fun hb73 => ?_)
        · -- yes
          replace hb73 := of_decide_eq_true hb73
          refine rw_cons (op_pass (w1n2 rfl rfl rfl rfl) rfl rfl ?_)
          refine rw_cons (op_pass (w1n2 rfl rfl rfl rfl) rfl rfl ?_)
          refine rw_cons (op_pass (w1n2 rfl rfl rfl rfl) rfl rfl ?_)
          refine rw_cons (op_pass (w1n2 rfl rfl rfl rfl) rfl rfl ?_)
          refine rw_cons (op_pass (w1n2 rfl rfl rfl rfl) rfl rfl ?_)
          refine rw_cons (op_pass (w1n2 rfl rfl rfl rfl) rfl rfl ?_)
          refine rw_cons (op_pv (w0 rfl) rfl rfl (pv_pickT (v := (.bool true)) rfl rfl rfl) ?_)
          refine rw_nil (hK72 _ _ ?_)
          refine hK70 _ _ ?_
          refine cw_cond rfl (fun h74 => ?_) (fun h74 => ?_)
          · -- then
            clear h74
            refine cw_region fun K75 hK76 => ?_
            refine rw_cons (op_pv (w0 rfl) rfl rfl (pv_move (v := (.slice Ao (badTo (sumsL xs) ss k).length co)) rfl rfl) ?_)
            refine rw_cons (op_pv (w0 rfl) rfl rfl (pv_move (v := (.int .i64 (k : Int))) rfl rfl) ?_)
            refine rw_cons (op_bslice [(.int .i64 (k : Int))] Try.underlying22 T3 (w0 rfl) rfl rfl rfl rfl rfl (by simp [Value.cells]) (by decide) ?_)
            intro g78 w77 hg81 hg82 hK80 hch79
            have hO83 : Own encI 1 w77 w47.heap.size 3 (.slice (some ⟨g78, 0, none⟩) 1 1) ([(k : Int)] : List Int) := Blk.own (xs := ([(k : Int)] : List Int)) hK80 (by omega) rfl (by decide) rfl
            have hsz84 := hch79.size
            replace hRxs := hRxs.ch0 hch79
            replace hRss := hRss.ch0 hch79
            replace hO42 := hO42.ch0 hch79
            replace hOut := hOut.ch0 hch79
            replace hc := hc.step0 hch79
            have hub85 := hO83.lt
            refine rw_cons (op_append Try.underlying22 T3 (fun _ => rfl) rfl (by decide) (fun _ => one_all rfl) (w0 rfl) rfl rfl rfl rfl rfl hOut (hO83.rs (fun _ => rfl)) (by unfold maxLen; first | omega | (simp; omega)) (by first | omega | (simp; omega)) (by omega) ?_)
            rintro v86 w87 hO88 hch89 hs90
            have hl91 : ((badTo (sumsL xs) ss k) ++ ([(k : Int)] : List Int)).length = (badTo (sumsL xs) ss k).length + 1 := by first | (have hl0 := (hO83.rs (fun _ => rfl)).len; simp only [List.length_append, List.length_cons, List.length_nil] at hl0 ⊢; omega) | simp | rfl
            clear hO83
            have hsz93 := hch89.size
            replace hRxs := hRxs.ch hch89 (hOut.off.le (by omega))
            replace hRss := hRss.ch hch89 (hOut.off.le (by omega))
            replace hO42 := hO42.ch hch89 (dj_as hdj49)
            replace hc := (hOut.off.le (by omega)).step hc hch89
            have hub94 := hO88.lt
            obtain ⟨A95, c96, hv97, hcap98, hcap99⟩ := hO88.form; subst hv97
            have hdj92 : ∀ s ∈ obl (.slice A95 ((badTo (sumsL xs) ss k) ++ ([(k : Int)] : List Int)).length c96), s ∉ obl (.slice A40 (sumsL xs).length c41) := dj_new hs90 (dj_sw hdj49) (fun s hs => by have := hub44 s hs; omega)
            refine rw_cons (op_pv (w0 rfl) rfl rfl (pv_assign (v := (.slice A95 ((badTo (sumsL xs) ss k) ++ ([(k : Int)] : List Int)).length c96)) rfl rfl) ?_)
            refine rw_nil (hK76 _ _ ?_)
            refine hK64 _ _ ?_
            refine cw_region fun K100 hK101 => ?_
            refine rw_cons (op_pv (w0 rfl) rfl rfl (pv_add rfl rfl rfl (by omega) (by omega)) ?_)
            refine rw_cons (op_pv (w0 rfl) rfl rfl (pv_move (v := (.int .i64 ((k : Int) + 1))) rfl rfl) ?_)
            refine rw_nil (hK101 _ _ ?_)
            have hEQ102 : ((badTo (sumsL xs) ss k) ++ ([(k : Int)] : List Int)) = badTo (sumsL xs) ss (k + 1) := by exact (badTo_yes _ _ k (by intro h9; omega)).symm
            have hO103 := own_as hO88 hEQ102
            refine hK51 _ _ (k + 1, A95, c96) ⟨(sl_as hO88 hEQ102), (iv (by omega)), rfl, rfl, rfl, rfl, trivial⟩ ⟨?_, hRxs, hRss, hO42, hO103, hc, (by omega), (dj_sw hdj92)⟩ ?_
            · omega
            · (first | omega | (simp only []; omega))
          · -- else
            cases h74
        · -- no
          replace hb73 := of_decide_eq_false hb73
          refine rw_cons (op_pv (w1y rfl rfl rfl rfl) rfl rfl (pv_move (v := (.slice Ass nss css)) rfl rfl) ?_)
          refine rw_cons (op_pv (w1y rfl rfl rfl rfl) rfl rfl (pv_move (v := (.int .i64 (k : Int))) rfl rfl) ?_)
          refine rw_cons (op_pv (w1y rfl rfl rfl rfl) rfl rfl (pv_idx Try.underlying22 T3 rfl rfl rfl (hRss.some (k := k) (by omega)) (by omega) (by omega)) ?_)
          refine rw_cons (op_lv (w1y rfl rfl rfl rfl) rfl rfl (lv_load T3 rfl rfl (hRss.cell0 (k := k) (by omega) rfl)) ?_)
          refine rw_cons (op_pv (w1y rfl rfl rfl rfl) rfl rfl (pv_move (v := (.int .i64 (el (sumsL xs) k))) rfl rfl) ?_)
          refine rw_cons (op_pv (w1y rfl rfl rfl rfl) rfl rfl (pv_neq rfl rfl rfl) ?_)
          refine rw_cons (op_pv (w0 rfl) rfl rfl (pv_pickF (v := (.bool (decide (((el ss k) : Int) ≠ (el (sumsL xs) k))))) rfl rfl rfl) ?_)
          refine rw_nil (hK72 _ _ ?_)
          refine hK70 _ _ ?_
          refine cw_cond rfl (fun h104 => ?_) (fun h104 => ?_)
          · -- then
            replace h104 := of_decide_eq_true h104
            refine cw_region fun K105 hK106 => ?_
            refine rw_cons (op_pv (w0 rfl) rfl rfl (pv_move (v := (.slice Ao (badTo (sumsL xs) ss k).length co)) rfl rfl) ?_)
            refine rw_cons (op_pv (w0 rfl) rfl rfl (pv_move (v := (.int .i64 (k : Int))) rfl rfl) ?_)
            refine rw_cons (op_bslice [(.int .i64 (k : Int))] Try.underlying22 T3 (w0 rfl) rfl rfl rfl rfl rfl (by simp [Value.cells]) (by decide) ?_)
            intro g108 w107 hg111 hg112 hK110 hch109
            have hO113 : Own encI 1 w107 w47.heap.size 3 (.slice (some ⟨g108, 0, none⟩) 1 1) ([(k : Int)] : List Int) := Blk.own (xs := ([(k : Int)] : List Int)) hK110 (by omega) rfl (by decide) rfl
            have hsz114 := hch109.size
            replace hRxs := hRxs.ch0 hch109
            replace hRss := hRss.ch0 hch109
            replace hO42 := hO42.ch0 hch109
            replace hOut := hOut.ch0 hch109
            replace hc := hc.step0 hch109
            have hub115 := hO113.lt
            refine rw_cons (op_append Try.underlying22 T3 (fun _ => rfl) rfl (by decide) (fun _ => one_all rfl) (w0 rfl) rfl rfl rfl rfl rfl hOut (hO113.rs (fun _ => rfl)) (by unfold maxLen; first | omega | (simp; omega)) (by first | omega | (simp; omega)) (by omega) ?_)
            rintro v116 w117 hO118 hch119 hs120
            have hl121 : ((badTo (sumsL xs) ss k) ++ ([(k : Int)] : List Int)).length = (badTo (sumsL xs) ss k).length + 1 := by first | (have hl0 := (hO113.rs (fun _ => rfl)).len; simp only [List.length_append, List.length_cons, List.length_nil] at hl0 ⊢; omega) | simp | rfl
            clear hO113
            have hsz123 := hch119.size
            replace hRxs := hRxs.ch hch119 (hOut.off.le (by omega))
            replace hRss := hRss.ch hch119 (hOut.off.le (by omega))
            replace hO42 := hO42.ch hch119 (dj_as hdj49)
            replace hc := (hOut.off.le (by omega)).step hc hch119
            have hub124 := hO118.lt
            obtain ⟨A125, c126, hv127, hcap128, hcap129⟩ := hO118.form; subst hv127
            have hdj122 : ∀ s ∈ obl (.slice A125 ((badTo (sumsL xs) ss k) ++ ([(k : Int)] : List Int)).length c126), s ∉ obl (.slice A40 (sumsL xs).length c41) := dj_new hs120 (dj_sw hdj49) (fun s hs => by have := hub44 s hs; omega)
            refine rw_cons (op_pv (w0 rfl) rfl rfl (pv_assign (v := (.slice A125 ((badTo (sumsL xs) ss k) ++ ([(k : Int)] : List Int)).length c126)) rfl rfl) ?_)
            refine rw_nil (hK106 _ _ ?_)
            refine hK64 _ _ ?_
            refine cw_region fun K130 hK131 => ?_
            refine rw_cons (op_pv (w0 rfl) rfl rfl (pv_add rfl rfl rfl (by omega) (by omega)) ?_)
            refine rw_cons (op_pv (w0 rfl) rfl rfl (pv_move (v := (.int .i64 ((k : Int) + 1))) rfl rfl) ?_)
            refine rw_nil (hK131 _ _ ?_)
            have hEQ132 : ((badTo (sumsL xs) ss k) ++ ([(k : Int)] : List Int)) = badTo (sumsL xs) ss (k + 1) := by exact (badTo_yes _ _ k (by intro h9; omega)).symm
            have hO133 := own_as hO118 hEQ132
            refine hK51 _ _ (k + 1, A125, c126) ⟨(sl_as hO118 hEQ132), (iv (by omega)), rfl, rfl, rfl, rfl, trivial⟩ ⟨?_, hRxs, hRss, hO42, hO133, hc, (by omega), (dj_sw hdj122)⟩ ?_
            · omega
            · (first | omega | (simp only []; omega))
          · -- else
            replace h104 := of_decide_eq_false h104
            refine cw_skip ?_
            refine hK64 _ _ ?_
            refine cw_region fun K134 hK135 => ?_
            refine rw_cons (op_pv (w0 rfl) rfl rfl (pv_add rfl rfl rfl (by omega) (by omega)) ?_)
            refine rw_cons (op_pv (w0 rfl) rfl rfl (pv_move (v := (.int .i64 ((k : Int) + 1))) rfl rfl) ?_)
            refine rw_nil (hK135 _ _ ?_)
            have hEQ136 : (badTo (sumsL xs) ss k) = badTo (sumsL xs) ss (k + 1) := by exact (badTo_no _ _ k (by (try simp only [not_le] at *); first | exact ⟨by omega, by omega⟩ | (refine ⟨by omega, ?_⟩; by_cases he : el ss k = el (sumsL xs) k; · exact he; · exact absurd he (by assumption)))).symm
            have hO137 := own_as hOut hEQ136
            refine hK51 _ _ (k + 1, Ao, co) ⟨(sl_as hOut hEQ136), (iv (by omega)), rfl, rfl, rfl, rfl, trivial⟩ ⟨?_, hRxs, hRss, hO42, hO137, hc, (by omega), (dj_as hdj49)⟩ ?_
            · omega
            · (first | omega | (simp only []; omega))
      · -- else
        replace h62 := of_decide_eq_false h62
        refine cw_exit ?_
        refine hK33 _ _ ?_
        refine cw_seq fun K138 hK139 => ?_
        refine cw_region fun K140 hK141 => ?_
        refine rw_cons (op_pv (w0 rfl) rfl rfl (pv_move (v := (.slice Ao (badTo (sumsL xs) ss k).length co)) rfl rfl) ?_)
        refine rw_cons (op_pv (w0 rfl) rfl rfl (pv_assign (v := (.slice Ao (badTo (sumsL xs) ss k).length co)) rfl rfl) ?_)
        refine rw_nil (hK141 _ _ ?_)
        refine hK139 _ _ ?_
        refine cw_ret ?_
        refine fin1 rfl ?_
        have he_0 : (badTo (sumsL xs) ss k) = badV xs ss := (by rw [badV_yes ‹BytesOK xs›]; unfold badL; rw [show (sumsL xs).length = k by omega])
        exact ⟨_, _, (sl_as hOut he_0), own_as (hOut.less (by omega)) he_0, hc⟩
end Go.Proofs.Ythgnnpafieifmaa
