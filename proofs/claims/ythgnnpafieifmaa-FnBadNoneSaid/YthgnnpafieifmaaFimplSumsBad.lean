/-
  The walk of impl.SumsBad, written by program: each line names the law of one operation. Conditions: those of the theorem.
-/
import Derived.Test.YthgnnpafieifmaaProg
import Derived.Test.YthgnnpafieifmaaSums
import Derived.Test.YthgnnpafieifmaaFimplallSums
import Derived.Test.YthgnnpafieifmaaFimplBytesValid
import Derived.KernelRfl
namespace Go.Proofs.Ythgnnpafieifmaa
open Go Go.RowKit
set_option linter.unusedVariables false
set_option linter.unusedSimpArgs false
namespace SumsBad_iF
theorem T3 : TI Try.prog 3 false (.int .i64 0) 1 8 := TI.mk' Try.underlying3 rfl (by kernel_rfl)
theorem C19 : Callable Try.prog 19 := ⟨_, Try.func19, by kernel_rfl, by kernel_rfl⟩
theorem C38 : Callable Try.prog 38 := ⟨_, Try.func38, by kernel_rfl, by kernel_rfl⟩
end SumsBad_iF
open SumsBad_iF in
set_option maxHeartbeats 4000000 in
theorem SumsBad_i (Axs : Option Addr) (nxs cxs : Nat) (xs : List Int) (Ass : Option Addr) (nss css : Nat) (ss : List Int) (w : World) (hRxs : RS encI 1 w w.heap.size Axs nxs xs) (hnxs : nxs ≤ cxs) (hNxs : nxs ≤ 1099511627776) (hRss : RS encI 1 w w.heap.size Ass nss ss) (hNss : nss ≤ 1099511627776) :
    Fn Try.prog 29 [(.slice Axs nxs cxs), (.slice Ass nss css)] w fun v w' => ∃ A_0 c_0, v = .slice A_0 (badV xs ss).length c_0 ∧ Own encI 1 w' w.heap.size 3 (.slice A_0 (badV xs ss).length c_0) (badV xs ss) ∧ Ch [] w w' := by
  have hlenxs := hRxs.len
  have hlenss := hRss.len
  have hnp : nparts xs = (xs.length + 3) / 4 := rfl
  refine fn_of (n := 39) Try.func29 rfl rfl rfl rfl ?_
  have hc : Ch [] w w := Ch.refl _ _
  refine cw_seq fun K1 hK2 => ?_
  refine cw_region fun K3 hK4 => ?_
  refine rw_cons (op_pv (w0 rfl) rfl rfl (pv_assign (v := (.slice none 0 0)) rfl rfl) ?_)
  refine rw_nil (hK4 _ _ ?_)
  refine hK2 _ _ ?_
  refine cw_seq fun K5 hK6 => ?_
  refine cw_region fun K7 hK8 => ?_
  refine rw_cons (op_bslice [] Try.underlying22 T3 (w0 rfl) rfl rfl rfl rfl rfl (by simp [Value.cells]) (by decide) ?_)
  intro g10 w9 hg13 hg14 hK12 hch11
  have hO15 : Own encI 1 w9 w.heap.size 3 (.slice (some ⟨g10, 0, none⟩) 0 0) ([] : List Int) := Blk.own (xs := ([] : List Int)) hK12 (by omega) rfl (by decide) rfl
  have hsz16 := hch11.size
  replace hRxs := hRxs.ch0 hch11
  replace hRss := hRss.ch0 hch11
  replace hc := hc.step0 hch11
  have hub17 := hO15.lt
  refine rw_cons (op_pv (w0 rfl) rfl rfl (pv_assign (v := (.slice (some ⟨g10, 0, none⟩) 0 0)) rfl rfl) ?_)
  refine rw_nil (hK8 _ _ ?_)
  refine hK6 _ _ ?_
  refine cw_seq fun K18 hK19 => ?_
  refine cw_seq fun K20 hK21 => ?_
  refine cw_region fun K22 hK23 => ?_
  refine rw_cons (op_pv (w0 rfl) rfl rfl (pv_move (v := (.slice Axs nxs cxs)) rfl rfl) ?_)
  refine rw_cons (op_call (w0 rfl) rfl rfl (rc_call C19 rfl rfl) (BytesValid_i _ _ _ xs _ (hRxs.more (by omega)) (by omega)) ?_)
  rintro _ w24 ⟨rfl, hch25⟩
  have hsz26 := hch25.size
  replace hRxs := hRxs.ch0 hch25
  replace hRss := hRss.ch0 hch25
  replace hO15 := hO15.ch0 hch25
  replace hc := hc.step0 hch25
  refine rw_cons (op_pv (w0 rfl) rfl rfl (pv_not rfl rfl) ?_)
  refine rw_nil (hK23 _ _ ?_)
  refine hK21 _ _ ?_
  refine cw_cond rfl (fun h27 => ?_) (fun h27 => ?_)
  · -- then
    replace h27 := not_t h27
    replace h27 := dec_f h27
    refine cw_seq fun K28 hK29 => ?_
    refine cw_region fun K30 hK31 => ?_
    refine rw_cons (op_pv (w0 rfl) rfl rfl (pv_move (v := (.slice (some ⟨g10, 0, none⟩) 0 0)) rfl rfl) ?_)
    refine rw_cons (op_pv (w0 rfl) rfl rfl (pv_assign (v := (.slice (some ⟨g10, 0, none⟩) 0 0)) rfl rfl) ?_)
    refine rw_nil (hK31 _ _ ?_)
    refine hK29 _ _ ?_
    refine cw_ret ?_
    refine fin1 rfl ?_
    have he_0 : ([] : List Int) = badV xs ss := (badV_no ‹¬ BytesOK xs›).symm
    exact ⟨_, _, (sl_as hO15 he_0), own_as (hO15.less (by omega)) he_0, hc⟩
  · -- else
    replace h27 := not_f h27
    replace h27 := dec_t h27
    refine cw_skip ?_
    refine hK19 _ _ ?_
    refine cw_seq fun K32 hK33 => ?_
    refine cw_seq fun K34 hK35 => ?_
    refine cw_region fun K36 hK37 => ?_
    refine rw_cons (op_pv (w0 rfl) rfl rfl (pv_move (v := (.slice Axs nxs cxs)) rfl rfl) ?_)
    refine rw_cons (op_call (w0 rfl) rfl rfl (rc_call C38 rfl rfl) (allSums_ok _ nxs _ xs _ (hRxs.more (by omega)) (by omega) (by omega) (fun j hj => by have h9 := ‹BytesOK xs›.2 j (by omega); omega)) ?_)
    rintro _ w38 ⟨A40, c41, rfl, hO42, hch39⟩
    have hsz43 := hch39.size
    replace hRxs := hRxs.ch0 hch39
    replace hRss := hRss.ch0 hch39
    replace hO15 := hO15.ch0 hch39
    replace hc := hc.step0 hch39
    have hub44 := hO42.lt
    have hcap45 : (sumsL xs).length ≤ c41 := by obtain ⟨_, _, hv, h1, _⟩ := hO42.form; injection hv with _ _ h3; omega
    have hnt46 := sumsL_len xs
    have hnt47 := sumsL_le xs
    refine rw_cons (op_pv (w0 rfl) rfl rfl (pv_len Try.underlying22 rfl rfl) ?_)
    refine rw_cons (op_pv (w0 rfl) rfl rfl (pv_move (v := (.int .i64 0)) rfl rfl) ?_)
    refine rw_nil (hK37 _ _ ?_)
    refine hK35 _ _ ?_
    refine cw_block ?_
    refine cw_loop (σ := Nat × (Option Addr) × Nat) (fun ⟨k, Ao, co⟩ => [(5, (.slice Ao (badTo (sumsL xs) ss k).length co)), (16, (.int .i64 (k : Int))), (1, (.slice Ass nss css)), (4, (.slice none 0 0)), (14, (.slice A40 (sumsL xs).length c41)), (15, (.int .i64 ((sumsL xs).length : Int)))]) (fun ⟨k, Ao, co⟩ W => (k ≤ (sumsL xs).length) ∧ RS encI 1 W w.heap.size Axs nxs xs ∧ RS encI 1 W w.heap.size Ass nss ss ∧ Own encI 1 W w24.heap.size 3 (.slice A40 (sumsL xs).length c41) (sumsL xs) ∧ Own encI 1 W w.heap.size 3 (.slice Ao (badTo (sumsL xs) ss k).length co) (badTo (sumsL xs) ss k) ∧ Ch [] w W ∧ w24.heap.size ≤ W.heap.size ∧ (∀ s ∈ obl (.slice A40 (sumsL xs).length c41), s ∉ obl (.slice Ao (badTo (sumsL xs) ss k).length co))) (fun ⟨k, Ao, co⟩ => (sumsL xs).length - k) (0, (some ⟨g10, 0, none⟩), 0) ?_ ?_ ?_
    · exact ⟨rfl, rfl, rfl, rfl, rfl, rfl, trivial⟩
    · refine ⟨Nat.zero_le _, hRxs, hRss, hO42, (hO15.less (by omega)), hc, (by omega), (fun s hs hs2 => by first | (have h1 := hO15.off s hs; have h2 := hub44 s hs2; omega) | (have h1 := hO42.off s hs; have h2 := hub17 s hs2; omega) | (have h1 := hub17 s hs; have h2 := hO42.off s hs2; omega) | (have h1 := hub44 s hs; have h2 := hO15.off s hs2; omega) | (simp [obl, Value.ownBlock] at hs; done) | (simp [obl, Value.ownBlock] at hs2; done))⟩
    · rintro ⟨k, Ao, co⟩ J54 w48 ⟨hk, hRxs, hRss, hO42, hOut, hc, hmono49, hdj50⟩ K51 hK52
      have hsz56 := hc.size
      have hub44 := hO42.lt
      have hubO := hOut.lt
      have hbl := badTo_le (sumsL xs) ss k
      refine cw_seq fun K57 hK58 => ?_
      refine cw_region fun K59 hK60 => ?_
      refine rw_cons (op_pv (w0 rfl) rfl rfl (pv_lss rfl rfl rfl) ?_)
      refine rw_nil (hK60 _ _ ?_)
      refine hK58 _ _ ?_
      refine cw_seq fun K61 hK62 => ?_
      refine cw_cond rfl (fun h63 => ?_) (fun h63 => ?_)
      · -- then
        replace h63 := of_decide_eq_true h63
        refine cw_skip ?_
        refine hK62 _ _ ?_
        refine cw_seq fun K64 hK65 => ?_
        refine cw_block ?_
        refine cw_seq fun K66 hK67 => ?_
        refine cw_region fun K68 hK69 => ?_
        refine rw_cons (op_pv (w0 rfl) rfl rfl (pv_move (v := (.int .i64 (k : Int))) rfl rfl) ?_)
        refine rw_cons (op_pv (w0 rfl) rfl rfl (pv_idx Try.underlying22 T3 rfl rfl rfl ((hO42.rs (fun _ => rfl)).some (k := k) (by omega)) (by omega) (by omega)) ?_)
        refine rw_cons (op_lv (w0 rfl) rfl rfl (lv_load T3 rfl rfl ((hO42.rs (fun _ => rfl)).cell0 (k := k) (by omega) rfl)) ?_)
        refine rw_cons (op_pv (w0 rfl) rfl rfl (pv_assign (v := (.int .i64 (k : Int))) rfl rfl) ?_)
        refine rw_cons (op_pv (w0 rfl) rfl rfl (pv_assign (v := (.int .i64 (el (sumsL xs) k))) rfl rfl) ?_)
        refine rw_nil (hK69 _ _ ?_)
        refine hK67 _ _ ?_
        refine cw_seq fun K70 hK71 => ?_
        refine cw_region fun K72 hK73 => ?_
        refine rw_cons (op_pv (w0 rfl) rfl rfl (pv_move (v := (.int .i64 (k : Int))) rfl rfl) ?_)
        refine rw_cons (op_pv (w0 rfl) rfl rfl (pv_move (v := (.slice Ass nss css)) rfl rfl) ?_)
        refine rw_cons (op_pv (w0 rfl) rfl rfl (pv_len Try.underlying22 rfl rfl) ?_)
        refine rw_cons (op_pv (w0 rfl) rfl rfl (pv_geq rfl rfl rfl) ?_)
        refine rw_cons (op_pv (w0 rfl) rfl rfl (pv_move (v := (.bool (decide ((nss : Int) ≤ (k : Int))))) rfl rfl) ?_)
        refine rw_split 25 rfl (fun hb74 => ?_) (fun hb74 => ?_)
        · -- yes
          replace hb74 := of_decide_eq_true hb74
          refine rw_cons (op_pass (w1n2 rfl rfl rfl rfl) rfl rfl ?_)
          refine rw_cons (op_pass (w1n2 rfl rfl rfl rfl) rfl rfl ?_)
          refine rw_cons (op_pass (w1n2 rfl rfl rfl rfl) rfl rfl ?_)
          refine rw_cons (op_pass (w1n2 rfl rfl rfl rfl) rfl rfl ?_)
          refine rw_cons (op_pass (w1n2 rfl rfl rfl rfl) rfl rfl ?_)
          refine rw_cons (op_pass (w1n2 rfl rfl rfl rfl) rfl rfl ?_)
          refine rw_cons (op_pv (w0 rfl) rfl rfl (pv_pickT (v := (.bool true)) rfl rfl rfl) ?_)
          refine rw_nil (hK73 _ _ ?_)
          refine hK71 _ _ ?_
          refine cw_cond rfl (fun h75 => ?_) (fun h75 => ?_)
          · -- then
            clear h75
            refine cw_region fun K76 hK77 => ?_
            refine rw_cons (op_pv (w0 rfl) rfl rfl (pv_move (v := (.slice Ao (badTo (sumsL xs) ss k).length co)) rfl rfl) ?_)
            refine rw_cons (op_pv (w0 rfl) rfl rfl (pv_move (v := (.int .i64 (k : Int))) rfl rfl) ?_)
            refine rw_cons (op_bslice [(.int .i64 (k : Int))] Try.underlying22 T3 (w0 rfl) rfl rfl rfl rfl rfl (by simp [Value.cells]) (by decide) ?_)
            intro g79 w78 hg82 hg83 hK81 hch80
            have hO84 : Own encI 1 w78 w48.heap.size 3 (.slice (some ⟨g79, 0, none⟩) 1 1) ([(k : Int)] : List Int) := Blk.own (xs := ([(k : Int)] : List Int)) hK81 (by omega) rfl (by decide) rfl
            have hsz85 := hch80.size
            replace hRxs := hRxs.ch0 hch80
            replace hRss := hRss.ch0 hch80
            replace hO42 := hO42.ch0 hch80
            replace hOut := hOut.ch0 hch80
            replace hc := hc.step0 hch80
            have hub86 := hO84.lt
            refine rw_cons (op_append Try.underlying22 T3 (fun _ => rfl) rfl (by decide) (fun _ => one_all rfl) (w0 rfl) rfl rfl rfl rfl rfl hOut (hO84.rs (fun _ => rfl)) (by unfold maxLen; first | omega | (simp; omega)) (by first | omega | (simp; omega)) (by omega) ?_)
            rintro v87 w88 hO89 hch90 hs91
            have hl92 : ((badTo (sumsL xs) ss k) ++ ([(k : Int)] : List Int)).length = (badTo (sumsL xs) ss k).length + 1 := by first | (have hl0 := (hO84.rs (fun _ => rfl)).len; omega) | (have hl0 := (hO84.rs (fun _ => rfl)).len; simp only [List.length_append, List.length_cons, List.length_nil] at hl0 ⊢; omega) | simp | rfl
            clear hO84
            have hsz94 := hch90.size
            replace hRxs := hRxs.ch hch90 (hOut.off.le (by omega))
            replace hRss := hRss.ch hch90 (hOut.off.le (by omega))
            replace hO42 := hO42.ch hch90 (dj_as hdj50)
            replace hc := (hOut.off.le (by omega)).step hc hch90
            have hub95 := hO89.lt
            obtain ⟨A96, c97, hv98, hcap99, hcap100⟩ := hO89.form; subst hv98
            have hdj93 : ∀ s ∈ obl (.slice A96 ((badTo (sumsL xs) ss k) ++ ([(k : Int)] : List Int)).length c97), s ∉ obl (.slice A40 (sumsL xs).length c41) := dj_new hs91 (dj_sw hdj50) (fun s hs => by have := hub44 s hs; omega)
            refine rw_cons (op_pv (w0 rfl) rfl rfl (pv_assign (v := (.slice A96 ((badTo (sumsL xs) ss k) ++ ([(k : Int)] : List Int)).length c97)) rfl rfl) ?_)
            refine rw_nil (hK77 _ _ ?_)
            refine hK65 _ _ ?_
            refine cw_region fun K101 hK102 => ?_
            refine rw_cons (op_pv (w0 rfl) rfl rfl (pv_add rfl rfl rfl (by omega) (by omega)) ?_)
            refine rw_cons (op_pv (w0 rfl) rfl rfl (pv_move (v := (.int .i64 ((k : Int) + 1))) rfl rfl) ?_)
            refine rw_nil (hK102 _ _ ?_)
            have hEQ103 : ((badTo (sumsL xs) ss k) ++ ([(k : Int)] : List Int)) = badTo (sumsL xs) ss (k + 1) := by exact (badTo_yes _ _ k (by intro h9; omega)).symm
            have hO104 := own_as hO89 hEQ103
            refine hK52 _ _ (k + 1, A96, c97) ⟨(sl_as hO89 hEQ103), (iv (by omega)), rfl, rfl, rfl, rfl, trivial⟩ ⟨?_, hRxs, hRss, hO42, hO104, hc, (by omega), (dj_sw hdj93)⟩ ?_
            · omega
            · (first | omega | (simp only []; omega))
          · -- else
            cases h75
        · -- no
          replace hb74 := of_decide_eq_false hb74
          refine rw_cons (op_pv (w1y rfl rfl rfl rfl) rfl rfl (pv_move (v := (.slice Ass nss css)) rfl rfl) ?_)
          refine rw_cons (op_pv (w1y rfl rfl rfl rfl) rfl rfl (pv_move (v := (.int .i64 (k : Int))) rfl rfl) ?_)
          refine rw_cons (op_pv (w1y rfl rfl rfl rfl) rfl rfl (pv_idx Try.underlying22 T3 rfl rfl rfl (hRss.some (k := k) (by omega)) (by omega) (by omega)) ?_)
          refine rw_cons (op_lv (w1y rfl rfl rfl rfl) rfl rfl (lv_load T3 rfl rfl (hRss.cell0 (k := k) (by omega) rfl)) ?_)
          refine rw_cons (op_pv (w1y rfl rfl rfl rfl) rfl rfl (pv_move (v := (.int .i64 (el (sumsL xs) k))) rfl rfl) ?_)
          refine rw_cons (op_pv (w1y rfl rfl rfl rfl) rfl rfl (pv_neq rfl rfl rfl) ?_)
          refine rw_cons (op_pv (w0 rfl) rfl rfl (pv_pickF (v := (.bool (decide (((el ss k) : Int) ≠ (el (sumsL xs) k))))) rfl rfl rfl) ?_)
          refine rw_nil (hK73 _ _ ?_)
          refine hK71 _ _ ?_
          refine cw_cond rfl (fun h105 => ?_) (fun h105 => ?_)
          · -- then
            replace h105 := of_decide_eq_true h105
            refine cw_region fun K106 hK107 => ?_
            refine rw_cons (op_pv (w0 rfl) rfl rfl (pv_move (v := (.slice Ao (badTo (sumsL xs) ss k).length co)) rfl rfl) ?_)
            refine rw_cons (op_pv (w0 rfl) rfl rfl (pv_move (v := (.int .i64 (k : Int))) rfl rfl) ?_)
            refine rw_cons (op_bslice [(.int .i64 (k : Int))] Try.underlying22 T3 (w0 rfl) rfl rfl rfl rfl rfl (by simp [Value.cells]) (by decide) ?_)
            intro g109 w108 hg112 hg113 hK111 hch110
            have hO114 : Own encI 1 w108 w48.heap.size 3 (.slice (some ⟨g109, 0, none⟩) 1 1) ([(k : Int)] : List Int) := Blk.own (xs := ([(k : Int)] : List Int)) hK111 (by omega) rfl (by decide) rfl
            have hsz115 := hch110.size
            replace hRxs := hRxs.ch0 hch110
            replace hRss := hRss.ch0 hch110
            replace hO42 := hO42.ch0 hch110
            replace hOut := hOut.ch0 hch110
            replace hc := hc.step0 hch110
            have hub116 := hO114.lt
            refine rw_cons (op_append Try.underlying22 T3 (fun _ => rfl) rfl (by decide) (fun _ => one_all rfl) (w0 rfl) rfl rfl rfl rfl rfl hOut (hO114.rs (fun _ => rfl)) (by unfold maxLen; first | omega | (simp; omega)) (by first | omega | (simp; omega)) (by omega) ?_)
            rintro v117 w118 hO119 hch120 hs121
            have hl122 : ((badTo (sumsL xs) ss k) ++ ([(k : Int)] : List Int)).length = (badTo (sumsL xs) ss k).length + 1 := by first | (have hl0 := (hO114.rs (fun _ => rfl)).len; omega) | (have hl0 := (hO114.rs (fun _ => rfl)).len; simp only [List.length_append, List.length_cons, List.length_nil] at hl0 ⊢; omega) | simp | rfl
            clear hO114
            have hsz124 := hch120.size
            replace hRxs := hRxs.ch hch120 (hOut.off.le (by omega))
            replace hRss := hRss.ch hch120 (hOut.off.le (by omega))
            replace hO42 := hO42.ch hch120 (dj_as hdj50)
            replace hc := (hOut.off.le (by omega)).step hc hch120
            have hub125 := hO119.lt
            obtain ⟨A126, c127, hv128, hcap129, hcap130⟩ := hO119.form; subst hv128
            have hdj123 : ∀ s ∈ obl (.slice A126 ((badTo (sumsL xs) ss k) ++ ([(k : Int)] : List Int)).length c127), s ∉ obl (.slice A40 (sumsL xs).length c41) := dj_new hs121 (dj_sw hdj50) (fun s hs => by have := hub44 s hs; omega)
            refine rw_cons (op_pv (w0 rfl) rfl rfl (pv_assign (v := (.slice A126 ((badTo (sumsL xs) ss k) ++ ([(k : Int)] : List Int)).length c127)) rfl rfl) ?_)
            refine rw_nil (hK107 _ _ ?_)
            refine hK65 _ _ ?_
            refine cw_region fun K131 hK132 => ?_
            refine rw_cons (op_pv (w0 rfl) rfl rfl (pv_add rfl rfl rfl (by omega) (by omega)) ?_)
            refine rw_cons (op_pv (w0 rfl) rfl rfl (pv_move (v := (.int .i64 ((k : Int) + 1))) rfl rfl) ?_)
            refine rw_nil (hK132 _ _ ?_)
            have hEQ133 : ((badTo (sumsL xs) ss k) ++ ([(k : Int)] : List Int)) = badTo (sumsL xs) ss (k + 1) := by exact (badTo_yes _ _ k (by intro h9; omega)).symm
            have hO134 := own_as hO119 hEQ133
            refine hK52 _ _ (k + 1, A126, c127) ⟨(sl_as hO119 hEQ133), (iv (by omega)), rfl, rfl, rfl, rfl, trivial⟩ ⟨?_, hRxs, hRss, hO42, hO134, hc, (by omega), (dj_sw hdj123)⟩ ?_
            · omega
            · (first | omega | (simp only []; omega))
          · -- else
            replace h105 := of_decide_eq_false h105
            refine cw_skip ?_
            refine hK65 _ _ ?_
            refine cw_region fun K135 hK136 => ?_
            refine rw_cons (op_pv (w0 rfl) rfl rfl (pv_add rfl rfl rfl (by omega) (by omega)) ?_)
            refine rw_cons (op_pv (w0 rfl) rfl rfl (pv_move (v := (.int .i64 ((k : Int) + 1))) rfl rfl) ?_)
            refine rw_nil (hK136 _ _ ?_)
            have hEQ137 : (badTo (sumsL xs) ss k) = badTo (sumsL xs) ss (k + 1) := by exact (badTo_no _ _ k (by (try simp only [not_le] at *); first | exact ⟨by omega, by omega⟩ | (refine ⟨by omega, ?_⟩; by_cases he : el ss k = el (sumsL xs) k; · exact he; · exact absurd he (by assumption)))).symm
            have hO138 := own_as hOut hEQ137
            refine hK52 _ _ (k + 1, Ao, co) ⟨(sl_as hOut hEQ137), (iv (by omega)), rfl, rfl, rfl, rfl, trivial⟩ ⟨?_, hRxs, hRss, hO42, hO138, hc, (by omega), (dj_as hdj50)⟩ ?_
            · omega
            · (first | omega | (simp only []; omega))
      · -- else
        replace h63 := of_decide_eq_false h63
        refine cw_exit ?_
        refine hK33 _ _ ?_
        refine cw_seq fun K139 hK140 => ?_
        refine cw_region fun K141 hK142 => ?_
        refine rw_cons (op_pv (w0 rfl) rfl rfl (pv_move (v := (.slice Ao (badTo (sumsL xs) ss k).length co)) rfl rfl) ?_)
        refine rw_cons (op_pv (w0 rfl) rfl rfl (pv_assign (v := (.slice Ao (badTo (sumsL xs) ss k).length co)) rfl rfl) ?_)
        refine rw_nil (hK142 _ _ ?_)
        refine hK140 _ _ ?_
        refine cw_ret ?_
        refine fin1 rfl ?_
        have he_0 : (badTo (sumsL xs) ss k) = badV xs ss := (by rw [badV_yes ‹BytesOK xs›]; unfold badL; rw [show (sumsL xs).length = k by omega])
        exact ⟨_, _, (sl_as hOut he_0), own_as (hOut.less (by omega)) he_0, hc⟩
end Go.Proofs.Ythgnnpafieifmaa
