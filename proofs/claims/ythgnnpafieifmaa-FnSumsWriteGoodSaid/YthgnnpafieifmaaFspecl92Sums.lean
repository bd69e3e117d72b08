/-
  The walk of spec.l92Sums, written by program: each line names the law of one operation. Conditions: those of the theorem.
-/
import Derived.Test.YthgnnpafieifmaaProg
import Derived.Test.YthgnnpafieifmaaSums
import Derived.Test.YthgnnpafieifmaaFspecl6Rdpick
import Derived.Test.YthgnnpafieifmaaFspecl32Sums
import Derived.KernelRfl
namespace Go.Proofs.Ythgnnpafieifmaa
open Go Go.RowKit
set_option linter.unusedVariables false
set_option linter.unusedSimpArgs false
namespace l92Sums_okF
theorem T3 : TI Try.prog 3 false (.int .i64 0) 1 8 := TI.mk' Try.underlying3 rfl (by kernel_rfl)
theorem C37 : Callable Try.prog 37 := ⟨_, Try.func37, by kernel_rfl, by kernel_rfl⟩
theorem C42 : Callable Try.prog 42 := ⟨_, Try.func42, by kernel_rfl, by kernel_rfl⟩
end l92Sums_okF
open l92Sums_okF in
set_option maxHeartbeats 4000000 in
theorem l92Sums_ok (g : Nat) (N : Nat) (A : Option Addr) (n c : Nat) (xs : List Int) (w : World) (hRd : Rd 48 w g N) (hR : RS encI 1 w w.heap.size A n xs) (hN : N ≤ 900000) (hcap : n ≤ c) (hn : n ≤ 17) (hdr : DrawnB xs) :
    Fn Try.prog 41 [(.pointer (some (⟨g, 0, none⟩))), (.slice A n c)] w fun v w' => ∃ A_0 c_0 ss, v = .slice A_0 ss.length c_0 ∧ Own encI 1 w' w.heap.size 3 (.slice A_0 ss.length c_0) ss ∧ ss.length ≤ 6 ∧ Rd 48 w' g (N + 4) ∧ Ch [g] w w' := by
  have hg0 := hRd.lt
  have hlen := hR.len
  have hnp : nparts xs = (xs.length + 3) / 4 := rfl
  refine fn_of (n := 37) Try.func41 rfl rfl rfl rfl ?_
  have hc : Ch [g] w w := Ch.refl _ _
  refine cw_seq fun K1 hK2 => ?_
  refine cw_region fun K3 hK4 => ?_
  refine rw_cons (op_pv (w0 rfl) rfl rfl (pv_assign (v := (.slice none 0 0)) rfl rfl) ?_)
  refine rw_nil (hK4 _ _ ?_)
  refine hK2 _ _ ?_
  refine cw_seq fun K5 hK6 => ?_
  refine cw_region fun K7 hK8 => ?_
  refine rw_cons (op_pv (w0 rfl) rfl rfl (pv_move (v := (.slice A n c)) rfl rfl) ?_)
  refine rw_cons (op_call (w0 rfl) rfl rfl (rc_call C37 rfl rfl) (l32Sums_ok _ n _ xs _ (hR.more (by omega)) (by omega) (by omega) (fun j hj => by have h9 := hdr j (by omega); omega)) ?_)
  rintro _ w9 ⟨A11, c12, rfl, hO13, hch10⟩
  have hsz14 := hch10.size
  replace hRd := hRd.ch0 hch10
  replace hR := hR.ch0 hch10
  replace hc := hc.step0 hch10
  have hub15 := hO13.lt
  have hcap16 : (sumsL xs).length ≤ c12 := by obtain ⟨_, _, hv, h1, _⟩ := hO13.form; injection hv with _ _ h3; omega
  have hnt17 := sumsL_len xs
  have hnt18 := sumsL_le xs
  clear hR
  refine rw_cons (op_pv (w0 rfl) rfl rfl (pv_assign (v := (.slice A11 (sumsL xs).length c12)) rfl rfl) ?_)
  refine rw_nil (hK8 _ _ ?_)
  refine hK6 _ _ ?_
  refine cw_seq fun K19 hK20 => ?_
  refine cw_seq fun K21 hK22 => ?_
  refine cw_region fun K23 hK24 => ?_
  refine rw_cons (op_pv (w0 rfl) rfl rfl (pv_move (v := (.slice A11 (sumsL xs).length c12)) rfl rfl) ?_)
  refine rw_cons (op_pv (w0 rfl) rfl rfl (pv_len Try.underlying22 rfl rfl) ?_)
  refine rw_cons (op_pv (w0 rfl) rfl rfl (pv_gtr rfl rfl rfl) ?_)
  refine rw_nil (hK24 _ _ ?_)
  refine hK22 _ _ ?_
  refine cw_cond rfl (fun h25 => ?_) (fun h25 => ?_)
  · -- then
    replace h25 := of_decide_eq_true h25
    refine cw_seq fun K26 hK27 => ?_
    refine cw_region fun K28 hK29 => ?_
    refine rw_cons (op_pv (w0 rfl) rfl rfl (pv_move (v := (.pointer (some (⟨g, 0, none⟩)))) rfl rfl) ?_)
    refine rw_cons (op_call (w0 rfl) rfl rfl (rc_call C42 rfl rfl) (pick_ok _ _ _ _ hRd (by omega)) ?_)
    rintro _ w31 ⟨r30, rfl, hr32, hr33, hr34, hRd35, hch36⟩
    have hsz37 := hch36.size
    replace hO13 := hO13.ch hch36 (fun s hs => by have := hO13.off s hs; simp; omega)
    replace hc := hc.step hch36 (fun s hs => .inl hs)
    clear hRd; have hRd := hRd35; clear hRd35
    refine rw_nil (hK29 _ _ ?_)
    refine hK27 _ _ ?_
    refine cw_block ?_
    refine cw_seq fun K38 hK39 => ?_
    refine cw_region fun K40 hK41 => ?_
    refine rw_cons (op_pv (w0 rfl) rfl rfl (pv_eql rfl rfl rfl) ?_)
    refine rw_cons (op_pv (w0 rfl) rfl rfl (pv_assign (v := (.bool (decide ((r30 : Int) = 0)))) rfl rfl) ?_)
    refine rw_nil (hK41 _ _ ?_)
    refine hK39 _ _ ?_
    refine cw_cond rfl (fun h42 => ?_) (fun h42 => ?_)
    · -- then
      replace h42 := of_decide_eq_true h42
      refine cw_region fun K43 hK44 => ?_
      refine rw_cons (op_pv (w0 rfl) rfl rfl (pv_move (v := (.slice A11 (sumsL xs).length c12)) rfl rfl) ?_)
      refine rw_cons (op_pv (w0 rfl) rfl rfl (pv_move (v := (.pointer (some (⟨g, 0, none⟩)))) rfl rfl) ?_)
      refine rw_cons (op_pv (w0 rfl) rfl rfl (pv_move (v := (.slice A11 (sumsL xs).length c12)) rfl rfl) ?_)
      refine rw_cons (op_pv (w0 rfl) rfl rfl (pv_len Try.underlying22 rfl rfl) ?_)
      refine rw_cons (op_call (w0 rfl) rfl rfl (rc_call C42 rfl rfl) (pick_ok _ _ _ _ hRd (by omega)) ?_)
      rintro _ w46 ⟨r45, rfl, hr47, hr48, hr49, hRd50, hch51⟩
      have hsz52 := hch51.size
      replace hO13 := hO13.ch hch51 (fun s hs => by have := hO13.off s hs; simp; omega)
      replace hc := hc.step hch51 (fun s hs => .inl hs)
      clear hRd; have hRd := hRd50; clear hRd50
      refine rw_cons (op_pv (w0 rfl) rfl rfl (pv_move (v := (.pointer (some (⟨g, 0, none⟩)))) rfl rfl) ?_)
      refine rw_cons (op_call (w0 rfl) rfl rfl (rc_call C42 rfl rfl) (pick_ok _ _ _ _ hRd (by omega)) ?_)
      rintro _ w54 ⟨r53, rfl, hr55, hr56, hr57, hRd58, hch59⟩
      have hsz60 := hch59.size
      replace hO13 := hO13.ch hch59 (fun s hs => by have := hO13.off s hs; simp; omega)
      replace hc := hc.step hch59 (fun s hs => .inl hs)
      clear hRd; have hRd := hRd58; clear hRd58
      refine rw_cons (op_pv (w0 rfl) rfl rfl (pv_idx Try.underlying22 T3 rfl rfl rfl ((hO13.rs (fun _ => rfl)).some (k := (r45).toNat) (by omega)) (by omega) (by omega)) ?_)
      refine rw_cons (op_store_ownA (k := (r45).toNat) (off := 0) r53 T3 hO13 (fun _ => rfl) (w0 rfl) rfl rfl rfl rfl rfl (one_all rfl) (by omega) (Nat.le_of_ble_eq_true rfl) rfl ?_)
      rintro w61 hO63 hch62
      have hsz64 := hch62.size
      replace hRd := hRd.ch hch62 (hO13.off.le (by omega))
      replace hc := hc.step hch62 (fun s hs => .inr (hO13.off s hs))
      clear hO13; have hO13 := hO63; clear hO63
      refine rw_nil (hK44 _ _ ?_)
      refine hK20 _ _ ?_
      refine cw_seq fun K65 hK66 => ?_
      refine cw_seq fun K67 hK68 => ?_
      refine cw_region fun K69 hK70 => ?_
      refine rw_cons (op_pv (w0 rfl) rfl rfl (pv_move (v := (.pointer (some (⟨g, 0, none⟩)))) rfl rfl) ?_)
      refine rw_cons (op_call (w0 rfl) rfl rfl (rc_call C42 rfl rfl) (pick_ok _ _ _ _ hRd (by omega)) ?_)
      rintro _ w72 ⟨r71, rfl, hr73, hr74, hr75, hRd76, hch77⟩
      have hsz78 := hch77.size
      replace hO13 := hO13.ch hch77 (fun s hs => by have := hO13.off s hs; simp; omega)
      replace hc := hc.step hch77 (fun s hs => .inl hs)
      clear hRd; have hRd := hRd76; clear hRd76
      refine rw_cons (op_pv (w0 rfl) rfl rfl (pv_eql rfl rfl rfl) ?_)
      refine rw_nil (hK70 _ _ ?_)
      refine hK68 _ _ ?_
      refine cw_cond rfl (fun h79 => ?_) (fun h79 => ?_)
      · -- then
        replace h79 := of_decide_eq_true h79
        refine cw_seq fun K80 hK81 => ?_
        refine cw_region fun K82 hK83 => ?_
        refine rw_cons (op_pv (w0 rfl) rfl rfl (pv_move (v := (.slice A11 (sumsL xs).length c12)) rfl rfl) ?_)
        refine rw_cons (op_bslice [(.int .i64 5)] Try.underlying22 T3 (w0 rfl) rfl rfl rfl rfl rfl (by simp [Value.cells]) (by decide) ?_)
        intro g85 w84 hg88 hg89 hK87 hch86
        have hO90 : Own encI 1 w84 w72.heap.size 3 (.slice (some ⟨g85, 0, none⟩) 1 1) ([5] : List Int) := Blk.own (xs := ([5] : List Int)) hK87 (by omega) rfl (by decide) rfl
        have hsz91 := hch86.size
        replace hRd := hRd.ch0 hch86
        replace hO13 := hO13.ch0 hch86
        replace hc := hc.step0 hch86
        have hub92 := hO90.lt
        refine rw_cons (op_append Try.underlying22 T3 (fun _ => rfl) rfl (by decide) (fun _ => one_all rfl) (w0 rfl) rfl rfl rfl rfl rfl hO13 (hO90.rs (fun _ => rfl)) (by unfold maxLen; first | omega | (simp; omega)) (by first | omega | (simp; omega)) (by omega) ?_)
        rintro v93 w94 hO95 hch96 hs97
        have hl98 : (((sumsL xs).set (r45).toNat r53) ++ ([5] : List Int)).length = (sumsL xs).length + 1 := by first | (have hl0 := (hO90.rs (fun _ => rfl)).len; omega) | (have hl0 := (hO90.rs (fun _ => rfl)).len; simp only [List.length_append, List.length_cons, List.length_nil] at hl0 ⊢; omega) | simp | rfl
        clear hO90
        have hsz99 := hch96.size
        replace hRd := hRd.ch hch96 (hO13.off.le (by omega))
        replace hc := hc.step hch96 (fun s hs => .inr (hO13.off s hs))
        have hub100 := hO95.lt
        obtain ⟨A101, c102, hv103, hcap104, hcap105⟩ := hO95.form; subst hv103
        refine rw_cons (op_pv (w0 rfl) rfl rfl (pv_assign (v := (.slice A101 (((sumsL xs).set (r45).toNat r53) ++ ([5] : List Int)).length c102)) rfl rfl) ?_)
        refine rw_nil (hK83 _ _ ?_)
        refine hK81 _ _ ?_
        refine cw_ret ?_
        refine fin1 rfl ?_
        exact ⟨_, _, (((sumsL xs).set (r45).toNat r53) ++ ([5] : List Int)), sl_as hO95 rfl, own_as (hO95.less (by omega)) rfl, by first | omega | (simp only [List.length_set, List.length_take]; omega), hRd.up (by omega), hc⟩
      · -- else
        replace h79 := of_decide_eq_false h79
        refine cw_skip ?_
        refine hK66 _ _ ?_
        refine cw_seq fun K106 hK107 => ?_
        refine cw_region fun K108 hK109 => ?_
        refine rw_cons (op_pv (w0 rfl) rfl rfl (pv_move (v := (.slice A11 (sumsL xs).length c12)) rfl rfl) ?_)
        refine rw_cons (op_pv (w0 rfl) rfl rfl (pv_assign (v := (.slice A11 (sumsL xs).length c12)) rfl rfl) ?_)
        refine rw_nil (hK109 _ _ ?_)
        refine hK107 _ _ ?_
        refine cw_ret ?_
        refine fin1 rfl ?_
        exact ⟨_, _, ((sumsL xs).set (r45).toNat r53), sl_as hO13 rfl, own_as (hO13.less (by omega)) rfl, by first | omega | (simp only [List.length_set, List.length_take]; omega), hRd.up (by omega), hc⟩
    · -- else
      replace h42 := of_decide_eq_false h42
      refine cw_seq fun K110 hK111 => ?_
      refine cw_region fun K112 hK113 => ?_
      refine rw_cons (op_pv (w0 rfl) rfl rfl (pv_eql rfl rfl rfl) ?_)
      refine rw_cons (op_pv (w0 rfl) rfl rfl (pv_assign (v := (.bool (decide ((r30 : Int) = 1)))) rfl rfl) ?_)
      refine rw_nil (hK113 _ _ ?_)
      refine hK111 _ _ ?_
      refine cw_cond rfl (fun h114 => ?_) (fun h114 => ?_)
      · -- then
        replace h114 := of_decide_eq_true h114
        refine cw_seq fun K115 hK116 => ?_
        refine cw_region fun K117 hK118 => ?_
        refine rw_cons (op_pv (w0 rfl) rfl rfl (pv_move (v := (.slice A11 (sumsL xs).length c12)) rfl rfl) ?_)
        refine rw_cons (op_pv (w0 rfl) rfl rfl (pv_move (v := (.slice A11 (sumsL xs).length c12)) rfl rfl) ?_)
        refine rw_cons (op_pv (w0 rfl) rfl rfl (pv_len Try.underlying22 rfl rfl) ?_)
        refine rw_cons (op_pv (w0 rfl) rfl rfl (pv_sub rfl rfl rfl (by omega) (by omega)) ?_)
        refine rw_cons (op_pv (w0 rfl) rfl rfl (pv_upto Try.underlying22 T3 rfl rfl rfl (by omega) (by omega)) ?_)
        have hR119 : RS encI 1 w31 w31.heap.size A11 (((sumsL xs).length : Int) - 1).toNat ((sumsL xs).take (((sumsL xs).length : Int) - 1).toNat) := ((hO13.rs (fun _ => rfl))).upto (by omega)
        refine rw_cons (op_pv (w0 rfl) rfl rfl (pv_assign (v := (.slice A11 (((sumsL xs).length : Int) - 1).toNat c12)) rfl rfl) ?_)
        refine rw_nil (hK118 _ _ ?_)
        refine hK116 _ _ ?_
        refine cw_ret ?_
        refine fin1 rfl ?_
        exact ⟨_, _, ((sumsL xs).take (((sumsL xs).length : Int) - 1).toNat), sl_as (hO13.upto (fun _ => rfl) (k := (((sumsL xs).length : Int) - 1).toNat) (by omega)) rfl, own_as ((hO13.upto (fun _ => rfl) (k := (((sumsL xs).length : Int) - 1).toNat) (by omega)).less (by omega)) rfl, by first | omega | (simp only [List.length_set, List.length_take]; omega), hRd.up (by omega), hc⟩
      · -- else
        replace h114 := of_decide_eq_false h114
        refine cw_skip ?_
        refine hK20 _ _ ?_
        refine cw_seq fun K120 hK121 => ?_
        refine cw_seq fun K122 hK123 => ?_
        refine cw_region fun K124 hK125 => ?_
        refine rw_cons (op_pv (w0 rfl) rfl rfl (pv_move (v := (.pointer (some (⟨g, 0, none⟩)))) rfl rfl) ?_)
        refine rw_cons (op_call (w0 rfl) rfl rfl (rc_call C42 rfl rfl) (pick_ok _ _ _ _ hRd (by omega)) ?_)
        rintro _ w127 ⟨r126, rfl, hr128, hr129, hr130, hRd131, hch132⟩
        have hsz133 := hch132.size
        replace hO13 := hO13.ch hch132 (fun s hs => by have := hO13.off s hs; simp; omega)
        replace hc := hc.step hch132 (fun s hs => .inl hs)
        clear hRd; have hRd := hRd131; clear hRd131
        refine rw_cons (op_pv (w0 rfl) rfl rfl (pv_eql rfl rfl rfl) ?_)
        refine rw_nil (hK125 _ _ ?_)
        refine hK123 _ _ ?_
        refine cw_cond rfl (fun h134 => ?_) (fun h134 => ?_)
        · -- then
          replace h134 := of_decide_eq_true h134
          refine cw_seq fun K135 hK136 => ?_
          refine cw_region fun K137 hK138 => ?_
          refine rw_cons (op_pv (w0 rfl) rfl rfl (pv_move (v := (.slice A11 (sumsL xs).length c12)) rfl rfl) ?_)
          refine rw_cons (op_bslice [(.int .i64 5)] Try.underlying22 T3 (w0 rfl) rfl rfl rfl rfl rfl (by simp [Value.cells]) (by decide) ?_)
          intro g140 w139 hg143 hg144 hK142 hch141
          have hO145 : Own encI 1 w139 w127.heap.size 3 (.slice (some ⟨g140, 0, none⟩) 1 1) ([5] : List Int) := Blk.own (xs := ([5] : List Int)) hK142 (by omega) rfl (by decide) rfl
          have hsz146 := hch141.size
          replace hRd := hRd.ch0 hch141
          replace hO13 := hO13.ch0 hch141
          replace hc := hc.step0 hch141
          have hub147 := hO145.lt
          refine rw_cons (op_append Try.underlying22 T3 (fun _ => rfl) rfl (by decide) (fun _ => one_all rfl) (w0 rfl) rfl rfl rfl rfl rfl hO13 (hO145.rs (fun _ => rfl)) (by unfold maxLen; first | omega | (simp; omega)) (by first | omega | (simp; omega)) (by omega) ?_)
          rintro v148 w149 hO150 hch151 hs152
          have hl153 : ((sumsL xs) ++ ([5] : List Int)).length = (sumsL xs).length + 1 := by first | (have hl0 := (hO145.rs (fun _ => rfl)).len; omega) | (have hl0 := (hO145.rs (fun _ => rfl)).len; simp only [List.length_append, List.length_cons, List.length_nil] at hl0 ⊢; omega) | simp | rfl
          clear hO145
          have hsz154 := hch151.size
          replace hRd := hRd.ch hch151 (hO13.off.le (by omega))
          replace hc := hc.step hch151 (fun s hs => .inr (hO13.off s hs))
          have hub155 := hO150.lt
          obtain ⟨A156, c157, hv158, hcap159, hcap160⟩ := hO150.form; subst hv158
          refine rw_cons (op_pv (w0 rfl) rfl rfl (pv_assign (v := (.slice A156 ((sumsL xs) ++ ([5] : List Int)).length c157)) rfl rfl) ?_)
          refine rw_nil (hK138 _ _ ?_)
          refine hK136 _ _ ?_
          refine cw_ret ?_
          refine fin1 rfl ?_
          exact ⟨_, _, ((sumsL xs) ++ ([5] : List Int)), sl_as hO150 rfl, own_as (hO150.less (by omega)) rfl, by first | omega | (simp only [List.length_set, List.length_take]; omega), hRd.up (by omega), hc⟩
        · -- else
          replace h134 := of_decide_eq_false h134
          refine cw_skip ?_
          refine hK121 _ _ ?_
          refine cw_seq fun K161 hK162 => ?_
          refine cw_region fun K163 hK164 => ?_
          refine rw_cons (op_pv (w0 rfl) rfl rfl (pv_move (v := (.slice A11 (sumsL xs).length c12)) rfl rfl) ?_)
          refine rw_cons (op_pv (w0 rfl) rfl rfl (pv_assign (v := (.slice A11 (sumsL xs).length c12)) rfl rfl) ?_)
          refine rw_nil (hK164 _ _ ?_)
          refine hK162 _ _ ?_
          refine cw_ret ?_
          refine fin1 rfl ?_
          exact ⟨_, _, (sumsL xs), sl_as hO13 rfl, own_as (hO13.less (by omega)) rfl, by first | omega | (simp only [List.length_set, List.length_take]; omega), hRd.up (by omega), hc⟩
  · -- else
    replace h25 := of_decide_eq_false h25
    refine cw_skip ?_
    refine hK20 _ _ ?_
    refine cw_seq fun K165 hK166 => ?_
    refine cw_seq fun K167 hK168 => ?_
    refine cw_region fun K169 hK170 => ?_
    refine rw_cons (op_pv (w0 rfl) rfl rfl (pv_move (v := (.pointer (some (⟨g, 0, none⟩)))) rfl rfl) ?_)
    refine rw_cons (op_call (w0 rfl) rfl rfl (rc_call C42 rfl rfl) (pick_ok _ _ _ _ hRd (by omega)) ?_)
    rintro _ w172 ⟨r171, rfl, hr173, hr174, hr175, hRd176, hch177⟩
    have hsz178 := hch177.size
    replace hO13 := hO13.ch hch177 (fun s hs => by have := hO13.off s hs; simp; omega)
    replace hc := hc.step hch177 (fun s hs => .inl hs)
    clear hRd; have hRd := hRd176; clear hRd176
    refine rw_cons (op_pv (w0 rfl) rfl rfl (pv_eql rfl rfl rfl) ?_)
    refine rw_nil (hK170 _ _ ?_)
    refine hK168 _ _ ?_
    refine cw_cond rfl (fun h179 => ?_) (fun h179 => ?_)
    · -- then
      replace h179 := of_decide_eq_true h179
      refine cw_seq fun K180 hK181 => ?_
      refine cw_region fun K182 hK183 => ?_
      refine rw_cons (op_pv (w0 rfl) rfl rfl (pv_move (v := (.slice A11 (sumsL xs).length c12)) rfl rfl) ?_)
      refine rw_cons (op_bslice [(.int .i64 5)] Try.underlying22 T3 (w0 rfl) rfl rfl rfl rfl rfl (by simp [Value.cells]) (by decide) ?_)
      intro g185 w184 hg188 hg189 hK187 hch186
      have hO190 : Own encI 1 w184 w172.heap.size 3 (.slice (some ⟨g185, 0, none⟩) 1 1) ([5] : List Int) := Blk.own (xs := ([5] : List Int)) hK187 (by omega) rfl (by decide) rfl
      have hsz191 := hch186.size
      replace hRd := hRd.ch0 hch186
      replace hO13 := hO13.ch0 hch186
      replace hc := hc.step0 hch186
      have hub192 := hO190.lt
      refine rw_cons (op_append Try.underlying22 T3 (fun _ => rfl) rfl (by decide) (fun _ => one_all rfl) (w0 rfl) rfl rfl rfl rfl rfl hO13 (hO190.rs (fun _ => rfl)) (by unfold maxLen; first | omega | (simp; omega)) (by first | omega | (simp; omega)) (by omega) ?_)
      rintro v193 w194 hO195 hch196 hs197
      have hl198 : ((sumsL xs) ++ ([5] : List Int)).length = (sumsL xs).length + 1 := by first | (have hl0 := (hO190.rs (fun _ => rfl)).len; omega) | (have hl0 := (hO190.rs (fun _ => rfl)).len; simp only [List.length_append, List.length_cons, List.length_nil] at hl0 ⊢; omega) | simp | rfl
      clear hO190
      have hsz199 := hch196.size
      replace hRd := hRd.ch hch196 (hO13.off.le (by omega))
      replace hc := hc.step hch196 (fun s hs => .inr (hO13.off s hs))
      have hub200 := hO195.lt
      obtain ⟨A201, c202, hv203, hcap204, hcap205⟩ := hO195.form; subst hv203
      refine rw_cons (op_pv (w0 rfl) rfl rfl (pv_assign (v := (.slice A201 ((sumsL xs) ++ ([5] : List Int)).length c202)) rfl rfl) ?_)
      refine rw_nil (hK183 _ _ ?_)
      refine hK181 _ _ ?_
      refine cw_ret ?_
      refine fin1 rfl ?_
      exact ⟨_, _, ((sumsL xs) ++ ([5] : List Int)), sl_as hO195 rfl, own_as (hO195.less (by omega)) rfl, by first | omega | (simp only [List.length_set, List.length_take]; omega), hRd.up (by omega), hc⟩
    · -- else
      replace h179 := of_decide_eq_false h179
      refine cw_skip ?_
      refine hK166 _ _ ?_
      refine cw_seq fun K206 hK207 => ?_
      refine cw_region fun K208 hK209 => ?_
      refine rw_cons (op_pv (w0 rfl) rfl rfl (pv_move (v := (.slice A11 (sumsL xs).length c12)) rfl rfl) ?_)
      refine rw_cons (op_pv (w0 rfl) rfl rfl (pv_assign (v := (.slice A11 (sumsL xs).length c12)) rfl rfl) ?_)
      refine rw_nil (hK209 _ _ ?_)
      refine hK207 _ _ ?_
      refine cw_ret ?_
      refine fin1 rfl ?_
      exact ⟨_, _, (sumsL xs), sl_as hO13 rfl, own_as (hO13.less (by omega)) rfl, by first | omega | (simp only [List.length_set, List.length_take]; omega), hRd.up (by omega), hc⟩
end Go.Proofs.Ythgnnpafieifmaa
