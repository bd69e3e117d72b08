/-
  The walk of spec.l92Base, written by program: each line names the law of one operation. Conditions: those of the theorem.
-/
import Derived.Test.YtpnenfglogggmaaProg
import Derived.Test.YtpnenfglogggmaaBase
import Derived.Test.YtpnenfglogggmaaFspecl91State
import Derived.Test.YtpnenfglogggmaaFspecStateValid
import Derived.Test.YtpnenfglogggmaaFspecl33Some
import Derived.Test.YtpnenfglogggmaaFspecl6Rdpick
import Derived.KernelRfl
namespace Go.Proofs.Ytpnenfglogggmaa
open Go Go.RowKit
set_option linter.unusedVariables false
set_option linter.unusedSimpArgs false
namespace l92Base_okF
theorem T3 : TI Try.prog 3 false (.int .i64 0) 1 8 := TI.mk' Try.underlying3 rfl (by kernel_rfl)
theorem T23 : TI Try.prog 23 false (.slice none 0 0) 1 24 := TI.mk' Try.underlying23 rfl (by kernel_rfl)
theorem T25 : TI Try.prog 25 true (.agg #[.int .i64 0, .slice none 0 0]) 2 32 := TI.mk' Try.underlying25 rfl (by kernel_rfl)
theorem F25_0 : FldOK Try.prog 25 0 0 := ⟨_, _, 0, Try.underlying25, rfl, rfl, by kernel_rfl⟩
theorem F25_1 : FldOK Try.prog 25 1 1 := ⟨_, _, 0, Try.underlying25, rfl, rfl, by kernel_rfl⟩
theorem C29 : Callable Try.prog 29 := ⟨_, Try.func29, by kernel_rfl, by kernel_rfl⟩
theorem C30 : Callable Try.prog 30 := ⟨_, Try.func30, by kernel_rfl, by kernel_rfl⟩
theorem C48 : Callable Try.prog 48 := ⟨_, Try.func48, by kernel_rfl, by kernel_rfl⟩
theorem C49 : Callable Try.prog 49 := ⟨_, Try.func49, by kernel_rfl, by kernel_rfl⟩
theorem B25_1SL (a1 : Option Addr) (n1 c1 : Nat) (u : World) : (Instr.build 25 #[(1, .slice a1 n1 c1)]).run Try.prog u = .ok (.agg #[.int .i64 0, .slice a1 n1 c1]) u := by kernel_rfl
end l92Base_okF
open l92Base_okF in
set_option maxHeartbeats 4000000 in
theorem l92Base_ok (g : Nat) (N : Nat) (w : World) (hRd : Rd 76 w g N) (hN : N ≤ 900000) :
    Fn Try.prog 25 [(.pointer (some (⟨g, 0, none⟩)))] w fun v w' => ∃ m Axs cxs xs, v = .agg #[.int .i64 m, .slice Axs xs.length cxs] ∧ Own encI 1 w' w.heap.size 3 (.slice Axs xs.length cxs) xs ∧ xs.length ≤ 5 ∧ Rd 76 w' g (N + 24) ∧ Ch [g] w w' := by
  have hg0 := hRd.lt
  refine fn_of (n := 30) Try.func25 rfl rfl rfl rfl ?_
  have hc : Ch [g] w w := Ch.refl _ _
  refine cw_seq fun K1 hK2 => ?_
  refine cw_region fun K3 hK4 => ?_
  refine rw_cons (op_alloc T25 (w0 rfl) rfl rfl rfl ?_)
  rintro g6 w5 hg9 hg10 hB8 hch7
  have hsz11 := hch7.size
  replace hRd := hRd.ch0 hch7
  replace hc := hc.step0 hch7
  replace hB8 : Blk w5 g6 25 [(.int .i64 0), (.slice none 0 0)] := hB8
  refine rw_nil (hK4 _ _ ?_)
  refine hK2 _ _ ?_
  refine cw_seq fun K12 hK13 => ?_
  refine cw_region fun K14 hK15 => ?_
  refine rw_cons (op_pv (w0 rfl) rfl rfl (pv_move (v := (.pointer (some (⟨g, 0, none⟩)))) rfl rfl) ?_)
  refine rw_cons (op_call (w0 rfl) rfl rfl (rc_call C48 rfl rfl) (l91State_ok _ _ _ hRd (by omega)) ?_)
  rintro _ w16 ⟨A19, c20, xs18, rfl, hO21, hl23, hRd24, hch17⟩
  have hsz25 := hch17.size
  replace hB8 := hB8.ch hch17 (by simp; omega)
  replace hc := hc.step hch17 (fun s hs => .inl hs)
  clear hRd; have hRd := hRd24; clear hRd24
  have hub22 := hO21.lt
  have hcap26 : xs18.length ≤ c20 := by obtain ⟨_, _, hv, h1, _⟩ := hO21.form; injection hv with _ _ h3; omega
  refine rw_cons (op_pv (w0 rfl) rfl rfl (pv_build rfl rfl (B25_1SL _ _ _)) ?_)
  refine rw_cons (op_alloc T25 (w0 rfl) rfl rfl rfl ?_)
  rintro g28 w27 hg31 hg32 hB30 hch29
  have hsz33 := hch29.size
  replace hRd := hRd.ch0 hch29
  replace hB8 := hB8.ch0 hch29
  replace hO21 := hO21.ch0 hch29
  replace hc := hc.step0 hch29
  replace hB30 : Blk w27 g28 25 [(.int .i64 0), (.slice none 0 0)] := hB30
  have hdj34 : ∀ s ∈ obl (.slice A19 xs18.length c20), s ≠ g28 := fun s hs => by have := hub22 s hs; omega
  refine rw_cons (op_store_blk T25 hB30 (w0 rfl) rfl rfl rfl rfl rfl (one_all rfl) (Nat.le_of_ble_eq_true rfl) ?_)
  rintro w35 hB37 hch36
  have hsz38 := hch36.size
  replace hRd := hRd.ch hch36 (off1 (by omega))
  replace hB8 := hB8.ch hch36 (by simp; omega)
  replace hO21 := hO21.ch hch36 (fun s hs => by have := dj_asg hdj34 s hs; simpa using this)
  replace hc := hc.step hch36 (fun s hs => by simp at hs; first | (left; simp; omega) | (right; omega))
  replace hB30 : Blk w35 g28 25 [(.int .i64 0), (.slice A19 xs18.length c20)] := hB37
  clear hB37
  refine rw_nil (hK15 _ _ ?_)
  refine hK13 _ _ ?_
  refine cw_seq fun K39 hK40 => ?_
  refine cw_seq fun K41 hK42 => ?_
  refine cw_region fun K43 hK44 => ?_
  refine rw_cons (op_pv (w0 rfl) rfl rfl (pv_fld F25_1 rfl rfl) ?_)
  refine rw_cons (op_lv (w0 rfl) rfl rfl (lv_load T23 rfl rfl (hB30.cellA (i := 1) rfl)) ?_)
  refine rw_cons (op_call (w0 rfl) rfl rfl (rc_call C29 rfl rfl) (StateValid_s _ _ _ xs18 _ (hO21.rs (fun _ => rfl)) (by omega)) ?_)
  rintro _ w45 ⟨rfl, hch46⟩
  have hsz47 := hch46.size
  replace hRd := hRd.ch0 hch46
  replace hB8 := hB8.ch0 hch46
  replace hO21 := hO21.ch0 hch46
  replace hB30 := hB30.ch0 hch46
  replace hc := hc.step0 hch46
  refine rw_cons (op_pv (w0 rfl) rfl rfl (pv_not rfl rfl) ?_)
  refine rw_nil (hK44 _ _ ?_)
  refine hK42 _ _ ?_
  refine cw_cond rfl (fun h48 => ?_) (fun h48 => ?_)
  · -- then
    replace h48 := not_t h48
    replace h48 := dec_f h48
    refine cw_seq fun K49 hK50 => ?_
    refine cw_region fun K51 hK52 => ?_
    refine rw_cons (op_lv (w0 rfl) rfl rfl (lv_loadN T25 rfl rfl rfl (fun j v hv => hB30.cellA hv)) ?_)
    refine rw_cons (op_store_blk T25 hB8 (w0 rfl) rfl rfl rfl rfl rfl (one_all rfl) (Nat.le_of_ble_eq_true rfl) ?_)
    rintro w53 hB55 hch54
    have hsz56 := hch54.size
    replace hRd := hRd.ch hch54 (off1 (by omega))
    replace hO21 := hO21.ch hch54 (fun s hs => by first | (have := hO21.off s hs; simp; omega) | (have := hub22 s hs; simp; omega))
    replace hB30 := hB30.ch hch54 (by simp; omega)
    replace hc := hc.step hch54 (fun s hs => by simp at hs; first | (left; simp; omega) | (right; omega))
    replace hB8 : Blk w53 g6 25 [(.int .i64 0), (.slice A19 xs18.length c20)] := hB55
    clear hB55
    refine rw_nil (hK52 _ _ ?_)
    refine hK50 _ _ ?_
    refine cw_ret ?_
    refine finC T25 rfl rfl (fun j v hv => hB8.cellA hv) ?_
    exact ⟨_, _, _, _, (agg2 rfl (sl_as hO21 rfl)), own_as (hO21.less (by omega)) rfl, by first | omega | (simp only [List.length_take, List.length_set, List.length_append, List.length_cons, List.length_nil, List.length_replicate]; omega), hRd.up (by omega), hc⟩
  · -- else
    replace h48 := not_f h48
    replace h48 := dec_t h48
    refine cw_skip ?_
    refine hK40 _ _ ?_
    refine cw_seq fun K57 hK58 => ?_
    refine cw_region fun K59 hK60 => ?_
    refine rw_cons (op_pv (w0 rfl) rfl rfl (pv_fld F25_1 rfl rfl) ?_)
    refine rw_cons (op_lv (w0 rfl) rfl rfl (lv_load T23 rfl rfl (hB30.cellA (i := 1) rfl)) ?_)
    refine rw_cons (op_call (w0 rfl) rfl rfl (rc_call C30 rfl rfl) (l33Some_ok _ xs18.length _ xs18 _ (hO21.rs (fun _ => rfl)) (by omega)) ?_)
    rintro _ w61 ⟨rfl, hch62⟩
    have hsz63 := hch62.size
    replace hRd := hRd.ch0 hch62
    replace hB8 := hB8.ch0 hch62
    replace hO21 := hO21.ch0 hch62
    replace hB30 := hB30.ch0 hch62
    replace hc := hc.step0 hch62
    have hnt64 := someL_le xs18
    refine rw_cons (op_pv (w0 rfl) rfl rfl (pv_move (v := (.pointer (some (⟨g, 0, none⟩)))) rfl rfl) ?_)
    refine rw_cons (op_call (w0 rfl) rfl rfl (rc_call C49 rfl rfl) (pick_ok _ _ _ _ hRd (by omega)) ?_)
    rintro _ w66 ⟨r65, rfl, hr67, hr68, hr69, hRd70, hch71⟩
    have hsz72 := hch71.size
    replace hB8 := hB8.ch hch71 (by simp; omega)
    replace hO21 := hO21.ch hch71 (fun s hs => by first | (have := hO21.off s hs; simp; omega) | (have := hub22 s hs; simp; omega))
    replace hB30 := hB30.ch hch71 (by simp; omega)
    replace hc := hc.step hch71 (fun s hs => .inl hs)
    clear hRd; have hRd := hRd70; clear hRd70
    refine rw_cons (op_pv (w0 rfl) rfl rfl (pv_add rfl rfl rfl (by omega) (by omega)) ?_)
    refine rw_cons (op_pv (w0 rfl) rfl rfl (pv_mul rfl rfl rfl (by first | exact mul_lo (by omega) (by omega) (by omega) (by omega)) (by first | exact mul_hi (by omega) (by omega) (by omega) (by omega))) ?_)
    refine rw_cons (op_pv (w0 rfl) rfl rfl (pv_fld F25_0 rfl rfl) ?_)
    refine rw_cons (op_store_blk T3 hB30 (w0 rfl) rfl rfl rfl rfl rfl (one_all rfl) (Nat.le_of_ble_eq_true rfl) ?_)
    rintro w73 hB75 hch74
    have hsz76 := hch74.size
    replace hRd := hRd.ch hch74 (off1 (by omega))
    replace hB8 := hB8.ch hch74 (by simp; omega)
    replace hO21 := hO21.ch hch74 (fun s hs => by have := dj_asg hdj34 s hs; simpa using this)
    replace hc := hc.step hch74 (fun s hs => by simp at hs; first | (left; simp; omega) | (right; omega))
    replace hB30 : Blk w73 g28 25 [(.int .i64 ((someL xs18 : Int) * (1 + r65))), (.slice A19 xs18.length c20)] := hB75
    clear hB75
    refine rw_nil (hK60 _ _ ?_)
    refine hK58 _ _ ?_
    refine cw_seq fun K77 hK78 => ?_
    refine cw_seq fun K79 hK80 => ?_
    refine cw_region fun K81 hK82 => ?_
    refine rw_cons (op_pv (w0 rfl) rfl rfl (pv_move (v := (.pointer (some (⟨g, 0, none⟩)))) rfl rfl) ?_)
    refine rw_cons (op_call (w0 rfl) rfl rfl (rc_call C49 rfl rfl) (pick_ok _ _ _ _ hRd (by omega)) ?_)
    rintro _ w84 ⟨r83, rfl, hr85, hr86, hr87, hRd88, hch89⟩
    have hsz90 := hch89.size
    replace hB8 := hB8.ch hch89 (by simp; omega)
    replace hO21 := hO21.ch hch89 (fun s hs => by first | (have := hO21.off s hs; simp; omega) | (have := hub22 s hs; simp; omega))
    replace hB30 := hB30.ch hch89 (by simp; omega)
    replace hc := hc.step hch89 (fun s hs => .inl hs)
    clear hRd; have hRd := hRd88; clear hRd88
    refine rw_cons (op_pv (w0 rfl) rfl rfl (pv_eql rfl rfl rfl) ?_)
    refine rw_nil (hK82 _ _ ?_)
    refine hK80 _ _ ?_
    refine cw_cond rfl (fun h91 => ?_) (fun h91 => ?_)
    · -- then
      replace h91 := of_decide_eq_true h91
      refine cw_region fun K92 hK93 => ?_
      refine rw_cons (op_bslice [(.int .i64 (-1)), (.int .i64 0), (.int .i64 1), (.int .i64 999), (.int .i64 1000)] Try.underlying23 T3 (w0 rfl) rfl rfl rfl rfl rfl (by simp [Value.cells]) (by decide) ?_)
      intro g95 w94 hg98 hg99 hK97 hch96
      have hO100 : Own encI 1 w94 w84.heap.size 3 (.slice (some ⟨g95, 0, none⟩) 5 5) ([-1, 0, 1, 999, 1000] : List Int) := Blk.own (xs := ([-1, 0, 1, 999, 1000] : List Int)) hK97 (by omega) rfl (by decide) rfl
      have hsz101 := hch96.size
      replace hRd := hRd.ch0 hch96
      replace hB8 := hB8.ch0 hch96
      replace hO21 := hO21.ch0 hch96
      replace hB30 := hB30.ch0 hch96
      replace hc := hc.step0 hch96
      have hub102 := hO100.lt
      refine rw_cons (op_pv (w0 rfl) rfl rfl (pv_move (v := (.pointer (some (⟨g, 0, none⟩)))) rfl rfl) ?_)
      refine rw_cons (op_call (w0 rfl) rfl rfl (rc_call C49 rfl rfl) (pick_ok _ _ _ _ hRd (by omega)) ?_)
      rintro _ w104 ⟨r103, rfl, hr105, hr106, hr107, hRd108, hch109⟩
      have hsz110 := hch109.size
      replace hB8 := hB8.ch hch109 (by simp; omega)
      replace hO21 := hO21.ch hch109 (fun s hs => by first | (have := hO21.off s hs; simp; omega) | (have := hub22 s hs; simp; omega))
      replace hB30 := hB30.ch hch109 (by simp; omega)
      replace hO100 := hO100.ch hch109 (fun s hs => by first | (have := hO100.off s hs; simp; omega) | (have := hub102 s hs; simp; omega))
      replace hc := hc.step hch109 (fun s hs => .inl hs)
      clear hRd; have hRd := hRd108; clear hRd108
      refine rw_cons (op_pv (w0 rfl) rfl rfl (pv_idx Try.underlying23 T3 rfl rfl rfl ((hO100.rs (fun _ => rfl)).some (k := (r103).toNat) (by omega)) (by omega) (by omega)) ?_)
      refine rw_cons (op_lv (w0 rfl) rfl rfl (lv_load T3 rfl rfl ((hO100.rs (fun _ => rfl)).cell0 (k := (r103).toNat) (by omega) rfl)) ?_)
      refine rw_cons (op_pv (w0 rfl) rfl rfl (pv_fld F25_0 rfl rfl) ?_)
      refine rw_cons (op_store_blk T3 hB30 (w0 rfl) rfl rfl rfl rfl rfl (one_all rfl) (Nat.le_of_ble_eq_true rfl) ?_)
      rintro w111 hB113 hch112
      have hsz114 := hch112.size
      replace hRd := hRd.ch hch112 (off1 (by omega))
      replace hB8 := hB8.ch hch112 (by simp; omega)
      replace hO21 := hO21.ch hch112 (fun s hs => by have := dj_asg hdj34 s hs; simpa using this)
      replace hO100 := hO100.ch hch112 (fun s hs => by first | (have := hO100.off s hs; simp; omega) | (have := hub102 s hs; simp; omega))
      replace hc := hc.step hch112 (fun s hs => by simp at hs; first | (left; simp; omega) | (right; omega))
      replace hB30 : Blk w111 g28 25 [(.int .i64 (el ([-1, 0, 1, 999, 1000] : List Int) (r103).toNat)), (.slice A19 xs18.length c20)] := hB113
      clear hB113
      refine rw_nil (hK93 _ _ ?_)
      refine hK78 _ _ ?_
      refine cw_seq fun K115 hK116 => ?_
      refine cw_region fun K117 hK118 => ?_
      refine rw_cons (op_lv (w0 rfl) rfl rfl (lv_loadN T25 rfl rfl rfl (fun j v hv => hB30.cellA hv)) ?_)
      refine rw_cons (op_store_blk T25 hB8 (w0 rfl) rfl rfl rfl rfl rfl (one_all rfl) (Nat.le_of_ble_eq_true rfl) ?_)
      rintro w119 hB121 hch120
      have hsz122 := hch120.size
      replace hRd := hRd.ch hch120 (off1 (by omega))
      replace hO21 := hO21.ch hch120 (fun s hs => by first | (have := hO21.off s hs; simp; omega) | (have := hub22 s hs; simp; omega))
      replace hB30 := hB30.ch hch120 (by simp; omega)
      replace hO100 := hO100.ch hch120 (fun s hs => by first | (have := hO100.off s hs; simp; omega) | (have := hub102 s hs; simp; omega))
      replace hc := hc.step hch120 (fun s hs => by simp at hs; first | (left; simp; omega) | (right; omega))
      replace hB8 : Blk w119 g6 25 [(.int .i64 (el ([-1, 0, 1, 999, 1000] : List Int) (r103).toNat)), (.slice A19 xs18.length c20)] := hB121
      clear hB121
      refine rw_nil (hK118 _ _ ?_)
      refine hK116 _ _ ?_
      refine cw_ret ?_
      refine finC T25 rfl rfl (fun j v hv => hB8.cellA hv) ?_
      exact ⟨_, _, _, _, (agg2 rfl (sl_as hO21 rfl)), own_as (hO21.less (by omega)) rfl, by first | omega | (simp only [List.length_take, List.length_set, List.length_append, List.length_cons, List.length_nil, List.length_replicate]; omega), hRd.up (by omega), hc⟩
    · -- else
      replace h91 := of_decide_eq_false h91
      refine cw_skip ?_
      refine hK78 _ _ ?_
      refine cw_seq fun K123 hK124 => ?_
      refine cw_region fun K125 hK126 => ?_
      refine rw_cons (op_lv (w0 rfl) rfl rfl (lv_loadN T25 rfl rfl rfl (fun j v hv => hB30.cellA hv)) ?_)
      refine rw_cons (op_store_blk T25 hB8 (w0 rfl) rfl rfl rfl rfl rfl (one_all rfl) (Nat.le_of_ble_eq_true rfl) ?_)
      rintro w127 hB129 hch128
      have hsz130 := hch128.size
      replace hRd := hRd.ch hch128 (off1 (by omega))
      replace hO21 := hO21.ch hch128 (fun s hs => by first | (have := hO21.off s hs; simp; omega) | (have := hub22 s hs; simp; omega))
      replace hB30 := hB30.ch hch128 (by simp; omega)
      replace hc := hc.step hch128 (fun s hs => by simp at hs; first | (left; simp; omega) | (right; omega))
      replace hB8 : Blk w127 g6 25 [(.int .i64 ((someL xs18 : Int) * (1 + r65))), (.slice A19 xs18.length c20)] := hB129
      clear hB129
      refine rw_nil (hK126 _ _ ?_)
      refine hK124 _ _ ?_
      refine cw_ret ?_
      refine finC T25 rfl rfl (fun j v hv => hB8.cellA hv) ?_
      exact ⟨_, _, _, _, (agg2 rfl (sl_as hO21 rfl)), own_as (hO21.less (by omega)) rfl, by first | omega | (simp only [List.length_take, List.length_set, List.length_append, List.length_cons, List.length_nil, List.length_replicate]; omega), hRd.up (by omega), hc⟩
end Go.Proofs.Ytpnenfglogggmaa
