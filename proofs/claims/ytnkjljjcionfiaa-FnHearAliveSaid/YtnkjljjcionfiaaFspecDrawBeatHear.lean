/-
  The walk of spec.DrawBeatHear, written by program: each line names the law of one operation. Conditions: those of the theorem.
-/
import Derived.Test.YtnkjljjcionfiaaProg
import Derived.Test.YtnkjljjcionfiaaBeats
import Derived.Test.YtnkjljjcionfiaaFspecl6Open
import Derived.Test.YtnkjljjcionfiaaFspecl92Beats
import Derived.KernelRfl
namespace Go.Proofs.Ytnkjljjcionfiaa
open Go Go.RowKit
set_option linter.unusedVariables false
set_option linter.unusedSimpArgs false
namespace DrawBeatHear_okF
theorem T3 : TI Try.prog 3 false (.int .i64 0) 1 8 := TI.mk' Try.underlying3 rfl (by kernel_rfl)
theorem T39 : TI Try.prog 39 true (.agg #[.int .i64 0, .int .i64 0]) 2 16 := TI.mk' Try.underlying39 rfl (by kernel_rfl)
theorem F39_0 : FldOK Try.prog 39 0 0 := ⟨_, _, 0, Try.underlying39, rfl, rfl, by kernel_rfl⟩
theorem C40 : Callable Try.prog 40 := ⟨_, Try.func40, by kernel_rfl, by kernel_rfl⟩
theorem C41 : Callable Try.prog 41 := ⟨_, Try.func41, by kernel_rfl, by kernel_rfl⟩
theorem C45 : Callable Try.prog 45 := ⟨_, Try.func45, by kernel_rfl, by kernel_rfl⟩
theorem B39_0I_1I (a0 : Int) (a1 : Int) (u : World) : (Instr.build 39 #[(0, .int .i64 a0), (1, .int .i64 a1)]).run Try.prog u = .ok (.agg #[.int .i64 a0, .int .i64 a1]) u := by kernel_rfl
end DrawBeatHear_okF
open DrawBeatHear_okF in
set_option maxHeartbeats 4000000 in
theorem DrawBeatHear_ok (A : Option Addr) (n c : Nat) (bs : List UInt8) (w : World) (hR : RS encU 1 w w.heap.size A n bs) (hn : n ≤ c) :
    Fn Try.prog 34 [(.slice A n c)] w fun v w' => ∃ A1 c1 xs s a, v = .tuple #[.slice A1 xs.length c1, .agg #[.int .i64 s, .int .i64 a]] ∧ Own encB 2 w' w.heap.size 39 (.slice A1 xs.length c1) xs ∧ xs.length ≤ 8 ∧ Ch [] w w' := by
  refine fn_of (n := 45) Try.func34 rfl rfl rfl rfl ?_
  have hc : Ch [] w w := Ch.refl _ _
  refine cw_seq fun K1 hK2 => ?_
  refine cw_region fun K3 hK4 => ?_
  refine rw_cons (op_pv (w0 rfl) rfl rfl (pv_assign (v := (.slice none 0 0)) rfl rfl) ?_)
  refine rw_cons (op_alloc T39 (w0 rfl) rfl rfl rfl ?_)
  rintro g6 w5 hg9 hg10 hB8 hch7
  have hsz11 := hch7.size
  replace hR := hR.ch0 hch7
  replace hc := hc.step0 hch7
  replace hB8 : Blk w5 g6 39 [(.int .i64 0), (.int .i64 0)] := hB8
  refine rw_nil (hK4 _ _ ?_)
  refine hK2 _ _ ?_
  refine cw_seq fun K12 hK13 => ?_
  refine cw_region fun K14 hK15 => ?_
  refine rw_cons (op_pv (w0 rfl) rfl rfl (pv_move (v := (.slice A n c)) rfl rfl) ?_)
  refine rw_cons (op_call (w0 rfl) rfl rfl (rc_call C41 rfl rfl) (l6Open_ok _ _ _ _ _ (hR.more (by omega)) (by omega)) ?_)
  rintro _ w17 ⟨g16, rfl, hg18, hRd19, hch20⟩
  have hsz21 := hch20.size
  replace hR := hR.ch0 hch20
  replace hB8 := hB8.ch0 hch20
  replace hc := hc.step0 hch20
  have hlt22 := hRd19.lt
  refine rw_cons (op_pv (w0 rfl) rfl rfl (pv_assign (v := (.pointer (some (⟨g16, 0, none⟩)))) rfl rfl) ?_)
  refine rw_nil (hK15 _ _ ?_)
  refine hK13 _ _ ?_
  refine cw_seq fun K23 hK24 => ?_
  refine cw_region fun K25 hK26 => ?_
  refine rw_cons (op_pv (w0 rfl) rfl rfl (pv_move (v := (.pointer (some (⟨g16, 0, none⟩)))) rfl rfl) ?_)
  refine rw_cons (op_call (w0 rfl) rfl rfl (rc_call C40 rfl rfl) (l92Beats_ok _ _ _ hRd19 (by omega)) ?_)
  rintro _ w27 ⟨A31, c32, xs33, rfl, hO34, hl28, hRd29, hch30⟩
  have hsz36 := hch30.size
  replace hR := hR.ch hch30 (off1 (by omega))
  replace hB8 := hB8.ch hch30 (by simp; omega)
  replace hc := (off1 (by omega)).step hc hch30
  clear hRd19; have hRd19 := hRd29; clear hRd29
  have hub35 := hO34.lt
  have hcap37 : xs33.length ≤ c32 := by obtain ⟨_, _, hv, h1, _⟩ := hO34.form; injection hv with _ _ h3; omega
  refine rw_cons (op_pv (w0 rfl) rfl rfl (pv_assign (v := (.slice A31 xs33.length c32)) rfl rfl) ?_)
  refine rw_nil (hK26 _ _ ?_)
  refine hK24 _ _ ?_
  refine cw_seq fun K38 hK39 => ?_
  refine cw_region fun K40 hK41 => ?_
  refine rw_cons (op_pv (w0 rfl) rfl rfl (pv_move (v := (.pointer (some (⟨g16, 0, none⟩)))) rfl rfl) ?_)
  refine rw_cons (op_call (w0 rfl) rfl rfl (rc_call C45 rfl rfl) (pick_ok _ _ _ _ hRd19 (by omega)) ?_)
  rintro _ w43 ⟨r42, rfl, hr44, hr45, hr46, hRd47, hch48⟩
  have hsz49 := hch48.size
  replace hR := hR.ch hch48 (off1 (by omega))
  replace hB8 := hB8.ch hch48 (by simp; omega)
  replace hO34 := hO34.ch hch48 (fun s hs => by first | (have := hO34.off s hs; simp; omega) | (have := hub35 s hs; simp; omega))
  replace hc := (off1 (by omega)).step hc hch48
  clear hRd19; have hRd19 := hRd47; clear hRd47
  refine rw_cons (op_pv (w0 rfl) rfl rfl (pv_add rfl rfl rfl (by omega) (by omega)) ?_)
  refine rw_cons (op_pv (w0 rfl) rfl rfl (pv_move (v := (.pointer (some (⟨g16, 0, none⟩)))) rfl rfl) ?_)
  refine rw_cons (op_call (w0 rfl) rfl rfl (rc_call C45 rfl rfl) (pick_ok _ _ _ _ hRd19 (by omega)) ?_)
  rintro _ w51 ⟨r50, rfl, hr52, hr53, hr54, hRd55, hch56⟩
  have hsz57 := hch56.size
  replace hR := hR.ch hch56 (off1 (by omega))
  replace hB8 := hB8.ch hch56 (by simp; omega)
  replace hO34 := hO34.ch hch56 (fun s hs => by first | (have := hO34.off s hs; simp; omega) | (have := hub35 s hs; simp; omega))
  replace hc := (off1 (by omega)).step hc hch56
  clear hRd19; have hRd19 := hRd55; clear hRd55
  refine rw_cons (op_pv (w0 rfl) rfl rfl (pv_build rfl rfl (B39_0I_1I _ _)) ?_)
  refine rw_cons (op_alloc T39 (w0 rfl) rfl rfl rfl ?_)
  rintro g59 w58 hg62 hg63 hB61 hch60
  have hsz64 := hch60.size
  replace hR := hR.ch0 hch60
  replace hB8 := hB8.ch0 hch60
  replace hRd19 := hRd19.ch0 hch60
  replace hO34 := hO34.ch0 hch60
  replace hc := hc.step0 hch60
  replace hB61 : Blk w58 g59 39 [(.int .i64 0), (.int .i64 0)] := hB61
  have hdj65 : ∀ s ∈ obl (.slice A31 xs33.length c32), s ≠ g59 := fun s hs => by have := hub35 s hs; omega
  refine rw_cons (op_store_blk T39 hB61 (w0 rfl) rfl rfl rfl rfl rfl (one_all rfl) (Nat.le_of_ble_eq_true rfl) ?_)
  rintro w66 hB68 hch67
  have hsz69 := hch67.size
  replace hR := hR.ch hch67 (off1 (by omega))
  replace hB8 := hB8.ch hch67 (by simp; omega)
  replace hRd19 := hRd19.ch hch67 (off1 (by omega))
  replace hO34 := hO34.ch hch67 (fun s hs => by have := dj_asg hdj65 s hs; simpa using this)
  replace hc := (off1 (by omega)).step hc hch67
  replace hB61 : Blk w66 g59 39 [(.int .i64 (1 + r42)), (.int .i64 r50)] := hB68
  clear hB68
  refine rw_nil (hK41 _ _ ?_)
  refine hK39 _ _ ?_
  refine cw_seq fun K70 hK71 => ?_
  refine cw_seq fun K72 hK73 => ?_
  refine cw_region fun K74 hK75 => ?_
  refine rw_cons (op_pv (w0 rfl) rfl rfl (pv_move (v := (.slice A31 xs33.length c32)) rfl rfl) ?_)
  refine rw_cons (op_pv (w0 rfl) rfl rfl (pv_len Try.underlying23 rfl rfl) ?_)
  refine rw_cons (op_pv (w0 rfl) rfl rfl (pv_gtr rfl rfl rfl) ?_)
  refine rw_cons (op_pv (w0 rfl) rfl rfl (pv_move (v := (.bool (decide (0 < (xs33.length : Int))))) rfl rfl) ?_)
  refine rw_split 20 rfl (fun hb76 => ?_) (fun hb76 => ?_)
  · -- yes
    replace hb76 := of_decide_eq_true hb76
    refine rw_cons (op_pv (w1y rfl rfl rfl rfl) rfl rfl (pv_move (v := (.pointer (some (⟨g16, 0, none⟩)))) rfl rfl) ?_)
    refine rw_cons (op_call (w1y rfl rfl rfl rfl) rfl rfl (rc_call C45 rfl rfl) (pick_ok _ _ _ _ hRd19 (by omega)) ?_)
    rintro _ w78 ⟨r77, rfl, hr79, hr80, hr81, hRd82, hch83⟩
    have hsz84 := hch83.size
    replace hR := hR.ch hch83 (off1 (by omega))
    replace hB8 := hB8.ch hch83 (by simp; omega)
    replace hO34 := hO34.ch hch83 (fun s hs => by first | (have := hO34.off s hs; simp; omega) | (have := hub35 s hs; simp; omega))
    replace hB61 := hB61.ch hch83 (by simp; omega)
    replace hc := (off1 (by omega)).step hc hch83
    clear hRd19; have hRd19 := hRd82; clear hRd82
    refine rw_cons (op_pv (w1y rfl rfl rfl rfl) rfl rfl (pv_eql rfl rfl rfl) ?_)
    refine rw_cons (op_pv (w0 rfl) rfl rfl (pv_pickT (v := (.bool (decide ((r77 : Int) = 0)))) rfl rfl rfl) ?_)
    refine rw_nil (hK75 _ _ ?_)
    refine hK73 _ _ ?_
    refine cw_cond rfl (fun h85 => ?_) (fun h85 => ?_)
    · -- then
      replace h85 := of_decide_eq_true h85
      refine cw_region fun K86 hK87 => ?_
      refine rw_cons (op_pv (w0 rfl) rfl rfl (pv_move (v := (.slice A31 xs33.length c32)) rfl rfl) ?_)
      refine rw_cons (op_pv (w0 rfl) rfl rfl (pv_move (v := (.pointer (some (⟨g16, 0, none⟩)))) rfl rfl) ?_)
      refine rw_cons (op_pv (w0 rfl) rfl rfl (pv_move (v := (.slice A31 xs33.length c32)) rfl rfl) ?_)
      refine rw_cons (op_pv (w0 rfl) rfl rfl (pv_len Try.underlying23 rfl rfl) ?_)
      refine rw_cons (op_call (w0 rfl) rfl rfl (rc_call C45 rfl rfl) (pick_ok _ _ _ _ hRd19 (by omega)) ?_)
      rintro _ w89 ⟨r88, rfl, hr90, hr91, hr92, hRd93, hch94⟩
      have hsz95 := hch94.size
      replace hR := hR.ch hch94 (off1 (by omega))
      replace hB8 := hB8.ch hch94 (by simp; omega)
      replace hO34 := hO34.ch hch94 (fun s hs => by first | (have := hO34.off s hs; simp; omega) | (have := hub35 s hs; simp; omega))
      replace hB61 := hB61.ch hch94 (by simp; omega)
      replace hc := (off1 (by omega)).step hc hch94
      clear hRd19; have hRd19 := hRd93; clear hRd93
      refine rw_cons (op_pv (w0 rfl) rfl rfl (pv_idx Try.underlying23 T39 rfl rfl rfl ((hO34.rs (fun _ => rfl)).some (k := (r88).toNat) (by omega)) (by omega) (by omega)) ?_)
      refine rw_cons (op_pv (w0 rfl) rfl rfl (pv_fld F39_0 rfl rfl) ?_)
      refine rw_cons (op_lv (w0 rfl) rfl rfl (lv_load T3 rfl rfl ((hO34.rs (fun _ => rfl)).cellE (k := (r88).toNat) (j := 0) (by omega) rfl)) ?_)
      refine rw_cons (op_pv (w0 rfl) rfl rfl (pv_fld F39_0 rfl rfl) ?_)
      refine rw_cons (op_store_blk T3 hB61 (w0 rfl) rfl rfl rfl rfl rfl (one_all rfl) (Nat.le_of_ble_eq_true rfl) ?_)
      rintro w96 hB98 hch97
      have hsz99 := hch97.size
      replace hR := hR.ch hch97 (off1 (by omega))
      replace hB8 := hB8.ch hch97 (by simp; omega)
      replace hRd19 := hRd19.ch hch97 (off1 (by omega))
      replace hO34 := hO34.ch hch97 (fun s hs => by have := dj_asg hdj65 s hs; simpa using this)
      replace hc := (off1 (by omega)).step hc hch97
      replace hB61 : Blk w96 g59 39 [(.int .i64 (el xs33 (r88).toNat).s), (.int .i64 r50)] := hB98
      clear hB98
      refine rw_nil (hK87 _ _ ?_)
      refine hK71 _ _ ?_
      refine cw_seq fun K100 hK101 => ?_
      refine cw_seq fun K102 hK103 => ?_
      refine cw_region fun K104 hK105 => ?_
      refine rw_cons (op_pv (w0 rfl) rfl rfl (pv_move (v := (.pointer (some (⟨g16, 0, none⟩)))) rfl rfl) ?_)
      refine rw_cons (op_call (w0 rfl) rfl rfl (rc_call C45 rfl rfl) (pick_ok _ _ _ _ hRd19 (by omega)) ?_)
      rintro _ w107 ⟨r106, rfl, hr108, hr109, hr110, hRd111, hch112⟩
      have hsz113 := hch112.size
      replace hR := hR.ch hch112 (off1 (by omega))
      replace hB8 := hB8.ch hch112 (by simp; omega)
      replace hO34 := hO34.ch hch112 (fun s hs => by first | (have := hO34.off s hs; simp; omega) | (have := hub35 s hs; simp; omega))
      replace hB61 := hB61.ch hch112 (by simp; omega)
      replace hc := (off1 (by omega)).step hc hch112
      clear hRd19; have hRd19 := hRd111; clear hRd111
      refine rw_cons (op_pv (w0 rfl) rfl rfl (pv_eql rfl rfl rfl) ?_)
      refine rw_nil (hK105 _ _ ?_)
      refine hK103 _ _ ?_
      refine cw_cond rfl (fun h114 => ?_) (fun h114 => ?_)
      · -- then
        replace h114 := of_decide_eq_true h114
        refine cw_region fun K115 hK116 => ?_
        refine rw_cons (op_bslice [(.int .i64 0), (.int .i64 100)] Try.underlying34 T3 (w0 rfl) rfl rfl rfl rfl rfl (by simp [Value.cells]) (by decide) ?_)
        intro g118 w117 hg121 hg122 hK120 hch119
        have hO123 : Own encI 1 w117 w107.heap.size 3 (.slice (some ⟨g118, 0, none⟩) 2 2) ([0, 100] : List Int) := Blk.own (xs := ([0, 100] : List Int)) hK120 (by omega) rfl (by decide) rfl
        have hsz124 := hch119.size
        replace hR := hR.ch0 hch119
        replace hB8 := hB8.ch0 hch119
        replace hRd19 := hRd19.ch0 hch119
        replace hO34 := hO34.ch0 hch119
        replace hB61 := hB61.ch0 hch119
        replace hc := hc.step0 hch119
        have hub125 := hO123.lt
        refine rw_cons (op_pv (w0 rfl) rfl rfl (pv_move (v := (.pointer (some (⟨g16, 0, none⟩)))) rfl rfl) ?_)
        refine rw_cons (op_call (w0 rfl) rfl rfl (rc_call C45 rfl rfl) (pick_ok _ _ _ _ hRd19 (by omega)) ?_)
        rintro _ w127 ⟨r126, rfl, hr128, hr129, hr130, hRd131, hch132⟩
        have hsz133 := hch132.size
        replace hR := hR.ch hch132 (off1 (by omega))
        replace hB8 := hB8.ch hch132 (by simp; omega)
        replace hO34 := hO34.ch hch132 (fun s hs => by first | (have := hO34.off s hs; simp; omega) | (have := hub35 s hs; simp; omega))
        replace hB61 := hB61.ch hch132 (by simp; omega)
        replace hO123 := hO123.ch hch132 (fun s hs => by first | (have := hO123.off s hs; simp; omega) | (have := hub125 s hs; simp; omega))
        replace hc := (off1 (by omega)).step hc hch132
        clear hRd19; have hRd19 := hRd131; clear hRd131
        refine rw_cons (op_pv (w0 rfl) rfl rfl (pv_idx Try.underlying34 T3 rfl rfl rfl ((hO123.rs (fun _ => rfl)).some (k := (r126).toNat) (by omega)) (by omega) (by omega)) ?_)
        refine rw_cons (op_lv (w0 rfl) rfl rfl (lv_load T3 rfl rfl ((hO123.rs (fun _ => rfl)).cell0 (k := (r126).toNat) (by omega) rfl)) ?_)
        refine rw_cons (op_pv (w0 rfl) rfl rfl (pv_fld F39_0 rfl rfl) ?_)
        refine rw_cons (op_store_blk T3 hB61 (w0 rfl) rfl rfl rfl rfl rfl (one_all rfl) (Nat.le_of_ble_eq_true rfl) ?_)
        rintro w134 hB136 hch135
        have hsz137 := hch135.size
        replace hR := hR.ch hch135 (off1 (by omega))
        replace hB8 := hB8.ch hch135 (by simp; omega)
        replace hRd19 := hRd19.ch hch135 (off1 (by omega))
        replace hO34 := hO34.ch hch135 (fun s hs => by have := dj_asg hdj65 s hs; simpa using this)
        replace hO123 := hO123.ch hch135 (fun s hs => by first | (have := hO123.off s hs; simp; omega) | (have := hub125 s hs; simp; omega))
        replace hc := (off1 (by omega)).step hc hch135
        replace hB61 : Blk w134 g59 39 [(.int .i64 (el ([0, 100] : List Int) (r126).toNat)), (.int .i64 r50)] := hB136
        clear hB136
        refine rw_nil (hK116 _ _ ?_)
        refine hK101 _ _ ?_
        refine cw_seq fun K138 hK139 => ?_
        clear hRd19
        refine cw_drawn (fun u => Ch [] w134 u) (.free 0 (.free 1 (.free 2 (.one 3 false (.done))))) (by kernel_rfl) (by kernel_rfl) (Ch.refl _ _).drew fun K143 hK144 => ?_
        obtain ⟨w140, hw_, hch141, hsz142⟩ : ∃ w1 : World, w1 = w134.drew ∧ Ch [] w134 w1 ∧ w1.heap.size = w134.heap.size := ⟨_, rfl, (Ch.refl _ _).drew, rfl⟩
        rw [← hw_]; clear hw_
        have hr145 : Ch [] w134 w140 := hch141.sub (fun s hs => by cases hs)
        have hR_r := hR
        have hB8_r := hB8
        have hO34_r := hO34
        have hB61_r := hB61
        have hO123_r := hO123
        have hsz146 := hch141.size
        replace hR := hR.ch0 hch141
        replace hB8 := hB8.ch0 hch141
        replace hO34 := hO34.ch0 hch141
        replace hB61 := hB61.ch0 hch141
        replace hO123 := hO123.ch0 hch141
        replace hc := hc.step0 hch141
        refine tw_free rfl (w0 rfl) rfl rfl (fun u hu => (pv_move (v := (.slice A31 xs33.length c32)) rfl rfl : PV _ _ _ _) u) ?_
        refine tw_free rfl (w0 rfl) rfl rfl (fun u hu => lv_loadN T39 rfl rfl rfl (fun j v hv => (hB61_r.ch hu (by simp)).cellA hv)) ?_
        refine tw_free rfl (w0 rfl) rfl rfl (fun u hu => (pv_assign (v := (.slice A31 xs33.length c32)) rfl rfl : PV _ _ _ _) u) ?_
        refine tw_one rfl (op_store_blk T39 hB8 (w0 rfl) rfl rfl rfl rfl rfl (one_all rfl) (Nat.le_of_ble_eq_true rfl) ?_)
        rintro w147 hB149 hch148
        have hsz150 := hch148.size
        replace hR := hR.ch hch148 (off1 (by omega))
        replace hO34 := hO34.ch hch148 (fun s hs => by first | (have := hO34.off s hs; simp; omega) | (have := hub35 s hs; simp; omega))
        replace hB61 := hB61.ch hch148 (by simp; omega)
        replace hO123 := hO123.ch hch148 (fun s hs => by first | (have := hO123.off s hs; simp; omega) | (have := hub125 s hs; simp; omega))
        replace hc := (off1 (by omega)).step hc hch148
        clear hr145
        replace hB8 : Blk w147 g6 39 [(.int .i64 (el ([0, 100] : List Int) (r126).toNat)), (.int .i64 r50)] := hB149
        clear hB149
        refine ⟨fun h => (by cases h), ?_⟩
        clear hB61_r
        clear hB8_r
        clear hO123_r
        clear hO34_r
        clear hR_r
        refine tw_done (hK144 _ _ ?_)
        refine hK139 _ _ ?_
        refine cw_ret ?_
        refine finTC T39 rfl rfl rfl (fun j v hv => hB8.cellA hv) ?_
        exact ⟨_, _, _, _, _, tup2 (sl_as hO34 rfl) rfl, own_as (hO34.less (by omega)) rfl, by omega, hc⟩
      · -- else
        replace h114 := of_decide_eq_false h114
        refine cw_skip ?_
        refine hK101 _ _ ?_
        refine cw_seq fun K151 hK152 => ?_
        clear hRd19
        refine cw_drawn (fun u => Ch [] w107 u) (.free 0 (.free 1 (.free 2 (.one 3 false (.done))))) (by kernel_rfl) (by kernel_rfl) (Ch.refl _ _).drew fun K156 hK157 => ?_
        obtain ⟨w153, hw_, hch154, hsz155⟩ : ∃ w1 : World, w1 = w107.drew ∧ Ch [] w107 w1 ∧ w1.heap.size = w107.heap.size := ⟨_, rfl, (Ch.refl _ _).drew, rfl⟩
        rw [← hw_]; clear hw_
        have hr158 : Ch [] w107 w153 := hch154.sub (fun s hs => by cases hs)
        have hR_r := hR
        have hB8_r := hB8
        have hO34_r := hO34
        have hB61_r := hB61
        have hsz159 := hch154.size
        replace hR := hR.ch0 hch154
        replace hB8 := hB8.ch0 hch154
        replace hO34 := hO34.ch0 hch154
        replace hB61 := hB61.ch0 hch154
        replace hc := hc.step0 hch154
        refine tw_free rfl (w0 rfl) rfl rfl (fun u hu => (pv_move (v := (.slice A31 xs33.length c32)) rfl rfl : PV _ _ _ _) u) ?_
        refine tw_free rfl (w0 rfl) rfl rfl (fun u hu => lv_loadN T39 rfl rfl rfl (fun j v hv => (hB61_r.ch hu (by simp)).cellA hv)) ?_
        refine tw_free rfl (w0 rfl) rfl rfl (fun u hu => (pv_assign (v := (.slice A31 xs33.length c32)) rfl rfl : PV _ _ _ _) u) ?_
        refine tw_one rfl (op_store_blk T39 hB8 (w0 rfl) rfl rfl rfl rfl rfl (one_all rfl) (Nat.le_of_ble_eq_true rfl) ?_)
        rintro w160 hB162 hch161
        have hsz163 := hch161.size
        replace hR := hR.ch hch161 (off1 (by omega))
        replace hO34 := hO34.ch hch161 (fun s hs => by first | (have := hO34.off s hs; simp; omega) | (have := hub35 s hs; simp; omega))
        replace hB61 := hB61.ch hch161 (by simp; omega)
        replace hc := (off1 (by omega)).step hc hch161
        clear hr158
        replace hB8 : Blk w160 g6 39 [(.int .i64 (el xs33 (r88).toNat).s), (.int .i64 r50)] := hB162
        clear hB162
        refine ⟨fun h => (by cases h), ?_⟩
        clear hB61_r
        clear hB8_r
        clear hO34_r
        clear hR_r
        refine tw_done (hK157 _ _ ?_)
        refine hK152 _ _ ?_
        refine cw_ret ?_
        refine finTC T39 rfl rfl rfl (fun j v hv => hB8.cellA hv) ?_
        exact ⟨_, _, _, _, _, tup2 (sl_as hO34 rfl) rfl, own_as (hO34.less (by omega)) rfl, by omega, hc⟩
    · -- else
      replace h85 := of_decide_eq_false h85
      refine cw_skip ?_
      refine hK71 _ _ ?_
      refine cw_seq fun K164 hK165 => ?_
      refine cw_seq fun K166 hK167 => ?_
      refine cw_region fun K168 hK169 => ?_
      refine rw_cons (op_pv (w0 rfl) rfl rfl (pv_move (v := (.pointer (some (⟨g16, 0, none⟩)))) rfl rfl) ?_)
      refine rw_cons (op_call (w0 rfl) rfl rfl (rc_call C45 rfl rfl) (pick_ok _ _ _ _ hRd19 (by omega)) ?_)
      rintro _ w171 ⟨r170, rfl, hr172, hr173, hr174, hRd175, hch176⟩
      have hsz177 := hch176.size
      replace hR := hR.ch hch176 (off1 (by omega))
      replace hB8 := hB8.ch hch176 (by simp; omega)
      replace hO34 := hO34.ch hch176 (fun s hs => by first | (have := hO34.off s hs; simp; omega) | (have := hub35 s hs; simp; omega))
      replace hB61 := hB61.ch hch176 (by simp; omega)
      replace hc := (off1 (by omega)).step hc hch176
      clear hRd19; have hRd19 := hRd175; clear hRd175
      refine rw_cons (op_pv (w0 rfl) rfl rfl (pv_eql rfl rfl rfl) ?_)
      refine rw_nil (hK169 _ _ ?_)
      refine hK167 _ _ ?_
      refine cw_cond rfl (fun h178 => ?_) (fun h178 => ?_)
      · -- then
        replace h178 := of_decide_eq_true h178
        refine cw_region fun K179 hK180 => ?_
        refine rw_cons (op_bslice [(.int .i64 0), (.int .i64 100)] Try.underlying34 T3 (w0 rfl) rfl rfl rfl rfl rfl (by simp [Value.cells]) (by decide) ?_)
        intro g182 w181 hg185 hg186 hK184 hch183
        have hO187 : Own encI 1 w181 w171.heap.size 3 (.slice (some ⟨g182, 0, none⟩) 2 2) ([0, 100] : List Int) := Blk.own (xs := ([0, 100] : List Int)) hK184 (by omega) rfl (by decide) rfl
        have hsz188 := hch183.size
        replace hR := hR.ch0 hch183
        replace hB8 := hB8.ch0 hch183
        replace hRd19 := hRd19.ch0 hch183
        replace hO34 := hO34.ch0 hch183
        replace hB61 := hB61.ch0 hch183
        replace hc := hc.step0 hch183
        have hub189 := hO187.lt
        refine rw_cons (op_pv (w0 rfl) rfl rfl (pv_move (v := (.pointer (some (⟨g16, 0, none⟩)))) rfl rfl) ?_)
        refine rw_cons (op_call (w0 rfl) rfl rfl (rc_call C45 rfl rfl) (pick_ok _ _ _ _ hRd19 (by omega)) ?_)
        rintro _ w191 ⟨r190, rfl, hr192, hr193, hr194, hRd195, hch196⟩
        have hsz197 := hch196.size
        replace hR := hR.ch hch196 (off1 (by omega))
        replace hB8 := hB8.ch hch196 (by simp; omega)
        replace hO34 := hO34.ch hch196 (fun s hs => by first | (have := hO34.off s hs; simp; omega) | (have := hub35 s hs; simp; omega))
        replace hB61 := hB61.ch hch196 (by simp; omega)
        replace hO187 := hO187.ch hch196 (fun s hs => by first | (have := hO187.off s hs; simp; omega) | (have := hub189 s hs; simp; omega))
        replace hc := (off1 (by omega)).step hc hch196
        clear hRd19; have hRd19 := hRd195; clear hRd195
        refine rw_cons (op_pv (w0 rfl) rfl rfl (pv_idx Try.underlying34 T3 rfl rfl rfl ((hO187.rs (fun _ => rfl)).some (k := (r190).toNat) (by omega)) (by omega) (by omega)) ?_)
        refine rw_cons (op_lv (w0 rfl) rfl rfl (lv_load T3 rfl rfl ((hO187.rs (fun _ => rfl)).cell0 (k := (r190).toNat) (by omega) rfl)) ?_)
        refine rw_cons (op_pv (w0 rfl) rfl rfl (pv_fld F39_0 rfl rfl) ?_)
        refine rw_cons (op_store_blk T3 hB61 (w0 rfl) rfl rfl rfl rfl rfl (one_all rfl) (Nat.le_of_ble_eq_true rfl) ?_)
        rintro w198 hB200 hch199
        have hsz201 := hch199.size
        replace hR := hR.ch hch199 (off1 (by omega))
        replace hB8 := hB8.ch hch199 (by simp; omega)
        replace hRd19 := hRd19.ch hch199 (off1 (by omega))
        replace hO34 := hO34.ch hch199 (fun s hs => by have := dj_asg hdj65 s hs; simpa using this)
        replace hO187 := hO187.ch hch199 (fun s hs => by first | (have := hO187.off s hs; simp; omega) | (have := hub189 s hs; simp; omega))
        replace hc := (off1 (by omega)).step hc hch199
        replace hB61 : Blk w198 g59 39 [(.int .i64 (el ([0, 100] : List Int) (r190).toNat)), (.int .i64 r50)] := hB200
        clear hB200
        refine rw_nil (hK180 _ _ ?_)
        refine hK165 _ _ ?_
        refine cw_seq fun K202 hK203 => ?_
        clear hRd19
        refine cw_drawn (fun u => Ch [] w198 u) (.free 0 (.free 1 (.free 2 (.one 3 false (.done))))) (by kernel_rfl) (by kernel_rfl) (Ch.refl _ _).drew fun K207 hK208 => ?_
        obtain ⟨w204, hw_, hch205, hsz206⟩ : ∃ w1 : World, w1 = w198.drew ∧ Ch [] w198 w1 ∧ w1.heap.size = w198.heap.size := ⟨_, rfl, (Ch.refl _ _).drew, rfl⟩
        rw [← hw_]; clear hw_
        have hr209 : Ch [] w198 w204 := hch205.sub (fun s hs => by cases hs)
        have hR_r := hR
        have hB8_r := hB8
        have hO34_r := hO34
        have hB61_r := hB61
        have hO187_r := hO187
        have hsz210 := hch205.size
        replace hR := hR.ch0 hch205
        replace hB8 := hB8.ch0 hch205
        replace hO34 := hO34.ch0 hch205
        replace hB61 := hB61.ch0 hch205
        replace hO187 := hO187.ch0 hch205
        replace hc := hc.step0 hch205
        refine tw_free rfl (w0 rfl) rfl rfl (fun u hu => (pv_move (v := (.slice A31 xs33.length c32)) rfl rfl : PV _ _ _ _) u) ?_
        refine tw_free rfl (w0 rfl) rfl rfl (fun u hu => lv_loadN T39 rfl rfl rfl (fun j v hv => (hB61_r.ch hu (by simp)).cellA hv)) ?_
        refine tw_free rfl (w0 rfl) rfl rfl (fun u hu => (pv_assign (v := (.slice A31 xs33.length c32)) rfl rfl : PV _ _ _ _) u) ?_
        refine tw_one rfl (op_store_blk T39 hB8 (w0 rfl) rfl rfl rfl rfl rfl (one_all rfl) (Nat.le_of_ble_eq_true rfl) ?_)
        rintro w211 hB213 hch212
        have hsz214 := hch212.size
        replace hR := hR.ch hch212 (off1 (by omega))
        replace hO34 := hO34.ch hch212 (fun s hs => by first | (have := hO34.off s hs; simp; omega) | (have := hub35 s hs; simp; omega))
        replace hB61 := hB61.ch hch212 (by simp; omega)
        replace hO187 := hO187.ch hch212 (fun s hs => by first | (have := hO187.off s hs; simp; omega) | (have := hub189 s hs; simp; omega))
        replace hc := (off1 (by omega)).step hc hch212
        clear hr209
        replace hB8 : Blk w211 g6 39 [(.int .i64 (el ([0, 100] : List Int) (r190).toNat)), (.int .i64 r50)] := hB213
        clear hB213
        refine ⟨fun h => (by cases h), ?_⟩
        clear hB61_r
        clear hB8_r
        clear hO187_r
        clear hO34_r
        clear hR_r
        refine tw_done (hK208 _ _ ?_)
        refine hK203 _ _ ?_
        refine cw_ret ?_
        refine finTC T39 rfl rfl rfl (fun j v hv => hB8.cellA hv) ?_
        exact ⟨_, _, _, _, _, tup2 (sl_as hO34 rfl) rfl, own_as (hO34.less (by omega)) rfl, by omega, hc⟩
      · -- else
        replace h178 := of_decide_eq_false h178
        refine cw_skip ?_
        refine hK165 _ _ ?_
        refine cw_seq fun K215 hK216 => ?_
        clear hRd19
        refine cw_drawn (fun u => Ch [] w171 u) (.free 0 (.free 1 (.free 2 (.one 3 false (.done))))) (by kernel_rfl) (by kernel_rfl) (Ch.refl _ _).drew fun K220 hK221 => ?_
        obtain ⟨w217, hw_, hch218, hsz219⟩ : ∃ w1 : World, w1 = w171.drew ∧ Ch [] w171 w1 ∧ w1.heap.size = w171.heap.size := ⟨_, rfl, (Ch.refl _ _).drew, rfl⟩
        rw [← hw_]; clear hw_
        have hr222 : Ch [] w171 w217 := hch218.sub (fun s hs => by cases hs)
        have hR_r := hR
        have hB8_r := hB8
        have hO34_r := hO34
        have hB61_r := hB61
        have hsz223 := hch218.size
        replace hR := hR.ch0 hch218
        replace hB8 := hB8.ch0 hch218
        replace hO34 := hO34.ch0 hch218
        replace hB61 := hB61.ch0 hch218
        replace hc := hc.step0 hch218
        refine tw_free rfl (w0 rfl) rfl rfl (fun u hu => (pv_move (v := (.slice A31 xs33.length c32)) rfl rfl : PV _ _ _ _) u) ?_
        refine tw_free rfl (w0 rfl) rfl rfl (fun u hu => lv_loadN T39 rfl rfl rfl (fun j v hv => (hB61_r.ch hu (by simp)).cellA hv)) ?_
        refine tw_free rfl (w0 rfl) rfl rfl (fun u hu => (pv_assign (v := (.slice A31 xs33.length c32)) rfl rfl : PV _ _ _ _) u) ?_
        refine tw_one rfl (op_store_blk T39 hB8 (w0 rfl) rfl rfl rfl rfl rfl (one_all rfl) (Nat.le_of_ble_eq_true rfl) ?_)
        rintro w224 hB226 hch225
        have hsz227 := hch225.size
        replace hR := hR.ch hch225 (off1 (by omega))
        replace hO34 := hO34.ch hch225 (fun s hs => by first | (have := hO34.off s hs; simp; omega) | (have := hub35 s hs; simp; omega))
        replace hB61 := hB61.ch hch225 (by simp; omega)
        replace hc := (off1 (by omega)).step hc hch225
        clear hr222
        replace hB8 : Blk w224 g6 39 [(.int .i64 (1 + r42)), (.int .i64 r50)] := hB226
        clear hB226
        refine ⟨fun h => (by cases h), ?_⟩
        clear hB61_r
        clear hB8_r
        clear hO34_r
        clear hR_r
        refine tw_done (hK221 _ _ ?_)
        refine hK216 _ _ ?_
        refine cw_ret ?_
        refine finTC T39 rfl rfl rfl (fun j v hv => hB8.cellA hv) ?_
        exact ⟨_, _, _, _, _, tup2 (sl_as hO34 rfl) rfl, own_as (hO34.less (by omega)) rfl, by omega, hc⟩
  · -- no
    replace hb76 := of_decide_eq_false hb76
    refine rw_cons (op_pass (w1n1 rfl rfl rfl rfl) rfl rfl ?_)
    refine rw_cons (op_pass (w1n1 rfl rfl rfl rfl) rfl rfl ?_)
    refine rw_cons (op_pass (w1n1 rfl rfl rfl rfl) rfl rfl ?_)
    refine rw_cons (op_pv (w0 rfl) rfl rfl (pv_pickF (v := (.bool false)) rfl rfl rfl) ?_)
    refine rw_nil (hK75 _ _ ?_)
    refine hK73 _ _ ?_
    refine cw_cond rfl (fun h228 => ?_) (fun h228 => ?_)
    · -- then
      cases h228
    · -- else
      clear h228
      refine cw_skip ?_
      refine hK71 _ _ ?_
      refine cw_seq fun K229 hK230 => ?_
      refine cw_seq fun K231 hK232 => ?_
      refine cw_region fun K233 hK234 => ?_
      refine rw_cons (op_pv (w0 rfl) rfl rfl (pv_move (v := (.pointer (some (⟨g16, 0, none⟩)))) rfl rfl) ?_)
      refine rw_cons (op_call (w0 rfl) rfl rfl (rc_call C45 rfl rfl) (pick_ok _ _ _ _ hRd19 (by omega)) ?_)
      rintro _ w236 ⟨r235, rfl, hr237, hr238, hr239, hRd240, hch241⟩
      have hsz242 := hch241.size
      replace hR := hR.ch hch241 (off1 (by omega))
      replace hB8 := hB8.ch hch241 (by simp; omega)
      replace hO34 := hO34.ch hch241 (fun s hs => by first | (have := hO34.off s hs; simp; omega) | (have := hub35 s hs; simp; omega))
      replace hB61 := hB61.ch hch241 (by simp; omega)
      replace hc := (off1 (by omega)).step hc hch241
      clear hRd19; have hRd19 := hRd240; clear hRd240
      refine rw_cons (op_pv (w0 rfl) rfl rfl (pv_eql rfl rfl rfl) ?_)
      refine rw_nil (hK234 _ _ ?_)
      refine hK232 _ _ ?_
      refine cw_cond rfl (fun h243 => ?_) (fun h243 => ?_)
      · -- then
        replace h243 := of_decide_eq_true h243
        refine cw_region fun K244 hK245 => ?_
        refine rw_cons (op_bslice [(.int .i64 0), (.int .i64 100)] Try.underlying34 T3 (w0 rfl) rfl rfl rfl rfl rfl (by simp [Value.cells]) (by decide) ?_)
        intro g247 w246 hg250 hg251 hK249 hch248
        have hO252 : Own encI 1 w246 w236.heap.size 3 (.slice (some ⟨g247, 0, none⟩) 2 2) ([0, 100] : List Int) := Blk.own (xs := ([0, 100] : List Int)) hK249 (by omega) rfl (by decide) rfl
        have hsz253 := hch248.size
        replace hR := hR.ch0 hch248
        replace hB8 := hB8.ch0 hch248
        replace hRd19 := hRd19.ch0 hch248
        replace hO34 := hO34.ch0 hch248
        replace hB61 := hB61.ch0 hch248
        replace hc := hc.step0 hch248
        have hub254 := hO252.lt
        refine rw_cons (op_pv (w0 rfl) rfl rfl (pv_move (v := (.pointer (some (⟨g16, 0, none⟩)))) rfl rfl) ?_)
        refine rw_cons (op_call (w0 rfl) rfl rfl (rc_call C45 rfl rfl) (pick_ok _ _ _ _ hRd19 (by omega)) ?_)
        rintro _ w256 ⟨r255, rfl, hr257, hr258, hr259, hRd260, hch261⟩
        have hsz262 := hch261.size
        replace hR := hR.ch hch261 (off1 (by omega))
        replace hB8 := hB8.ch hch261 (by simp; omega)
        replace hO34 := hO34.ch hch261 (fun s hs => by first | (have := hO34.off s hs; simp; omega) | (have := hub35 s hs; simp; omega))
        replace hB61 := hB61.ch hch261 (by simp; omega)
        replace hO252 := hO252.ch hch261 (fun s hs => by first | (have := hO252.off s hs; simp; omega) | (have := hub254 s hs; simp; omega))
        replace hc := (off1 (by omega)).step hc hch261
        clear hRd19; have hRd19 := hRd260; clear hRd260
        refine rw_cons (op_pv (w0 rfl) rfl rfl (pv_idx Try.underlying34 T3 rfl rfl rfl ((hO252.rs (fun _ => rfl)).some (k := (r255).toNat) (by omega)) (by omega) (by omega)) ?_)
        refine rw_cons (op_lv (w0 rfl) rfl rfl (lv_load T3 rfl rfl ((hO252.rs (fun _ => rfl)).cell0 (k := (r255).toNat) (by omega) rfl)) ?_)
        refine rw_cons (op_pv (w0 rfl) rfl rfl (pv_fld F39_0 rfl rfl) ?_)
        refine rw_cons (op_store_blk T3 hB61 (w0 rfl) rfl rfl rfl rfl rfl (one_all rfl) (Nat.le_of_ble_eq_true rfl) ?_)
        rintro w263 hB265 hch264
        have hsz266 := hch264.size
        replace hR := hR.ch hch264 (off1 (by omega))
        replace hB8 := hB8.ch hch264 (by simp; omega)
        replace hRd19 := hRd19.ch hch264 (off1 (by omega))
        replace hO34 := hO34.ch hch264 (fun s hs => by have := dj_asg hdj65 s hs; simpa using this)
        replace hO252 := hO252.ch hch264 (fun s hs => by first | (have := hO252.off s hs; simp; omega) | (have := hub254 s hs; simp; omega))
        replace hc := (off1 (by omega)).step hc hch264
        replace hB61 : Blk w263 g59 39 [(.int .i64 (el ([0, 100] : List Int) (r255).toNat)), (.int .i64 r50)] := hB265
        clear hB265
        refine rw_nil (hK245 _ _ ?_)
        refine hK230 _ _ ?_
        refine cw_seq fun K267 hK268 => ?_
        clear hRd19
        refine cw_drawn (fun u => Ch [] w263 u) (.free 0 (.free 1 (.free 2 (.one 3 false (.done))))) (by kernel_rfl) (by kernel_rfl) (Ch.refl _ _).drew fun K272 hK273 => ?_
        obtain ⟨w269, hw_, hch270, hsz271⟩ : ∃ w1 : World, w1 = w263.drew ∧ Ch [] w263 w1 ∧ w1.heap.size = w263.heap.size := ⟨_, rfl, (Ch.refl _ _).drew, rfl⟩
        rw [← hw_]; clear hw_
        have hr274 : Ch [] w263 w269 := hch270.sub (fun s hs => by cases hs)
        have hR_r := hR
        have hB8_r := hB8
        have hO34_r := hO34
        have hB61_r := hB61
        have hO252_r := hO252
        have hsz275 := hch270.size
        replace hR := hR.ch0 hch270
        replace hB8 := hB8.ch0 hch270
        replace hO34 := hO34.ch0 hch270
        replace hB61 := hB61.ch0 hch270
        replace hO252 := hO252.ch0 hch270
        replace hc := hc.step0 hch270
        refine tw_free rfl (w0 rfl) rfl rfl (fun u hu => (pv_move (v := (.slice A31 xs33.length c32)) rfl rfl : PV _ _ _ _) u) ?_
        refine tw_free rfl (w0 rfl) rfl rfl (fun u hu => lv_loadN T39 rfl rfl rfl (fun j v hv => (hB61_r.ch hu (by simp)).cellA hv)) ?_
        refine tw_free rfl (w0 rfl) rfl rfl (fun u hu => (pv_assign (v := (.slice A31 xs33.length c32)) rfl rfl : PV _ _ _ _) u) ?_
        refine tw_one rfl (op_store_blk T39 hB8 (w0 rfl) rfl rfl rfl rfl rfl (one_all rfl) (Nat.le_of_ble_eq_true rfl) ?_)
        rintro w276 hB278 hch277
        have hsz279 := hch277.size
        replace hR := hR.ch hch277 (off1 (by omega))
        replace hO34 := hO34.ch hch277 (fun s hs => by first | (have := hO34.off s hs; simp; omega) | (have := hub35 s hs; simp; omega))
        replace hB61 := hB61.ch hch277 (by simp; omega)
        replace hO252 := hO252.ch hch277 (fun s hs => by first | (have := hO252.off s hs; simp; omega) | (have := hub254 s hs; simp; omega))
        replace hc := (off1 (by omega)).step hc hch277
        clear hr274
        replace hB8 : Blk w276 g6 39 [(.int .i64 (el ([0, 100] : List Int) (r255).toNat)), (.int .i64 r50)] := hB278
        clear hB278
        refine ⟨fun h => (by cases h), ?_⟩
        clear hB61_r
        clear hB8_r
        clear hO252_r
        clear hO34_r
        clear hR_r
        refine tw_done (hK273 _ _ ?_)
        refine hK268 _ _ ?_
        refine cw_ret ?_
        refine finTC T39 rfl rfl rfl (fun j v hv => hB8.cellA hv) ?_
        exact ⟨_, _, _, _, _, tup2 (sl_as hO34 rfl) rfl, own_as (hO34.less (by omega)) rfl, by omega, hc⟩
      · -- else
        replace h243 := of_decide_eq_false h243
        refine cw_skip ?_
        refine hK230 _ _ ?_
        refine cw_seq fun K280 hK281 => ?_
        clear hRd19
        refine cw_drawn (fun u => Ch [] w236 u) (.free 0 (.free 1 (.free 2 (.one 3 false (.done))))) (by kernel_rfl) (by kernel_rfl) (Ch.refl _ _).drew fun K285 hK286 => ?_
        obtain ⟨w282, hw_, hch283, hsz284⟩ : ∃ w1 : World, w1 = w236.drew ∧ Ch [] w236 w1 ∧ w1.heap.size = w236.heap.size := ⟨_, rfl, (Ch.refl _ _).drew, rfl⟩
        rw [← hw_]; clear hw_
        have hr287 : Ch [] w236 w282 := hch283.sub (fun s hs => by cases hs)
        have hR_r := hR
        have hB8_r := hB8
        have hO34_r := hO34
        have hB61_r := hB61
        have hsz288 := hch283.size
        replace hR := hR.ch0 hch283
        replace hB8 := hB8.ch0 hch283
        replace hO34 := hO34.ch0 hch283
        replace hB61 := hB61.ch0 hch283
        replace hc := hc.step0 hch283
        refine tw_free rfl (w0 rfl) rfl rfl (fun u hu => (pv_move (v := (.slice A31 xs33.length c32)) rfl rfl : PV _ _ _ _) u) ?_
        refine tw_free rfl (w0 rfl) rfl rfl (fun u hu => lv_loadN T39 rfl rfl rfl (fun j v hv => (hB61_r.ch hu (by simp)).cellA hv)) ?_
        refine tw_free rfl (w0 rfl) rfl rfl (fun u hu => (pv_assign (v := (.slice A31 xs33.length c32)) rfl rfl : PV _ _ _ _) u) ?_
        refine tw_one rfl (op_store_blk T39 hB8 (w0 rfl) rfl rfl rfl rfl rfl (one_all rfl) (Nat.le_of_ble_eq_true rfl) ?_)
        rintro w289 hB291 hch290
        have hsz292 := hch290.size
        replace hR := hR.ch hch290 (off1 (by omega))
        replace hO34 := hO34.ch hch290 (fun s hs => by first | (have := hO34.off s hs; simp; omega) | (have := hub35 s hs; simp; omega))
        replace hB61 := hB61.ch hch290 (by simp; omega)
        replace hc := (off1 (by omega)).step hc hch290
        clear hr287
        replace hB8 : Blk w289 g6 39 [(.int .i64 (1 + r42)), (.int .i64 r50)] := hB291
        clear hB291
        refine ⟨fun h => (by cases h), ?_⟩
        clear hB61_r
        clear hB8_r
        clear hO34_r
        clear hR_r
        refine tw_done (hK286 _ _ ?_)
        refine hK281 _ _ ?_
        refine cw_ret ?_
        refine finTC T39 rfl rfl rfl (fun j v hv => hB8.cellA hv) ?_
        exact ⟨_, _, _, _, _, tup2 (sl_as hO34 rfl) rfl, own_as (hO34.less (by omega)) rfl, by omega, hc⟩
end Go.Proofs.Ytnkjljjcionfiaa
