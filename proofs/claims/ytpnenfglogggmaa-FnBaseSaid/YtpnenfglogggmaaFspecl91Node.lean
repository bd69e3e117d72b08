/-
  The walk of spec.l91Node, written by program: each line names the law of one operation. Conditions: those of the theorem.
-/
import Derived.Test.YtpnenfglogggmaaProg
import Derived.Test.YtpnenfglogggmaaNode
import Derived.Test.YtpnenfglogggmaaArr
import Derived.Test.YtpnenfglogggmaaFspecl91Log
import Derived.Test.YtpnenfglogggmaaFspecl6Rdpick
import Derived.KernelRfl
namespace Go.Proofs.Ytpnenfglogggmaa
open Go Go.RowKit
set_option linter.unusedVariables false
set_option linter.unusedSimpArgs false
namespace l91Node_okF
theorem T3 : TI Try.prog 3 false (.int .i64 0) 1 8 := TI.mk' Try.underlying3 rfl (by kernel_rfl)
theorem T34 : TI Try.prog 34 false (.slice none 0 0) 1 24 := TI.mk' Try.underlying34 rfl (by kernel_rfl)
theorem T41 : TI Try.prog 41 true (.agg #[.int .i64 0, .slice none 0 0, .int .i64 0]) 3 40 := TI.mk' Try.underlying41 rfl (by kernel_rfl)
theorem F41_0 : FldOK Try.prog 41 0 0 := ⟨_, _, 0, Try.underlying41, rfl, rfl, by kernel_rfl⟩
theorem F41_1 : FldOK Try.prog 41 1 1 := ⟨_, _, 0, Try.underlying41, rfl, rfl, by kernel_rfl⟩
theorem F41_2 : FldOK Try.prog 41 2 2 := ⟨_, _, 0, Try.underlying41, rfl, rfl, by kernel_rfl⟩
theorem C34 : Callable Try.prog 34 := ⟨_, Try.func34, by kernel_rfl, by kernel_rfl⟩
theorem C49 : Callable Try.prog 49 := ⟨_, Try.func49, by kernel_rfl, by kernel_rfl⟩
theorem B41_0I_1SL (a0 : Int) (a1 : Option Addr) (n1 c1 : Nat) (u : World) : (Instr.build 41 #[(0, .int .i64 a0), (1, .slice a1 n1 c1)]).run Try.prog u = .ok (.agg #[.int .i64 a0, .slice a1 n1 c1, .int .i64 0]) u := by kernel_rfl
end l91Node_okF
open l91Node_okF in
set_option maxHeartbeats 4000000 in
theorem l91Node_ok (g : Nat) (N : Nat) (w : World) (hRd : Rd 76 w g N) (hN : N ≤ 900000) :
    Fn Try.prog 42 [(.pointer (some (⟨g, 0, none⟩)))] w fun v w' => ∃ id Alog clog log dn, v = .agg #[.int .i64 id, .slice Alog log.length clog, .int .i64 dn] ∧ Own encB 2 w' w.heap.size 65 (.slice Alog log.length clog) log ∧ log.length ≤ 13 ∧ Rd 76 w' g (N + 70) ∧ Ch [g] w w' := by
  have hg0 := hRd.lt
  refine fn_of (n := 40) Try.func42 rfl rfl rfl rfl ?_
  have hc : Ch [g] w w := Ch.refl _ _
  refine cw_seq fun K1 hK2 => ?_
  refine cw_region fun K3 hK4 => ?_
  refine rw_cons (op_alloc T41 (w0 rfl) rfl rfl rfl ?_)
  rintro g6 w5 hg9 hg10 hB8 hch7
  have hsz11 := hch7.size
  replace hRd := hRd.ch0 hch7
  replace hc := hc.step0 hch7
  replace hB8 : Blk w5 g6 41 [(.int .i64 0), (.slice none 0 0), (.int .i64 0)] := hB8
  refine rw_nil (hK4 _ _ ?_)
  refine hK2 _ _ ?_
  refine cw_seq fun K12 hK13 => ?_
  refine cw_region fun K14 hK15 => ?_
  refine rw_cons (op_pv (w0 rfl) rfl rfl (pv_move (v := (.pointer (some (⟨g, 0, none⟩)))) rfl rfl) ?_)
  refine rw_cons (op_call (w0 rfl) rfl rfl (rc_call C49 rfl rfl) (pick_ok _ _ _ _ hRd (by omega)) ?_)
  rintro _ w17 ⟨r16, rfl, hr18, hr19, hr20, hRd21, hch22⟩
  have hsz23 := hch22.size
  replace hB8 := hB8.ch hch22 (by simp; omega)
  replace hc := hc.step hch22 (fun s hs => .inl hs)
  clear hRd; have hRd := hRd21; clear hRd21
  refine rw_cons (op_pv (w0 rfl) rfl rfl (pv_add rfl rfl rfl (by omega) (by omega)) ?_)
  refine rw_cons (op_pv (w0 rfl) rfl rfl (pv_move (v := (.pointer (some (⟨g, 0, none⟩)))) rfl rfl) ?_)
  refine rw_cons (op_call (w0 rfl) rfl rfl (rc_call C34 rfl rfl) (l91Log_ok _ _ _ hRd (by omega)) ?_)
  rintro _ w24 ⟨A27, c28, xs26, rfl, hO29, hl31, hRd32, hch25⟩
  have hsz33 := hch25.size
  replace hB8 := hB8.ch hch25 (by simp; omega)
  replace hc := hc.step hch25 (fun s hs => .inl hs)
  clear hRd; have hRd := hRd32; clear hRd32
  have hub30 := hO29.lt
  have hcap34 : xs26.length ≤ c28 := by obtain ⟨_, _, hv, h1, _⟩ := hO29.form; injection hv with _ _ h3; omega
  refine rw_cons (op_pv (w0 rfl) rfl rfl (pv_build rfl rfl (B41_0I_1SL _ _ _ _)) ?_)
  refine rw_cons (op_alloc T41 (w0 rfl) rfl rfl rfl ?_)
  rintro g36 w35 hg39 hg40 hB38 hch37
  have hsz41 := hch37.size
  replace hRd := hRd.ch0 hch37
  replace hB8 := hB8.ch0 hch37
  replace hO29 := hO29.ch0 hch37
  replace hc := hc.step0 hch37
  replace hB38 : Blk w35 g36 41 [(.int .i64 0), (.slice none 0 0), (.int .i64 0)] := hB38
  have hdj42 : ∀ s ∈ obl (.slice A27 xs26.length c28), s ≠ g36 := fun s hs => by have := hub30 s hs; omega
  refine rw_cons (op_store_blk T41 hB38 (w0 rfl) rfl rfl rfl rfl rfl (one_all rfl) (Nat.le_of_ble_eq_true rfl) ?_)
  rintro w43 hB45 hch44
  have hsz46 := hch44.size
  replace hRd := hRd.ch hch44 (off1 (by omega))
  replace hB8 := hB8.ch hch44 (by simp; omega)
  replace hO29 := hO29.ch hch44 (fun s hs => by have := dj_asg hdj42 s hs; simpa using this)
  replace hc := hc.step hch44 (fun s hs => by simp at hs; first | (left; simp; omega) | (right; omega))
  replace hB38 : Blk w43 g36 41 [(.int .i64 (1 + r16)), (.slice A27 xs26.length c28), (.int .i64 0)] := hB45
  clear hB45
  refine rw_nil (hK15 _ _ ?_)
  refine hK13 _ _ ?_
  refine cw_seq fun K47 hK48 => ?_
  refine cw_region fun K49 hK50 => ?_
  refine rw_cons (op_pv (w0 rfl) rfl rfl (pv_move (v := (.pointer (some (⟨g, 0, none⟩)))) rfl rfl) ?_)
  refine rw_cons (op_pv (w0 rfl) rfl rfl (pv_fld F41_1 rfl rfl) ?_)
  refine rw_cons (op_lv (w0 rfl) rfl rfl (lv_load T34 rfl rfl (hB38.cellA (i := 1) rfl)) ?_)
  refine rw_cons (op_pv (w0 rfl) rfl rfl (pv_len Try.underlying34 rfl rfl) ?_)
  refine rw_cons (op_pv (w0 rfl) rfl rfl (pv_add rfl rfl rfl (by omega) (by omega)) ?_)
  refine rw_cons (op_call (w0 rfl) rfl rfl (rc_call C49 rfl rfl) (pick_ok _ _ _ _ hRd (by omega)) ?_)
  rintro _ w52 ⟨r51, rfl, hr53, hr54, hr55, hRd56, hch57⟩
  have hsz58 := hch57.size
  replace hB8 := hB8.ch hch57 (by simp; omega)
  replace hO29 := hO29.ch hch57 (fun s hs => by first | (have := hO29.off s hs; simp; omega) | (have := hub30 s hs; simp; omega))
  replace hB38 := hB38.ch hch57 (by simp; omega)
  replace hc := hc.step hch57 (fun s hs => .inl hs)
  clear hRd; have hRd := hRd56; clear hRd56
  refine rw_cons (op_pv (w0 rfl) rfl rfl (pv_fld F41_2 rfl rfl) ?_)
  refine rw_cons (op_store_blk T3 hB38 (w0 rfl) rfl rfl rfl rfl rfl (one_all rfl) (Nat.le_of_ble_eq_true rfl) ?_)
  rintro w59 hB61 hch60
  have hsz62 := hch60.size
  replace hRd := hRd.ch hch60 (off1 (by omega))
  replace hB8 := hB8.ch hch60 (by simp; omega)
  replace hO29 := hO29.ch hch60 (fun s hs => by have := dj_asg hdj42 s hs; simpa using this)
  replace hc := hc.step hch60 (fun s hs => by simp at hs; first | (left; simp; omega) | (right; omega))
  replace hB38 : Blk w59 g36 41 [(.int .i64 (1 + r16)), (.slice A27 xs26.length c28), (.int .i64 r51)] := hB61
  clear hB61
  refine rw_nil (hK50 _ _ ?_)
  refine hK48 _ _ ?_
  refine cw_seq fun K63 hK64 => ?_
  refine cw_seq fun K65 hK66 => ?_
  refine cw_region fun K67 hK68 => ?_
  refine rw_cons (op_pv (w0 rfl) rfl rfl (pv_move (v := (.pointer (some (⟨g, 0, none⟩)))) rfl rfl) ?_)
  refine rw_cons (op_call (w0 rfl) rfl rfl (rc_call C49 rfl rfl) (pick_ok _ _ _ _ hRd (by omega)) ?_)
  rintro _ w70 ⟨r69, rfl, hr71, hr72, hr73, hRd74, hch75⟩
  have hsz76 := hch75.size
  replace hB8 := hB8.ch hch75 (by simp; omega)
  replace hO29 := hO29.ch hch75 (fun s hs => by first | (have := hO29.off s hs; simp; omega) | (have := hub30 s hs; simp; omega))
  replace hB38 := hB38.ch hch75 (by simp; omega)
  replace hc := hc.step hch75 (fun s hs => .inl hs)
  clear hRd; have hRd := hRd74; clear hRd74
  refine rw_nil (hK68 _ _ ?_)
  refine hK66 _ _ ?_
  refine cw_block ?_
  refine cw_seq fun K77 hK78 => ?_
  refine cw_region fun K79 hK80 => ?_
  refine rw_cons (op_pv (w0 rfl) rfl rfl (pv_eql rfl rfl rfl) ?_)
  refine rw_cons (op_pv (w0 rfl) rfl rfl (pv_assign (v := (.bool (decide ((r69 : Int) = 0)))) rfl rfl) ?_)
  refine rw_nil (hK80 _ _ ?_)
  refine hK78 _ _ ?_
  refine cw_cond rfl (fun h81 => ?_) (fun h81 => ?_)
  · -- then
    replace h81 := of_decide_eq_true h81
    refine cw_region fun K82 hK83 => ?_
    refine rw_cons (op_bslice [(.int .i64 0), (.int .i64 99), (.int .i64 100)] Try.underlying23 T3 (w0 rfl) rfl rfl rfl rfl rfl (by simp [Value.cells]) (by decide) ?_)
    intro g85 w84 hg88 hg89 hK87 hch86
    have hO90 : Own encI 1 w84 w70.heap.size 3 (.slice (some ⟨g85, 0, none⟩) 3 3) ([0, 99, 100] : List Int) := Blk.own (xs := ([0, 99, 100] : List Int)) hK87 (by omega) rfl (by decide) rfl
    have hsz91 := hch86.size
    replace hRd := hRd.ch0 hch86
    replace hB8 := hB8.ch0 hch86
    replace hO29 := hO29.ch0 hch86
    replace hB38 := hB38.ch0 hch86
    replace hc := hc.step0 hch86
    have hub92 := hO90.lt
    refine rw_cons (op_pv (w0 rfl) rfl rfl (pv_move (v := (.pointer (some (⟨g, 0, none⟩)))) rfl rfl) ?_)
    refine rw_cons (op_call (w0 rfl) rfl rfl (rc_call C49 rfl rfl) (pick_ok _ _ _ _ hRd (by omega)) ?_)
    rintro _ w94 ⟨r93, rfl, hr95, hr96, hr97, hRd98, hch99⟩
    have hsz100 := hch99.size
    replace hB8 := hB8.ch hch99 (by simp; omega)
    replace hO29 := hO29.ch hch99 (fun s hs => by first | (have := hO29.off s hs; simp; omega) | (have := hub30 s hs; simp; omega))
    replace hB38 := hB38.ch hch99 (by simp; omega)
    replace hO90 := hO90.ch hch99 (fun s hs => by first | (have := hO90.off s hs; simp; omega) | (have := hub92 s hs; simp; omega))
    replace hc := hc.step hch99 (fun s hs => .inl hs)
    clear hRd; have hRd := hRd98; clear hRd98
    refine rw_cons (op_pv (w0 rfl) rfl rfl (pv_idx Try.underlying23 T3 rfl rfl rfl ((hO90.rs (fun _ => rfl)).some (k := (r93).toNat) (by omega)) (by omega) (by omega)) ?_)
    refine rw_cons (op_lv (w0 rfl) rfl rfl (lv_load T3 rfl rfl ((hO90.rs (fun _ => rfl)).cell0 (k := (r93).toNat) (by omega) rfl)) ?_)
    refine rw_cons (op_pv (w0 rfl) rfl rfl (pv_fld F41_0 rfl rfl) ?_)
    refine rw_cons (op_store_blk T3 hB38 (w0 rfl) rfl rfl rfl rfl rfl (one_all rfl) (Nat.le_of_ble_eq_true rfl) ?_)
    rintro w101 hB103 hch102
    have hsz104 := hch102.size
    replace hRd := hRd.ch hch102 (off1 (by omega))
    replace hB8 := hB8.ch hch102 (by simp; omega)
    replace hO29 := hO29.ch hch102 (fun s hs => by have := dj_asg hdj42 s hs; simpa using this)
    replace hO90 := hO90.ch hch102 (fun s hs => by first | (have := hO90.off s hs; simp; omega) | (have := hub92 s hs; simp; omega))
    replace hc := hc.step hch102 (fun s hs => by simp at hs; first | (left; simp; omega) | (right; omega))
    replace hB38 : Blk w101 g36 41 [(.int .i64 (el ([0, 99, 100] : List Int) (r93).toNat)), (.slice A27 xs26.length c28), (.int .i64 r51)] := hB103
    clear hB103
    refine rw_nil (hK83 _ _ ?_)
    refine hK64 _ _ ?_
    refine cw_seq fun K105 hK106 => ?_
    refine cw_region fun K107 hK108 => ?_
    refine rw_cons (op_lv (w0 rfl) rfl rfl (lv_loadN T41 rfl rfl rfl (fun j v hv => hB38.cellA hv)) ?_)
    refine rw_cons (op_store_blk T41 hB8 (w0 rfl) rfl rfl rfl rfl rfl (one_all rfl) (Nat.le_of_ble_eq_true rfl) ?_)
    rintro w109 hB111 hch110
    have hsz112 := hch110.size
    replace hRd := hRd.ch hch110 (off1 (by omega))
    replace hO29 := hO29.ch hch110 (fun s hs => by first | (have := hO29.off s hs; simp; omega) | (have := hub30 s hs; simp; omega))
    replace hB38 := hB38.ch hch110 (by simp; omega)
    replace hO90 := hO90.ch hch110 (fun s hs => by first | (have := hO90.off s hs; simp; omega) | (have := hub92 s hs; simp; omega))
    replace hc := hc.step hch110 (fun s hs => by simp at hs; first | (left; simp; omega) | (right; omega))
    replace hB8 : Blk w109 g6 41 [(.int .i64 (el ([0, 99, 100] : List Int) (r93).toNat)), (.slice A27 xs26.length c28), (.int .i64 r51)] := hB111
    clear hB111
    refine rw_nil (hK108 _ _ ?_)
    refine hK106 _ _ ?_
    refine cw_ret ?_
    refine finC T41 rfl rfl (fun j v hv => hB8.cellA hv) ?_
    exact ⟨_, _, _, _, _, (agg3 rfl (sl_as hO29 rfl) rfl), own_as (hO29.less (by omega)) rfl, by first | omega | (simp only [List.length_take, List.length_set, List.length_append, List.length_cons, List.length_nil, List.length_replicate]; omega), hRd.up (by omega), hc⟩
  · -- else
    replace h81 := of_decide_eq_false h81
    refine cw_seq fun K113 hK114 => ?_
    refine cw_region fun K115 hK116 => ?_
    refine rw_cons (op_pv (w0 rfl) rfl rfl (pv_eql rfl rfl rfl) ?_)
    refine rw_cons (op_pv (w0 rfl) rfl rfl (pv_assign (v := (.bool (decide ((r69 : Int) = 1)))) rfl rfl) ?_)
    refine rw_nil (hK116 _ _ ?_)
    refine hK114 _ _ ?_
    refine cw_cond rfl (fun h117 => ?_) (fun h117 => ?_)
    · -- then
      replace h117 := of_decide_eq_true h117
      refine cw_drawn (fun u => Ch [g] w70 u) (.free 0 (.free 1 (.free 2 (.free 3 (.free 5 (.two 4 true (.one 6 true (.free 7 (.one 8 true (.free 9 (.one 10 false (.done)))))) 6 true (.one 4 true (.free 7 (.one 8 true (.free 9 (.one 10 false (.done)))))))))))) (by kernel_rfl) (by kernel_rfl) (Ch.refl _ _).drew fun K121 hK122 => ?_
      obtain ⟨w118, hw_, hch119, hsz120⟩ : ∃ w1 : World, w1 = w70.drew ∧ Ch [] w70 w1 ∧ w1.heap.size = w70.heap.size := ⟨_, rfl, (Ch.refl _ _).drew, rfl⟩
      rw [← hw_]; clear hw_
      have hr123 : Ch [g] w70 w118 := hch119.sub (fun s hs => by cases hs)
      have hRd_r := hRd
      have hB8_r := hB8
      have hO29_r := hO29
      have hB38_r := hB38
      have hsz124 := hch119.size
      replace hRd := hRd.ch0 hch119
      replace hB8 := hB8.ch0 hch119
      replace hO29 := hO29.ch0 hch119
      replace hB38 := hB38.ch0 hch119
      replace hc := hc.step0 hch119
      refine tw_free rfl (w0 rfl) rfl rfl (fun u hu => (pv_fld F41_1 rfl rfl : PV _ _ _ _) u) ?_
      refine tw_free rfl (w0 rfl) rfl rfl (fun u hu => lv_load T34 rfl rfl ((hB38_r.ch hu (by simp; omega)).cellA (i := 1) rfl)) ?_
      refine tw_free rfl (w0 rfl) rfl rfl (fun u hu => (pv_len Try.underlying34 rfl rfl : PV _ _ _ _) u) ?_
      refine tw_free rfl (w0 rfl) rfl rfl (fun u hu => (pv_add rfl rfl rfl (by omega) (by omega) : PV _ _ _ _) u) ?_
      refine tw_free rfl (w0 rfl) rfl rfl (fun u hu => (pv_move (v := (.pointer (some (⟨g, 0, none⟩)))) rfl rfl : PV _ _ _ _) u) ?_
      refine tw_two rfl rfl ?_ ?_
      · -- first 4
        refine  (op_bslice [(.int .i64 (-1)), (.int .i64 ((xs26.length : Int) + 1))] Try.underlying23 T3 (w0 rfl) rfl rfl rfl rfl rfl (by simp [Value.cells]) (by decide) ?_)
        intro g126 w125 hg129 hg130 hK128 hch127
        have hO131 : Own encI 1 w125 w118.heap.size 3 (.slice (some ⟨g126, 0, none⟩) 2 2) ([-1, (xs26.length : Int) + 1] : List Int) := Blk.own (xs := ([-1, (xs26.length : Int) + 1] : List Int)) hK128 (by omega) rfl (by decide) rfl
        have hsz132 := hch127.size
        replace hRd := hRd.ch0 hch127
        replace hB8 := hB8.ch0 hch127
        replace hO29 := hO29.ch0 hch127
        replace hB38 := hB38.ch0 hch127
        replace hc := hc.step0 hch127
        replace hr123 := hr123.step0 hch127
        have hub133 := hO131.lt
        refine ⟨fun _ => hr123, ?_⟩
        refine tw_one rfl (op_call (w0 rfl) rfl rfl (rc_call C49 rfl rfl) (pick_ok _ _ _ _ hRd (by omega)) ?_)
        rintro _ w135 ⟨r134, rfl, hr136, hr137, hr138, hRd139, hch140⟩
        have hsz141 := hch140.size
        replace hB8 := hB8.ch hch140 (by simp; omega)
        replace hO29 := hO29.ch hch140 (fun s hs => by first | (have := hO29.off s hs; simp; omega) | (have := hub30 s hs; simp; omega))
        replace hB38 := hB38.ch hch140 (by simp; omega)
        replace hO131 := hO131.ch hch140 (fun s hs => by first | (have := hO131.off s hs; simp; omega) | (have := hub133 s hs; simp; omega))
        replace hc := hc.step hch140 (fun s hs => .inl hs)
        replace hr123 := hr123.step hch140 (fun s hs => .inl hs)
        clear hRd; have hRd := hRd139; clear hRd139
        refine ⟨fun _ => hr123, ?_⟩
        refine tw_free rfl (w0 rfl) rfl rfl (fun u hu => (pv_idx Try.underlying23 T3 rfl rfl rfl ((hO131.rs (fun _ => rfl)).some (k := (r134).toNat) (by omega)) (by omega) (by omega) : PV _ _ _ _) u) ?_
        refine tw_one rfl (op_lv (w0 rfl) rfl rfl (lv_load T3 rfl rfl ((hO131.rs (fun _ => rfl)).cell0 (k := (r134).toNat) (by omega) rfl)) ?_)
        refine ⟨fun _ => hr123, ?_⟩
        refine tw_free rfl (w0 rfl) rfl rfl (fun u hu => (pv_fld F41_2 rfl rfl : PV _ _ _ _) u) ?_
        refine tw_one rfl (op_store_blk T3 hB38 (w0 rfl) rfl rfl rfl rfl rfl (one_all rfl) (Nat.le_of_ble_eq_true rfl) ?_)
        rintro w142 hB144 hch143
        have hsz145 := hch143.size
        replace hRd := hRd.ch hch143 (off1 (by omega))
        replace hB8 := hB8.ch hch143 (by simp; omega)
        replace hO29 := hO29.ch hch143 (fun s hs => by have := dj_asg hdj42 s hs; simpa using this)
        replace hO131 := hO131.ch hch143 (fun s hs => by first | (have := hO131.off s hs; simp; omega) | (have := hub133 s hs; simp; omega))
        replace hc := hc.step hch143 (fun s hs => by simp at hs; first | (left; simp; omega) | (right; omega))
        clear hr123
        replace hB38 : Blk w142 g36 41 [(.int .i64 (1 + r16)), (.slice A27 xs26.length c28), (.int .i64 (el ([-1, (xs26.length : Int) + 1] : List Int) (r134).toNat))] := hB144
        clear hB144
        refine ⟨fun h => (by cases h), ?_⟩
        clear hB38_r
        clear hB8_r
        clear hO29_r
        clear hRd_r
        refine tw_done (hK122 _ _ ?_)
        refine hK64 _ _ ?_
        refine cw_seq fun K146 hK147 => ?_
        refine cw_region fun K148 hK149 => ?_
        refine rw_cons (op_lv (w0 rfl) rfl rfl (lv_loadN T41 rfl rfl rfl (fun j v hv => hB38.cellA hv)) ?_)
        refine rw_cons (op_store_blk T41 hB8 (w0 rfl) rfl rfl rfl rfl rfl (one_all rfl) (Nat.le_of_ble_eq_true rfl) ?_)
        rintro w150 hB152 hch151
        have hsz153 := hch151.size
        replace hRd := hRd.ch hch151 (off1 (by omega))
        replace hO29 := hO29.ch hch151 (fun s hs => by first | (have := hO29.off s hs; simp; omega) | (have := hub30 s hs; simp; omega))
        replace hB38 := hB38.ch hch151 (by simp; omega)
        replace hO131 := hO131.ch hch151 (fun s hs => by first | (have := hO131.off s hs; simp; omega) | (have := hub133 s hs; simp; omega))
        replace hc := hc.step hch151 (fun s hs => by simp at hs; first | (left; simp; omega) | (right; omega))
        replace hB8 : Blk w150 g6 41 [(.int .i64 (1 + r16)), (.slice A27 xs26.length c28), (.int .i64 (el ([-1, (xs26.length : Int) + 1] : List Int) (r134).toNat))] := hB152
        clear hB152
        refine rw_nil (hK149 _ _ ?_)
        refine hK147 _ _ ?_
        refine cw_ret ?_
        refine finC T41 rfl rfl (fun j v hv => hB8.cellA hv) ?_
        exact ⟨_, _, _, _, _, (agg3 rfl (sl_as hO29 rfl) rfl), own_as (hO29.less (by omega)) rfl, by first | omega | (simp only [List.length_take, List.length_set, List.length_append, List.length_cons, List.length_nil, List.length_replicate]; omega), hRd.up (by omega), hc⟩
      · -- first 6
        refine  (op_call (w0 rfl) rfl rfl (rc_call C49 rfl rfl) (pick_ok _ _ _ _ hRd (by omega)) ?_)
        rintro _ w155 ⟨r154, rfl, hr156, hr157, hr158, hRd159, hch160⟩
        have hsz161 := hch160.size
        replace hB8 := hB8.ch hch160 (by simp; omega)
        replace hO29 := hO29.ch hch160 (fun s hs => by first | (have := hO29.off s hs; simp; omega) | (have := hub30 s hs; simp; omega))
        replace hB38 := hB38.ch hch160 (by simp; omega)
        replace hc := hc.step hch160 (fun s hs => .inl hs)
        replace hr123 := hr123.step hch160 (fun s hs => .inl hs)
        clear hRd; have hRd := hRd159; clear hRd159
        refine ⟨fun _ => hr123, ?_⟩
        refine tw_one rfl (op_bslice [(.int .i64 (-1)), (.int .i64 ((xs26.length : Int) + 1))] Try.underlying23 T3 (w0 rfl) rfl rfl rfl rfl rfl (by simp [Value.cells]) (by decide) ?_)
        intro g163 w162 hg166 hg167 hK165 hch164
        have hO168 : Own encI 1 w162 w155.heap.size 3 (.slice (some ⟨g163, 0, none⟩) 2 2) ([-1, (xs26.length : Int) + 1] : List Int) := Blk.own (xs := ([-1, (xs26.length : Int) + 1] : List Int)) hK165 (by omega) rfl (by decide) rfl
        have hsz169 := hch164.size
        replace hRd := hRd.ch0 hch164
        replace hB8 := hB8.ch0 hch164
        replace hO29 := hO29.ch0 hch164
        replace hB38 := hB38.ch0 hch164
        replace hc := hc.step0 hch164
        replace hr123 := hr123.step0 hch164
        have hub170 := hO168.lt
        refine ⟨fun _ => hr123, ?_⟩
        refine tw_free rfl (w0 rfl) rfl rfl (fun u hu => (pv_idx Try.underlying23 T3 rfl rfl rfl ((hO168.rs (fun _ => rfl)).some (k := (r154).toNat) (by omega)) (by omega) (by omega) : PV _ _ _ _) u) ?_
        refine tw_one rfl (op_lv (w0 rfl) rfl rfl (lv_load T3 rfl rfl ((hO168.rs (fun _ => rfl)).cell0 (k := (r154).toNat) (by omega) rfl)) ?_)
        refine ⟨fun _ => hr123, ?_⟩
        refine tw_free rfl (w0 rfl) rfl rfl (fun u hu => (pv_fld F41_2 rfl rfl : PV _ _ _ _) u) ?_
        refine tw_one rfl (op_store_blk T3 hB38 (w0 rfl) rfl rfl rfl rfl rfl (one_all rfl) (Nat.le_of_ble_eq_true rfl) ?_)
        rintro w171 hB173 hch172
        have hsz174 := hch172.size
        replace hRd := hRd.ch hch172 (off1 (by omega))
        replace hB8 := hB8.ch hch172 (by simp; omega)
        replace hO29 := hO29.ch hch172 (fun s hs => by have := dj_asg hdj42 s hs; simpa using this)
        replace hO168 := hO168.ch hch172 (fun s hs => by first | (have := hO168.off s hs; simp; omega) | (have := hub170 s hs; simp; omega))
        replace hc := hc.step hch172 (fun s hs => by simp at hs; first | (left; simp; omega) | (right; omega))
        clear hr123
        replace hB38 : Blk w171 g36 41 [(.int .i64 (1 + r16)), (.slice A27 xs26.length c28), (.int .i64 (el ([-1, (xs26.length : Int) + 1] : List Int) (r154).toNat))] := hB173
        clear hB173
        refine ⟨fun h => (by cases h), ?_⟩
        clear hB38_r
        clear hB8_r
        clear hO29_r
        clear hRd_r
        refine tw_done (hK122 _ _ ?_)
        refine hK64 _ _ ?_
        refine cw_seq fun K175 hK176 => ?_
        refine cw_region fun K177 hK178 => ?_
        refine rw_cons (op_lv (w0 rfl) rfl rfl (lv_loadN T41 rfl rfl rfl (fun j v hv => hB38.cellA hv)) ?_)
        refine rw_cons (op_store_blk T41 hB8 (w0 rfl) rfl rfl rfl rfl rfl (one_all rfl) (Nat.le_of_ble_eq_true rfl) ?_)
        rintro w179 hB181 hch180
        have hsz182 := hch180.size
        replace hRd := hRd.ch hch180 (off1 (by omega))
        replace hO29 := hO29.ch hch180 (fun s hs => by first | (have := hO29.off s hs; simp; omega) | (have := hub30 s hs; simp; omega))
        replace hB38 := hB38.ch hch180 (by simp; omega)
        replace hO168 := hO168.ch hch180 (fun s hs => by first | (have := hO168.off s hs; simp; omega) | (have := hub170 s hs; simp; omega))
        replace hc := hc.step hch180 (fun s hs => by simp at hs; first | (left; simp; omega) | (right; omega))
        replace hB8 : Blk w179 g6 41 [(.int .i64 (1 + r16)), (.slice A27 xs26.length c28), (.int .i64 (el ([-1, (xs26.length : Int) + 1] : List Int) (r154).toNat))] := hB181
        clear hB181
        refine rw_nil (hK178 _ _ ?_)
        refine hK176 _ _ ?_
        refine cw_ret ?_
        refine finC T41 rfl rfl (fun j v hv => hB8.cellA hv) ?_
        exact ⟨_, _, _, _, _, (agg3 rfl (sl_as hO29 rfl) rfl), own_as (hO29.less (by omega)) rfl, by first | omega | (simp only [List.length_take, List.length_set, List.length_append, List.length_cons, List.length_nil, List.length_replicate]; omega), hRd.up (by omega), hc⟩
    · -- else
      replace h117 := of_decide_eq_false h117
      refine cw_skip ?_
      refine hK64 _ _ ?_
      refine cw_seq fun K183 hK184 => ?_
      refine cw_region fun K185 hK186 => ?_
      refine rw_cons (op_lv (w0 rfl) rfl rfl (lv_loadN T41 rfl rfl rfl (fun j v hv => hB38.cellA hv)) ?_)
      refine rw_cons (op_store_blk T41 hB8 (w0 rfl) rfl rfl rfl rfl rfl (one_all rfl) (Nat.le_of_ble_eq_true rfl) ?_)
      rintro w187 hB189 hch188
      have hsz190 := hch188.size
      replace hRd := hRd.ch hch188 (off1 (by omega))
      replace hO29 := hO29.ch hch188 (fun s hs => by first | (have := hO29.off s hs; simp; omega) | (have := hub30 s hs; simp; omega))
      replace hB38 := hB38.ch hch188 (by simp; omega)
      replace hc := hc.step hch188 (fun s hs => by simp at hs; first | (left; simp; omega) | (right; omega))
      replace hB8 : Blk w187 g6 41 [(.int .i64 (1 + r16)), (.slice A27 xs26.length c28), (.int .i64 r51)] := hB189
      clear hB189
      refine rw_nil (hK186 _ _ ?_)
      refine hK184 _ _ ?_
      refine cw_ret ?_
      refine finC T41 rfl rfl (fun j v hv => hB8.cellA hv) ?_
      exact ⟨_, _, _, _, _, (agg3 rfl (sl_as hO29 rfl) rfl), own_as (hO29.less (by omega)) rfl, by first | omega | (simp only [List.length_take, List.length_set, List.length_append, List.length_cons, List.length_nil, List.length_replicate]; omega), hRd.up (by omega), hc⟩
end Go.Proofs.Ytpnenfglogggmaa
