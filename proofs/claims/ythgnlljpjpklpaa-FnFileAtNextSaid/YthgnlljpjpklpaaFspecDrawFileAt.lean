/-
  The walk of spec.DrawFileAt, written by program: each line names the law of one operation. Conditions: those of the theorem.
-/
import Derived.Test.YthgnlljpjpklpaaProg
import Derived.Test.YthgnlljpjpklpaaDeep
import Derived.Test.YthgnlljpjpklpaaFspecl6Open
import Derived.Test.YthgnlljpjpklpaaFspecl92Name
import Derived.Test.YthgnlljpjpklpaaFspecl6Rdpick
import Derived.KernelRfl
namespace Go.Proofs.Ythgnlljpjpklpaa
open Go Go.RowKit
set_option linter.unusedVariables false
set_option linter.unusedSimpArgs false
namespace DrawFileAt_okF
theorem T3 : TI Try.prog 3 false (.int .i64 0) 1 8 := TI.mk' Try.underlying3 rfl (by kernel_rfl)
theorem C54 : Callable Try.prog 54 := ⟨_, Try.func54, by kernel_rfl, by kernel_rfl⟩
theorem C61 : Callable Try.prog 61 := ⟨_, Try.func61, by kernel_rfl, by kernel_rfl⟩
theorem C62 : Callable Try.prog 62 := ⟨_, Try.func62, by kernel_rfl, by kernel_rfl⟩
end DrawFileAt_okF
open DrawFileAt_okF in
set_option maxHeartbeats 4000000 in
theorem DrawFileAt_ok (A : Option Addr) (n c : Nat) (bs : List UInt8) (w : World) (hR : RS encU 1 w w.heap.size A n bs) (hn : n ≤ c) :
    Fn Try.prog 35 [(.slice A n c)] w fun v w' => ∃ Ahs chs hs nm a, v = .tuple #[.slice Ahs hs.length chs, .string nm, .int .i64 a] ∧ Own encF 2 w' w.heap.size 48 (.slice Ahs hs.length chs) hs ∧ hs.length ≤ 8 ∧ DX w.heap.size w'.heap.size [] w' hs ∧ SzOK hs ∧ nm.size ≤ 1099511627776 ∧ (-1 ≤ a ∧ a ≤ 200) ∧ Ch [] w w' := by
  refine fn_of (n := 26) Try.func35 rfl rfl rfl rfl ?_
  have hc : Ch [] w w := Ch.refl _ _
  refine cw_seq fun K1 hK2 => ?_
  refine cw_region fun K3 hK4 => ?_
  refine rw_cons (op_pv (w0 rfl) rfl rfl (pv_assign (v := (.slice none 0 0)) rfl rfl) ?_)
  refine rw_cons (op_pv (w0 rfl) rfl rfl (pv_assign (v := (.string (ByteArray.mk #[]))) rfl rfl) ?_)
  refine rw_cons (op_pv (w0 rfl) rfl rfl (pv_assign (v := (.int .i64 0)) rfl rfl) ?_)
  refine rw_nil (hK4 _ _ ?_)
  refine hK2 _ _ ?_
  refine cw_seq fun K5 hK6 => ?_
  refine cw_region fun K7 hK8 => ?_
  refine rw_cons (op_pv (w0 rfl) rfl rfl (pv_move (v := (.slice A n c)) rfl rfl) ?_)
  refine rw_cons (op_call (w0 rfl) rfl rfl (rc_call C54 rfl rfl) (l6Open_ok _ _ _ _ _ (hR.more (by omega)) (by omega)) ?_)
  rintro _ w10 ⟨g9, rfl, hg11, hRd12, hch13⟩
  have hsz14 := hch13.size
  replace hR := hR.ch0 hch13
  replace hc := hc.step0 hch13
  have hlt15 := hRd12.lt
  refine rw_cons (op_pv (w0 rfl) rfl rfl (pv_assign (v := (.pointer (some (⟨g9, 0, none⟩)))) rfl rfl) ?_)
  refine rw_nil (hK8 _ _ ?_)
  refine hK6 _ _ ?_
  refine cw_seq fun K16 hK17 => ?_
  refine cw_region fun K18 hK19 => ?_
  refine rw_cons (op_pv (w0 rfl) rfl rfl (pv_move (v := (.pointer (some (⟨g9, 0, none⟩)))) rfl rfl) ?_)
  refine rw_cons (op_call (w0 rfl) rfl rfl (rc_call C61 rfl rfl) (l92Name_ok _ _ _ hRd12 (by omega)) ?_)
  rintro _ w20 ⟨A24, c25, hs22, nm23, rfl, hO26, hl28, hD29, hZ30, hsl31, hRd32, hch21⟩
  have hsz33 := hch21.size
  replace hR := hR.ch hch21 (off1 (by omega))
  replace hc := (off1 (by omega)).step hc hch21
  clear hRd12; have hRd12 := hRd32; clear hRd32
  have hub27 := hO26.lt
  have hcap34 : hs22.length ≤ c25 := by obtain ⟨_, _, hv, h1, _⟩ := hO26.form; injection hv with _ _ h3; omega
  refine rw_cons (op_pv (w0 rfl) rfl rfl (pv_move (v := (.tuple #[(.slice A24 hs22.length c25), (.string nm23)])) rfl rfl) ?_)
  refine rw_cons (op_pv (w0 rfl) rfl rfl (pv_ext (v := (.slice A24 hs22.length c25)) rfl rfl rfl) ?_)
  refine rw_cons (op_pv (w0 rfl) rfl rfl (pv_ext (v := (.string nm23)) rfl rfl rfl) ?_)
  refine rw_cons (op_pv (w0 rfl) rfl rfl (pv_assign (v := (.slice A24 hs22.length c25)) rfl rfl) ?_)
  refine rw_cons (op_pv (w0 rfl) rfl rfl (pv_assign (v := (.string nm23)) rfl rfl) ?_)
  refine rw_nil (hK19 _ _ ?_)
  refine hK17 _ _ ?_
  refine cw_seq fun K35 hK36 => ?_
  refine cw_drawn (fun u => Ch [g9] w20 u) (.free 0 (.free 1 (.free 2 (.free 4 (.free 7 (.one 3 true (.one 5 true (.two 6 true (.one 8 true (.free 9 (.free 11 (.free 12 (.one 10 true (.free 13 (.done))))))) 8 true (.free 11 (.free 12 (.one 6 true (.free 9 (.one 10 true (.free 13 (.done))))))))))))))) (by kernel_rfl) (by kernel_rfl) (Ch.refl _ _).drew fun K40 hK41 => ?_
  obtain ⟨w37, hw_, hch38, hsz39⟩ : ∃ w1 : World, w1 = w20.drew ∧ Ch [] w20 w1 ∧ w1.heap.size = w20.heap.size := ⟨_, rfl, (Ch.refl _ _).drew, rfl⟩
  rw [← hw_]; clear hw_
  have hr42 : Ch [g9] w20 w37 := hch38.sub (fun s hs => by cases hs)
  have hR_r := hR
  have hRd12_r := hRd12
  have hO26_r := hO26
  have hD29_r := hD29
  have hsz43 := hch38.size
  replace hR := hR.ch0 hch38
  replace hRd12 := hRd12.ch0 hch38
  replace hO26 := hO26.ch0 hch38
  replace hD29 := hD29.ch0 hch38
  replace hc := hc.step0 hch38
  refine tw_free rfl (w0 rfl) rfl rfl (fun u hu => (pv_move (v := (.slice A24 hs22.length c25)) rfl rfl : PV _ _ _ _) u) ?_
  refine tw_free rfl (w0 rfl) rfl rfl (fun u hu => (pv_move (v := (.string nm23)) rfl rfl : PV _ _ _ _) u) ?_
  refine tw_free rfl (w0 rfl) rfl rfl (fun u hu => (pv_move (v := (.pointer (some (⟨g9, 0, none⟩)))) rfl rfl : PV _ _ _ _) u) ?_
  refine tw_free rfl (w0 rfl) rfl rfl (fun u hu => (pv_move (v := (.pointer (some (⟨g9, 0, none⟩)))) rfl rfl : PV _ _ _ _) u) ?_
  refine tw_free rfl (w0 rfl) rfl rfl (fun u hu => (pv_move (v := (.pointer (some (⟨g9, 0, none⟩)))) rfl rfl : PV _ _ _ _) u) ?_
  refine tw_one rfl (op_call (w0 rfl) rfl rfl (rc_call C62 rfl rfl) (pick_ok _ _ _ _ hRd12 (by omega)) ?_)
  rintro _ w45 ⟨r44, rfl, hr46, hr47, hr48, hRd49, hch50⟩
  have hsz51 := hch50.size
  replace hR := hR.ch hch50 (off1 (by omega))
  replace hO26 := hO26.ch hch50 (fun s hs => by first | (have := hO26.off s hs; simp; omega) | (have := hub27 s hs; simp; omega))
  replace hD29 := hD29.ch hch50 (fun s hs => by simp at hs; subst hs; first | omega | (right; left; simp; done))
  replace hc := (off1 (by omega)).step hc hch50
  replace hr42 := hr42.step hch50 (fun s hs => .inl hs)
  clear hRd12; have hRd12 := hRd49; clear hRd49
  refine ⟨fun _ => hr42, ?_⟩
  refine tw_one rfl (op_call (w0 rfl) rfl rfl (rc_call C62 rfl rfl) (pick_ok _ _ _ _ hRd12 (by omega)) ?_)
  rintro _ w53 ⟨r52, rfl, hr54, hr55, hr56, hRd57, hch58⟩
  have hsz59 := hch58.size
  replace hR := hR.ch hch58 (off1 (by omega))
  replace hO26 := hO26.ch hch58 (fun s hs => by first | (have := hO26.off s hs; simp; omega) | (have := hub27 s hs; simp; omega))
  replace hD29 := hD29.ch hch58 (fun s hs => by simp at hs; subst hs; first | omega | (right; left; simp; done))
  replace hc := (off1 (by omega)).step hc hch58
  replace hr42 := hr42.step hch58 (fun s hs => .inl hs)
  clear hRd12; have hRd12 := hRd57; clear hRd57
  refine ⟨fun _ => hr42, ?_⟩
  refine tw_two rfl rfl ?_ ?_
  · -- first 6
    refine  (op_bslice [(.int .i64 0), (.int .i64 63), (.int .i64 64), (.int .i64 r44), (.int .i64 r52), (.int .i64 (-1))] Try.underlying25 T3 (w0 rfl) rfl rfl rfl rfl rfl (by simp [Value.cells]) (by decide) ?_)
    intro g61 w60 hg64 hg65 hK63 hch62
    have hO66 : Own encI 1 w60 w53.heap.size 3 (.slice (some ⟨g61, 0, none⟩) 6 6) ([0, 63, 64, r44, r52, -1] : List Int) := Blk.own (xs := ([0, 63, 64, r44, r52, -1] : List Int)) hK63 (by omega) rfl (by decide) rfl
    have hsz67 := hch62.size
    replace hR := hR.ch0 hch62
    replace hRd12 := hRd12.ch0 hch62
    replace hO26 := hO26.ch0 hch62
    replace hD29 := hD29.ch0 hch62
    replace hc := hc.step0 hch62
    replace hr42 := hr42.step0 hch62
    have hub68 := hO66.lt
    refine ⟨fun _ => hr42, ?_⟩
    have hdj69 : ∀ s ∈ obl (.slice A24 hs22.length c25), s ∉ obl (.slice (some ⟨g61, 0, none⟩) 6 6) := fun s hs hs2 => by first | (have h1 := hub27 s hs; have h2 := hO66.off s hs2; omega) | (simp [obl, Value.ownBlock] at hs; done) | (simp [obl, Value.ownBlock] at hs2; done) | (have h1 := hub27 s hs; simp [obl, Value.ownBlock] at hs2; omega)
    refine tw_one rfl (op_call (w0 rfl) rfl rfl (rc_call C62 rfl rfl) (pick_ok _ _ _ _ hRd12 (by omega)) ?_)
    rintro _ w71 ⟨r70, rfl, hr72, hr73, hr74, hRd75, hch76⟩
    have hsz77 := hch76.size
    replace hR := hR.ch hch76 (off1 (by omega))
    replace hO26 := hO26.ch hch76 (fun s hs => by first | (have := hO26.off s hs; simp; omega) | (have := hub27 s hs; simp; omega))
    replace hD29 := hD29.ch hch76 (fun s hs => by simp at hs; subst hs; first | omega | (right; left; simp; done))
    replace hO66 := hO66.ch hch76 (fun s hs => by first | (have := hO66.off s hs; simp; omega) | (have := hub68 s hs; simp; omega))
    replace hc := (off1 (by omega)).step hc hch76
    replace hr42 := hr42.step hch76 (fun s hs => .inl hs)
    clear hRd12; have hRd12 := hRd75; clear hRd75
    refine ⟨fun _ => hr42, ?_⟩
    refine tw_free rfl (w0 rfl) rfl rfl (fun u hu => (pv_idx Try.underlying25 T3 rfl rfl rfl ((hO66.rs (fun _ => rfl)).some (k := (r70).toNat) (by omega)) (by omega) (by omega) : PV _ _ _ _) u) ?_
    refine tw_free rfl (w0 rfl) rfl rfl (fun u hu => (pv_assign (v := (.slice A24 hs22.length c25)) rfl rfl : PV _ _ _ _) u) ?_
    refine tw_free rfl (w0 rfl) rfl rfl (fun u hu => (pv_assign (v := (.string nm23)) rfl rfl : PV _ _ _ _) u) ?_
    refine tw_one rfl (op_lv (w0 rfl) rfl rfl (lv_load T3 rfl rfl ((hO66.rs (fun _ => rfl)).cell0 (k := (r70).toNat) (by omega) rfl)) ?_)
    refine ⟨fun _ => hr42, ?_⟩
    refine tw_free rfl (w0 rfl) rfl rfl (fun u hu => (pv_assign (v := (.int .i64 (el ([0, 63, 64, r44, r52, -1] : List Int) (r70).toNat))) rfl rfl : PV _ _ _ _) u) ?_
    clear hD29_r
    clear hO26_r
    clear hR_r
    clear hRd12_r
    refine tw_done (hK41 _ _ ?_)
    refine hK36 _ _ ?_
    refine cw_ret ?_
    refine fin3 rfl rfl rfl ?_
    exact ⟨_, _, _, _, _, (tup3 (sl_as hO26 rfl) rfl rfl), own_as (hO26.less (by omega)) rfl, by first | omega | (simp only [List.length_take, List.length_set, List.length_append, List.length_cons, List.length_nil, List.length_replicate]; omega), (hD29.less (by omega)).bare (by omega), by first | assumption | exact SzOK.nil, by first | omega | assumption | exact (‹SzOK _› _ (by omega)).1 | decide, by have h9 := el_mem (xs := ([0, 63, 64, r44, r52, -1] : List Int)) (j := (r70).toNat) (by simp; omega); simp only [List.mem_cons, List.not_mem_nil, or_false] at h9; omega, hc⟩
  · -- first 8
    refine  (op_call (w0 rfl) rfl rfl (rc_call C62 rfl rfl) (pick_ok _ _ _ _ hRd12 (by omega)) ?_)
    rintro _ w79 ⟨r78, rfl, hr80, hr81, hr82, hRd83, hch84⟩
    have hsz85 := hch84.size
    replace hR := hR.ch hch84 (off1 (by omega))
    replace hO26 := hO26.ch hch84 (fun s hs => by first | (have := hO26.off s hs; simp; omega) | (have := hub27 s hs; simp; omega))
    replace hD29 := hD29.ch hch84 (fun s hs => by simp at hs; subst hs; first | omega | (right; left; simp; done))
    replace hc := (off1 (by omega)).step hc hch84
    replace hr42 := hr42.step hch84 (fun s hs => .inl hs)
    clear hRd12; have hRd12 := hRd83; clear hRd83
    refine ⟨fun _ => hr42, ?_⟩
    refine tw_free rfl (w0 rfl) rfl rfl (fun u hu => (pv_assign (v := (.slice A24 hs22.length c25)) rfl rfl : PV _ _ _ _) u) ?_
    refine tw_free rfl (w0 rfl) rfl rfl (fun u hu => (pv_assign (v := (.string nm23)) rfl rfl : PV _ _ _ _) u) ?_
    refine tw_one rfl (op_bslice [(.int .i64 0), (.int .i64 63), (.int .i64 64), (.int .i64 r44), (.int .i64 r52), (.int .i64 (-1))] Try.underlying25 T3 (w0 rfl) rfl rfl rfl rfl rfl (by simp [Value.cells]) (by decide) ?_)
    intro g87 w86 hg90 hg91 hK89 hch88
    have hO92 : Own encI 1 w86 w79.heap.size 3 (.slice (some ⟨g87, 0, none⟩) 6 6) ([0, 63, 64, r44, r52, -1] : List Int) := Blk.own (xs := ([0, 63, 64, r44, r52, -1] : List Int)) hK89 (by omega) rfl (by decide) rfl
    have hsz93 := hch88.size
    replace hR := hR.ch0 hch88
    replace hRd12 := hRd12.ch0 hch88
    replace hO26 := hO26.ch0 hch88
    replace hD29 := hD29.ch0 hch88
    replace hc := hc.step0 hch88
    replace hr42 := hr42.step0 hch88
    have hub94 := hO92.lt
    refine ⟨fun _ => hr42, ?_⟩
    have hdj95 : ∀ s ∈ obl (.slice A24 hs22.length c25), s ∉ obl (.slice (some ⟨g87, 0, none⟩) 6 6) := fun s hs hs2 => by first | (have h1 := hub27 s hs; have h2 := hO92.off s hs2; omega) | (simp [obl, Value.ownBlock] at hs; done) | (simp [obl, Value.ownBlock] at hs2; done) | (have h1 := hub27 s hs; simp [obl, Value.ownBlock] at hs2; omega)
    refine tw_free rfl (w0 rfl) rfl rfl (fun u hu => (pv_idx Try.underlying25 T3 rfl rfl rfl ((hO92.rs (fun _ => rfl)).some (k := (r78).toNat) (by omega)) (by omega) (by omega) : PV _ _ _ _) u) ?_
    refine tw_one rfl (op_lv (w0 rfl) rfl rfl (lv_load T3 rfl rfl ((hO92.rs (fun _ => rfl)).cell0 (k := (r78).toNat) (by omega) rfl)) ?_)
    refine ⟨fun _ => hr42, ?_⟩
    refine tw_free rfl (w0 rfl) rfl rfl (fun u hu => (pv_assign (v := (.int .i64 (el ([0, 63, 64, r44, r52, -1] : List Int) (r78).toNat))) rfl rfl : PV _ _ _ _) u) ?_
    clear hD29_r
    clear hO26_r
    clear hR_r
    clear hRd12_r
    refine tw_done (hK41 _ _ ?_)
    refine hK36 _ _ ?_
    refine cw_ret ?_
    refine fin3 rfl rfl rfl ?_
    exact ⟨_, _, _, _, _, (tup3 (sl_as hO26 rfl) rfl rfl), own_as (hO26.less (by omega)) rfl, by first | omega | (simp only [List.length_take, List.length_set, List.length_append, List.length_cons, List.length_nil, List.length_replicate]; omega), (hD29.less (by omega)).bare (by omega), by first | assumption | exact SzOK.nil, by first | omega | assumption | exact (‹SzOK _› _ (by omega)).1 | decide, by have h9 := el_mem (xs := ([0, 63, 64, r44, r52, -1] : List Int)) (j := (r78).toNat) (by simp; omega); simp only [List.mem_cons, List.not_mem_nil, or_false] at h9; omega, hc⟩
end Go.Proofs.Ythgnlljpjpklpaa
