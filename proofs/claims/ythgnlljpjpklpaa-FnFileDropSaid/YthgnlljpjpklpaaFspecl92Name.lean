/-
  The walk of spec.l92Name, written by program: each line names the law of one operation. Conditions: those of the theorem.
-/
import Derived.Test.YthgnlljpjpklpaaProg
import Derived.Test.YthgnlljpjpklpaaDeep
import Derived.Test.YthgnlljpjpklpaaFspecl92Files
import Derived.Test.YthgnlljpjpklpaaFspecl6Rdpick
import Derived.Test.YthgnlljpjpklpaaFspecl6Rdof
import Derived.KernelRfl
namespace Go.Proofs.Ythgnlljpjpklpaa
open Go Go.RowKit
set_option linter.unusedVariables false
set_option linter.unusedSimpArgs false
namespace l92Name_okF
theorem T9 : TI Try.prog 9 false (.string { data := #[] }) 1 16 := TI.mk' Try.underlying9 rfl (by kernel_rfl)
theorem T48 : TI Try.prog 48 true (.agg #[.string { data := #[] }, .slice none 0 0]) 2 40 := TI.mk' Try.underlying48 rfl (by kernel_rfl)
theorem F48_0 : FldOK Try.prog 48 0 0 := ⟨_, _, 0, Try.underlying48, rfl, rfl, by kernel_rfl⟩
theorem C53 : Callable Try.prog 53 := ⟨_, Try.func53, by kernel_rfl, by kernel_rfl⟩
theorem C62 : Callable Try.prog 62 := ⟨_, Try.func62, by kernel_rfl, by kernel_rfl⟩
theorem C63 : Callable Try.prog 63 := ⟨_, Try.func63, by kernel_rfl, by kernel_rfl⟩
end l92Name_okF
open l92Name_okF in
set_option maxHeartbeats 4000000 in
theorem l92Name_ok (g : Nat) (N : Nat) (w : World) (hRd : Rd 77 w g N) (hN : N ≤ 900000) :
    Fn Try.prog 61 [(.pointer (some (⟨g, 0, none⟩)))] w fun v w' => ∃ Ahs chs hs nm, v = .tuple #[.slice Ahs hs.length chs, .string nm] ∧ Own encF 2 w' w.heap.size 48 (.slice Ahs hs.length chs) hs ∧ hs.length ≤ 8 ∧ DX w.heap.size w'.heap.size [] w' hs ∧ SzOK hs ∧ nm.size ≤ 1099511627776 ∧ Rd 77 w' g (N + 90) ∧ Ch [g] w w' := by
  have hg0 := hRd.lt
  refine fn_of (n := 28) Try.func61 rfl rfl rfl rfl ?_
  have hc : Ch [g] w w := Ch.refl _ _
  refine cw_seq fun K1 hK2 => ?_
  refine cw_region fun K3 hK4 => ?_
  refine rw_cons (op_pv (w0 rfl) rfl rfl (pv_assign (v := (.slice none 0 0)) rfl rfl) ?_)
  refine rw_cons (op_pv (w0 rfl) rfl rfl (pv_assign (v := (.string (ByteArray.mk #[]))) rfl rfl) ?_)
  refine rw_nil (hK4 _ _ ?_)
  refine hK2 _ _ ?_
  refine cw_seq fun K5 hK6 => ?_
  refine cw_region fun K7 hK8 => ?_
  refine rw_cons (op_pv (w0 rfl) rfl rfl (pv_move (v := (.pointer (some (⟨g, 0, none⟩)))) rfl rfl) ?_)
  refine rw_cons (op_call (w0 rfl) rfl rfl (rc_call C53 rfl rfl) (l92Files_ok _ _ _ hRd (by omega)) ?_)
  rintro _ w9 ⟨A10, c11, hs12, rfl, hO13, hD14, hl15, hZ16, hRd17, hch18⟩
  have hsz19 := hch18.size
  replace hc := hc.step hch18 (fun s hs => .inl hs)
  clear hRd; have hRd := hRd17; clear hRd17
  have hub20 := hO13.lt
  have hcap21 : hs12.length ≤ c11 := by obtain ⟨_, _, hv, h1, _⟩ := hO13.form; injection hv with _ _ h3; omega
  refine rw_cons (op_pv (w0 rfl) rfl rfl (pv_assign (v := (.slice A10 hs12.length c11)) rfl rfl) ?_)
  refine rw_nil (hK8 _ _ ?_)
  refine hK6 _ _ ?_
  refine cw_seq fun K22 hK23 => ?_
  refine cw_seq fun K24 hK25 => ?_
  refine cw_region fun K26 hK27 => ?_
  refine rw_cons (op_pv (w0 rfl) rfl rfl (pv_move (v := (.slice A10 hs12.length c11)) rfl rfl) ?_)
  refine rw_cons (op_pv (w0 rfl) rfl rfl (pv_len Try.underlying24 rfl rfl) ?_)
  refine rw_cons (op_pv (w0 rfl) rfl rfl (pv_gtr rfl rfl rfl) ?_)
  refine rw_cons (op_pv (w0 rfl) rfl rfl (pv_move (v := (.bool (decide (0 < (hs12.length : Int))))) rfl rfl) ?_)
  refine rw_split 10 rfl (fun hb28 => ?_) (fun hb28 => ?_)
  · -- yes
    replace hb28 := of_decide_eq_true hb28
    refine rw_cons (op_pv (w1y rfl rfl rfl rfl) rfl rfl (pv_move (v := (.pointer (some (⟨g, 0, none⟩)))) rfl rfl) ?_)
    refine rw_cons (op_call (w1y rfl rfl rfl rfl) rfl rfl (rc_call C62 rfl rfl) (pick_ok _ _ _ _ hRd (by omega)) ?_)
    rintro _ w30 ⟨r29, rfl, hr31, hr32, hr33, hRd34, hch35⟩
    have hsz36 := hch35.size
    replace hO13 := hO13.ch hch35 (fun s hs => by first | (have := hO13.off s hs; simp; omega) | (have := hub20 s hs; simp; omega))
    replace hD14 := hD14.ch hch35 (fun s hs => by simp at hs; subst hs; first | omega | (right; left; simp; done))
    replace hc := hc.step hch35 (fun s hs => .inl hs)
    clear hRd; have hRd := hRd34; clear hRd34
    refine rw_cons (op_pv (w1y rfl rfl rfl rfl) rfl rfl (pv_gtr rfl rfl rfl) ?_)
    refine rw_cons (op_pv (w0 rfl) rfl rfl (pv_pickT (v := (.bool (decide (0 < r29)))) rfl rfl rfl) ?_)
    refine rw_nil (hK27 _ _ ?_)
    refine hK25 _ _ ?_
    refine cw_cond rfl (fun h37 => ?_) (fun h37 => ?_)
    · -- then
      replace h37 := of_decide_eq_true h37
      refine cw_seq fun K38 hK39 => ?_
      refine cw_drawn (fun u => Ch [g] w30 u) (.free 0 (.free 1 (.free 2 (.free 3 (.free 4 (.one 5 true (.free 6 (.free 7 (.free 8 (.free 9 (.free 10 (.done)))))))))))) (by kernel_rfl) (by kernel_rfl) (Ch.refl _ _).drew fun K43 hK44 => ?_
      obtain ⟨w40, hw_, hch41, hsz42⟩ : ∃ w1 : World, w1 = w30.drew ∧ Ch [] w30 w1 ∧ w1.heap.size = w30.heap.size := ⟨_, rfl, (Ch.refl _ _).drew, rfl⟩
      rw [← hw_]; clear hw_
      have hr45 : Ch [g] w30 w40 := hch41.sub (fun s hs => by cases hs)
      have hRd_r := hRd
      have hO13_r := hO13
      have hD14_r := hD14
      have hsz46 := hch41.size
      replace hRd := hRd.ch0 hch41
      replace hO13 := hO13.ch0 hch41
      replace hD14 := hD14.ch0 hch41
      replace hc := hc.step0 hch41
      refine tw_free rfl (w0 rfl) rfl rfl (fun u hu => (pv_move (v := (.slice A10 hs12.length c11)) rfl rfl : PV _ _ _ _) u) ?_
      refine tw_free rfl (w0 rfl) rfl rfl (fun u hu => (pv_move (v := (.slice A10 hs12.length c11)) rfl rfl : PV _ _ _ _) u) ?_
      refine tw_free rfl (w0 rfl) rfl rfl (fun u hu => (pv_move (v := (.pointer (some (⟨g, 0, none⟩)))) rfl rfl : PV _ _ _ _) u) ?_
      refine tw_free rfl (w0 rfl) rfl rfl (fun u hu => (pv_move (v := (.slice A10 hs12.length c11)) rfl rfl : PV _ _ _ _) u) ?_
      refine tw_free rfl (w0 rfl) rfl rfl (fun u hu => (pv_len Try.underlying24 rfl rfl : PV _ _ _ _) u) ?_
      refine tw_one rfl (op_call (w0 rfl) rfl rfl (rc_call C62 rfl rfl) (pick_ok _ _ _ _ hRd (by omega)) ?_)
      rintro _ w48 ⟨r47, rfl, hr49, hr50, hr51, hRd52, hch53⟩
      have hsz54 := hch53.size
      replace hO13 := hO13.ch hch53 (fun s hs => by first | (have := hO13.off s hs; simp; omega) | (have := hub20 s hs; simp; omega))
      replace hD14 := hD14.ch hch53 (fun s hs => by simp at hs; subst hs; first | omega | (right; left; simp; done))
      replace hc := hc.step hch53 (fun s hs => .inl hs)
      replace hr45 := hr45.step hch53 (fun s hs => .inl hs)
      clear hRd; have hRd := hRd52; clear hRd52
      refine ⟨fun _ => hr45, ?_⟩
      refine tw_free rfl (w0 rfl) rfl rfl (fun u hu => (pv_idx Try.underlying24 T48 rfl rfl rfl ((hO13.rs (fun _ => rfl)).some (k := (r47).toNat) (by omega)) (by omega) (by omega) : PV _ _ _ _) u) ?_
      refine tw_free rfl (w0 rfl) rfl rfl (fun u hu => (pv_fld F48_0 rfl rfl : PV _ _ _ _) u) ?_
      refine tw_free rfl (w0 rfl) rfl rfl (fun u hu => lv_load T9 rfl rfl (((hO13_r.ch hu (fun s hs => by have := hO13_r.off s hs; simp; omega)).rs (fun _ => rfl)).cellE (k := (r47).toNat) (j := 0) (by omega) rfl)) ?_
      have hR55 : RS encI 1 w48 w9.heap.size (el hs12 (r47).toNat).A (el hs12 (r47).toNat).n (el hs12 (r47).toNat).ps := hD14.rs (k := (r47).toNat) (by omega)
      have hR55_r : RS encI 1 w30 w9.heap.size (el hs12 (r47).toNat).A (el hs12 (r47).toNat).n (el hs12 (r47).toNat).ps := hD14_r.rs (k := (r47).toNat) (by omega)
      have hln56 := hR55.len
      refine tw_free rfl (w0 rfl) rfl rfl (fun u hu => (pv_assign (v := (.slice A10 hs12.length c11)) rfl rfl : PV _ _ _ _) u) ?_
      refine tw_free rfl (w0 rfl) rfl rfl (fun u hu => (pv_assign (v := (.string (el hs12 (r47).toNat).nm)) rfl rfl : PV _ _ _ _) u) ?_
      try clear hD14_r
      try clear hO13_r
      try clear hR55_r
      try clear hRd_r
      refine tw_done (hK44 _ _ ?_)
      refine hK39 _ _ ?_
      refine cw_ret ?_
      refine fin2 rfl rfl ?_
      exact ⟨_, _, _, _, (tup2 (sl_as hO13 rfl) rfl), own_as (hO13.less (by omega)) rfl, by first | omega | (simp only [List.length_take, List.length_set, List.length_append, List.length_cons, List.length_nil, List.length_replicate]; omega), (hD14.less (by omega)).bare (by omega), by first | assumption | exact SzOK.nil, by first | omega | assumption | exact (‹SzOK _› _ (by omega)).1 | decide, hRd.up (by omega), hc⟩
    · -- else
      replace h37 := of_decide_eq_false h37
      refine cw_skip ?_
      refine hK23 _ _ ?_
      refine cw_seq fun K57 hK58 => ?_
      refine cw_region fun K59 hK60 => ?_
      refine rw_cons (op_pv (w0 rfl) rfl rfl (pv_move (v := (.slice A10 hs12.length c11)) rfl rfl) ?_)
      refine rw_cons (op_pv (w0 rfl) rfl rfl (pv_move (v := (.pointer (some (⟨g, 0, none⟩)))) rfl rfl) ?_)
      refine rw_cons (op_bslice [(.string (ByteArray.mk #[122, 111, 111])), (.string (ByteArray.mk #[97])), (.string (ByteArray.mk #[66, 97, 100])), (.string (ByteArray.mk #[])), (.string (ByteArray.mk #[99, 97, 116]))] Try.underlying74 T9 (w0 rfl) rfl rfl rfl rfl rfl (by simp [Value.cells]) (by decide) ?_)
      intro g62 w61 hg65 hg66 hK64 hch63
      have hO67 : Own encS 1 w61 w30.heap.size 9 (.slice (some ⟨g62, 0, none⟩) 5 5) ([(ByteArray.mk #[122, 111, 111]), (ByteArray.mk #[97]), (ByteArray.mk #[66, 97, 100]), (ByteArray.mk #[]), (ByteArray.mk #[99, 97, 116])] : List ByteArray) := Blk.own (xs := ([(ByteArray.mk #[122, 111, 111]), (ByteArray.mk #[97]), (ByteArray.mk #[66, 97, 100]), (ByteArray.mk #[]), (ByteArray.mk #[99, 97, 116])] : List ByteArray)) hK64 (by omega) rfl (by decide) rfl
      have hsz68 := hch63.size
      replace hRd := hRd.ch0 hch63
      replace hO13 := hO13.ch0 hch63
      replace hD14 := hD14.ch0 hch63
      replace hc := hc.step0 hch63
      have hub69 := hO67.lt
      have hdj70 : ∀ s ∈ obl (.slice A10 hs12.length c11), s ∉ obl (.slice (some ⟨g62, 0, none⟩) 5 5) := fun s hs hs2 => by first | (have h1 := hub20 s hs; have h2 := hO67.off s hs2; omega) | (simp [obl, Value.ownBlock] at hs; done) | (simp [obl, Value.ownBlock] at hs2; done) | (have h1 := hub20 s hs; simp [obl, Value.ownBlock] at hs2; omega)
      refine rw_cons (op_call (w0 rfl) rfl rfl (rc_call C63 rfl rfl) (of_ok _ _ _ _ _ _ _ _ hRd (by omega) hO67 (by omega) (by omega) (by omega)) ?_)
      rintro _ w71 ⟨s72, rfl, hx73, hRd74, hch75⟩
      have hsz76 := hch75.size
      replace hO13 := hO13.ch hch75 (fun s hs => by first | (have := hO13.off s hs; simp; omega) | (have := hub20 s hs; simp; omega))
      replace hD14 := hD14.ch hch75 (fun s hs => by simp at hs; subst hs; first | omega | (right; left; simp; done))
      replace hO67 := hO67.ch hch75 (fun s hs => by first | (have := hO67.off s hs; simp; omega) | (have := hub69 s hs; simp; omega))
      replace hc := hc.step hch75 (fun s hs => .inl hs)
      clear hRd; have hRd := hRd74; clear hRd74
      have hsz77 : s72.size ≤ 1099511627776 := Nat.le_trans ((show ∀ s ∈ ([(ByteArray.mk #[122, 111, 111]), (ByteArray.mk #[97]), (ByteArray.mk #[66, 97, 100]), (ByteArray.mk #[]), (ByteArray.mk #[99, 97, 116])] : List ByteArray), s.size ≤ 10 by decide) _ hx73) (by omega)
      refine rw_cons (op_pv (w0 rfl) rfl rfl (pv_assign (v := (.slice A10 hs12.length c11)) rfl rfl) ?_)
      refine rw_cons (op_pv (w0 rfl) rfl rfl (pv_assign (v := (.string s72)) rfl rfl) ?_)
      refine rw_nil (hK60 _ _ ?_)
      refine hK58 _ _ ?_
      refine cw_ret ?_
      refine fin2 rfl rfl ?_
      exact ⟨_, _, _, _, (tup2 (sl_as hO13 rfl) rfl), own_as (hO13.less (by omega)) rfl, by first | omega | (simp only [List.length_take, List.length_set, List.length_append, List.length_cons, List.length_nil, List.length_replicate]; omega), (hD14.less (by omega)).bare (by omega), by first | assumption | exact SzOK.nil, by first | omega | assumption | exact (‹SzOK _› _ (by omega)).1 | decide, hRd.up (by omega), hc⟩
  · -- no
    replace hb28 := of_decide_eq_false hb28
    refine rw_cons (op_pass (w1n1 rfl rfl rfl rfl) rfl rfl ?_)
    refine rw_cons (op_pass (w1n1 rfl rfl rfl rfl) rfl rfl ?_)
    refine rw_cons (op_pass (w1n1 rfl rfl rfl rfl) rfl rfl ?_)
    refine rw_cons (op_pv (w0 rfl) rfl rfl (pv_pickF (v := (.bool false)) rfl rfl rfl) ?_)
    refine rw_nil (hK27 _ _ ?_)
    refine hK25 _ _ ?_
    refine cw_cond rfl (fun h78 => ?_) (fun h78 => ?_)
    · -- then
      cases h78
    · -- else
      clear h78
      refine cw_skip ?_
      refine hK23 _ _ ?_
      refine cw_seq fun K79 hK80 => ?_
      refine cw_region fun K81 hK82 => ?_
      refine rw_cons (op_pv (w0 rfl) rfl rfl (pv_move (v := (.slice A10 hs12.length c11)) rfl rfl) ?_)
      refine rw_cons (op_pv (w0 rfl) rfl rfl (pv_move (v := (.pointer (some (⟨g, 0, none⟩)))) rfl rfl) ?_)
      refine rw_cons (op_bslice [(.string (ByteArray.mk #[122, 111, 111])), (.string (ByteArray.mk #[97])), (.string (ByteArray.mk #[66, 97, 100])), (.string (ByteArray.mk #[])), (.string (ByteArray.mk #[99, 97, 116]))] Try.underlying74 T9 (w0 rfl) rfl rfl rfl rfl rfl (by simp [Value.cells]) (by decide) ?_)
      intro g84 w83 hg87 hg88 hK86 hch85
      have hO89 : Own encS 1 w83 w9.heap.size 9 (.slice (some ⟨g84, 0, none⟩) 5 5) ([(ByteArray.mk #[122, 111, 111]), (ByteArray.mk #[97]), (ByteArray.mk #[66, 97, 100]), (ByteArray.mk #[]), (ByteArray.mk #[99, 97, 116])] : List ByteArray) := Blk.own (xs := ([(ByteArray.mk #[122, 111, 111]), (ByteArray.mk #[97]), (ByteArray.mk #[66, 97, 100]), (ByteArray.mk #[]), (ByteArray.mk #[99, 97, 116])] : List ByteArray)) hK86 (by omega) rfl (by decide) rfl
      have hsz90 := hch85.size
      replace hRd := hRd.ch0 hch85
      replace hO13 := hO13.ch0 hch85
      replace hD14 := hD14.ch0 hch85
      replace hc := hc.step0 hch85
      have hub91 := hO89.lt
      have hdj92 : ∀ s ∈ obl (.slice A10 hs12.length c11), s ∉ obl (.slice (some ⟨g84, 0, none⟩) 5 5) := fun s hs hs2 => by first | (have h1 := hub20 s hs; have h2 := hO89.off s hs2; omega) | (simp [obl, Value.ownBlock] at hs; done) | (simp [obl, Value.ownBlock] at hs2; done) | (have h1 := hub20 s hs; simp [obl, Value.ownBlock] at hs2; omega)
      refine rw_cons (op_call (w0 rfl) rfl rfl (rc_call C63 rfl rfl) (of_ok _ _ _ _ _ _ _ _ hRd (by omega) hO89 (by omega) (by omega) (by omega)) ?_)
      rintro _ w93 ⟨s94, rfl, hx95, hRd96, hch97⟩
      have hsz98 := hch97.size
      replace hO13 := hO13.ch hch97 (fun s hs => by first | (have := hO13.off s hs; simp; omega) | (have := hub20 s hs; simp; omega))
      replace hD14 := hD14.ch hch97 (fun s hs => by simp at hs; subst hs; first | omega | (right; left; simp; done))
      replace hO89 := hO89.ch hch97 (fun s hs => by first | (have := hO89.off s hs; simp; omega) | (have := hub91 s hs; simp; omega))
      replace hc := hc.step hch97 (fun s hs => .inl hs)
      clear hRd; have hRd := hRd96; clear hRd96
      have hsz99 : s94.size ≤ 1099511627776 := Nat.le_trans ((show ∀ s ∈ ([(ByteArray.mk #[122, 111, 111]), (ByteArray.mk #[97]), (ByteArray.mk #[66, 97, 100]), (ByteArray.mk #[]), (ByteArray.mk #[99, 97, 116])] : List ByteArray), s.size ≤ 10 by decide) _ hx95) (by omega)
      refine rw_cons (op_pv (w0 rfl) rfl rfl (pv_assign (v := (.slice A10 hs12.length c11)) rfl rfl) ?_)
      refine rw_cons (op_pv (w0 rfl) rfl rfl (pv_assign (v := (.string s94)) rfl rfl) ?_)
      refine rw_nil (hK82 _ _ ?_)
      refine hK80 _ _ ?_
      refine cw_ret ?_
      refine fin2 rfl rfl ?_
      exact ⟨_, _, _, _, (tup2 (sl_as hO13 rfl) rfl), own_as (hO13.less (by omega)) rfl, by first | omega | (simp only [List.length_take, List.length_set, List.length_append, List.length_cons, List.length_nil, List.length_replicate]; omega), (hD14.less (by omega)).bare (by omega), by first | assumption | exact SzOK.nil, by first | omega | assumption | exact (‹SzOK _› _ (by omega)).1 | decide, hRd.up (by omega), hc⟩
end Go.Proofs.Ythgnlljpjpklpaa
