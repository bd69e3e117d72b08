/-
  The walk of spec.DrawFileMake, written by program: each line names the law of one operation. Conditions: those of the theorem.
-/
import Derived.Test.YthgnlljpjpklpaaProg
import Derived.Test.YthgnlljpjpklpaaDeep
import Derived.Test.YthgnlljpjpklpaaFspecl6Open
import Derived.Test.YthgnlljpjpklpaaFspecl92Name
import Derived.Test.YthgnlljpjpklpaaFspecl6Rdof
import Derived.Test.YthgnlljpjpklpaaFspecl6Rdpick
import Derived.KernelRfl
namespace Go.Proofs.Ythgnlljpjpklpaa
open Go Go.RowKit
set_option linter.unusedVariables false
set_option linter.unusedSimpArgs false
namespace DrawFileMake_okF
theorem T9 : TI Try.prog 9 false (.string { data := #[] }) 1 16 := TI.mk' Try.underlying9 rfl (by kernel_rfl)
theorem C54 : Callable Try.prog 54 := ⟨_, Try.func54, by kernel_rfl, by kernel_rfl⟩
theorem C61 : Callable Try.prog 61 := ⟨_, Try.func61, by kernel_rfl, by kernel_rfl⟩
theorem C62 : Callable Try.prog 62 := ⟨_, Try.func62, by kernel_rfl, by kernel_rfl⟩
theorem C63 : Callable Try.prog 63 := ⟨_, Try.func63, by kernel_rfl, by kernel_rfl⟩
end DrawFileMake_okF
open DrawFileMake_okF in
set_option maxHeartbeats 4000000 in
theorem DrawFileMake_ok (A : Option Addr) (n c : Nat) (bs : List UInt8) (w : World) (hR : RS encU 1 w w.heap.size A n bs) (hn : n ≤ c) :
    Fn Try.prog 42 [(.slice A n c)] w fun v w' => ∃ Ahs chs hs nm, v = .tuple #[.slice Ahs hs.length chs, .string nm] ∧ Own encF 2 w' w.heap.size 48 (.slice Ahs hs.length chs) hs ∧ hs.length ≤ 8 ∧ DX w.heap.size w'.heap.size [] w' hs ∧ SzOK hs ∧ nm.size ≤ 1099511627776 ∧ Ch [] w w' := by
  refine fn_of (n := 23) Try.func42 rfl rfl rfl rfl ?_
  have hc : Ch [] w w := Ch.refl _ _
  refine cw_seq fun K1 hK2 => ?_
  refine cw_region fun K3 hK4 => ?_
  refine rw_cons (op_pv (w0 rfl) rfl rfl (pv_assign (v := (.slice none 0 0)) rfl rfl) ?_)
  refine rw_cons (op_pv (w0 rfl) rfl rfl (pv_assign (v := (.string (ByteArray.mk #[]))) rfl rfl) ?_)
  refine rw_nil (hK4 _ _ ?_)
  refine hK2 _ _ ?_
  refine cw_seq fun K5 hK6 => ?_
  refine cw_region fun K7 hK8 => ?_
  refine rw_cons (op_pv (w0 rfl) rfl rfl (pv_move (v := (.slice A n c)) rfl rfl) ?_)
  refine rw_cons (op_call (w0 rfl) rfl rfl (rc_call C54 rfl rfl) (l6Open_ok _ _ _ _ _ (hR.more (by omega)) (by omega)) ?_)
  rintro _ w10 ⟨g9, rfl, hg11, hRd12, hch13⟩
  have hsz14 := hch13.size
  replace hR := hR.ch0 hch13
  replace hc := hc.step0 hch13
  have hlt15 := hRd12.lt
  refine rw_cons (op_pv (w0 rfl) rfl rfl (pv_assign (v := (.pointer (some (⟨g9, 0, none⟩)))) rfl rfl) ?_)
  refine rw_nil (hK8 _ _ ?_)
  refine hK6 _ _ ?_
  refine cw_seq fun K16 hK17 => ?_
  refine cw_region fun K18 hK19 => ?_
  refine rw_cons (op_pv (w0 rfl) rfl rfl (pv_move (v := (.pointer (some (⟨g9, 0, none⟩)))) rfl rfl) ?_)
  refine rw_cons (op_call (w0 rfl) rfl rfl (rc_call C61 rfl rfl) (l92Name_ok _ _ _ hRd12 (by omega)) ?_)
  rintro _ w20 ⟨A24, c25, hs22, nm23, rfl, hO26, hl28, hD29, hZ30, hsl31, hRd32, hch21⟩
  have hsz33 := hch21.size
  replace hR := hR.ch hch21 (off1 (by omega))
  replace hc := (off1 (by omega)).step hc hch21
  clear hRd12; have hRd12 := hRd32; clear hRd32
  have hub27 := hO26.lt
  have hcap34 : hs22.length ≤ c25 := by obtain ⟨_, _, hv, h1, _⟩ := hO26.form; injection hv with _ _ h3; omega
  refine rw_cons (op_pv (w0 rfl) rfl rfl (pv_move (v := (.tuple #[(.slice A24 hs22.length c25), (.string nm23)])) rfl rfl) ?_)
  refine rw_cons (op_pv (w0 rfl) rfl rfl (pv_ext (v := (.slice A24 hs22.length c25)) rfl rfl rfl) ?_)
  refine rw_cons (op_pv (w0 rfl) rfl rfl (pv_ext (v := (.string nm23)) rfl rfl rfl) ?_)
  refine rw_cons (op_pv (w0 rfl) rfl rfl (pv_assign (v := (.slice A24 hs22.length c25)) rfl rfl) ?_)
  refine rw_cons (op_pv (w0 rfl) rfl rfl (pv_assign (v := (.string nm23)) rfl rfl) ?_)
  refine rw_nil (hK19 _ _ ?_)
  refine hK17 _ _ ?_
  refine cw_seq fun K35 hK36 => ?_
  refine cw_seq fun K37 hK38 => ?_
  refine cw_region fun K39 hK40 => ?_
  refine rw_cons (op_pv (w0 rfl) rfl rfl (pv_move (v := (.pointer (some (⟨g9, 0, none⟩)))) rfl rfl) ?_)
  refine rw_cons (op_call (w0 rfl) rfl rfl (rc_call C62 rfl rfl) (pick_ok _ _ _ _ hRd12 (by omega)) ?_)
  rintro _ w42 ⟨r41, rfl, hr43, hr44, hr45, hRd46, hch47⟩
  have hsz48 := hch47.size
  replace hR := hR.ch hch47 (off1 (by omega))
  replace hO26 := hO26.ch hch47 (fun s hs => by first | (have := hO26.off s hs; simp; omega) | (have := hub27 s hs; simp; omega))
  replace hD29 := hD29.ch hch47 (fun s hs => by simp at hs; subst hs; first | omega | (right; left; simp; done))
  replace hc := (off1 (by omega)).step hc hch47
  clear hRd12; have hRd12 := hRd46; clear hRd46
  refine rw_cons (op_pv (w0 rfl) rfl rfl (pv_gtr rfl rfl rfl) ?_)
  refine rw_nil (hK40 _ _ ?_)
  refine hK38 _ _ ?_
  refine cw_cond rfl (fun h49 => ?_) (fun h49 => ?_)
  · -- then
    replace h49 := of_decide_eq_true h49
    refine cw_seq fun K50 hK51 => ?_
    refine cw_region fun K52 hK53 => ?_
    refine rw_cons (op_pv (w0 rfl) rfl rfl (pv_move (v := (.slice A24 hs22.length c25)) rfl rfl) ?_)
    refine rw_cons (op_pv (w0 rfl) rfl rfl (pv_move (v := (.pointer (some (⟨g9, 0, none⟩)))) rfl rfl) ?_)
    refine rw_cons (op_bslice [(.string (ByteArray.mk #[122, 111, 111])), (.string (ByteArray.mk #[97, 97])), (.string (ByteArray.mk #[98, 97, 116])), (.string (ByteArray.mk #[100]))] Try.underlying74 T9 (w0 rfl) rfl rfl rfl rfl rfl (by simp [Value.cells]) (by decide) ?_)
    intro g55 w54 hg58 hg59 hK57 hch56
    have hO60 : Own encS 1 w54 w42.heap.size 9 (.slice (some ⟨g55, 0, none⟩) 4 4) ([(ByteArray.mk #[122, 111, 111]), (ByteArray.mk #[97, 97]), (ByteArray.mk #[98, 97, 116]), (ByteArray.mk #[100])] : List ByteArray) := Blk.own (xs := ([(ByteArray.mk #[122, 111, 111]), (ByteArray.mk #[97, 97]), (ByteArray.mk #[98, 97, 116]), (ByteArray.mk #[100])] : List ByteArray)) hK57 (by omega) rfl (by decide) rfl
    have hsz61 := hch56.size
    replace hR := hR.ch0 hch56
    replace hRd12 := hRd12.ch0 hch56
    replace hO26 := hO26.ch0 hch56
    replace hD29 := hD29.ch0 hch56
    replace hc := hc.step0 hch56
    have hub62 := hO60.lt
    have hdj63 : ∀ s ∈ obl (.slice A24 hs22.length c25), s ∉ obl (.slice (some ⟨g55, 0, none⟩) 4 4) := fun s hs hs2 => by first | (have h1 := hub27 s hs; have h2 := hO60.off s hs2; omega) | (simp [obl, Value.ownBlock] at hs; done) | (simp [obl, Value.ownBlock] at hs2; done) | (have h1 := hub27 s hs; simp [obl, Value.ownBlock] at hs2; omega)
    refine rw_cons (op_call (w0 rfl) rfl rfl (rc_call C63 rfl rfl) (of_ok _ _ _ _ _ _ _ _ hRd12 (by omega) hO60 (by omega) (by omega) (by omega)) ?_)
    rintro _ w64 ⟨s65, rfl, hx66, hRd67, hch68⟩
    have hsz69 := hch68.size
    replace hR := hR.ch hch68 (off1 (by omega))
    replace hO26 := hO26.ch hch68 (fun s hs => by first | (have := hO26.off s hs; simp; omega) | (have := hub27 s hs; simp; omega))
    replace hD29 := hD29.ch hch68 (fun s hs => by simp at hs; subst hs; first | omega | (right; left; simp; done))
    replace hO60 := hO60.ch hch68 (fun s hs => by first | (have := hO60.off s hs; simp; omega) | (have := hub62 s hs; simp; omega))
    replace hc := (off1 (by omega)).step hc hch68
    clear hRd12; have hRd12 := hRd67; clear hRd67
    have hsz70 : s65.size ≤ 1099511627776 := Nat.le_trans ((show ∀ s ∈ ([(ByteArray.mk #[122, 111, 111]), (ByteArray.mk #[97, 97]), (ByteArray.mk #[98, 97, 116]), (ByteArray.mk #[100])] : List ByteArray), s.size ≤ 10 by decide) _ hx66) (by omega)
    refine rw_cons (op_pv (w0 rfl) rfl rfl (pv_assign (v := (.slice A24 hs22.length c25)) rfl rfl) ?_)
    refine rw_cons (op_pv (w0 rfl) rfl rfl (pv_assign (v := (.string s65)) rfl rfl) ?_)
    refine rw_nil (hK53 _ _ ?_)
    refine hK51 _ _ ?_
    refine cw_ret ?_
    refine fin2 rfl rfl ?_
    exact ⟨_, _, _, _, (tup2 (sl_as hO26 rfl) rfl), own_as (hO26.less (by omega)) rfl, by first | omega | (simp only [List.length_take, List.length_set, List.length_append, List.length_cons, List.length_nil, List.length_replicate]; omega), (hD29.less (by omega)).bare (by omega), by first | assumption | exact SzOK.nil, by first | omega | assumption | exact (‹SzOK _› _ (by omega)).1 | decide, hc⟩
  · -- else
    replace h49 := of_decide_eq_false h49
    refine cw_skip ?_
    refine hK36 _ _ ?_
    refine cw_seq fun K71 hK72 => ?_
    refine cw_region fun K73 hK74 => ?_
    refine rw_cons (op_pv (w0 rfl) rfl rfl (pv_move (v := (.slice A24 hs22.length c25)) rfl rfl) ?_)
    refine rw_cons (op_pv (w0 rfl) rfl rfl (pv_move (v := (.string nm23)) rfl rfl) ?_)
    refine rw_cons (op_pv (w0 rfl) rfl rfl (pv_assign (v := (.slice A24 hs22.length c25)) rfl rfl) ?_)
    refine rw_cons (op_pv (w0 rfl) rfl rfl (pv_assign (v := (.string nm23)) rfl rfl) ?_)
    refine rw_nil (hK74 _ _ ?_)
    refine hK72 _ _ ?_
    refine cw_ret ?_
    refine fin2 rfl rfl ?_
    exact ⟨_, _, _, _, (tup2 (sl_as hO26 rfl) rfl), own_as (hO26.less (by omega)) rfl, by first | omega | (simp only [List.length_take, List.length_set, List.length_append, List.length_cons, List.length_nil, List.length_replicate]; omega), (hD29.less (by omega)).bare (by omega), by first | assumption | exact SzOK.nil, by first | omega | assumption | exact (‹SzOK _› _ (by omega)).1 | decide, hc⟩
end Go.Proofs.Ythgnlljpjpklpaa
