/-
  The walk of spec.DrawBeatsAlive, written by program: each line names the law of one operation. Conditions: those of the theorem.
-/
import Derived.Test.YtnkjljjcionfiaaProg
import Derived.Test.YtnkjljjcionfiaaFspecl6Open
import Derived.Test.YtnkjljjcionfiaaFspecl92Beats
import Derived.KernelRfl
namespace Go.Proofs.Ytnkjljjcionfiaa
open Go Go.RowKit
set_option linter.unusedVariables false
set_option linter.unusedSimpArgs false
namespace DrawBeatsAlive_okF
theorem C40 : Callable Try.prog 40 := ⟨_, Try.func40, by kernel_rfl, by kernel_rfl⟩
theorem C41 : Callable Try.prog 41 := ⟨_, Try.func41, by kernel_rfl, by kernel_rfl⟩
theorem C45 : Callable Try.prog 45 := ⟨_, Try.func45, by kernel_rfl, by kernel_rfl⟩
end DrawBeatsAlive_okF
open DrawBeatsAlive_okF in
set_option maxHeartbeats 4000000 in
theorem DrawBeatsAlive_ok (A : Option Addr) (n c : Nat) (bs : List UInt8) (w : World) (hR : RS encU 1 w w.heap.size A n bs) (hn : n ≤ c) :
    Fn Try.prog 22 [(.slice A n c)] w fun v w' => ∃ A1 c1 xs a b, v = .tuple #[.slice A1 xs.length c1, .int .i64 a, .int .i64 b] ∧ Own encB 2 w' w.heap.size 39 (.slice A1 xs.length c1) xs ∧ xs.length ≤ 8 ∧ 0 ≤ a ∧ a ≤ 120 ∧ 0 ≤ b ∧ b ≤ 60 ∧ Ch [] w w' := by
  refine fn_of (n := 17) Try.func22 rfl rfl rfl rfl ?_
  have hc : Ch [] w w := Ch.refl _ _
  refine cw_seq fun K1 hK2 => ?_
  refine cw_region fun K3 hK4 => ?_
  refine rw_cons (op_pv (w0 rfl) rfl rfl (pv_assign (v := (.slice none 0 0)) rfl rfl) ?_)
  refine rw_cons (op_pv (w0 rfl) rfl rfl (pv_assign (v := (.int .i64 0)) rfl rfl) ?_)
  refine rw_cons (op_pv (w0 rfl) rfl rfl (pv_assign (v := (.int .i64 0)) rfl rfl) ?_)
  refine rw_nil (hK4 _ _ ?_)
  refine hK2 _ _ ?_
  refine cw_seq fun K5 hK6 => ?_
  refine cw_region fun K7 hK8 => ?_
  refine rw_cons (op_pv (w0 rfl) rfl rfl (pv_move (v := (.slice A n c)) rfl rfl) ?_)
  refine rw_cons (op_call (w0 rfl) rfl rfl (rc_call C41 rfl rfl) (l6Open_ok _ _ _ _ _ (hR.more (by omega)) (by omega)) ?_)
  rintro _ w10 ⟨g9, rfl, hg11, hRd12, hch13⟩
  have hsz14 := hch13.size
  replace hR := hR.ch0 hch13
  replace hc := hc.step0 hch13
  have hlt15 := hRd12.lt
  refine rw_cons (op_pv (w0 rfl) rfl rfl (pv_assign (v := (.pointer (some (⟨g9, 0, none⟩)))) rfl rfl) ?_)
  refine rw_nil (hK8 _ _ ?_)
  refine hK6 _ _ ?_
  refine cw_seq fun K16 hK17 => ?_
  refine cw_region fun K18 hK19 => ?_
  refine rw_cons (op_pv (w0 rfl) rfl rfl (pv_move (v := (.pointer (some (⟨g9, 0, none⟩)))) rfl rfl) ?_)
  refine rw_cons (op_call (w0 rfl) rfl rfl (rc_call C40 rfl rfl) (l92Beats_ok _ _ _ hRd12 (by omega)) ?_)
  rintro _ w20 ⟨A24, c25, xs26, rfl, hO27, hl21, hRd22, hch23⟩
  have hsz29 := hch23.size
  replace hR := hR.ch hch23 (off1 (by omega))
  replace hc := (off1 (by omega)).step hc hch23
  clear hRd12; have hRd12 := hRd22; clear hRd22
  have hub28 := hO27.lt
  have hcap30 : xs26.length ≤ c25 := by obtain ⟨_, _, hv, h1, _⟩ := hO27.form; injection hv with _ _ h3; omega
  refine rw_cons (op_pv (w0 rfl) rfl rfl (pv_assign (v := (.slice A24 xs26.length c25)) rfl rfl) ?_)
  refine rw_nil (hK19 _ _ ?_)
  refine hK17 _ _ ?_
  refine cw_seq fun K31 hK32 => ?_
  refine cw_region fun K33 hK34 => ?_
  refine rw_cons (op_pv (w0 rfl) rfl rfl (pv_move (v := (.slice A24 xs26.length c25)) rfl rfl) ?_)
  refine rw_cons (op_pv (w0 rfl) rfl rfl (pv_move (v := (.pointer (some (⟨g9, 0, none⟩)))) rfl rfl) ?_)
  refine rw_cons (op_call (w0 rfl) rfl rfl (rc_call C45 rfl rfl) (pick_ok _ _ _ _ hRd12 (by omega)) ?_)
  rintro _ w36 ⟨r35, rfl, hr37, hr38, hr39, hRd40, hch41⟩
  have hsz42 := hch41.size
  replace hR := hR.ch hch41 (off1 (by omega))
  replace hO27 := hO27.ch hch41 (fun s hs => by first | (have := hO27.off s hs; simp; omega) | (have := hub28 s hs; simp; omega))
  replace hc := (off1 (by omega)).step hc hch41
  clear hRd12; have hRd12 := hRd40; clear hRd40
  refine rw_cons (op_pv (w0 rfl) rfl rfl (pv_add rfl rfl rfl (by omega) (by omega)) ?_)
  refine rw_cons (op_pv (w0 rfl) rfl rfl (pv_move (v := (.pointer (some (⟨g9, 0, none⟩)))) rfl rfl) ?_)
  refine rw_cons (op_call (w0 rfl) rfl rfl (rc_call C45 rfl rfl) (pick_ok _ _ _ _ hRd12 (by omega)) ?_)
  rintro _ w44 ⟨r43, rfl, hr45, hr46, hr47, hRd48, hch49⟩
  have hsz50 := hch49.size
  replace hR := hR.ch hch49 (off1 (by omega))
  replace hO27 := hO27.ch hch49 (fun s hs => by first | (have := hO27.off s hs; simp; omega) | (have := hub28 s hs; simp; omega))
  replace hc := (off1 (by omega)).step hc hch49
  clear hRd12; have hRd12 := hRd48; clear hRd48
  refine rw_cons (op_pv (w0 rfl) rfl rfl (pv_assign (v := (.slice A24 xs26.length c25)) rfl rfl) ?_)
  refine rw_cons (op_pv (w0 rfl) rfl rfl (pv_assign (v := (.int .i64 (50 + r35))) rfl rfl) ?_)
  refine rw_cons (op_pv (w0 rfl) rfl rfl (pv_assign (v := (.int .i64 r43)) rfl rfl) ?_)
  refine rw_nil (hK34 _ _ ?_)
  refine hK32 _ _ ?_
  refine cw_ret ?_
  refine fin3 rfl rfl rfl ?_
  exact ⟨_, _, _, _, _, tup3 (sl_as hO27 rfl) rfl rfl, own_as (hO27.less (by omega)) rfl, by omega, by omega, by omega, by omega, by omega, hc⟩
end Go.Proofs.Ytnkjljjcionfiaa
