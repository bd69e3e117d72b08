/-
  The walk of spec.DrawPlaceOf, written by program: each line names the law of one operation. Conditions: those of the theorem.
-/
import Derived.Test.YtielahdnccocdaaProg
import Derived.Test.YtielahdnccocdaaRank
import Derived.Test.YtielahdnccocdaaIface
import Derived.Test.YtielahdnccocdaaFspecl6Open
import Derived.Test.YtielahdnccocdaaFspecl6Rdpick
import Derived.Test.YtielahdnccocdaaFspecl92Servers
import Derived.KernelRfl
namespace Go.Proofs.Ytielahdnccocdaa
open Go Go.RowKit
set_option linter.unusedVariables false
set_option linter.unusedSimpArgs false
namespace DrawPlaceOf_okF
theorem C32 : Callable Try.prog 32 := ⟨_, Try.func32, by kernel_rfl, by kernel_rfl⟩
theorem C33 : Callable Try.prog 33 := ⟨_, Try.func33, by kernel_rfl, by kernel_rfl⟩
theorem C34 : Callable Try.prog 34 := ⟨_, Try.func34, by kernel_rfl, by kernel_rfl⟩
end DrawPlaceOf_okF
open DrawPlaceOf_okF in
set_option maxHeartbeats 4000000 in
theorem DrawPlaceOf_ok (A : Option Addr) (n c : Nat) (bs : List UInt8) (w : World) (hR : RS encU 1 w w.heap.size A n bs) (hn : n ≤ c) :
    Fn Try.prog 25 [(.slice A n c)] w fun v w' => ∃ p Axs cxs xs m, v = .tuple #[.int .i64 p, .slice Axs xs.length cxs, .int .i64 m] ∧ Own encI 1 w' w.heap.size 3 (.slice Axs xs.length cxs) xs ∧ xs.length ≤ 10 ∧ Ch [] w w' := by
  refine fn_of (n := 25) Try.func25 rfl rfl rfl rfl ?_
  have hc : Ch [] w w := Ch.refl _ _
  refine cw_seq fun K1 hK2 => ?_
  refine cw_region fun K3 hK4 => ?_
  refine rw_cons (op_pv (w0 rfl) rfl rfl (pv_assign (v := (.int .i64 0)) rfl rfl) ?_)
  refine rw_cons (op_pv (w0 rfl) rfl rfl (pv_assign (v := (.slice none 0 0)) rfl rfl) ?_)
  refine rw_cons (op_pv (w0 rfl) rfl rfl (pv_assign (v := (.int .i64 0)) rfl rfl) ?_)
  refine rw_nil (hK4 _ _ ?_)
  refine hK2 _ _ ?_
  refine cw_seq fun K5 hK6 => ?_
  refine cw_region fun K7 hK8 => ?_
  refine rw_cons (op_pv (w0 rfl) rfl rfl (pv_move (v := (.slice A n c)) rfl rfl) ?_)
  refine rw_cons (op_call (w0 rfl) rfl rfl (rc_call C32 rfl rfl) (l6Open_ok _ _ _ _ _ (hR.more (by omega)) (by omega)) ?_)
  rintro _ w10 ⟨g9, rfl, hg11, hRd12, hch13⟩
  have hsz14 := hch13.size
  replace hR := hR.ch0 hch13
  replace hc := hc.step0 hch13
  have hlt15 := hRd12.lt
  refine rw_cons (op_pv (w0 rfl) rfl rfl (pv_assign (v := (.pointer (some (⟨g9, 0, none⟩)))) rfl rfl) ?_)
  refine rw_nil (hK8 _ _ ?_)
  refine hK6 _ _ ?_
  refine cw_seq fun K16 hK17 => ?_
  refine cw_region fun K18 hK19 => ?_
  refine rw_cons (op_pv (w0 rfl) rfl rfl (pv_move (v := (.pointer (some (⟨g9, 0, none⟩)))) rfl rfl) ?_)
  refine rw_cons (op_call (w0 rfl) rfl rfl (rc_call C33 rfl rfl) (pick_ok _ _ _ _ hRd12 (by omega)) ?_)
  rintro _ w21 ⟨r20, rfl, hr22, hr23, hr24, hRd25, hch26⟩
  have hsz27 := hch26.size
  replace hR := hR.ch hch26 (off1 (by omega))
  replace hc := (off1 (by omega)).step hc hch26
  clear hRd12; have hRd12 := hRd25; clear hRd25
  refine rw_cons (op_pv (w0 rfl) rfl rfl (pv_add rfl rfl rfl (by omega) (by omega)) ?_)
  refine rw_cons (op_pv (w0 rfl) rfl rfl (pv_assign (v := (.int .i64 (1 + r20))) rfl rfl) ?_)
  refine rw_nil (hK19 _ _ ?_)
  refine hK17 _ _ ?_
  refine cw_seq fun K28 hK29 => ?_
  refine cw_region fun K30 hK31 => ?_
  refine rw_cons (op_pv (w0 rfl) rfl rfl (pv_move (v := (.pointer (some (⟨g9, 0, none⟩)))) rfl rfl) ?_)
  refine rw_cons (op_call (w0 rfl) rfl rfl (rc_call C34 rfl rfl) (l92Servers_ok _ _ _ hRd12 (by omega)) ?_)
  rintro _ w32 ⟨A36, c37, xs38, rfl, hO39, hl33, hRd34, hch35⟩
  have hsz41 := hch35.size
  replace hR := hR.ch hch35 (off1 (by omega))
  replace hc := (off1 (by omega)).step hc hch35
  clear hRd12; have hRd12 := hRd34; clear hRd34
  have hub40 := hO39.lt
  have hcap42 : xs38.length ≤ c37 := by obtain ⟨_, _, hv, h1, _⟩ := hO39.form; injection hv with _ _ h3; omega
  refine rw_cons (op_pv (w0 rfl) rfl rfl (pv_assign (v := (.slice A36 xs38.length c37)) rfl rfl) ?_)
  refine rw_nil (hK31 _ _ ?_)
  refine hK29 _ _ ?_
  refine cw_seq fun K43 hK44 => ?_
  refine cw_region fun K45 hK46 => ?_
  refine rw_cons (op_pv (w0 rfl) rfl rfl (pv_move (v := (.int .i64 (1 + r20))) rfl rfl) ?_)
  refine rw_cons (op_pv (w0 rfl) rfl rfl (pv_move (v := (.slice A36 xs38.length c37)) rfl rfl) ?_)
  refine rw_cons (op_pv (w0 rfl) rfl rfl (pv_move (v := (.pointer (some (⟨g9, 0, none⟩)))) rfl rfl) ?_)
  refine rw_cons (op_pv (w0 rfl) rfl rfl (pv_move (v := (.slice A36 xs38.length c37)) rfl rfl) ?_)
  refine rw_cons (op_pv (w0 rfl) rfl rfl (pv_len Try.underlying24 rfl rfl) ?_)
  refine rw_cons (op_pv (w0 rfl) rfl rfl (pv_add rfl rfl rfl (by omega) (by omega)) ?_)
  refine rw_cons (op_call (w0 rfl) rfl rfl (rc_call C33 rfl rfl) (pick_ok _ _ _ _ hRd12 (by omega)) ?_)
  rintro _ w48 ⟨r47, rfl, hr49, hr50, hr51, hRd52, hch53⟩
  have hsz54 := hch53.size
  replace hR := hR.ch hch53 (off1 (by omega))
  replace hO39 := hO39.ch hch53 (fun s hs => by first | (have := hO39.off s hs; simp; omega) | (have := hub40 s hs; simp; omega))
  replace hc := (off1 (by omega)).step hc hch53
  clear hRd12; have hRd12 := hRd52; clear hRd52
  refine rw_cons (op_pv (w0 rfl) rfl rfl (pv_move (v := (.pointer (some (⟨g9, 0, none⟩)))) rfl rfl) ?_)
  refine rw_cons (op_call (w0 rfl) rfl rfl (rc_call C33 rfl rfl) (pick_ok _ _ _ _ hRd12 (by omega)) ?_)
  rintro _ w56 ⟨r55, rfl, hr57, hr58, hr59, hRd60, hch61⟩
  have hsz62 := hch61.size
  replace hR := hR.ch hch61 (off1 (by omega))
  replace hO39 := hO39.ch hch61 (fun s hs => by first | (have := hO39.off s hs; simp; omega) | (have := hub40 s hs; simp; omega))
  replace hc := (off1 (by omega)).step hc hch61
  clear hRd12; have hRd12 := hRd60; clear hRd60
  refine rw_cons (op_pv (w0 rfl) rfl rfl (pv_sub rfl rfl rfl (by omega) (by omega)) ?_)
  refine rw_cons (op_pv (w0 rfl) rfl rfl (pv_assign (v := (.int .i64 (1 + r20))) rfl rfl) ?_)
  refine rw_cons (op_pv (w0 rfl) rfl rfl (pv_assign (v := (.slice A36 xs38.length c37)) rfl rfl) ?_)
  refine rw_cons (op_pv (w0 rfl) rfl rfl (pv_assign (v := (.int .i64 (r47 - r55))) rfl rfl) ?_)
  refine rw_nil (hK46 _ _ ?_)
  refine hK44 _ _ ?_
  refine cw_ret ?_
  refine fin3 rfl rfl rfl ?_
  exact ⟨_, _, _, _, _, (tup3 rfl (sl_as hO39 rfl) rfl), own_as (hO39.less (by omega)) rfl, by first | omega | (simp only [List.length_take, List.length_set, List.length_append, List.length_cons, List.length_nil, List.length_replicate]; omega), hc⟩
end Go.Proofs.Ytielahdnccocdaa
