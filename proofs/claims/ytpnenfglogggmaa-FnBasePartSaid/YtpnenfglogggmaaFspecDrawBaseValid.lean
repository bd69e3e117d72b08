/-
  The walk of spec.DrawBaseValid, written by program: each line names the law of one operation. Conditions: those of the theorem.
-/
import Derived.Test.YtpnenfglogggmaaProg
import Derived.Test.YtpnenfglogggmaaBase
import Derived.Test.YtpnenfglogggmaaFspecl6Open
import Derived.Test.YtpnenfglogggmaaFspecl92Base
import Derived.KernelRfl
namespace Go.Proofs.Ytpnenfglogggmaa
open Go Go.RowKit
set_option linter.unusedVariables false
set_option linter.unusedSimpArgs false
namespace DrawBaseValid_okF
theorem T25 : TI Try.prog 25 true (.agg #[.int .i64 0, .slice none 0 0]) 2 32 := TI.mk' Try.underlying25 rfl (by kernel_rfl)
theorem C25 : Callable Try.prog 25 := ⟨_, Try.func25, by kernel_rfl, by kernel_rfl⟩
theorem C26 : Callable Try.prog 26 := ⟨_, Try.func26, by kernel_rfl, by kernel_rfl⟩
end DrawBaseValid_okF
open DrawBaseValid_okF in
set_option maxHeartbeats 4000000 in
theorem DrawBaseValid_ok (A : Option Addr) (n c : Nat) (bs : List UInt8) (w : World) (hR : RS encU 1 w w.heap.size A n bs) (hn : n ≤ c) :
    Fn Try.prog 8 [(.slice A n c)] w fun v w' => ∃ m Axs cxs xs, v = .agg #[.int .i64 m, .slice Axs xs.length cxs] ∧ Own encI 1 w' w.heap.size 3 (.slice Axs xs.length cxs) xs ∧ xs.length ≤ 5 ∧ Ch [] w w' := by
  refine fn_of (n := 6) Try.func8 rfl rfl rfl rfl ?_
  have hc : Ch [] w w := Ch.refl _ _
  refine cw_seq fun K1 hK2 => ?_
  refine cw_region fun K3 hK4 => ?_
  refine rw_cons (op_alloc T25 (w0 rfl) rfl rfl rfl ?_)
  rintro g6 w5 hg9 hg10 hB8 hch7
  have hsz11 := hch7.size
  replace hR := hR.ch0 hch7
  replace hc := hc.step0 hch7
  replace hB8 : Blk w5 g6 25 [(.int .i64 0), (.slice none 0 0)] := hB8
  refine rw_nil (hK4 _ _ ?_)
  refine hK2 _ _ ?_
  refine cw_seq fun K12 hK13 => ?_
  refine cw_region fun K14 hK15 => ?_
  refine rw_cons (op_pv (w0 rfl) rfl rfl (pv_move (v := (.slice A n c)) rfl rfl) ?_)
  refine rw_cons (op_call (w0 rfl) rfl rfl (rc_call C26 rfl rfl) (l6Open_ok _ _ _ _ _ (hR.more (by omega)) (by omega)) ?_)
  rintro _ w17 ⟨g16, rfl, hg18, hRd19, hch20⟩
  have hsz21 := hch20.size
  replace hR := hR.ch0 hch20
  replace hB8 := hB8.ch0 hch20
  replace hc := hc.step0 hch20
  have hlt22 := hRd19.lt
  refine rw_cons (op_call (w0 rfl) rfl rfl (rc_call C25 rfl rfl) (l92Base_ok _ _ _ hRd19 (by omega)) ?_)
  rintro _ w23 ⟨m25, A27, c28, xs26, rfl, hO29, hl31, hRd32, hch24⟩
  have hsz33 := hch24.size
  replace hR := hR.ch hch24 (off1 (by omega))
  replace hB8 := hB8.ch hch24 (by simp; omega)
  replace hc := (off1 (by omega)).step hc hch24
  clear hRd19; have hRd19 := hRd32; clear hRd32
  have hub30 := hO29.lt
  have hcap34 : xs26.length ≤ c28 := by obtain ⟨_, _, hv, h1, _⟩ := hO29.form; injection hv with _ _ h3; omega
  clear hRd19
  refine rw_cons (op_store_blk T25 hB8 (w0 rfl) rfl rfl rfl rfl rfl (one_all rfl) (Nat.le_of_ble_eq_true rfl) ?_)
  rintro w35 hB37 hch36
  have hsz38 := hch36.size
  replace hR := hR.ch hch36 (off1 (by omega))
  replace hO29 := hO29.ch hch36 (fun s hs => by first | (have := hO29.off s hs; simp; omega) | (have := hub30 s hs; simp; omega))
  replace hc := (off1 (by omega)).step hc hch36
  replace hB8 : Blk w35 g6 25 [(.int .i64 m25), (.slice A27 xs26.length c28)] := hB37
  clear hB37
  refine rw_nil (hK15 _ _ ?_)
  refine hK13 _ _ ?_
  refine cw_ret ?_
  refine finC T25 rfl rfl (fun j v hv => hB8.cellA hv) ?_
  exact ⟨_, _, _, _, (agg2 rfl (sl_as hO29 rfl)), own_as (hO29.less (by omega)) rfl, by first | omega | (simp only [List.length_take, List.length_set, List.length_append, List.length_cons, List.length_nil, List.length_replicate]; omega), hc⟩
end Go.Proofs.Ytpnenfglogggmaa
