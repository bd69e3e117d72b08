/-
  The walk of spec.DrawBaseOf, written by program: each line names the law of one operation. Conditions: those of the theorem.
-/
import Derived.Test.YtpnenfglogggmaaProg
import Derived.Test.YtpnenfglogggmaaNode
import Derived.Test.YtpnenfglogggmaaArr
import Derived.Test.YtpnenfglogggmaaFspecl6Open
import Derived.Test.YtpnenfglogggmaaFspecl91Node
import Derived.KernelRfl
namespace Go.Proofs.Ytpnenfglogggmaa
open Go Go.RowKit
set_option linter.unusedVariables false
set_option linter.unusedSimpArgs false
namespace DrawBaseOf_okF
theorem T41 : TI Try.prog 41 true (.agg #[.int .i64 0, .slice none 0 0, .int .i64 0]) 3 40 := TI.mk' Try.underlying41 rfl (by kernel_rfl)
theorem C26 : Callable Try.prog 26 := ⟨_, Try.func26, by kernel_rfl, by kernel_rfl⟩
theorem C42 : Callable Try.prog 42 := ⟨_, Try.func42, by kernel_rfl, by kernel_rfl⟩
end DrawBaseOf_okF
open DrawBaseOf_okF in
set_option maxHeartbeats 4000000 in
theorem DrawBaseOf_ok (A : Option Addr) (n c : Nat) (bs : List UInt8) (w : World) (hR : RS encU 1 w w.heap.size A n bs) (hn : n ≤ c) :
    Fn Try.prog 18 [(.slice A n c)] w fun v w' => ∃ id Alog clog log dn, v = .agg #[.int .i64 id, .slice Alog log.length clog, .int .i64 dn] ∧ Own encB 2 w' w.heap.size 65 (.slice Alog log.length clog) log ∧ log.length ≤ 13 ∧ Ch [] w w' := by
  refine fn_of (n := 6) Try.func18 rfl rfl rfl rfl ?_
  have hc : Ch [] w w := Ch.refl _ _
  refine cw_seq fun K1 hK2 => ?_
  refine cw_region fun K3 hK4 => ?_
  refine rw_cons (op_alloc T41 (w0 rfl) rfl rfl rfl ?_)
  rintro g6 w5 hg9 hg10 hB8 hch7
  have hsz11 := hch7.size
  replace hR := hR.ch0 hch7
  replace hc := hc.step0 hch7
  replace hB8 : Blk w5 g6 41 [(.int .i64 0), (.slice none 0 0), (.int .i64 0)] := hB8
  refine rw_nil (hK4 _ _ ?_)
  refine hK2 _ _ ?_
  refine cw_seq fun K12 hK13 => ?_
  refine cw_region fun K14 hK15 => ?_
  refine rw_cons (op_pv (w0 rfl) rfl rfl (pv_move (v := (.slice A n c)) rfl rfl) ?_)
  refine rw_cons (op_call (w0 rfl) rfl rfl (rc_call C26 rfl rfl) (l6Open_ok _ _ _ _ _ (hR.more (by omega)) (by omega)) ?_)
  rintro _ w17 ⟨g16, rfl, hg18, hRd19, hch20⟩
  have hsz21 := hch20.size
  replace hR := hR.ch0 hch20
  replace hB8 := hB8.ch0 hch20
  replace hc := hc.step0 hch20
  have hlt22 := hRd19.lt
  refine rw_cons (op_call (w0 rfl) rfl rfl (rc_call C42 rfl rfl) (l91Node_ok _ _ _ hRd19 (by omega)) ?_)
  rintro _ w23 ⟨id25, A28, c29, log26, dn27, rfl, hO30, hl32, hRd33, hch24⟩
  have hsz34 := hch24.size
  replace hR := hR.ch hch24 (off1 (by omega))
  replace hB8 := hB8.ch hch24 (by simp; omega)
  replace hc := (off1 (by omega)).step hc hch24
  clear hRd19; have hRd19 := hRd33; clear hRd33
  have hub31 := hO30.lt
  have hcap35 : log26.length ≤ c29 := by obtain ⟨_, _, hv, h1, _⟩ := hO30.form; injection hv with _ _ h3; omega
  clear hRd19
  refine rw_cons (op_store_blk T41 hB8 (w0 rfl) rfl rfl rfl rfl rfl (one_all rfl) (Nat.le_of_ble_eq_true rfl) ?_)
  rintro w36 hB38 hch37
  have hsz39 := hch37.size
  replace hR := hR.ch hch37 (off1 (by omega))
  replace hO30 := hO30.ch hch37 (fun s hs => by first | (have := hO30.off s hs; simp; omega) | (have := hub31 s hs; simp; omega))
  replace hc := (off1 (by omega)).step hc hch37
  replace hB8 : Blk w36 g6 41 [(.int .i64 id25), (.slice A28 log26.length c29), (.int .i64 dn27)] := hB38
  clear hB38
  refine rw_nil (hK15 _ _ ?_)
  refine hK13 _ _ ?_
  refine cw_ret ?_
  refine finC T41 rfl rfl (fun j v hv => hB8.cellA hv) ?_
  exact ⟨_, _, _, _, _, (agg3 rfl (sl_as hO30 rfl) rfl), own_as (hO30.less (by omega)) rfl, by first | omega | (simp only [List.length_take, List.length_set, List.length_append, List.length_cons, List.length_nil, List.length_replicate]; omega), hc⟩
end Go.Proofs.Ytpnenfglogggmaa
