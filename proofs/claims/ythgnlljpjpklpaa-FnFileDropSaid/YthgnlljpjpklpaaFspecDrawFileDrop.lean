/-
  The walk of spec.DrawFileDrop, written by program: each line names the law of one operation. Conditions: those of the theorem.
-/
import Derived.Test.YthgnlljpjpklpaaProg
import Derived.Test.YthgnlljpjpklpaaDeep
import Derived.Test.YthgnlljpjpklpaaFspecl6Open
import Derived.Test.YthgnlljpjpklpaaFspecl92Name
import Derived.KernelRfl
namespace Go.Proofs.Ythgnlljpjpklpaa
open Go Go.RowKit
set_option linter.unusedVariables false
set_option linter.unusedSimpArgs false
namespace DrawFileDrop_okF
theorem C54 : Callable Try.prog 54 := ⟨_, Try.func54, by kernel_rfl, by kernel_rfl⟩
theorem C61 : Callable Try.prog 61 := ⟨_, Try.func61, by kernel_rfl, by kernel_rfl⟩
end DrawFileDrop_okF
open DrawFileDrop_okF in
set_option maxHeartbeats 4000000 in
theorem DrawFileDrop_ok (A : Option Addr) (n c : Nat) (bs : List UInt8) (w : World) (hR : RS encU 1 w w.heap.size A n bs) (hn : n ≤ c) :
    Fn Try.prog 38 [(.slice A n c)] w fun v w' => ∃ Ahs chs hs nm, v = .tuple #[.slice Ahs hs.length chs, .string nm] ∧ Own encF 2 w' w.heap.size 48 (.slice Ahs hs.length chs) hs ∧ hs.length ≤ 8 ∧ DX w.heap.size w'.heap.size [] w' hs ∧ SzOK hs ∧ nm.size ≤ 1099511627776 ∧ Ch [] w w' := by
  refine fn_of (n := 9) Try.func38 rfl rfl rfl rfl ?_
  have hc : Ch [] w w := Ch.refl _ _
  refine cw_seq fun K1 hK2 => ?_
  refine cw_region fun K3 hK4 => ?_
  refine rw_cons (op_pv (w0 rfl) rfl rfl (pv_assign (v := (.slice none 0 0)) rfl rfl) ?_)
  refine rw_cons (op_pv (w0 rfl) rfl rfl (pv_assign (v := (.string (ByteArray.mk #[]))) rfl rfl) ?_)
  refine rw_nil (hK4 _ _ ?_)
  refine hK2 _ _ ?_
  refine cw_seq fun K5 hK6 => ?_
  refine cw_region fun K7 hK8 => ?_
  refine rw_cons (op_pv (w0 rfl) rfl rfl (pv_move (v := (.slice A n c)) rfl rfl) ?_)
  refine rw_cons (op_call (w0 rfl) rfl rfl (rc_call C54 rfl rfl) (l6Open_ok _ _ _ _ _ (hR.more (by omega)) (by omega)) ?_)
  rintro _ w10 ⟨g9, rfl, hg11, hRd12, hch13⟩
  have hsz14 := hch13.size
  replace hR := hR.ch0 hch13
  replace hc := hc.step0 hch13
  have hlt15 := hRd12.lt
  refine rw_cons (op_call (w0 rfl) rfl rfl (rc_call C61 rfl rfl) (l92Name_ok _ _ _ hRd12 (by omega)) ?_)
  rintro _ w16 ⟨A20, c21, hs18, nm19, rfl, hO22, hl24, hD25, hZ26, hsl27, hRd28, hch17⟩
  have hsz29 := hch17.size
  replace hR := hR.ch hch17 (off1 (by omega))
  replace hc := (off1 (by omega)).step hc hch17
  clear hRd12; have hRd12 := hRd28; clear hRd28
  have hub23 := hO22.lt
  have hcap30 : hs18.length ≤ c21 := by obtain ⟨_, _, hv, h1, _⟩ := hO22.form; injection hv with _ _ h3; omega
  refine rw_cons (op_pv (w0 rfl) rfl rfl (pv_ext (v := (.slice A20 hs18.length c21)) rfl rfl rfl) ?_)
  refine rw_cons (op_pv (w0 rfl) rfl rfl (pv_ext (v := (.string nm19)) rfl rfl rfl) ?_)
  refine rw_cons (op_pv (w0 rfl) rfl rfl (pv_assign (v := (.slice A20 hs18.length c21)) rfl rfl) ?_)
  refine rw_cons (op_pv (w0 rfl) rfl rfl (pv_assign (v := (.string nm19)) rfl rfl) ?_)
  refine rw_nil (hK8 _ _ ?_)
  refine hK6 _ _ ?_
  refine cw_ret ?_
  refine fin2 rfl rfl ?_
  exact ⟨_, _, _, _, (tup2 (sl_as hO22 rfl) rfl), own_as (hO22.less (by omega)) rfl, by first | omega | (simp only [List.length_take, List.length_set, List.length_append, List.length_cons, List.length_nil, List.length_replicate]; omega), (hD25.less (by omega)).bare (by omega), by first | assumption | exact SzOK.nil, by first | omega | assumption | exact (‹SzOK _› _ (by omega)).1 | decide, hc⟩
end Go.Proofs.Ythgnlljpjpklpaa
