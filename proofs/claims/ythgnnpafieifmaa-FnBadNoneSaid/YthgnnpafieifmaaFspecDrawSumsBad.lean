/-
  The walk of spec.DrawSumsBad, written by program: each line names the law of one operation. Conditions: those of the theorem.
-/
import Derived.Test.YthgnnpafieifmaaProg
import Derived.Test.YthgnnpafieifmaaFspecl6Open
import Derived.Test.YthgnnpafieifmaaFspecl92Bytes
import Derived.Test.YthgnnpafieifmaaFspecl92Sums
import Derived.KernelRfl
namespace Go.Proofs.Ythgnnpafieifmaa
open Go Go.RowKit
set_option linter.unusedVariables false
set_option linter.unusedSimpArgs false
namespace DrawSumsBad_okF
theorem T3 : TI Try.prog 3 false (.int .i64 0) 1 8 := TI.mk' Try.underlying3 rfl (by kernel_rfl)
theorem C35 : Callable Try.prog 35 := ⟨_, Try.func35, by kernel_rfl, by kernel_rfl⟩
theorem C36 : Callable Try.prog 36 := ⟨_, Try.func36, by kernel_rfl, by kernel_rfl⟩
theorem C41 : Callable Try.prog 41 := ⟨_, Try.func41, by kernel_rfl, by kernel_rfl⟩
theorem C42 : Callable Try.prog 42 := ⟨_, Try.func42, by kernel_rfl, by kernel_rfl⟩
end DrawSumsBad_okF
open DrawSumsBad_okF in
set_option maxHeartbeats 4000000 in
theorem DrawSumsBad_ok (A : Option Addr) (n c : Nat) (bs : List UInt8) (w : World) (hR : RS encU 1 w w.heap.size A n bs) (hn : n ≤ c) :
    Fn Try.prog 32 [(.slice A n c)] w fun v w' => ∃ A1 c1 xs A2 c2 ss, v = .tuple #[.slice A1 xs.length c1, .slice A2 ss.length c2] ∧ Own encI 1 w' w.heap.size 3 (.slice A1 xs.length c1) xs ∧ Own encI 1 w' w.heap.size 3 (.slice A2 ss.length c2) ss ∧ xs.length ≤ 17 ∧ ss.length ≤ 6 ∧ DrawnB xs ∧ Ch [] w w' := by
  refine fn_of (n := 41) Try.func32 rfl rfl rfl rfl ?_
  have hc : Ch [] w w := Ch.refl _ _
  refine cw_seq fun K1 hK2 => ?_
  refine cw_region fun K3 hK4 => ?_
  refine rw_cons (op_pv (w0 rfl) rfl rfl (pv_assign (v := (.slice none 0 0)) rfl rfl) ?_)
  refine rw_cons (op_pv (w0 rfl) rfl rfl (pv_assign (v := (.slice none 0 0)) rfl rfl) ?_)
  refine rw_nil (hK4 _ _ ?_)
  refine hK2 _ _ ?_
  refine cw_seq fun K5 hK6 => ?_
  refine cw_region fun K7 hK8 => ?_
  refine rw_cons (op_pv (w0 rfl) rfl rfl (pv_move (v := (.slice A n c)) rfl rfl) ?_)
  refine rw_cons (op_call (w0 rfl) rfl rfl (rc_call C36 rfl rfl) (l6Open_ok _ _ _ _ _ (hR.more (by omega)) (by omega)) ?_)
  rintro _ w10 ⟨g9, rfl, hg11, hRd12, hch13⟩
  have hsz14 := hch13.size
  replace hR := hR.ch0 hch13
  replace hc := hc.step0 hch13
  have hlt15 := hRd12.lt
  refine rw_cons (op_pv (w0 rfl) rfl rfl (pv_assign (v := (.pointer (some (⟨g9, 0, none⟩)))) rfl rfl) ?_)
  refine rw_nil (hK8 _ _ ?_)
  refine hK6 _ _ ?_
  refine cw_seq fun K16 hK17 => ?_
  refine cw_region fun K18 hK19 => ?_
  refine rw_cons (op_pv (w0 rfl) rfl rfl (pv_move (v := (.pointer (some (⟨g9, 0, none⟩)))) rfl rfl) ?_)
  refine rw_cons (op_call (w0 rfl) rfl rfl (rc_call C35 rfl rfl) (l92Bytes_ok _ _ _ hRd12 (by omega)) ?_)
  rintro _ w20 ⟨A24, c25, xs26, rfl, hO27, hl21, hdr29, hRd22, hch23⟩
  have hsz30 := hch23.size
  replace hR := hR.ch hch23 (off1 (by omega))
  replace hc := (off1 (by omega)).step hc hch23
  clear hRd12; have hRd12 := hRd22; clear hRd22
  have hub28 := hO27.lt
  have hcap31 : xs26.length ≤ c25 := by obtain ⟨_, _, hv, h1, _⟩ := hO27.form; injection hv with _ _ h3; omega
  refine rw_cons (op_pv (w0 rfl) rfl rfl (pv_assign (v := (.slice A24 xs26.length c25)) rfl rfl) ?_)
  refine rw_nil (hK19 _ _ ?_)
  refine hK17 _ _ ?_
  refine cw_seq fun K32 hK33 => ?_
  refine cw_region fun K34 hK35 => ?_
  refine rw_cons (op_pv (w0 rfl) rfl rfl (pv_move (v := (.pointer (some (⟨g9, 0, none⟩)))) rfl rfl) ?_)
  refine rw_cons (op_pv (w0 rfl) rfl rfl (pv_move (v := (.slice A24 xs26.length c25)) rfl rfl) ?_)
  refine rw_cons (op_call (w0 rfl) rfl rfl (rc_call C41 rfl rfl) (l92Sums_ok _ _ _ xs26.length _ xs26 _ hRd12 (hO27.rs (fun _ => rfl)) (by omega) (by omega) (by omega) hdr29) ?_)
  rintro _ w36 ⟨A40, c41, xs42, rfl, hO43, hl37, hRd38, hch39⟩
  have hsz45 := hch39.size
  replace hR := hR.ch hch39 (off1 (by omega))
  replace hO27 := hO27.ch hch39 (fun s hs => by have := hO27.off s hs; simp; omega)
  replace hc := (off1 (by omega)).step hc hch39
  clear hRd12; have hRd12 := hRd38; clear hRd38
  have hub44 := hO43.lt
  have hcap46 : xs42.length ≤ c41 := by obtain ⟨_, _, hv, h1, _⟩ := hO43.form; injection hv with _ _ h3; omega
  refine rw_cons (op_pv (w0 rfl) rfl rfl (pv_assign (v := (.slice A40 xs42.length c41)) rfl rfl) ?_)
  refine rw_nil (hK35 _ _ ?_)
  refine hK33 _ _ ?_
  refine cw_seq fun K47 hK48 => ?_
  refine cw_seq fun K49 hK50 => ?_
  refine cw_region fun K51 hK52 => ?_
  refine rw_cons (op_pv (w0 rfl) rfl rfl (pv_move (v := (.slice A24 xs26.length c25)) rfl rfl) ?_)
  refine rw_cons (op_pv (w0 rfl) rfl rfl (pv_len Try.underlying22 rfl rfl) ?_)
  refine rw_cons (op_pv (w0 rfl) rfl rfl (pv_gtr rfl rfl rfl) ?_)
  refine rw_cons (op_pv (w0 rfl) rfl rfl (pv_move (v := (.bool (decide (0 < (xs26.length : Int))))) rfl rfl) ?_)
  refine rw_split 18 rfl (fun hb53 => ?_) (fun hb53 => ?_)
  · -- yes
    replace hb53 := of_decide_eq_true hb53
    refine rw_cons (op_pv (w1y rfl rfl rfl rfl) rfl rfl (pv_move (v := (.pointer (some (⟨g9, 0, none⟩)))) rfl rfl) ?_)
    refine rw_cons (op_call (w1y rfl rfl rfl rfl) rfl rfl (rc_call C42 rfl rfl) (pick_ok _ _ _ _ hRd12 (by omega)) ?_)
    rintro _ w55 ⟨r54, rfl, hr56, hr57, hr58, hRd59, hch60⟩
    have hsz61 := hch60.size
    replace hR := hR.ch hch60 (off1 (by omega))
    replace hO27 := hO27.ch hch60 (fun s hs => by have := hO27.off s hs; simp; omega)
    replace hO43 := hO43.ch hch60 (fun s hs => by have := hO43.off s hs; simp; omega)
    replace hc := (off1 (by omega)).step hc hch60
    clear hRd12; have hRd12 := hRd59; clear hRd59
    refine rw_cons (op_pv (w1y rfl rfl rfl rfl) rfl rfl (pv_eql rfl rfl rfl) ?_)
    refine rw_cons (op_pv (w0 rfl) rfl rfl (pv_pickT (v := (.bool (decide ((r54 : Int) = 0)))) rfl rfl rfl) ?_)
    refine rw_nil (hK52 _ _ ?_)
    refine hK50 _ _ ?_
    refine cw_cond rfl (fun h62 => ?_) (fun h62 => ?_)
    · -- then
      replace h62 := of_decide_eq_true h62
      refine cw_seq fun K63 hK64 => ?_
      refine cw_region fun K65 hK66 => ?_
      refine rw_cons (op_pv (w0 rfl) rfl rfl (pv_move (v := (.pointer (some (⟨g9, 0, none⟩)))) rfl rfl) ?_)
      refine rw_cons (op_pv (w0 rfl) rfl rfl (pv_move (v := (.slice A24 xs26.length c25)) rfl rfl) ?_)
      refine rw_cons (op_pv (w0 rfl) rfl rfl (pv_len Try.underlying22 rfl rfl) ?_)
      refine rw_cons (op_call (w0 rfl) rfl rfl (rc_call C42 rfl rfl) (pick_ok _ _ _ _ hRd12 (by omega)) ?_)
      rintro _ w68 ⟨r67, rfl, hr69, hr70, hr71, hRd72, hch73⟩
      have hsz74 := hch73.size
      replace hR := hR.ch hch73 (off1 (by omega))
      replace hO27 := hO27.ch hch73 (fun s hs => by have := hO27.off s hs; simp; omega)
      replace hO43 := hO43.ch hch73 (fun s hs => by have := hO43.off s hs; simp; omega)
      replace hc := (off1 (by omega)).step hc hch73
      clear hRd12; have hRd12 := hRd72; clear hRd72
      refine rw_cons (op_pv (w0 rfl) rfl rfl (pv_assign (v := (.int .i64 r67)) rfl rfl) ?_)
      refine rw_nil (hK66 _ _ ?_)
      refine hK64 _ _ ?_
      refine cw_drawn (fun u => Ch [g9] w68 u) (.free 0 (.free 1 (.free 2 (.free 3 (.free 4 (.free 5 (.free 6 (.free 7 (.one 8 true (.free 9 (.free 10 (.free 11 (.one 12 false (.done)))))))))))))) (by kernel_rfl) (by kernel_rfl) (Ch.refl _ _).drew fun K78 hK79 => ?_
      obtain ⟨w75, hw_, hch76, hsz77⟩ : ∃ w1 : World, w1 = w68.drew ∧ Ch [] w68 w1 ∧ w1.heap.size = w68.heap.size := ⟨_, rfl, (Ch.refl _ _).drew, rfl⟩
      rw [← hw_]; clear hw_
      have hr80 : Ch [g9] w68 w75 := hch76.sub (fun s hs => by cases hs)
      have hR_r := hR
      have hRd12_r := hRd12
      have hO27_r := hO27
      have hO43_r := hO43
      have hsz81 := hch76.size
      replace hR := hR.ch0 hch76
      replace hRd12 := hRd12.ch0 hch76
      replace hO27 := hO27.ch0 hch76
      replace hO43 := hO43.ch0 hch76
      replace hc := hc.step0 hch76
      refine tw_free rfl (w0 rfl) rfl rfl (fun u hu => (pv_move (v := (.slice A24 xs26.length c25)) rfl rfl : PV _ _ _ _) u) ?_
      refine tw_free rfl (w0 rfl) rfl rfl (fun u hu => (pv_move (v := (.int .i64 r67)) rfl rfl : PV _ _ _ _) u) ?_
      refine tw_free rfl (w0 rfl) rfl rfl (fun u hu => (pv_move (v := (.slice A24 xs26.length c25)) rfl rfl : PV _ _ _ _) u) ?_
      refine tw_free rfl (w0 rfl) rfl rfl (fun u hu => (pv_move (v := (.int .i64 r67)) rfl rfl : PV _ _ _ _) u) ?_
      refine tw_free rfl (w0 rfl) rfl rfl (fun u hu => (pv_idx Try.underlying22 T3 rfl rfl rfl ((hO27.rs (fun _ => rfl)).some (k := (r67).toNat) (by omega)) (by omega) (by omega) : PV _ _ _ _) u) ?_
      refine tw_free rfl (w0 rfl) rfl rfl (fun u hu => lv_load T3 rfl rfl (((hO27_r.ch hu (fun s hs => by have := hO27_r.off s hs; simp; omega)).rs (fun _ => rfl)).cell0 (k := (r67).toNat) (by omega) rfl)) ?_
      have hel82 := hdr29 (r67).toNat (by omega)
      refine tw_free rfl (w0 rfl) rfl rfl (fun u hu => (pv_add rfl rfl rfl (by omega) (by omega) : PV _ _ _ _) u) ?_
      refine tw_free rfl (w0 rfl) rfl rfl (fun u hu => (pv_move (v := (.pointer (some (⟨g9, 0, none⟩)))) rfl rfl : PV _ _ _ _) u) ?_
      refine tw_one rfl (op_call (w0 rfl) rfl rfl (rc_call C42 rfl rfl) (pick_ok _ _ _ _ hRd12 (by omega)) ?_)
      rintro _ w84 ⟨r83, rfl, hr85, hr86, hr87, hRd88, hch89⟩
      have hsz90 := hch89.size
      replace hR := hR.ch hch89 (off1 (by omega))
      replace hO27 := hO27.ch hch89 (fun s hs => by have := hO27.off s hs; simp; omega)
      replace hO43 := hO43.ch hch89 (fun s hs => by have := hO43.off s hs; simp; omega)
      replace hc := (off1 (by omega)).step hc hch89
      replace hr80 := hr80.step hch89 (fun s hs => .inl (by simpa using hs))
      clear hRd12; have hRd12 := hRd88; clear hRd88
      refine ⟨fun _ => hr80, ?_⟩
      refine tw_free rfl (w0 rfl) rfl rfl (fun u hu => (pv_add rfl rfl rfl (by omega) (by omega) : PV _ _ _ _) u) ?_
      refine tw_free rfl (w0 rfl) rfl rfl (fun u hu => (pv_rem rfl rfl rfl (by omega) (by omega) : PV _ _ _ _) u) ?_
      refine tw_free rfl (w0 rfl) rfl rfl (fun u hu => (pv_idx Try.underlying22 T3 rfl rfl rfl ((hO27.rs (fun _ => rfl)).some (k := (r67).toNat) (by omega)) (by omega) (by omega) : PV _ _ _ _) u) ?_
      refine tw_one rfl (op_store_ownA (k := (r67).toNat) (off := 0) ((((el xs26 (r67).toNat) + 1) + r83) % 256) T3 hO27 (fun _ => rfl) (w0 rfl) rfl rfl rfl rfl rfl (one_all rfl) (by omega) (Nat.le_of_ble_eq_true rfl) rfl ?_)
      rintro w91 hO93 hch92
      have hsz94 := hch92.size
      replace hR := hR.ch hch92 (hO27.off.le (by omega))
      replace hRd12 := hRd12.ch hch92 (hO27.off.le (by omega))
      replace hO43 := hO43.ch hch92 (fun s hs hs2 => by first | (have h1 := hO43.off s hs; have h2 := hub28 s hs2; omega) | (have h1 := hub44 s hs; have h2 := hO27.off s hs2; omega) | (have h2 := hub28 s hs2; simp [obl, Value.ownBlock] at hs; omega) | (have h1 := hub44 s hs; simp [obl, Value.ownBlock] at hs2; omega))
      replace hc := (hO27.off.le (by omega)).step hc hch92
      clear hr80
      clear hO27; have hO27 := hO93; clear hO93
      refine ⟨fun h => (by cases h), ?_⟩
      clear hO27_r
      clear hO43_r
      clear hR_r
      clear hRd12_r
      refine tw_done (hK79 _ _ ?_)
      refine hK48 _ _ ?_
      refine cw_seq fun K95 hK96 => ?_
      refine cw_region fun K97 hK98 => ?_
      refine rw_cons (op_pv (w0 rfl) rfl rfl (pv_move (v := (.slice A24 xs26.length c25)) rfl rfl) ?_)
      refine rw_cons (op_pv (w0 rfl) rfl rfl (pv_move (v := (.slice A40 xs42.length c41)) rfl rfl) ?_)
      refine rw_cons (op_pv (w0 rfl) rfl rfl (pv_assign (v := (.slice A24 xs26.length c25)) rfl rfl) ?_)
      refine rw_cons (op_pv (w0 rfl) rfl rfl (pv_assign (v := (.slice A40 xs42.length c41)) rfl rfl) ?_)
      refine rw_nil (hK98 _ _ ?_)
      refine hK96 _ _ ?_
      refine cw_ret ?_
      refine fin2 rfl rfl ?_
      have hsl : (xs26.set (r67).toNat ((((el xs26 (r67).toNat) + 1) + r83) % 256)).length = xs26.length := List.length_set ..
      exact ⟨_, _, _, _, _, _, tup2 (sl_as hO27 rfl) (sl_as hO43 rfl), own_as (hO27.less (by omega)) rfl, own_as (hO43.less (by omega)) rfl, by omega, by omega, (drawn_set hdr29 _ _ (by omega) (by omega) (by omega)), hc⟩
    · -- else
      replace h62 := of_decide_eq_false h62
      refine cw_skip ?_
      refine hK48 _ _ ?_
      refine cw_seq fun K99 hK100 => ?_
      refine cw_region fun K101 hK102 => ?_
      refine rw_cons (op_pv (w0 rfl) rfl rfl (pv_move (v := (.slice A24 xs26.length c25)) rfl rfl) ?_)
      refine rw_cons (op_pv (w0 rfl) rfl rfl (pv_move (v := (.slice A40 xs42.length c41)) rfl rfl) ?_)
      refine rw_cons (op_pv (w0 rfl) rfl rfl (pv_assign (v := (.slice A24 xs26.length c25)) rfl rfl) ?_)
      refine rw_cons (op_pv (w0 rfl) rfl rfl (pv_assign (v := (.slice A40 xs42.length c41)) rfl rfl) ?_)
      refine rw_nil (hK102 _ _ ?_)
      refine hK100 _ _ ?_
      refine cw_ret ?_
      refine fin2 rfl rfl ?_
      exact ⟨_, _, _, _, _, _, tup2 (sl_as hO27 rfl) (sl_as hO43 rfl), own_as (hO27.less (by omega)) rfl, own_as (hO43.less (by omega)) rfl, by omega, by omega, hdr29, hc⟩
  · -- no
    replace hb53 := of_decide_eq_false hb53
    refine rw_cons (op_pass (w1n1 rfl rfl rfl rfl) rfl rfl ?_)
    refine rw_cons (op_pass (w1n1 rfl rfl rfl rfl) rfl rfl ?_)
    refine rw_cons (op_pass (w1n1 rfl rfl rfl rfl) rfl rfl ?_)
    refine rw_cons (op_pv (w0 rfl) rfl rfl (pv_pickF (v := (.bool false)) rfl rfl rfl) ?_)
    refine rw_nil (hK52 _ _ ?_)
    refine hK50 _ _ ?_
    refine cw_cond rfl (fun h103 => ?_) (fun h103 => ?_)
    · -- then
      cases h103
    · -- else
      clear h103
      refine cw_skip ?_
      refine hK48 _ _ ?_
      refine cw_seq fun K104 hK105 => ?_
      refine cw_region fun K106 hK107 => ?_
      refine rw_cons (op_pv (w0 rfl) rfl rfl (pv_move (v := (.slice A24 xs26.length c25)) rfl rfl) ?_)
      refine rw_cons (op_pv (w0 rfl) rfl rfl (pv_move (v := (.slice A40 xs42.length c41)) rfl rfl) ?_)
      refine rw_cons (op_pv (w0 rfl) rfl rfl (pv_assign (v := (.slice A24 xs26.length c25)) rfl rfl) ?_)
      refine rw_cons (op_pv (w0 rfl) rfl rfl (pv_assign (v := (.slice A40 xs42.length c41)) rfl rfl) ?_)
      refine rw_nil (hK107 _ _ ?_)
      refine hK105 _ _ ?_
      refine cw_ret ?_
      refine fin2 rfl rfl ?_
      exact ⟨_, _, _, _, _, _, tup2 (sl_as hO27 rfl) (sl_as hO43 rfl), own_as (hO27.less (by omega)) rfl, own_as (hO43.less (by omega)) rfl, by omega, by omega, hdr29, hc⟩
end Go.Proofs.Ythgnnpafieifmaa
