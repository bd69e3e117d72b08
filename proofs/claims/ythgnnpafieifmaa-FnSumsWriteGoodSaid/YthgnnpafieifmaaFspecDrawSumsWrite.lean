/-
  The walk of spec.DrawSumsWrite, written by program: each line names the law of one operation. Conditions: those of the theorem.
-/
import Derived.Test.YthgnnpafieifmaaProg
import Derived.Test.YthgnnpafieifmaaFspecl6Open
import Derived.Test.YthgnnpafieifmaaFspecl92Bytes
import Derived.Test.YthgnnpafieifmaaFspecl92Sums
import Derived.KernelRfl
namespace Go.Proofs.Ythgnnpafieifmaa
open Go Go.RowKit
set_option linter.unusedVariables false
set_option linter.unusedSimpArgs false
namespace DrawSumsWrite_okF
theorem T3 : TI Try.prog 3 false (.int .i64 0) 1 8 := TI.mk' Try.underlying3 rfl (by kernel_rfl)
theorem C35 : Callable Try.prog 35 := ⟨_, Try.func35, by kernel_rfl, by kernel_rfl⟩
theorem C36 : Callable Try.prog 36 := ⟨_, Try.func36, by kernel_rfl, by kernel_rfl⟩
theorem C41 : Callable Try.prog 41 := ⟨_, Try.func41, by kernel_rfl, by kernel_rfl⟩
theorem C42 : Callable Try.prog 42 := ⟨_, Try.func42, by kernel_rfl, by kernel_rfl⟩
end DrawSumsWrite_okF
open DrawSumsWrite_okF in
set_option maxHeartbeats 4000000 in
theorem DrawSumsWrite_ok (A : Option Addr) (n c : Nat) (bs : List UInt8) (w : World) (hR : RS encU 1 w w.heap.size A n bs) (hn : n ≤ c) :
    Fn Try.prog 33 [(.slice A n c)] w fun v w' => ∃ A1 c1 xs A2 c2 ss a A3 c3 fr, v = .tuple #[.slice A1 xs.length c1, .slice A2 ss.length c2, .int .i64 a, .slice A3 fr.length c3] ∧ Own encI 1 w' w.heap.size 3 (.slice A1 xs.length c1) xs ∧ Own encI 1 w' w.heap.size 3 (.slice A2 ss.length c2) ss ∧ Own encI 1 w' w.heap.size 3 (.slice A3 fr.length c3) fr ∧ xs.length ≤ 17 ∧ ss.length ≤ 6 ∧ fr.length ≤ 17 ∧ DrawnB xs ∧ DrawnB fr ∧ -1000 ≤ a ∧ a ≤ 1000 ∧ Ch [] w w' := by
  refine fn_of (n := 38) Try.func33 rfl rfl rfl rfl ?_
  have hc : Ch [] w w := Ch.refl _ _
  refine cw_seq fun K1 hK2 => ?_
  refine cw_region fun K3 hK4 => ?_
  refine rw_cons (op_pv (w0 rfl) rfl rfl (pv_assign (v := (.slice none 0 0)) rfl rfl) ?_)
  refine rw_cons (op_pv (w0 rfl) rfl rfl (pv_assign (v := (.slice none 0 0)) rfl rfl) ?_)
  refine rw_cons (op_pv (w0 rfl) rfl rfl (pv_assign (v := (.int .i64 0)) rfl rfl) ?_)
  refine rw_cons (op_pv (w0 rfl) rfl rfl (pv_assign (v := (.slice none 0 0)) rfl rfl) ?_)
  refine rw_nil (hK4 _ _ ?_)
  refine hK2 _ _ ?_
  refine cw_seq fun K5 hK6 => ?_
  refine cw_region fun K7 hK8 => ?_
  refine rw_cons (op_pv (w0 rfl) rfl rfl (pv_move (v := (.slice A n c)) rfl rfl) ?_)
  refine rw_cons (op_call (w0 rfl) rfl rfl (rc_call C36 rfl rfl) (l6Open_ok _ _ _ _ _ (hR.more (by omega)) (by omega)) ?_)
  rintro _ w10 ⟨g9, rfl, hg11, hRd12, hch13⟩
  have hsz14 := hch13.size
  replace hR := hR.ch0 hch13
  replace hc := hc.step0 hch13
  have hlt15 := hRd12.lt
  refine rw_cons (op_pv (w0 rfl) rfl rfl (pv_assign (v := (.pointer (some (⟨g9, 0, none⟩)))) rfl rfl) ?_)
  refine rw_nil (hK8 _ _ ?_)
  refine hK6 _ _ ?_
  refine cw_seq fun K16 hK17 => ?_
  refine cw_region fun K18 hK19 => ?_
  refine rw_cons (op_pv (w0 rfl) rfl rfl (pv_move (v := (.pointer (some (⟨g9, 0, none⟩)))) rfl rfl) ?_)
  refine rw_cons (op_call (w0 rfl) rfl rfl (rc_call C35 rfl rfl) (l92Bytes_ok _ _ _ hRd12 (by omega)) ?_)
  rintro _ w20 ⟨A24, c25, xs26, rfl, hO27, hl21, hdr29, hRd22, hch23⟩
  have hsz30 := hch23.size
  replace hR := hR.ch hch23 (off1 (by omega))
  replace hc := (off1 (by omega)).step hc hch23
  clear hRd12; have hRd12 := hRd22; clear hRd22
  have hub28 := hO27.lt
  have hcap31 : xs26.length ≤ c25 := by obtain ⟨_, _, hv, h1, _⟩ := hO27.form; injection hv with _ _ h3; omega
  refine rw_cons (op_pv (w0 rfl) rfl rfl (pv_assign (v := (.slice A24 xs26.length c25)) rfl rfl) ?_)
  refine rw_nil (hK19 _ _ ?_)
  refine hK17 _ _ ?_
  refine cw_seq fun K32 hK33 => ?_
  refine cw_region fun K34 hK35 => ?_
  refine rw_cons (op_pv (w0 rfl) rfl rfl (pv_move (v := (.pointer (some (⟨g9, 0, none⟩)))) rfl rfl) ?_)
  refine rw_cons (op_pv (w0 rfl) rfl rfl (pv_move (v := (.slice A24 xs26.length c25)) rfl rfl) ?_)
  refine rw_cons (op_call (w0 rfl) rfl rfl (rc_call C41 rfl rfl) (l92Sums_ok _ _ _ xs26.length _ xs26 _ hRd12 (hO27.rs (fun _ => rfl)) (by omega) (by omega) (by omega) hdr29) ?_)
  rintro _ w36 ⟨A40, c41, xs42, rfl, hO43, hl37, hRd38, hch39⟩
  have hsz45 := hch39.size
  replace hR := hR.ch hch39 (off1 (by omega))
  replace hO27 := hO27.ch hch39 (fun s hs => by have := hO27.off s hs; simp; omega)
  replace hc := (off1 (by omega)).step hc hch39
  clear hRd12; have hRd12 := hRd38; clear hRd38
  have hub44 := hO43.lt
  have hcap46 : xs42.length ≤ c41 := by obtain ⟨_, _, hv, h1, _⟩ := hO43.form; injection hv with _ _ h3; omega
  refine rw_cons (op_pv (w0 rfl) rfl rfl (pv_assign (v := (.slice A40 xs42.length c41)) rfl rfl) ?_)
  refine rw_nil (hK35 _ _ ?_)
  refine hK33 _ _ ?_
  refine cw_seq fun K47 hK48 => ?_
  refine cw_region fun K49 hK50 => ?_
  refine rw_cons (op_pv (w0 rfl) rfl rfl (pv_move (v := (.pointer (some (⟨g9, 0, none⟩)))) rfl rfl) ?_)
  refine rw_cons (op_call (w0 rfl) rfl rfl (rc_call C35 rfl rfl) (l92Bytes_ok _ _ _ hRd12 (by omega)) ?_)
  rintro _ w51 ⟨A55, c56, xs57, rfl, hO58, hl52, hdr60, hRd53, hch54⟩
  have hsz61 := hch54.size
  replace hR := hR.ch hch54 (off1 (by omega))
  replace hO27 := hO27.ch hch54 (fun s hs => by have := hO27.off s hs; simp; omega)
  replace hO43 := hO43.ch hch54 (fun s hs => by have := hO43.off s hs; simp; omega)
  replace hc := (off1 (by omega)).step hc hch54
  clear hRd12; have hRd12 := hRd53; clear hRd53
  have hub59 := hO58.lt
  have hcap62 : xs57.length ≤ c56 := by obtain ⟨_, _, hv, h1, _⟩ := hO58.form; injection hv with _ _ h3; omega
  refine rw_cons (op_pv (w0 rfl) rfl rfl (pv_assign (v := (.slice A55 xs57.length c56)) rfl rfl) ?_)
  refine rw_nil (hK50 _ _ ?_)
  refine hK48 _ _ ?_
  refine cw_seq fun K63 hK64 => ?_
  refine cw_drawn (fun u => Ch [g9] w51 u) (.free 0 (.free 1 (.free 2 (.free 3 (.free 4 (.free 5 (.free 7 (.free 11 (.free 12 (.free 13 (.free 14 (.one 6 true (.one 8 true (.free 9 (.free 10 (.one 15 true (.free 16 (.free 17 (.free 18 (.free 19 (.free 20 (.free 21 (.free 22 (.done)))))))))))))))))))))))) (by kernel_rfl) (by kernel_rfl) (Ch.refl _ _).drew fun K68 hK69 => ?_
  obtain ⟨w65, hw_, hch66, hsz67⟩ : ∃ w1 : World, w1 = w51.drew ∧ Ch [] w51 w1 ∧ w1.heap.size = w51.heap.size := ⟨_, rfl, (Ch.refl _ _).drew, rfl⟩
  rw [← hw_]; clear hw_
  have hr70 : Ch [g9] w51 w65 := hch66.sub (fun s hs => by cases hs)
  have hR_r := hR
  have hRd12_r := hRd12
  have hO27_r := hO27
  have hO43_r := hO43
  have hO58_r := hO58
  have hsz71 := hch66.size
  replace hR := hR.ch0 hch66
  replace hRd12 := hRd12.ch0 hch66
  replace hO27 := hO27.ch0 hch66
  replace hO43 := hO43.ch0 hch66
  replace hO58 := hO58.ch0 hch66
  replace hc := hc.step0 hch66
  refine tw_free rfl (w0 rfl) rfl rfl (fun u hu => (pv_move (v := (.slice A24 xs26.length c25)) rfl rfl : PV _ _ _ _) u) ?_
  refine tw_free rfl (w0 rfl) rfl rfl (fun u hu => (pv_move (v := (.slice A40 xs42.length c41)) rfl rfl : PV _ _ _ _) u) ?_
  refine tw_free rfl (w0 rfl) rfl rfl (fun u hu => (pv_move (v := (.pointer (some (⟨g9, 0, none⟩)))) rfl rfl : PV _ _ _ _) u) ?_
  refine tw_free rfl (w0 rfl) rfl rfl (fun u hu => (pv_move (v := (.slice A24 xs26.length c25)) rfl rfl : PV _ _ _ _) u) ?_
  refine tw_free rfl (w0 rfl) rfl rfl (fun u hu => (pv_len Try.underlying22 rfl rfl : PV _ _ _ _) u) ?_
  refine tw_free rfl (w0 rfl) rfl rfl (fun u hu => (pv_add rfl rfl rfl (by omega) (by omega) : PV _ _ _ _) u) ?_
  refine tw_free rfl (w0 rfl) rfl rfl (fun u hu => (pv_move (v := (.pointer (some (⟨g9, 0, none⟩)))) rfl rfl : PV _ _ _ _) u) ?_
  refine tw_free rfl (w0 rfl) rfl rfl (fun u hu => (pv_move (v := (.slice A55 xs57.length c56)) rfl rfl : PV _ _ _ _) u) ?_
  refine tw_free rfl (w0 rfl) rfl rfl (fun u hu => (pv_move (v := (.slice A55 xs57.length c56)) rfl rfl : PV _ _ _ _) u) ?_
  refine tw_free rfl (w0 rfl) rfl rfl (fun u hu => (pv_len Try.underlying22 rfl rfl : PV _ _ _ _) u) ?_
  refine tw_free rfl (w0 rfl) rfl rfl (fun u hu => (pv_move (v := (.pointer (some (⟨g9, 0, none⟩)))) rfl rfl : PV _ _ _ _) u) ?_
  refine tw_one rfl (op_call (w0 rfl) rfl rfl (rc_call C42 rfl rfl) (pick_ok _ _ _ _ hRd12 (by omega)) ?_)
  rintro _ w73 ⟨r72, rfl, hr74, hr75, hr76, hRd77, hch78⟩
  have hsz79 := hch78.size
  replace hR := hR.ch hch78 (off1 (by omega))
  replace hO27 := hO27.ch hch78 (fun s hs => by have := hO27.off s hs; simp; omega)
  replace hO43 := hO43.ch hch78 (fun s hs => by have := hO43.off s hs; simp; omega)
  replace hO58 := hO58.ch hch78 (fun s hs => by have := hO58.off s hs; simp; omega)
  replace hc := (off1 (by omega)).step hc hch78
  replace hr70 := hr70.step hch78 (fun s hs => .inl (by simpa using hs))
  clear hRd12; have hRd12 := hRd77; clear hRd77
  refine ⟨fun _ => hr70, ?_⟩
  refine tw_one rfl (op_call (w0 rfl) rfl rfl (rc_call C42 rfl rfl) (pick_ok _ _ _ _ hRd12 (by omega)) ?_)
  rintro _ w81 ⟨r80, rfl, hr82, hr83, hr84, hRd85, hch86⟩
  have hsz87 := hch86.size
  replace hR := hR.ch hch86 (off1 (by omega))
  replace hO27 := hO27.ch hch86 (fun s hs => by have := hO27.off s hs; simp; omega)
  replace hO43 := hO43.ch hch86 (fun s hs => by have := hO43.off s hs; simp; omega)
  replace hO58 := hO58.ch hch86 (fun s hs => by have := hO58.off s hs; simp; omega)
  replace hc := (off1 (by omega)).step hc hch86
  replace hr70 := hr70.step hch86 (fun s hs => .inl (by simpa using hs))
  clear hRd12; have hRd12 := hRd85; clear hRd85
  refine ⟨fun _ => hr70, ?_⟩
  refine tw_free rfl (w0 rfl) rfl rfl (fun u hu => (pv_quo rfl rfl rfl (by omega) (by omega) (by omega) : PV _ _ _ _) u) ?_
  refine tw_free rfl (w0 rfl) rfl rfl (fun u hu => (pv_sub rfl rfl rfl (by omega) (by omega) : PV _ _ _ _) u) ?_
  refine tw_one rfl (op_call (w0 rfl) rfl rfl (rc_call C42 rfl rfl) (pick_ok _ _ _ _ hRd12 (by omega)) ?_)
  rintro _ w89 ⟨r88, rfl, hr90, hr91, hr92, hRd93, hch94⟩
  have hsz95 := hch94.size
  replace hR := hR.ch hch94 (off1 (by omega))
  replace hO27 := hO27.ch hch94 (fun s hs => by have := hO27.off s hs; simp; omega)
  replace hO43 := hO43.ch hch94 (fun s hs => by have := hO43.off s hs; simp; omega)
  replace hO58 := hO58.ch hch94 (fun s hs => by have := hO58.off s hs; simp; omega)
  replace hc := (off1 (by omega)).step hc hch94
  replace hr70 := hr70.step hch94 (fun s hs => .inl (by simpa using hs))
  clear hRd12; have hRd12 := hRd93; clear hRd93
  refine ⟨fun _ => hr70, ?_⟩
  refine tw_free rfl (w0 rfl) rfl rfl (fun u hu => (pv_add rfl rfl rfl (by omega) (by omega) : PV _ _ _ _) u) ?_
  refine tw_free rfl (w0 rfl) rfl rfl (fun u hu => (pv_quo rfl rfl rfl (by omega) (by omega) (by omega) : PV _ _ _ _) u) ?_
  have hq96 := Int.ediv_nonneg (a := (xs57.length : Int)) (b := (1 + r88)) (by omega) (by omega); have hq97 := Int.ediv_le_self (a := (xs57.length : Int)) (1 + r88) (by omega)
  refine tw_free rfl (w0 rfl) rfl rfl (fun u hu => (pv_upto Try.underlying22 T3 rfl rfl rfl (by omega) (by omega) : PV _ _ _ _) u) ?_
  have hR98 : RS encI 1 w89 w89.heap.size A55 ((xs57.length : Int) / (1 + r88)).toNat (xs57.take ((xs57.length : Int) / (1 + r88)).toNat) := ((hO58.rs (fun _ => rfl))).upto (by omega)
  refine tw_free rfl (w0 rfl) rfl rfl (fun u hu => (pv_assign (v := (.slice A24 xs26.length c25)) rfl rfl : PV _ _ _ _) u) ?_
  refine tw_free rfl (w0 rfl) rfl rfl (fun u hu => (pv_assign (v := (.slice A40 xs42.length c41)) rfl rfl : PV _ _ _ _) u) ?_
  refine tw_free rfl (w0 rfl) rfl rfl (fun u hu => (pv_assign (v := (.int .i64 (r72 - (r80 / 19)))) rfl rfl : PV _ _ _ _) u) ?_
  refine tw_free rfl (w0 rfl) rfl rfl (fun u hu => (pv_assign (v := (.slice A55 ((xs57.length : Int) / (1 + r88)).toNat c56)) rfl rfl : PV _ _ _ _) u) ?_
  clear hO27_r
  clear hO43_r
  clear hO58_r
  clear hR_r
  clear hRd12_r
  refine tw_done (hK69 _ _ ?_)
  refine hK64 _ _ ?_
  refine cw_ret ?_
  refine fin4 rfl rfl rfl rfl ?_
  exact ⟨_, _, _, _, _, _, _, _, _, _, tup4 (sl_as hO27 rfl) (sl_as hO43 rfl) rfl (sl_as (hO58.upto (fun _ => rfl) (k := ((xs57.length : Int) / (1 + r88)).toNat) (by omega)) rfl), own_as (hO27.less (by omega)) rfl, own_as (hO43.less (by omega)) rfl, own_as ((hO58.upto (fun _ => rfl) (k := ((xs57.length : Int) / (1 + r88)).toNat) (by omega)).less (by omega)) rfl, by omega, by omega, by simp only [List.length_take]; omega, hdr29, drawn_take hdr60 _, by omega, by omega, hc⟩
end Go.Proofs.Ythgnnpafieifmaa
