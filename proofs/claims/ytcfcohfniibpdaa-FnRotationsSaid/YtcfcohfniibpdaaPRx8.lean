-- WRITTEN BY wip/gprint.py, a program of this session's over the kit's print, with contracts given by hand
import Derived.Test.YtcfcohfniibpdaaPRx0
import Derived.Test.YtcfcohfniibpdaaPRx4
import Derived.Test.YtcfcohfniibpdaaPRx6
import Derived.Test.YtcfcohfniibpdaaPRx7
namespace Go.Proofs.Ytcfcohfniibpdaa.PR
open Go.RowKit Go.Proofs.YtcfcohfniibpdaaW.PrintWords Go.Proofs.YtcfcohfniibpdaaW.PrintLast Go.Proofs.YtcfcohfniibpdaaW.PrintMore
attribute [local go_sem] max2_int min2_int max_two min_two max_three min_three max_four min_four   -- for this text's walks alone
set_option linter.unusedVariables false
set_option linter.unusedSimpArgs false

/-! ### impl_RotationTo: function 8 -/
def impl_RotationTo.j0 : Nat → Bool → List Int → List Int → Option (Int × Int)
  | 0, _, _, _ => none
  | k + 1, x13, x192000, x193000 => if x13 = true then (some (0, 1)) else ((impl_least_at_impl_RotationTo_1.f k 0 (wrap64 ((x192000.length : Int) - 1)) [x192000] [x193000]).bind fun bt195 => ((impl_orNotFound.f bt195.1 bt195.2).bind fun bt197 => (some (bt197.1, bt197.2))))
def impl_RotationTo.f (k : Nat) (l0 : List Int) (l1 : List Int) : Option (Int × Int) := (impl_ValidScale.f k l0).bind fun t193 => (if t193 = true then ((impl_ValidScale.f k l1).bind fun t194 => (impl_RotationTo.j0 k (!t194) l0 l1)) else (impl_RotationTo.j0 k true l0 l1))
theorem impl_RotationTo.mono_l : ∀ k, (∀ y0 y1 y2, LeO (impl_RotationTo.j0 k y0 y1 y2) (impl_RotationTo.j0 (k + 1) y0 y1 y2))
  | 0 => fun _ _ _ r h => by simp [impl_RotationTo.j0] at h
  | k + 1 => by
    have ih0 := impl_RotationTo.mono_l k
    · intro y0 y1 y2
      unfold impl_RotationTo.j0
      repeat' first
      | (with_reducible exact ih0 _ _ _)
      | (with_reducible exact impl_ValidScale.mono _ _)
      | (with_reducible exact impl_least_at_impl_RotationTo_1.mono _ _ _ _ _)
      | (with_reducible exact LeO.refl _)
      | (with_reducible exact LeO.none _)
      | (with_reducible refine LeO.ite ?_ ?_)
      | (with_reducible refine LeO.bind ?_ (fun _ => ?_))
      | exact ih0 _ _ _
      | exact impl_ValidScale.mono _ _
      | exact impl_least_at_impl_RotationTo_1.mono _ _ _ _ _
      | exact LeO.none _
      | refine LeO.ite ?_ ?_
      | refine LeO.bind ?_ (fun _ => ?_)
theorem impl_RotationTo.mono : ∀ a0 a1 k, LeO (impl_RotationTo.f k a0 a1) (impl_RotationTo.f (k + 1) a0 a1) := by
  intro a0 a1 k
  have ih0 := impl_RotationTo.mono_l k
  unfold impl_RotationTo.f
  repeat' first
      | (with_reducible exact ih0 _ _ _)
      | (with_reducible exact impl_ValidScale.mono _ _)
      | (with_reducible exact impl_least_at_impl_RotationTo_1.mono _ _ _ _ _)
      | (with_reducible exact LeO.refl _)
      | (with_reducible exact LeO.none _)
      | (with_reducible refine LeO.ite ?_ ?_)
      | (with_reducible refine LeO.bind ?_ (fun _ => ?_))
      | exact ih0 _ _ _
      | exact impl_ValidScale.mono _ _
      | exact impl_least_at_impl_RotationTo_1.mono _ _ _ _ _
      | exact LeO.none _
      | refine LeO.ite ?_ ?_
      | refine LeO.bind ?_ (fun _ => ?_)
set_option maxHeartbeats 8000000 in
set_option maxRecDepth 100000 in
theorem impl_RotationTo.calls (k : Nat) (A0 : Option Addr) (c0 : Nat) (l0 : List Int) (A1 : Option Addr) (c1 : Nat) (l1 : List Int) (r1 : Int) (r2 : Int) (w : World) (hr0 : Kd.C (Kd.int .i64) w A0 l0.length l0) (hc0 : l0.length ≤ c0) (hr1 : Kd.C (Kd.int .i64) w A1 l1.length l1) (hc1 : l1.length ≤ c1) (h : impl_RotationTo.f k l0 l1 = some (r1, r2)) :
    Calls Try.prog 8 #[.slice A0 l0.length c0, .slice A1 l1.length c1] w fun e w' => e = .returned (.tuple #[.int .i64 r1, .int .i64 r2]) ∧ Below w.heap.size w w' := by
  have HR0 := Aside0.mk hr0
  have HC0 := Aside0.mk hc0
  clear hr0 hc0
  have HR1 := Aside0.mk hr1
  have HC1 := Aside0.mk hc1
  clear hr1 hc1
  have HB := Aside0.mk (Below.refl w.heap.size w)
  have H : ((impl_ValidScale.f k l0).bind fun t193 => (if t193 = true then ((impl_ValidScale.f k l1).bind fun t194 => (impl_RotationTo.j0 k (!t194) l0 l1)) else (impl_RotationTo.j0 k true l0 l1))) = some (r1, r2) := h
  clear h
  have HC3 := Aside0.mk H
  clear H
  go_enter Try.func8, Try.ntmps8
  go_upto_region 1 with (first | ((with_reducible refine gate_dst (N := 2) rfl ?_); refine box_event ?hg (N := 2) ?hd (cs := #[.slice A0 l0.length c0]) (t := 24) ?hr ?_; (case hd => rfl); (case hg => rfl); (case hr => first | (go_simp; done) | (go_simp; rfl)); intro gb191 hg w4 hbox hb; have BK191 := Aside0.mk (hbox); have GW191 := Aside0.mk ((by rw [hg]; exact (below_size (by repeat (first | (with_reducible first | exact HB.out | apply below_alloc | apply pw_below_drewN | apply below_drew1) | exact HB.out))) : w.heap.size ≤ gb191)); have GE191 := Aside0.mk ((by rw [hg]; exact (below_size (by repeat (first | (with_reducible first | exact HB.out | apply below_alloc | apply pw_below_drewN | apply below_drew1) | exact HB.out))) : w.heap.size ≤ gb191)); replace HB := Aside0.mk (below_step (by repeat (first | (with_reducible first | exact HB.out | apply below_alloc | apply pw_below_drewN | apply below_drew1) | exact HB.out)) hb); clear hb hbox hg) | ((with_reducible refine gate_dst (N := 3) rfl ?_); refine box_event ?hg (N := 3) ?hd (cs := #[.slice A1 l1.length c1]) (t := 24) ?hr ?_; (case hd => rfl); (case hg => rfl); (case hr => first | (go_simp; done) | (go_simp; rfl)); intro gb192 hg w5 hbox hb; have BK192 := Aside0.mk (hbox); have GW192 := Aside0.mk ((by rw [hg]; exact (below_size (by repeat (first | (with_reducible first | exact HB.out | apply below_alloc | apply pw_below_drewN | apply below_drew1 | refine below_set ?_ GE191.out) | exact HB.out))) : w.heap.size ≤ gb192)); have GE192 := Aside0.mk ((by rw [hg]; exact (below_size (by repeat (first | (with_reducible first | exact HB.out | apply below_alloc | apply pw_below_drewN | apply below_drew1 | refine below_set ?_ GE191.out) | exact HB.out))) : w.heap.size ≤ gb192)); replace HB := Aside0.mk (below_step (by repeat (first | (with_reducible first | exact HB.out | apply below_alloc | apply pw_below_drewN | apply below_drew1 | refine below_set ?_ GE191.out) | exact HB.out)) hb); have NB191_192 := Aside0.mk ((by rw [hg]; exact Nat.ne_of_lt (blk_lt (g := gb191) (o := .cells #[.slice A0 l0.length c0] 24 (0, 0)) (tB BK191)) : gb191 ≠ gb192)); have NB192_191 := Aside0.mk ((by rw [hg]; exact Nat.ne_of_gt (blk_lt (g := gb191) (o := .cells #[.slice A0 l0.length c0] 24 (0, 0)) (tB BK191)) : gb192 ≠ gb191)); replace BK191 := tbB BK191 hb; clear hb hbox hg))
  (try simp only [Act.put, List.setIfInBounds_toArray, List.set_cons_zero, List.set_cons_succ])
  go_cut [13] (fun v13 wc => ∃ (kq : Nat) (x13_2 : Bool), v13 = .bool x13_2 ∧ Aside0 (impl_RotationTo.j0 kq x13_2 l0 l1 = some (r1, r2)) ∧ Aside0 (kq ≤ k) ∧ Aside0 (wc.heap[gb191]? = some (.cells #[(.slice A0 l0.length c0)] 24 (0, 0))) ∧ Aside0 (wc.heap[gb192]? = some (.cells #[(.slice A1 l1.length c1)] 24 (0, 0))) ∧ Aside0 (Below w.heap.size w wc))
  case first =>
    have H := HC3.out
    clear HC3
    replace H := Option.bind_eq_some_iff.mp H
    obtain ⟨t193, A60, H⟩ := H
    replace H : (if t193 = true then ((impl_ValidScale.f k l1).bind fun t194 => (impl_RotationTo.j0 k (!t194) l0 l1)) else (impl_RotationTo.j0 k true l0 l1)) = some (r1, r2) := H
    have A6 := Aside0.mk A60
    clear A60
    by_cases c7 : t193 = true
    · subst c7
      have H1 : ((impl_ValidScale.f k l1).bind fun t194 => (impl_RotationTo.j0 k (!t194) l0 l1)) = some (r1, r2) := by rw [if_pos rfl] at H; exact H
      clear H
      have H := H1
      clear H1
      replace H := Option.bind_eq_some_iff.mp H
      obtain ⟨t194, A80, H⟩ := H
      replace H : (impl_RotationTo.j0 k (!t194) l0 l1) = some (r1, r2) := H
      have A8 := Aside0.mk A80
      clear A80
      have H' := Aside0.mk H
      clear H
      have hnb9 := NB191_192.out
      have hnc9 := NB192_191.out
      have hcz10_0 : w5.cell? ⟨gb191, 0, none⟩ = some (.slice A0 l0.length c0) := (blk_cell BK191.out 0).trans rfl
      have hfz10_0 := blk_frozen BK191.out 0
      go_wp2_with (first | ((with_reducible refine gate_callee (f := 17) rfl ?_); refine goesL_ (some 7) rfl rfl Try.func17 (by kernel_rfl) rfl #[.slice A0 l0.length c0] rfl (by (try simp only [List.map_toArray, List.map_cons, List.map_nil]); first | done | rfl | (simp only [List.length_drop, List.length_take]; rfl)) ?_; (with_reducible refine (impl_ValidScale.calls k _ _ l0 true _ ?side1 ?side2 A6.out).mono ?_); (case side1 => exact tC (Kd.C_below HR0.out HB.out)); (case side2 => exact HC0.out); rintro e w' ⟨rfl, ⟨nd, rfl⟩⟩; refine ⟨_, rfl, ?_⟩; have hcz11_0 : w5.cell? ⟨gb192, 0, none⟩ = some (.slice A1 l1.length c1) := (blk_cell BK192.out 0).trans rfl; have hfz11_0 := blk_frozen BK192.out 0) | (go_at_call 17; (with_reducible refine (impl_ValidScale.calls k _ _ l1 t194 _ ?side1 ?side2 A8.out).mono ?_); (case side1 => repeat (first | exact (Kd.C_below HR1.out (by repeat (first | (with_reducible first | exact HB.out | apply below_alloc | apply pw_below_drewN | apply below_drew1 | refine below_set ?_ GE191.out | refine below_set ?_ GE192.out) | exact HB.out))) | (with_reducible refine Kd.C_alloc ?_ _) | (with_reducible refine Kd.C_drewN ?_ _) | (with_reducible refine Kd.C_drew ?_))); (case side2 => exact HC1.out); rintro e w' ⟨rfl, ⟨nd, rfl⟩⟩))
      go_meet
      case rel => exact ⟨_, (!t194), tq, H', ⟨by first | omega | exact Nat.le_refl _⟩, ⟨tB BK191⟩, ⟨tB BK192⟩, ⟨by repeat (first | (with_reducible first | exact HB.out | apply below_alloc | apply pw_below_drewN | apply below_drew1 | refine below_set ?_ GE191.out | refine below_set ?_ GE192.out) | exact HB.out)⟩⟩
    · replace c7 := Bool.eq_false_iff.mpr c7
      subst c7
      have H1 : (impl_RotationTo.j0 k true l0 l1) = some (r1, r2) := by rw [if_neg (show ¬ (false = true) by decide)] at H; exact H
      clear H
      have H := H1
      clear H1
      have H' := Aside0.mk H
      clear H
      have hnb12 := NB191_192.out
      have hnc12 := NB192_191.out
      have hcz13_0 : w5.cell? ⟨gb191, 0, none⟩ = some (.slice A0 l0.length c0) := (blk_cell BK191.out 0).trans rfl
      have hfz13_0 := blk_frozen BK191.out 0
      go_wp2_with (first | ((with_reducible refine gate_callee (f := 17) rfl ?_); refine goesL_ (some 7) rfl rfl Try.func17 (by kernel_rfl) rfl #[.slice A0 l0.length c0] rfl (by (try simp only [List.map_toArray, List.map_cons, List.map_nil]); first | done | rfl | (simp only [List.length_drop, List.length_take]; rfl)) ?_; (with_reducible refine (impl_ValidScale.calls k _ _ l0 false _ ?side1 ?side2 A6.out).mono ?_); (case side1 => exact tC (Kd.C_below HR0.out HB.out)); (case side2 => exact HC0.out); rintro e w' ⟨rfl, ⟨nd, rfl⟩⟩; refine ⟨_, rfl, ?_⟩))
      go_meet
      case rel => exact ⟨_, (true), tq, H', ⟨by first | omega | exact Nat.le_refl _⟩, ⟨tB BK191⟩, ⟨tB BK192⟩, ⟨by repeat (first | (with_reducible first | exact HB.out | apply below_alloc | apply pw_below_drewN | apply below_drew1 | refine below_set ?_ GE191.out | refine below_set ?_ GE192.out) | exact HB.out)⟩⟩
  case rest =>
    clear HC3
    try clear c1
    try clear p2
    try clear c7
    try clear c8
    try clear c9
    try clear c12
    try clear hcz10_0
    try clear hcz11_0
    try clear hcz13_0
    try clear hfz10_0
    try clear hfz11_0
    try clear hfz13_0
    obtain ⟨kq, x13_2, rfl, HA, HJ2, BK191, BK192, HB⟩ := hcut
    cases kq with
    | zero => exact absurd HA.out (by simp [impl_RotationTo.j0])
    | succ kj2 =>
      have H := HA.out
      clear HA
      simp only [impl_RotationTo.j0] at H
      by_cases c14 : x13_2 = true
      · subst c14
        have H1 : (some (0, 1)) = some (r1, r2) := by rw [if_pos rfl] at H; exact H
        clear H
        have H := H1
        clear H1
        simp only [Option.some.injEq, Prod.mk.injEq] at H
        obtain ⟨rfl, rfl⟩ := H
        go_wp2
        go_ret2
        exact ⟨tE, by repeat (first | (with_reducible first | exact HB.out | apply below_alloc | apply pw_below_drewN | apply below_drew1 | refine below_set ?_ GE191.out | refine below_set ?_ GE192.out) | exact HB.out)⟩
      · replace c14 := Bool.eq_false_iff.mpr c14
        subst c14
        have H1 : ((impl_least_at_impl_RotationTo_1.f kj2 0 (wrap64 ((l0.length : Int) - 1)) [l0] [l1]).bind fun bt195 => ((impl_orNotFound.f bt195.1 bt195.2).bind fun bt197 => (some (bt197.1, bt197.2)))) = some (r1, r2) := by rw [if_neg (show ¬ (false = true) by decide)] at H; exact H
        clear H
        have H := H1
        clear H1
        replace H := Option.bind_eq_some_iff.mp H
        obtain ⟨⟨t195, t196⟩, A150, H⟩ := H
        replace H : ((impl_orNotFound.f t195 t196).bind fun bt197 => (some (bt197.1, bt197.2))) = some (r1, r2) := H
        have A15 := Aside0.mk A150
        clear A150
        replace H := Option.bind_eq_some_iff.mp H
        obtain ⟨⟨t197, t198⟩, A160, H⟩ := H
        replace H : (some (t197, t198)) = some (r1, r2) := H
        have A16 := Aside0.mk A160
        clear A160
        simp only [Option.some.injEq, Prod.mk.injEq] at H
        obtain ⟨rfl, rfl⟩ := H
        have hnb17 := NB191_192.out
        have hnc17 := NB192_191.out
        have hcz18_0 : wc.cell? ⟨gb191, 0, none⟩ = some (.slice A0 l0.length c0) := (blk_cell BK191.out 0).trans rfl
        have hfz18_0 := blk_frozen BK191.out 0
        go_wp2_with (first | ((with_reducible refine gate_callee (f := 21) rfl ?_); refine goesL_ (some 18) rfl rfl Try.func21 (by kernel_rfl) rfl #[.int .i64 0, .int .i64 (wrap64 ((l0.length : Int) - 1)), .func (.func 22) #[] #[.pointer (some ⟨gb191, 0, none⟩), .pointer (some ⟨gb192, 0, none⟩)]] rfl (by (try simp only [List.map_toArray, List.map_cons, List.map_nil]); first | done | rfl | (simp only [List.length_drop, List.length_take]; rfl)) ?_; (with_reducible refine (impl_least_at_impl_RotationTo_1.calls kj2 0 (wrap64 ((l0.length : Int) - 1)) _ [l0] _ [l1] t195 t196 _ ?side1 ?side2 ?side3 ?side4 A15.out).mono ?_); (case side1 => exact Kd.C_box ⟨_, _, rfl, (by exact HC0.out), (tC (Kd.C_below HR0.out HB.out))⟩ (tB BK191)); (case side2 => exact Nat.one_pos); (case side3 => exact Kd.C_box ⟨_, _, rfl, (by exact HC1.out), (tC (Kd.C_below HR1.out HB.out))⟩ (tB BK192)); (case side4 => exact Nat.one_pos); rintro e w19 ⟨rfl, hb⟩; refine ⟨_, rfl, ?_⟩; replace BK191 := tbB BK191 hb; replace BK192 := tbB BK192 hb; replace HB := Aside0.mk (below_step (by repeat (first | (with_reducible first | exact HB.out | apply below_alloc | apply pw_below_drewN | apply below_drew1 | refine below_set ?_ GE191.out | refine below_set ?_ GE192.out) | exact HB.out)) hb); (try clear hb); (try clear hb2); (try clear hk); (try clear hi)) | ((with_reducible refine gate_callee (f := 20) rfl ?_); refine goesL_ (some 21) rfl rfl Try.func20 (by kernel_rfl) rfl #[.int .i64 t195, .bool t196] rfl (by (try simp only [List.map_toArray, List.map_cons, List.map_nil]); first | done | rfl | (simp only [List.length_drop, List.length_take]; rfl)) ?_; (with_reducible refine (impl_orNotFound.calls t195 t196 t197 t198 _ A16.out).mono ?_); rintro e w' ⟨rfl, ⟨nd, rfl⟩⟩; refine ⟨_, rfl, ?_⟩))
        go_ret2
        exact ⟨tE, by repeat (first | (with_reducible first | exact HB.out | apply below_alloc | apply pw_below_drewN | apply below_drew1 | refine below_set ?_ GE191.out | refine below_set ?_ GE192.out) | exact HB.out)⟩

end Go.Proofs.Ytcfcohfniibpdaa.PR
