-- WRITTEN BY wip/gprint.py, a program of this session's over the kit's print, with contracts given by hand
import Derived.Test.YtomeeimjlagbbaaPTx0
import Derived.Test.YtomeeimjlagbbaaPTx5
import Derived.Test.YtomeeimjlagbbaaPTx6
import Derived.Test.YtomeeimjlagbbaaPTx8
import Derived.Test.YtomeeimjlagbbaaPTx9
namespace Go.Proofs.Ytomeeimjlagbbaa.PT
open Go.RowKit Go.Proofs.YtomeeimjlagbbaaW.PrintWords Go.Proofs.YtomeeimjlagbbaaW.PrintLast Go.Proofs.YtomeeimjlagbbaaW.PrintMore
attribute [local go_sem] max2_int min2_int max_two min_two max_three min_three max_four min_four   -- for this text's walks alone
set_option linter.unusedVariables false
set_option linter.unusedSimpArgs false

/-! ### impl_CommonPhrase: function 61 -/
mutual
def impl_CommonPhrase.j0 : Nat → List Int → List Int → Bool → Option (List Int × Int)
  | 0, _, _, _ => none
  | k + 1, x0, x1, x18 => if x18 = true then (some (([] : List Int), 7)) else (impl_CommonPhrase.l0 k x0 x1 ([] : List Int) (x0.length : Int) 0)
def impl_CommonPhrase.l0 : Nat → List Int → List Int → List Int → Int → Int → Option (List Int × Int)
  | 0, _, _, _, _, _ => none
  | k + 1, x0, x1, x6, x20, x21 => if x21 < x20 then (impl_CommonPhrase.l1 k x0 x1 x6 x21 (wrap64 (x21 + 1)) x20 x21) else ((slices_Clone_int64_int64.f x6).bind fun t281 => (some (t281, 0)))
def impl_CommonPhrase.l1 : Nat → List Int → List Int → List Int → Int → Int → Int → Int → Option (List Int × Int)
  | 0, _, _, _, _, _, _, _ => none
  | k + 1, x0, x1, x6, x7, x8, x20, x21 => if x8 ≤ (mn (wrap64 (x7 + 8)) (x0.length : Int)) then (if 0 ≤ x7 then (if x7 ≤ x8 then (if x8 ≤ (x0.length : Int) then ((some ((x0.take (x8 : Int).toNat).drop (x7 : Int).toNat : List Int)).bind fun y284 => (if (y284.length : Int) > (x6.length : Int) then ((impl_occurrences.f k x1 y284).bind fun t289 => (if (t289.length : Int) > 0 then (impl_CommonPhrase.l1 k x0 x1 y284 x7 (wrap64 (x8 + 1)) x20 x21) else (impl_CommonPhrase.l1 k x0 x1 x6 x7 (wrap64 (x8 + 1)) x20 x21))) else (if (y284.length : Int) = (x6.length : Int) then ((slices_Compare_int64_int64.f k y284 x6).bind fun t292 => (if t292 < 0 then ((impl_occurrences.f k x1 y284).bind fun t293 => (if (t293.length : Int) > 0 then (impl_CommonPhrase.l1 k x0 x1 y284 x7 (wrap64 (x8 + 1)) x20 x21) else (impl_CommonPhrase.l1 k x0 x1 x6 x7 (wrap64 (x8 + 1)) x20 x21))) else (impl_CommonPhrase.l1 k x0 x1 x6 x7 (wrap64 (x8 + 1)) x20 x21))) else (impl_CommonPhrase.l1 k x0 x1 x6 x7 (wrap64 (x8 + 1)) x20 x21)))) else (none)) else (none)) else (none)) else (impl_CommonPhrase.l0 k x0 x1 x6 x20 (wrap64 (x21 + 1)))
end
def impl_CommonPhrase.f (k : Nat) (l0 : List Int) (l1 : List Int) : Option (List Int × Int) := (impl_pitchesOk.f l0).bind fun t279 => (if t279 = true then ((impl_pitchesOk.f l1).bind fun t280 => (impl_CommonPhrase.j0 k l0 l1 (!t280))) else (impl_CommonPhrase.j0 k l0 l1 true))
theorem impl_CommonPhrase.mono_l : ∀ k, (∀ y0 y1 y2, LeO (impl_CommonPhrase.j0 k y0 y1 y2) (impl_CommonPhrase.j0 (k + 1) y0 y1 y2)) ∧ (∀ y0 y1 y2 y3 y4, LeO (impl_CommonPhrase.l0 k y0 y1 y2 y3 y4) (impl_CommonPhrase.l0 (k + 1) y0 y1 y2 y3 y4)) ∧ (∀ y0 y1 y2 y3 y4 y5 y6, LeO (impl_CommonPhrase.l1 k y0 y1 y2 y3 y4 y5 y6) (impl_CommonPhrase.l1 (k + 1) y0 y1 y2 y3 y4 y5 y6))
  | 0 => ⟨fun _ _ _ r h => by simp [impl_CommonPhrase.j0] at h, fun _ _ _ _ _ r h => by simp [impl_CommonPhrase.l0] at h, fun _ _ _ _ _ _ _ r h => by simp [impl_CommonPhrase.l1] at h⟩
  | k + 1 => by
    obtain ⟨ih0, ih1, ih2⟩ := impl_CommonPhrase.mono_l k
    refine ⟨?_, ?_, ?_⟩
    · intro y0 y1 y2
      unfold impl_CommonPhrase.j0
      repeat' first
      | (with_reducible exact ih0 _ _ _)
      | (with_reducible exact ih1 _ _ _ _ _)
      | (with_reducible exact ih2 _ _ _ _ _ _ _)
      | (with_reducible exact impl_occurrences.mono _ _ _)
      | (with_reducible exact slices_Compare_int64_int64.mono _ _ _)
      | (with_reducible exact LeO.refl _)
      | (with_reducible exact LeO.none _)
      | (with_reducible refine LeO.ite ?_ ?_)
      | (with_reducible refine LeO.bind ?_ (fun _ => ?_))
      | exact ih0 _ _ _
      | exact ih1 _ _ _ _ _
      | exact ih2 _ _ _ _ _ _ _
      | exact impl_occurrences.mono _ _ _
      | exact slices_Compare_int64_int64.mono _ _ _
      | exact LeO.none _
      | refine LeO.ite ?_ ?_
      | refine LeO.bind ?_ (fun _ => ?_)
    · intro y0 y1 y2 y3 y4
      unfold impl_CommonPhrase.l0
      repeat' first
      | (with_reducible exact ih0 _ _ _)
      | (with_reducible exact ih1 _ _ _ _ _)
      | (with_reducible exact ih2 _ _ _ _ _ _ _)
      | (with_reducible exact impl_occurrences.mono _ _ _)
      | (with_reducible exact slices_Compare_int64_int64.mono _ _ _)
      | (with_reducible exact LeO.refl _)
      | (with_reducible exact LeO.none _)
      | (with_reducible refine LeO.ite ?_ ?_)
      | (with_reducible refine LeO.bind ?_ (fun _ => ?_))
      | exact ih0 _ _ _
      | exact ih1 _ _ _ _ _
      | exact ih2 _ _ _ _ _ _ _
      | exact impl_occurrences.mono _ _ _
      | exact slices_Compare_int64_int64.mono _ _ _
      | exact LeO.none _
      | refine LeO.ite ?_ ?_
      | refine LeO.bind ?_ (fun _ => ?_)
    · intro y0 y1 y2 y3 y4 y5 y6
      unfold impl_CommonPhrase.l1
      repeat' first
      | (with_reducible exact ih0 _ _ _)
      | (with_reducible exact ih1 _ _ _ _ _)
      | (with_reducible exact ih2 _ _ _ _ _ _ _)
      | (with_reducible exact impl_occurrences.mono _ _ _)
      | (with_reducible exact slices_Compare_int64_int64.mono _ _ _)
      | (with_reducible exact LeO.refl _)
      | (with_reducible exact LeO.none _)
      | (with_reducible refine LeO.ite ?_ ?_)
      | (with_reducible refine LeO.bind ?_ (fun _ => ?_))
      | exact ih0 _ _ _
      | exact ih1 _ _ _ _ _
      | exact ih2 _ _ _ _ _ _ _
      | exact impl_occurrences.mono _ _ _
      | exact slices_Compare_int64_int64.mono _ _ _
      | exact LeO.none _
      | refine LeO.ite ?_ ?_
      | refine LeO.bind ?_ (fun _ => ?_)
theorem impl_CommonPhrase.mono : ∀ a0 a1 k, LeO (impl_CommonPhrase.f k a0 a1) (impl_CommonPhrase.f (k + 1) a0 a1) := by
  intro a0 a1 k
  obtain ⟨ih0, ih1, ih2⟩ := impl_CommonPhrase.mono_l k
  unfold impl_CommonPhrase.f
  repeat' first
      | (with_reducible exact ih0 _ _ _)
      | (with_reducible exact ih1 _ _ _ _ _)
      | (with_reducible exact ih2 _ _ _ _ _ _ _)
      | (with_reducible exact impl_occurrences.mono _ _ _)
      | (with_reducible exact slices_Compare_int64_int64.mono _ _ _)
      | (with_reducible exact LeO.refl _)
      | (with_reducible exact LeO.none _)
      | (with_reducible refine LeO.ite ?_ ?_)
      | (with_reducible refine LeO.bind ?_ (fun _ => ?_))
      | exact ih0 _ _ _
      | exact ih1 _ _ _ _ _
      | exact ih2 _ _ _ _ _ _ _
      | exact impl_occurrences.mono _ _ _
      | exact slices_Compare_int64_int64.mono _ _ _
      | exact LeO.none _
      | refine LeO.ite ?_ ?_
      | refine LeO.bind ?_ (fun _ => ?_)
set_option maxHeartbeats 8000000 in
set_option maxRecDepth 100000 in
theorem impl_CommonPhrase.calls (k : Nat) (P0_ : Nat → Prop) (A0 : Option Addr) (c0 : Nat) (l0 : List Int) (A1 : Option Addr) (c1 : Nat) (l1 : List Int) (r1 : List Int) (r2 : Int) (w : World) (hs0 : Kd.V (Kd.int .i64) 2 w w.heap.size (fun k_ => P0_ k_) (.slice A0 l0.length c0) l0) (hr1 : Kd.C (Kd.int .i64) w A1 l1.length l1) (hc1 : l1.length ≤ c1) (h : impl_CommonPhrase.f k l0 l1 = some (r1, r2)) :
    Calls Try.prog 61 #[.slice A0 l0.length c0, .slice A1 l1.length c1] w fun e w' => ∃ v0_ : Value, e = .returned (.tuple #[v0_, .int .i64 r2]) ∧ Kd.R (Kd.int .i64) 2 w' w.heap.size (fun k_ => (w.heap.size ≤ k_)) v0_ r1 ∧ Below w.heap.size w w' := by
  have HO0 := Aside0.mk (show Kd.V (Kd.int .i64) 2 w w.heap.size (fun k_ => (P0_ k_ ∨ w.heap.size ≤ k_)) (.slice A0 l0.length c0) l0 from Kd.V_mono hs0 (fun k_ hk => .inl hk))
  have HR1 := Aside0.mk hr1
  have HC1 := Aside0.mk hc1
  clear hr1 hc1
  have HB := Aside0.mk (Below.refl w.heap.size w)
  have H : ((impl_pitchesOk.f l0).bind fun t279 => (if t279 = true then ((impl_pitchesOk.f l1).bind fun t280 => (impl_CommonPhrase.j0 k l0 l1 (!t280))) else (impl_CommonPhrase.j0 k l0 l1 true))) = some (r1, r2) := h
  clear h
  have HC3 := Aside0.mk H
  clear H
  go_enter Try.func61, Try.ntmps61
  go_upto_region 1 with (fail)
  go_cut [18] (fun v18 wc => ∃ (kq : Nat) (x18_2 : Bool), v18 = .bool x18_2 ∧ Aside0 (impl_CommonPhrase.j0 kq l0 l1 x18_2 = some (r1, r2)) ∧ Aside0 (kq ≤ k) ∧ Aside0 (Kd.V (Kd.int .i64) 2 wc w.heap.size (fun k_ => (P0_ k_ ∨ w.heap.size ≤ k_)) (.slice A0 l0.length c0) l0) ∧ Aside0 (Below w.heap.size w wc))
  case first =>
    have H := HC3.out
    clear HC3
    replace H := Option.bind_eq_some_iff.mp H
    obtain ⟨t279, A40, H⟩ := H
    replace H : (if t279 = true then ((impl_pitchesOk.f l1).bind fun t280 => (impl_CommonPhrase.j0 k l0 l1 (!t280))) else (impl_CommonPhrase.j0 k l0 l1 true)) = some (r1, r2) := H
    have A4 := Aside0.mk A40
    clear A40
    by_cases c5 : t279 = true
    · subst c5
      have H1 : ((impl_pitchesOk.f l1).bind fun t280 => (impl_CommonPhrase.j0 k l0 l1 (!t280))) = some (r1, r2) := by rw [if_pos rfl] at H; exact H
      clear H
      have H := H1
      clear H1
      replace H := Option.bind_eq_some_iff.mp H
      obtain ⟨t280, A60, H⟩ := H
      replace H : (impl_CommonPhrase.j0 k l0 l1 (!t280)) = some (r1, r2) := H
      have A6 := Aside0.mk A60
      clear A60
      have H' := Aside0.mk H
      clear H
      go_wp2_with (first | ((with_reducible refine gate_callee (f := 135) rfl ?_); refine goesL_ (some 12) rfl rfl Try.func135 (by kernel_rfl) rfl #[.slice A0 l0.length c0] rfl (by (try simp only [List.map_toArray, List.map_cons, List.map_nil]); first | done | rfl | (simp only [List.length_drop, List.length_take]; rfl)) ?_; (with_reducible refine (impl_pitchesOk.calls _ _ l0 true _ ?side1 ?side2 A4.out).mono ?_); (case side1 => repeat (first | exact (Kd.V_reads' HO0.out).2.2 | (with_reducible refine Kd.C_alloc ?_ _) | (with_reducible refine Kd.C_drewN ?_ _) | (with_reducible refine Kd.C_drew ?_))); (case side2 => exact (Kd.V_reads' HO0.out).2.1); rintro e w7 ⟨rfl, hb⟩; refine ⟨_, rfl, ?_⟩; have n0_ := Aside0.mk (Kd.V_below (by (with_reducible repeat (first | apply Kd.V_alloc | apply Kd.V_drewN | apply Kd.V_drew)); exact HO0.out) hb); have n1_ := Aside0.mk (below_step (by repeat (first | (with_reducible first | exact HB.out | apply below_alloc | apply pw_below_drewN | apply below_drew1) | exact HB.out)) hb); clear HO0; clear HB; have HO0 := n0_; have HB := n1_; clear n0_ n1_; (try clear hb); (try clear hb2); (try clear hk); (try clear hi)) | (go_at_call 135; (with_reducible refine (impl_pitchesOk.calls _ _ l1 t280 _ ?side1 ?side2 A6.out).mono ?_); (case side1 => repeat (first | exact (Kd.C_below HR1.out HB.out) | (with_reducible refine Kd.C_alloc ?_ _) | (with_reducible refine Kd.C_drewN ?_ _) | (with_reducible refine Kd.C_drew ?_))); (case side2 => exact HC1.out); rintro e w8 ⟨rfl, hb⟩; have n0_ := Aside0.mk (Kd.V_below (by (with_reducible repeat (first | apply Kd.V_alloc | apply Kd.V_drewN | apply Kd.V_drew)); exact HO0.out) hb); have n1_ := Aside0.mk (below_step (by repeat (first | (with_reducible first | exact HB.out | apply below_alloc | apply pw_below_drewN | apply below_drew1) | exact HB.out)) hb); clear HO0; clear HB; have HO0 := n0_; have HB := n1_; clear n0_ n1_; (try clear hb); (try clear hb2); (try clear hk); (try clear hi)))
      go_meet
      case rel => exact ⟨_, (!t280), (by first | rfl | (simp; done) | (simp [*]; done)), H', ⟨by first | omega | exact Nat.le_refl _⟩, ⟨by (with_reducible repeat (first | apply Kd.V_alloc | apply Kd.V_drewN | apply Kd.V_drew)); exact HO0.out⟩, ⟨by repeat (first | (with_reducible first | exact HB.out | apply below_alloc | apply pw_below_drewN | apply below_drew1) | exact HB.out)⟩⟩
    · replace c5 := Bool.eq_false_iff.mpr c5
      subst c5
      have H1 : (impl_CommonPhrase.j0 k l0 l1 true) = some (r1, r2) := by rw [if_neg (show ¬ (false = true) by decide)] at H; exact H
      clear H
      have H := H1
      clear H1
      have H' := Aside0.mk H
      clear H
      go_wp2_with (first | ((with_reducible refine gate_callee (f := 135) rfl ?_); refine goesL_ (some 12) rfl rfl Try.func135 (by kernel_rfl) rfl #[.slice A0 l0.length c0] rfl (by (try simp only [List.map_toArray, List.map_cons, List.map_nil]); first | done | rfl | (simp only [List.length_drop, List.length_take]; rfl)) ?_; (with_reducible refine (impl_pitchesOk.calls _ _ l0 false _ ?side1 ?side2 A4.out).mono ?_); (case side1 => repeat (first | exact (Kd.V_reads' HO0.out).2.2 | (with_reducible refine Kd.C_alloc ?_ _) | (with_reducible refine Kd.C_drewN ?_ _) | (with_reducible refine Kd.C_drew ?_))); (case side2 => exact (Kd.V_reads' HO0.out).2.1); rintro e w9 ⟨rfl, hb⟩; refine ⟨_, rfl, ?_⟩; have n0_ := Aside0.mk (Kd.V_below (by (with_reducible repeat (first | apply Kd.V_alloc | apply Kd.V_drewN | apply Kd.V_drew)); exact HO0.out) hb); have n1_ := Aside0.mk (below_step (by repeat (first | (with_reducible first | exact HB.out | apply below_alloc | apply pw_below_drewN | apply below_drew1) | exact HB.out)) hb); clear HO0; clear HB; have HO0 := n0_; have HB := n1_; clear n0_ n1_; (try clear hb); (try clear hb2); (try clear hk); (try clear hi)))
      go_meet
      case rel => exact ⟨_, (true), (by first | rfl | (simp; done) | (simp [*]; done)), H', ⟨by first | omega | exact Nat.le_refl _⟩, ⟨by (with_reducible repeat (first | apply Kd.V_alloc | apply Kd.V_drewN | apply Kd.V_drew)); exact HO0.out⟩, ⟨by repeat (first | (with_reducible first | exact HB.out | apply below_alloc | apply pw_below_drewN | apply below_drew1) | exact HB.out)⟩⟩
  case rest =>
    clear HC3
    try clear c1
    try clear p2
    try clear c5
    try clear c6
    obtain ⟨kq, x18_2, rfl, HA, HJ2, HO_0, HB⟩ := hcut
    cases kq with
    | zero => exact absurd HA.out (by simp [impl_CommonPhrase.j0])
    | succ kj2 =>
      have H := HA.out
      clear HA
      simp only [impl_CommonPhrase.j0] at H
      by_cases c10 : x18_2 = true
      · subst c10
        have H1 : (some (([] : List Int), 7)) = some (r1, r2) := by rw [if_pos rfl] at H; exact H
        clear H
        have H := H1
        clear H1
        simp only [Option.some.injEq, Prod.mk.injEq] at H
        obtain ⟨rfl, rfl⟩ := H
        go_wp2
        go_ret2
        exact ⟨_, by first | rfl | (simp [errW_none, errW_some] <;> rfl) | (simp [*, errW_none, errW_some] <;> rfl), by first | exact Kd.R_nil _ _ _ _ _ | exact Kd.N_nil _ _ _ _ _ | exact Kd.V_nil _ _ _ _ _ | exact Kd.Q_nil _ _ _ _ _ | exact Kd.S_nil _ _ _ _ _, by repeat (first | (with_reducible first | exact HB.out | apply below_alloc | apply pw_below_drewN | apply below_drew1) | exact HB.out)⟩
      · replace c10 := Bool.eq_false_iff.mpr c10
        subst c10
        have H1 : (impl_CommonPhrase.l0 kj2 l0 l1 ([] : List Int) (l0.length : Int) 0) = some (r1, r2) := by rw [if_neg (show ¬ (false = true) by decide)] at H; exact H
        clear H
        have H := H1
        clear H1
        have H' := Aside0.mk H
        clear H
        go_wp2
        go_loopg [6, 21] kj2 (fun kq v6 v21 w' => ∃ (x6_2 : List Int) (x21_2 : Int), v21 = .int .i64 x21_2 ∧ Aside0 (impl_CommonPhrase.l0 kq l0 l1 x6_2 (l0.length : Int) x21_2 = some (r1, r2)) ∧ Aside0 (kq ≤ kj2) ∧ Aside0 (Kd.V (Kd.int .i64) 2 w' w.heap.size (fun k_ => (P0_ k_ ∨ w.heap.size ≤ k_)) (.slice A0 l0.length c0) l0) ∧ Aside0 (Kd.V (Kd.int .i64) 2 w' w.heap.size (fun k_ => (P0_ k_ ∨ w.heap.size ≤ k_)) v6 x6_2) ∧ Aside0 (Below w.heap.size w w'))
        case atStart => exact ⟨(([] : List Int)), (0), (by first | rfl | (simp; done) | (simp [*]; done)), H', ⟨Nat.le_refl _⟩, ⟨by (with_reducible repeat (first | apply Kd.V_alloc | apply Kd.V_drewN | apply Kd.V_drew)); exact HO_0.out⟩, ⟨Kd.V_nil _ _ _ _ _⟩, ⟨by repeat (first | (with_reducible first | exact HB.out | apply below_alloc | apply pw_below_drewN | apply below_drew1) | exact HB.out)⟩⟩
        case round =>
          clear H'
          try clear c1
          try clear p2
          try clear c5
          try clear c6
          try clear c10
          try clear p2
          obtain ⟨x6_2, x21_2, rfl, HA, HK2, HO_0, HO_6, HB⟩ := hrel
          cases gk with
          | zero => exact absurd HA.out (by simp [impl_CommonPhrase.l0])
          | succ k2 =>
            have H := HA.out
            clear HA
            simp only [impl_CommonPhrase.l0] at H
            by_cases c11 : x21_2 < (l0.length : Int)
            · rw [if_pos c11] at H
              have c11b0 : decide (x21_2 < (l0.length : Int)) = true := decide_eq_true c11
              clear c11
              have H' := Aside0.mk H
              clear H
              go_wp2
              go_loopg [6, 8] k2 (fun kq v6 v8 w' => ∃ (x6_3 : List Int) (x8_3 : Int), v8 = .int .i64 x8_3 ∧ Aside0 (impl_CommonPhrase.l1 kq l0 l1 x6_3 x21_2 x8_3 (l0.length : Int) x21_2 = some (r1, r2)) ∧ Aside0 (kq ≤ k2) ∧ Aside0 (Kd.V (Kd.int .i64) 2 w' w.heap.size (fun k_ => (P0_ k_ ∨ w.heap.size ≤ k_)) (.slice A0 l0.length c0) l0) ∧ Aside0 (Kd.V (Kd.int .i64) 2 w' w.heap.size (fun k_ => (P0_ k_ ∨ w.heap.size ≤ k_)) v6 x6_3) ∧ Aside0 (Below w.heap.size w w'))
              case atStart => exact ⟨(x6_2), (wrap64 (x21_2 + 1)), (by first | rfl | (simp; done) | (simp [*]; done)), H', ⟨Nat.le_refl _⟩, ⟨by (with_reducible repeat (first | apply Kd.V_alloc | apply Kd.V_drewN | apply Kd.V_drew)); exact HO_0.out⟩, ⟨by (with_reducible repeat (first | apply Kd.V_alloc | apply Kd.V_drewN | apply Kd.V_drew)); exact HO_6.out⟩, ⟨by repeat (first | (with_reducible first | exact HB.out | apply below_alloc | apply pw_below_drewN | apply below_drew1) | exact HB.out)⟩⟩
              case round =>
                clear H'
                try clear c1
                try clear p2
                try clear c5
                try clear c6
                try clear p6
                try clear c10
                try clear c11
                try clear c11b0
                try clear p2
                obtain ⟨x6_3, x8_3, rfl, HA, HK3, HO_0, HO_6, HB⟩ := hrel
                cases gk with
                | zero => exact absurd HA.out (by simp [impl_CommonPhrase.l1])
                | succ k3 =>
                  have H := HA.out
                  clear HA
                  simp only [impl_CommonPhrase.l1] at H
                  obtain ⟨ji12, hji12⟩ : ∃ j_ : Int, (mn (wrap64 (x21_2 + 8)) (l0.length : Int)) = j_ := ⟨_, rfl⟩
                  replace H : (if x8_3 ≤ (ji12) then (if 0 ≤ x21_2 then (if x21_2 ≤ x8_3 then (if x8_3 ≤ (l0.length : Int) then ((some ((l0.take (x8_3 : Int).toNat).drop (x21_2 : Int).toNat : List Int)).bind fun y284 => (if (y284.length : Int) > (x6_3.length : Int) then ((impl_occurrences.f k3 l1 y284).bind fun t289 => (if (t289.length : Int) > 0 then (impl_CommonPhrase.l1 k3 l0 l1 y284 x21_2 (wrap64 (x8_3 + 1)) (l0.length : Int) x21_2) else (impl_CommonPhrase.l1 k3 l0 l1 x6_3 x21_2 (wrap64 (x8_3 + 1)) (l0.length : Int) x21_2))) else (if (y284.length : Int) = (x6_3.length : Int) then ((slices_Compare_int64_int64.f k3 y284 x6_3).bind fun t292 => (if t292 < 0 then ((impl_occurrences.f k3 l1 y284).bind fun t293 => (if (t293.length : Int) > 0 then (impl_CommonPhrase.l1 k3 l0 l1 y284 x21_2 (wrap64 (x8_3 + 1)) (l0.length : Int) x21_2) else (impl_CommonPhrase.l1 k3 l0 l1 x6_3 x21_2 (wrap64 (x8_3 + 1)) (l0.length : Int) x21_2))) else (impl_CommonPhrase.l1 k3 l0 l1 x6_3 x21_2 (wrap64 (x8_3 + 1)) (l0.length : Int) x21_2))) else (impl_CommonPhrase.l1 k3 l0 l1 x6_3 x21_2 (wrap64 (x8_3 + 1)) (l0.length : Int) x21_2)))) else (none)) else (none)) else (none)) else (impl_CommonPhrase.l0 k3 l0 l1 x6_3 (l0.length : Int) (wrap64 (x21_2 + 1)))) = some (r1, r2) := by first | (rw [hji12] at H; exact H) | (simp only [hji12] at H ⊢; exact H)
                  have hji12_ : (if (l0.length : Int) < (wrap64 (x21_2 + 8)) then (l0.length : Int) else (wrap64 (x21_2 + 8))) = ji12 := hji12
                  by_cases c13 : x8_3 ≤ (ji12)
                  · rw [if_pos c13] at H
                    have c13b0 : decide (x8_3 ≤ (ji12)) = true := decide_eq_true c13
                    clear c13
                    by_cases c14 : 0 ≤ x21_2
                    · rw [if_pos c14] at H
                      have c14b0 := eq_true c14
                      have c14b1 : decide (0 ≤ x21_2) = true := decide_eq_true c14
                      clear c14
                      by_cases c15 : x21_2 ≤ x8_3
                      · rw [if_pos c15] at H
                        have c15b0 := eq_true c15
                        have c15b1 : decide (x21_2 ≤ x8_3) = true := decide_eq_true c15
                        clear c15
                        by_cases c16 : x8_3 ≤ (l0.length : Int)
                        · rw [if_pos c16] at H
                          have c16b0 := eq_true c16
                          have c16b1 : decide (x8_3 ≤ (l0.length : Int)) = true := decide_eq_true c16
                          clear c16
                          obtain ⟨y284, hy284⟩ : ∃ y_ : List Int, y_ = ((l0.take (x8_3 : Int).toNat).drop (x21_2 : Int).toNat) := ⟨_, rfl⟩
                          replace H : (if (y284.length : Int) > (x6_3.length : Int) then ((impl_occurrences.f k3 l1 y284).bind fun t289 => (if (t289.length : Int) > 0 then (impl_CommonPhrase.l1 k3 l0 l1 y284 x21_2 (wrap64 (x8_3 + 1)) (l0.length : Int) x21_2) else (impl_CommonPhrase.l1 k3 l0 l1 x6_3 x21_2 (wrap64 (x8_3 + 1)) (l0.length : Int) x21_2))) else (if (y284.length : Int) = (x6_3.length : Int) then ((slices_Compare_int64_int64.f k3 y284 x6_3).bind fun t292 => (if t292 < 0 then ((impl_occurrences.f k3 l1 y284).bind fun t293 => (if (t293.length : Int) > 0 then (impl_CommonPhrase.l1 k3 l0 l1 y284 x21_2 (wrap64 (x8_3 + 1)) (l0.length : Int) x21_2) else (impl_CommonPhrase.l1 k3 l0 l1 x6_3 x21_2 (wrap64 (x8_3 + 1)) (l0.length : Int) x21_2))) else (impl_CommonPhrase.l1 k3 l0 l1 x6_3 x21_2 (wrap64 (x8_3 + 1)) (l0.length : Int) x21_2))) else (impl_CommonPhrase.l1 k3 l0 l1 x6_3 x21_2 (wrap64 (x8_3 + 1)) (l0.length : Int) x21_2))) = some (r1, r2) := by first | (rw [hy284]; with_reducible exact H) | (have H2_ := (Option.bind_some _ _).symm.trans H; rw [hy284]; with_reducible exact H2_) | (have H2_ := (Option.bind_some _ _).symm.trans H; with_reducible exact H2_) | with_reducible exact H | (rw [hy284]; exact H) | exact H
                          have Ny284 := Aside0.mk hy284
                          clear hy284
                          by_cases c17 : (y284.length : Int) > (x6_3.length : Int)
                          · rw [if_pos c17] at H
                            have c17b0 : decide ((x6_3.length : Int) < (y284.length : Int)) = true := decide_eq_true c17
                            have c17b1 : decide (x6_3.length < y284.length) = true := decide_eq_true (Int.ofNat_lt.mp c17)
                            clear c17
                            replace H := Option.bind_eq_some_iff.mp H
                            obtain ⟨t289, A180, H⟩ := H
                            replace H : (if (t289.length : Int) > 0 then (impl_CommonPhrase.l1 k3 l0 l1 y284 x21_2 (wrap64 (x8_3 + 1)) (l0.length : Int) x21_2) else (impl_CommonPhrase.l1 k3 l0 l1 x6_3 x21_2 (wrap64 (x8_3 + 1)) (l0.length : Int) x21_2)) = some (r1, r2) := H
                            have A18 := Aside0.mk A180
                            clear A180
                            by_cases c19 : (t289.length : Int) > 0
                            · rw [if_pos c19] at H
                              have c19b0 : decide (0 < (t289.length : Int)) = true := decide_eq_true c19
                              have c19b1 : decide (0 < t289.length) = true := decide_eq_true (by omega)
                              clear c19
                              have H' := Aside0.mk H
                              clear H
                              have q20 : (x8_3 : Int) ≤ ((l0.length : Int) : Int) := of_decide_eq_true (by first | (with_reducible assumption) | assumption)
                              obtain ⟨i020, hi020, _, hsz20, _⟩ := info_parts info2
                              have hroom20 : l0.length ≤ c0 := (Kd.V_reads' HO_0.out).2.1
                              have hC20 : Kd.F (Kd.int .i64) _ _ A0 l0.length l0 := (Kd.V_at (base := w.heap.size) HO_0.out).2.2
                              have ql20 : (x21_2 : Int) ≤ (x8_3 : Int) := of_decide_eq_true (by first | (with_reducible assumption) | assumption)
                              have q020 : (0 : Int) ≤ (x21_2 : Int) := of_decide_eq_true (by first | (with_reducible assumption) | assumption)
                              have hcut20 := cut_mid (P := Try.prog) 28 2 .i64 .i64 Try.underlying28 hi020 1 hsz20 A0 l0.length c0 x21_2 x8_3 q020 ql20 q20 hroom20
                              have hr20 := Kd.F_mid (lo := (x21_2 : Int).toNat) (hi := (x8_3 : Int).toNat) (c := c0) hC20 (by omega) (by omega) hroom20
                              obtain ⟨A20, hA20⟩ : ∃ A1, A1 = (if c0 = (x21_2 : Int).toNat then A0 else (A0 : Option Addr).map (·.add ((x21_2 : Int).toNat * 1))) := ⟨_, rfl⟩
                              obtain ⟨c20, hc20⟩ : ∃ c1, c1 = c0 - (x21_2 : Int).toNat := ⟨_, rfl⟩
                              have hy20 : y284.length = (x8_3 : Int).toNat - (x21_2 : Int).toNat := (by rw [Ny284.out, List.length_drop, List.length_take] <;> omega)
                              rw [show ((l0).take (x8_3 : Int).toNat).drop (x21_2 : Int).toNat = y284 from Ny284.out.symm] at hr20
                              replace hr20 : Kd.F (Kd.int .i64) _ _ A20 y284.length y284 := (by rw [hA20]; exact hr20)
                              rw [← hy20, ← hA20, ← hc20] at hcut20
                              have HO288 := Aside0.mk (show Kd.V (Kd.int .i64) 2 _ w.heap.size _ (.slice A20 y284.length c20) y284 from Kd.V_mk (by rw [hy20, hc20]; exact Nat.sub_le_sub_right (Nat.le_trans (by omega) hroom20) _) hr20)
                              have HC288 := Aside0.mk (show y284.length ≤ c20 from by rw [hy20, hc20]; exact Nat.sub_le_sub_right (Nat.le_trans (by omega) hroom20) _)
                              clear hr20 hC20 hroom20 hi020 hsz20 hc20
                              have KY20 := Aside0.mk hy20
                              have KA20 := Aside0.mk hA20
                              clear hy20 hA20
                              replace q20 := eq_true q20
                              obtain ⟨Ao21, co21, eo21⟩ := Kd.V_slice HO_6.out
                              subst eo21
                              go_wp2_with (first | (go_at_call 133; (with_reducible refine (impl_occurrences.calls k3 _ _ l1 _ _ y284 t289 _ ?side1 ?side2 ?side3 ?side4 A18.out).mono ?_); (case side1 => repeat (first | exact (Kd.C_below HR1.out HB.out) | (with_reducible refine Kd.C_alloc ?_ _) | (with_reducible refine Kd.C_drewN ?_ _) | (with_reducible refine Kd.C_drew ?_))); (case side2 => exact HC1.out); (case side3 => repeat (first | exact (Kd.V_reads' HO288.out).2.2 | (with_reducible refine Kd.C_alloc ?_ _) | (with_reducible refine Kd.C_drewN ?_ _) | (with_reducible refine Kd.C_drew ?_))); (case side4 => exact (Kd.V_reads' HO288.out).2.1); rintro e w22 ⟨v290, rfl, ho0, hb⟩; have n0_ := Aside0.mk (Kd.V_elder' (by (with_reducible repeat (first | apply Kd.V_alloc | apply Kd.V_drewN | apply Kd.V_drew)); exact HO_0.out) (Kd.R_base ho0) hb); have n1_ := Aside0.mk (Kd.V_elder' (by (with_reducible repeat (first | apply Kd.V_alloc | apply Kd.V_drewN | apply Kd.V_drew)); exact HO_6.out) (Kd.R_base ho0) hb); have n2_ := Aside0.mk (Kd.V_elder' (by (with_reducible repeat (first | apply Kd.V_alloc | apply Kd.V_drewN | apply Kd.V_drew)); exact HO288.out) (Kd.R_base ho0) hb); have n3_ := Aside0.mk (Kd.R_lower (Kd.R_newM (M := fun k_ => (w.heap.size ≤ k_)) ho0 (below_size (by repeat (first | (with_reducible first | exact HB.out | apply below_alloc | apply pw_below_drewN | apply below_drew1) | exact HB.out))) (fun k_ h_ => h_)) (below_size (by repeat (first | (with_reducible first | exact HB.out | apply below_alloc | apply pw_below_drewN | apply below_drew1) | exact HB.out)))); have n4_ := Aside0.mk (below_step (by repeat (first | (with_reducible first | exact HB.out | apply below_alloc | apply pw_below_drewN | apply below_drew1) | exact HB.out)) hb); clear HO_0; clear HO_6; clear HO288; clear HB; have HO_0 := n0_; have HO_6 := n1_; have HO288 := n2_; have HO291 := n3_; have HB := n4_; clear n0_ n1_ n2_ n3_ n4_; (try clear hb); (try clear hb2); (try clear hk); (try clear hi); (try clear ho0); obtain ⟨Ao23, co23, eo23⟩ := Kd.R_slice HO291.out; subst eo23))
                              go_roundg k3
                              case measure => have := HJ2.out; have := HK2.out; have := HK3.out; omega
                              case rel => exact ⟨(y284), (wrap64 (x8_3 + 1)), (by first | rfl | (simp; done) | (simp [*]; done)), H', ⟨by have := HJ2.out; have := HK2.out; have := HK3.out; omega⟩, ⟨by (with_reducible repeat (first | apply Kd.V_alloc | apply Kd.V_drewN | apply Kd.V_drew)); exact Kd.V_mono HO_0.out (fun _ hk => hk.1)⟩, ⟨by (with_reducible repeat (first | apply Kd.V_alloc | apply Kd.V_drewN | apply Kd.V_drew)); exact Kd.V_mono HO288.out (fun _ hk => hk.1)⟩, ⟨by repeat (first | (with_reducible first | exact HB.out | apply below_alloc | apply pw_below_drewN | apply below_drew1) | exact HB.out)⟩⟩
                            · rw [if_neg c19] at H
                              have c19b0 : decide (0 < (t289.length : Int)) = false := decide_eq_false c19
                              have c19b1 : decide (0 < t289.length) = false := decide_eq_false (by omega)
                              clear c19
                              have H' := Aside0.mk H
                              clear H
                              have q24 : (x8_3 : Int) ≤ ((l0.length : Int) : Int) := of_decide_eq_true (by first | (with_reducible assumption) | assumption)
                              obtain ⟨i024, hi024, _, hsz24, _⟩ := info_parts info2
                              have hroom24 : l0.length ≤ c0 := (Kd.V_reads' HO_0.out).2.1
                              have hC24 : Kd.F (Kd.int .i64) _ _ A0 l0.length l0 := (Kd.V_at (base := w.heap.size) HO_0.out).2.2
                              have ql24 : (x21_2 : Int) ≤ (x8_3 : Int) := of_decide_eq_true (by first | (with_reducible assumption) | assumption)
                              have q024 : (0 : Int) ≤ (x21_2 : Int) := of_decide_eq_true (by first | (with_reducible assumption) | assumption)
                              have hcut24 := cut_mid (P := Try.prog) 28 2 .i64 .i64 Try.underlying28 hi024 1 hsz24 A0 l0.length c0 x21_2 x8_3 q024 ql24 q24 hroom24
                              have hr24 := Kd.F_mid (lo := (x21_2 : Int).toNat) (hi := (x8_3 : Int).toNat) (c := c0) hC24 (by omega) (by omega) hroom24
                              obtain ⟨A24, hA24⟩ : ∃ A1, A1 = (if c0 = (x21_2 : Int).toNat then A0 else (A0 : Option Addr).map (·.add ((x21_2 : Int).toNat * 1))) := ⟨_, rfl⟩
                              obtain ⟨c24, hc24⟩ : ∃ c1, c1 = c0 - (x21_2 : Int).toNat := ⟨_, rfl⟩
                              have hy24 : y284.length = (x8_3 : Int).toNat - (x21_2 : Int).toNat := (by rw [Ny284.out, List.length_drop, List.length_take] <;> omega)
                              rw [show ((l0).take (x8_3 : Int).toNat).drop (x21_2 : Int).toNat = y284 from Ny284.out.symm] at hr24
                              replace hr24 : Kd.F (Kd.int .i64) _ _ A24 y284.length y284 := (by rw [hA24]; exact hr24)
                              rw [← hy24, ← hA24, ← hc24] at hcut24
                              have HO288 := Aside0.mk (show Kd.V (Kd.int .i64) 2 _ w.heap.size _ (.slice A24 y284.length c24) y284 from Kd.V_mk (by rw [hy24, hc24]; exact Nat.sub_le_sub_right (Nat.le_trans (by omega) hroom24) _) hr24)
                              have HC288 := Aside0.mk (show y284.length ≤ c24 from by rw [hy24, hc24]; exact Nat.sub_le_sub_right (Nat.le_trans (by omega) hroom24) _)
                              clear hr24 hC24 hroom24 hi024 hsz24 hc24
                              have KY24 := Aside0.mk hy24
                              have KA24 := Aside0.mk hA24
                              clear hy24 hA24
                              replace q24 := eq_true q24
                              obtain ⟨Ao25, co25, eo25⟩ := Kd.V_slice HO_6.out
                              subst eo25
                              go_wp2_with (first | (go_at_call 133; (with_reducible refine (impl_occurrences.calls k3 _ _ l1 _ _ y284 t289 _ ?side1 ?side2 ?side3 ?side4 A18.out).mono ?_); (case side1 => repeat (first | exact (Kd.C_below HR1.out HB.out) | (with_reducible refine Kd.C_alloc ?_ _) | (with_reducible refine Kd.C_drewN ?_ _) | (with_reducible refine Kd.C_drew ?_))); (case side2 => exact HC1.out); (case side3 => repeat (first | exact (Kd.V_reads' HO288.out).2.2 | (with_reducible refine Kd.C_alloc ?_ _) | (with_reducible refine Kd.C_drewN ?_ _) | (with_reducible refine Kd.C_drew ?_))); (case side4 => exact (Kd.V_reads' HO288.out).2.1); rintro e w26 ⟨v290, rfl, ho0, hb⟩; have n0_ := Aside0.mk (Kd.V_elder' (by (with_reducible repeat (first | apply Kd.V_alloc | apply Kd.V_drewN | apply Kd.V_drew)); exact HO_0.out) (Kd.R_base ho0) hb); have n1_ := Aside0.mk (Kd.V_elder' (by (with_reducible repeat (first | apply Kd.V_alloc | apply Kd.V_drewN | apply Kd.V_drew)); exact HO_6.out) (Kd.R_base ho0) hb); have n2_ := Aside0.mk (Kd.V_elder' (by (with_reducible repeat (first | apply Kd.V_alloc | apply Kd.V_drewN | apply Kd.V_drew)); exact HO288.out) (Kd.R_base ho0) hb); have n3_ := Aside0.mk (Kd.R_lower (Kd.R_newM (M := fun k_ => (w.heap.size ≤ k_)) ho0 (below_size (by repeat (first | (with_reducible first | exact HB.out | apply below_alloc | apply pw_below_drewN | apply below_drew1) | exact HB.out))) (fun k_ h_ => h_)) (below_size (by repeat (first | (with_reducible first | exact HB.out | apply below_alloc | apply pw_below_drewN | apply below_drew1) | exact HB.out)))); have n4_ := Aside0.mk (below_step (by repeat (first | (with_reducible first | exact HB.out | apply below_alloc | apply pw_below_drewN | apply below_drew1) | exact HB.out)) hb); clear HO_0; clear HO_6; clear HO288; clear HB; have HO_0 := n0_; have HO_6 := n1_; have HO288 := n2_; have HO291 := n3_; have HB := n4_; clear n0_ n1_ n2_ n3_ n4_; (try clear hb); (try clear hb2); (try clear hk); (try clear hi); (try clear ho0); obtain ⟨Ao27, co27, eo27⟩ := Kd.R_slice HO291.out; subst eo27))
                              go_roundg k3
                              case measure => have := HJ2.out; have := HK2.out; have := HK3.out; omega
                              case rel => exact ⟨(x6_3), (wrap64 (x8_3 + 1)), (by first | rfl | (simp; done) | (simp [*]; done)), H', ⟨by have := HJ2.out; have := HK2.out; have := HK3.out; omega⟩, ⟨by (with_reducible repeat (first | apply Kd.V_alloc | apply Kd.V_drewN | apply Kd.V_drew)); exact Kd.V_mono HO_0.out (fun _ hk => hk.1)⟩, ⟨by (with_reducible repeat (first | apply Kd.V_alloc | apply Kd.V_drewN | apply Kd.V_drew)); exact Kd.V_mono HO_6.out (fun _ hk => hk.1)⟩, ⟨by repeat (first | (with_reducible first | exact HB.out | apply below_alloc | apply pw_below_drewN | apply below_drew1) | exact HB.out)⟩⟩
                          · rw [if_neg c17] at H
                            have c17b0 : decide ((x6_3.length : Int) < (y284.length : Int)) = false := decide_eq_false c17
                            have c17b1 : decide (x6_3.length < y284.length) = false := decide_eq_false (fun h => c17 (Int.ofNat_lt.mpr h))
                            clear c17
                            by_cases c28 : (y284.length : Int) = (x6_3.length : Int)
                            · rw [if_pos c28] at H
                              have c28b0 : ((y284.length : Int) == (x6_3.length : Int)) = true := beq_iff_eq.mpr c28
                              have c28b1 : ((y284.length : Int) != (x6_3.length : Int)) = false := bne_eq_false_iff_eq.mpr c28
                              have c28b2 : (y284.length == x6_3.length) = true := by first | simpa using c28 | (simp at c28 ⊢; omega)
                              clear c28
                              replace H := Option.bind_eq_some_iff.mp H
                              obtain ⟨t292, A290, H⟩ := H
                              replace H : (if t292 < 0 then ((impl_occurrences.f k3 l1 y284).bind fun t293 => (if (t293.length : Int) > 0 then (impl_CommonPhrase.l1 k3 l0 l1 y284 x21_2 (wrap64 (x8_3 + 1)) (l0.length : Int) x21_2) else (impl_CommonPhrase.l1 k3 l0 l1 x6_3 x21_2 (wrap64 (x8_3 + 1)) (l0.length : Int) x21_2))) else (impl_CommonPhrase.l1 k3 l0 l1 x6_3 x21_2 (wrap64 (x8_3 + 1)) (l0.length : Int) x21_2)) = some (r1, r2) := H
                              have A29 := Aside0.mk A290
                              clear A290
                              by_cases c30 : t292 < 0
                              · rw [if_pos c30] at H
                                have c30b0 : decide (t292 < 0) = true := decide_eq_true c30
                                clear c30
                                replace H := Option.bind_eq_some_iff.mp H
                                obtain ⟨t293, A310, H⟩ := H
                                replace H : (if (t293.length : Int) > 0 then (impl_CommonPhrase.l1 k3 l0 l1 y284 x21_2 (wrap64 (x8_3 + 1)) (l0.length : Int) x21_2) else (impl_CommonPhrase.l1 k3 l0 l1 x6_3 x21_2 (wrap64 (x8_3 + 1)) (l0.length : Int) x21_2)) = some (r1, r2) := H
                                have A31 := Aside0.mk A310
                                clear A310
                                by_cases c32 : (t293.length : Int) > 0
                                · rw [if_pos c32] at H
                                  have c32b0 : decide (0 < (t293.length : Int)) = true := decide_eq_true c32
                                  have c32b1 : decide (0 < t293.length) = true := decide_eq_true (by omega)
                                  clear c32
                                  have H' := Aside0.mk H
                                  clear H
                                  have q33 : (x8_3 : Int) ≤ ((l0.length : Int) : Int) := of_decide_eq_true (by first | (with_reducible assumption) | assumption)
                                  obtain ⟨i033, hi033, _, hsz33, _⟩ := info_parts info2
                                  have hroom33 : l0.length ≤ c0 := (Kd.V_reads' HO_0.out).2.1
                                  have hC33 : Kd.F (Kd.int .i64) _ _ A0 l0.length l0 := (Kd.V_at (base := w.heap.size) HO_0.out).2.2
                                  have ql33 : (x21_2 : Int) ≤ (x8_3 : Int) := of_decide_eq_true (by first | (with_reducible assumption) | assumption)
                                  have q033 : (0 : Int) ≤ (x21_2 : Int) := of_decide_eq_true (by first | (with_reducible assumption) | assumption)
                                  have hcut33 := cut_mid (P := Try.prog) 28 2 .i64 .i64 Try.underlying28 hi033 1 hsz33 A0 l0.length c0 x21_2 x8_3 q033 ql33 q33 hroom33
                                  have hr33 := Kd.F_mid (lo := (x21_2 : Int).toNat) (hi := (x8_3 : Int).toNat) (c := c0) hC33 (by omega) (by omega) hroom33
                                  obtain ⟨A33, hA33⟩ : ∃ A1, A1 = (if c0 = (x21_2 : Int).toNat then A0 else (A0 : Option Addr).map (·.add ((x21_2 : Int).toNat * 1))) := ⟨_, rfl⟩
                                  obtain ⟨c33, hc33⟩ : ∃ c1, c1 = c0 - (x21_2 : Int).toNat := ⟨_, rfl⟩
                                  have hy33 : y284.length = (x8_3 : Int).toNat - (x21_2 : Int).toNat := (by rw [Ny284.out, List.length_drop, List.length_take] <;> omega)
                                  rw [show ((l0).take (x8_3 : Int).toNat).drop (x21_2 : Int).toNat = y284 from Ny284.out.symm] at hr33
                                  replace hr33 : Kd.F (Kd.int .i64) _ _ A33 y284.length y284 := (by rw [hA33]; exact hr33)
                                  rw [← hy33, ← hA33, ← hc33] at hcut33
                                  have HO288 := Aside0.mk (show Kd.V (Kd.int .i64) 2 _ w.heap.size _ (.slice A33 y284.length c33) y284 from Kd.V_mk (by rw [hy33, hc33]; exact Nat.sub_le_sub_right (Nat.le_trans (by omega) hroom33) _) hr33)
                                  have HC288 := Aside0.mk (show y284.length ≤ c33 from by rw [hy33, hc33]; exact Nat.sub_le_sub_right (Nat.le_trans (by omega) hroom33) _)
                                  clear hr33 hC33 hroom33 hi033 hsz33 hc33
                                  have KY33 := Aside0.mk hy33
                                  have KA33 := Aside0.mk hA33
                                  clear hy33 hA33
                                  replace q33 := eq_true q33
                                  obtain ⟨Ao34, co34, eo34⟩ := Kd.V_slice HO_6.out
                                  subst eo34
                                  go_wp2_with (first | (go_at_call 136; (with_reducible refine (slices_Compare_int64_int64.calls k3 _ _ y284 _ _ x6_3 t292 _ ?side1 ?side2 ?side3 ?side4 A29.out).mono ?_); (case side1 => repeat (first | exact (Kd.V_reads' HO288.out).2.2 | (with_reducible refine Kd.C_alloc ?_ _) | (with_reducible refine Kd.C_drewN ?_ _) | (with_reducible refine Kd.C_drew ?_))); (case side2 => exact (Kd.V_reads' HO288.out).2.1); (case side3 => repeat (first | exact (Kd.V_reads' HO_6.out).2.2 | (with_reducible refine Kd.C_alloc ?_ _) | (with_reducible refine Kd.C_drewN ?_ _) | (with_reducible refine Kd.C_drew ?_))); (case side4 => exact (Kd.V_reads' HO_6.out).2.1); rintro e w' ⟨rfl, ⟨nd, rfl⟩⟩) | (go_at_call 133; (with_reducible refine (impl_occurrences.calls k3 _ _ l1 _ _ y284 t293 _ ?side1 ?side2 ?side3 ?side4 A31.out).mono ?_); (case side1 => repeat (first | exact (Kd.C_below HR1.out (by repeat (first | (with_reducible first | exact HB.out | apply below_alloc | apply pw_below_drewN | apply below_drew1) | exact HB.out))) | (with_reducible refine Kd.C_alloc ?_ _) | (with_reducible refine Kd.C_drewN ?_ _) | (with_reducible refine Kd.C_drew ?_))); (case side2 => exact HC1.out); (case side3 => repeat (first | exact (Kd.V_reads' HO288.out).2.2 | (with_reducible refine Kd.C_alloc ?_ _) | (with_reducible refine Kd.C_drewN ?_ _) | (with_reducible refine Kd.C_drew ?_))); (case side4 => exact (Kd.V_reads' HO288.out).2.1); rintro e w35 ⟨v294, rfl, ho0, hb⟩; have n0_ := Aside0.mk (Kd.V_elder' (by (with_reducible repeat (first | apply Kd.V_alloc | apply Kd.V_drewN | apply Kd.V_drew)); exact HO_0.out) (Kd.R_base ho0) hb); have n1_ := Aside0.mk (Kd.V_elder' (by (with_reducible repeat (first | apply Kd.V_alloc | apply Kd.V_drewN | apply Kd.V_drew)); exact HO_6.out) (Kd.R_base ho0) hb); have n2_ := Aside0.mk (Kd.V_elder' (by (with_reducible repeat (first | apply Kd.V_alloc | apply Kd.V_drewN | apply Kd.V_drew)); exact HO288.out) (Kd.R_base ho0) hb); have n3_ := Aside0.mk (Kd.R_lower (Kd.R_newM (M := fun k_ => (w.heap.size ≤ k_)) ho0 (below_size (by repeat (first | (with_reducible first | exact HB.out | apply below_alloc | apply pw_below_drewN | apply below_drew1) | exact HB.out))) (fun k_ h_ => h_)) (below_size (by repeat (first | (with_reducible first | exact HB.out | apply below_alloc | apply pw_below_drewN | apply below_drew1) | exact HB.out)))); have n4_ := Aside0.mk (below_step (by repeat (first | (with_reducible first | exact HB.out | apply below_alloc | apply pw_below_drewN | apply below_drew1) | exact HB.out)) hb); clear HO_0; clear HO_6; clear HO288; clear HB; have HO_0 := n0_; have HO_6 := n1_; have HO288 := n2_; have HO295 := n3_; have HB := n4_; clear n0_ n1_ n2_ n3_ n4_; (try clear hb); (try clear hb2); (try clear hk); (try clear hi); (try clear ho0); obtain ⟨Ao36, co36, eo36⟩ := Kd.R_slice HO295.out; subst eo36))
                                  go_roundg k3
                                  case measure => have := HJ2.out; have := HK2.out; have := HK3.out; omega
                                  case rel => exact ⟨(y284), (wrap64 (x8_3 + 1)), (by first | rfl | (simp; done) | (simp [*]; done)), H', ⟨by have := HJ2.out; have := HK2.out; have := HK3.out; omega⟩, ⟨by (with_reducible repeat (first | apply Kd.V_alloc | apply Kd.V_drewN | apply Kd.V_drew)); exact Kd.V_mono HO_0.out (fun _ hk => hk.1)⟩, ⟨by (with_reducible repeat (first | apply Kd.V_alloc | apply Kd.V_drewN | apply Kd.V_drew)); exact Kd.V_mono HO288.out (fun _ hk => hk.1)⟩, ⟨by repeat (first | (with_reducible first | exact HB.out | apply below_alloc | apply pw_below_drewN | apply below_drew1) | exact HB.out)⟩⟩
                                · rw [if_neg c32] at H
                                  have c32b0 : decide (0 < (t293.length : Int)) = false := decide_eq_false c32
                                  have c32b1 : decide (0 < t293.length) = false := decide_eq_false (by omega)
                                  clear c32
                                  have H' := Aside0.mk H
                                  clear H
                                  have q37 : (x8_3 : Int) ≤ ((l0.length : Int) : Int) := of_decide_eq_true (by first | (with_reducible assumption) | assumption)
                                  obtain ⟨i037, hi037, _, hsz37, _⟩ := info_parts info2
                                  have hroom37 : l0.length ≤ c0 := (Kd.V_reads' HO_0.out).2.1
                                  have hC37 : Kd.F (Kd.int .i64) _ _ A0 l0.length l0 := (Kd.V_at (base := w.heap.size) HO_0.out).2.2
                                  have ql37 : (x21_2 : Int) ≤ (x8_3 : Int) := of_decide_eq_true (by first | (with_reducible assumption) | assumption)
                                  have q037 : (0 : Int) ≤ (x21_2 : Int) := of_decide_eq_true (by first | (with_reducible assumption) | assumption)
                                  have hcut37 := cut_mid (P := Try.prog) 28 2 .i64 .i64 Try.underlying28 hi037 1 hsz37 A0 l0.length c0 x21_2 x8_3 q037 ql37 q37 hroom37
                                  have hr37 := Kd.F_mid (lo := (x21_2 : Int).toNat) (hi := (x8_3 : Int).toNat) (c := c0) hC37 (by omega) (by omega) hroom37
                                  obtain ⟨A37, hA37⟩ : ∃ A1, A1 = (if c0 = (x21_2 : Int).toNat then A0 else (A0 : Option Addr).map (·.add ((x21_2 : Int).toNat * 1))) := ⟨_, rfl⟩
                                  obtain ⟨c37, hc37⟩ : ∃ c1, c1 = c0 - (x21_2 : Int).toNat := ⟨_, rfl⟩
                                  have hy37 : y284.length = (x8_3 : Int).toNat - (x21_2 : Int).toNat := (by rw [Ny284.out, List.length_drop, List.length_take] <;> omega)
                                  rw [show ((l0).take (x8_3 : Int).toNat).drop (x21_2 : Int).toNat = y284 from Ny284.out.symm] at hr37
                                  replace hr37 : Kd.F (Kd.int .i64) _ _ A37 y284.length y284 := (by rw [hA37]; exact hr37)
                                  rw [← hy37, ← hA37, ← hc37] at hcut37
                                  have HO288 := Aside0.mk (show Kd.V (Kd.int .i64) 2 _ w.heap.size _ (.slice A37 y284.length c37) y284 from Kd.V_mk (by rw [hy37, hc37]; exact Nat.sub_le_sub_right (Nat.le_trans (by omega) hroom37) _) hr37)
                                  have HC288 := Aside0.mk (show y284.length ≤ c37 from by rw [hy37, hc37]; exact Nat.sub_le_sub_right (Nat.le_trans (by omega) hroom37) _)
                                  clear hr37 hC37 hroom37 hi037 hsz37 hc37
                                  have KY37 := Aside0.mk hy37
                                  have KA37 := Aside0.mk hA37
                                  clear hy37 hA37
                                  replace q37 := eq_true q37
                                  obtain ⟨Ao38, co38, eo38⟩ := Kd.V_slice HO_6.out
                                  subst eo38
                                  go_wp2_with (first | (go_at_call 136; (with_reducible refine (slices_Compare_int64_int64.calls k3 _ _ y284 _ _ x6_3 t292 _ ?side1 ?side2 ?side3 ?side4 A29.out).mono ?_); (case side1 => repeat (first | exact (Kd.V_reads' HO288.out).2.2 | (with_reducible refine Kd.C_alloc ?_ _) | (with_reducible refine Kd.C_drewN ?_ _) | (with_reducible refine Kd.C_drew ?_))); (case side2 => exact (Kd.V_reads' HO288.out).2.1); (case side3 => repeat (first | exact (Kd.V_reads' HO_6.out).2.2 | (with_reducible refine Kd.C_alloc ?_ _) | (with_reducible refine Kd.C_drewN ?_ _) | (with_reducible refine Kd.C_drew ?_))); (case side4 => exact (Kd.V_reads' HO_6.out).2.1); rintro e w' ⟨rfl, ⟨nd, rfl⟩⟩) | (go_at_call 133; (with_reducible refine (impl_occurrences.calls k3 _ _ l1 _ _ y284 t293 _ ?side1 ?side2 ?side3 ?side4 A31.out).mono ?_); (case side1 => repeat (first | exact (Kd.C_below HR1.out (by repeat (first | (with_reducible first | exact HB.out | apply below_alloc | apply pw_below_drewN | apply below_drew1) | exact HB.out))) | (with_reducible refine Kd.C_alloc ?_ _) | (with_reducible refine Kd.C_drewN ?_ _) | (with_reducible refine Kd.C_drew ?_))); (case side2 => exact HC1.out); (case side3 => repeat (first | exact (Kd.V_reads' HO288.out).2.2 | (with_reducible refine Kd.C_alloc ?_ _) | (with_reducible refine Kd.C_drewN ?_ _) | (with_reducible refine Kd.C_drew ?_))); (case side4 => exact (Kd.V_reads' HO288.out).2.1); rintro e w39 ⟨v294, rfl, ho0, hb⟩; have n0_ := Aside0.mk (Kd.V_elder' (by (with_reducible repeat (first | apply Kd.V_alloc | apply Kd.V_drewN | apply Kd.V_drew)); exact HO_0.out) (Kd.R_base ho0) hb); have n1_ := Aside0.mk (Kd.V_elder' (by (with_reducible repeat (first | apply Kd.V_alloc | apply Kd.V_drewN | apply Kd.V_drew)); exact HO_6.out) (Kd.R_base ho0) hb); have n2_ := Aside0.mk (Kd.V_elder' (by (with_reducible repeat (first | apply Kd.V_alloc | apply Kd.V_drewN | apply Kd.V_drew)); exact HO288.out) (Kd.R_base ho0) hb); have n3_ := Aside0.mk (Kd.R_lower (Kd.R_newM (M := fun k_ => (w.heap.size ≤ k_)) ho0 (below_size (by repeat (first | (with_reducible first | exact HB.out | apply below_alloc | apply pw_below_drewN | apply below_drew1) | exact HB.out))) (fun k_ h_ => h_)) (below_size (by repeat (first | (with_reducible first | exact HB.out | apply below_alloc | apply pw_below_drewN | apply below_drew1) | exact HB.out)))); have n4_ := Aside0.mk (below_step (by repeat (first | (with_reducible first | exact HB.out | apply below_alloc | apply pw_below_drewN | apply below_drew1) | exact HB.out)) hb); clear HO_0; clear HO_6; clear HO288; clear HB; have HO_0 := n0_; have HO_6 := n1_; have HO288 := n2_; have HO295 := n3_; have HB := n4_; clear n0_ n1_ n2_ n3_ n4_; (try clear hb); (try clear hb2); (try clear hk); (try clear hi); (try clear ho0); obtain ⟨Ao40, co40, eo40⟩ := Kd.R_slice HO295.out; subst eo40))
                                  go_roundg k3
                                  case measure => have := HJ2.out; have := HK2.out; have := HK3.out; omega
                                  case rel => exact ⟨(x6_3), (wrap64 (x8_3 + 1)), (by first | rfl | (simp; done) | (simp [*]; done)), H', ⟨by have := HJ2.out; have := HK2.out; have := HK3.out; omega⟩, ⟨by (with_reducible repeat (first | apply Kd.V_alloc | apply Kd.V_drewN | apply Kd.V_drew)); exact Kd.V_mono HO_0.out (fun _ hk => hk.1)⟩, ⟨by (with_reducible repeat (first | apply Kd.V_alloc | apply Kd.V_drewN | apply Kd.V_drew)); exact Kd.V_mono HO_6.out (fun _ hk => hk.1)⟩, ⟨by repeat (first | (with_reducible first | exact HB.out | apply below_alloc | apply pw_below_drewN | apply below_drew1) | exact HB.out)⟩⟩
                              · rw [if_neg c30] at H
                                have c30b0 : decide (t292 < 0) = false := decide_eq_false c30
                                clear c30
                                have H' := Aside0.mk H
                                clear H
                                have q41 : (x8_3 : Int) ≤ ((l0.length : Int) : Int) := of_decide_eq_true (by first | (with_reducible assumption) | assumption)
                                obtain ⟨i041, hi041, _, hsz41, _⟩ := info_parts info2
                                have hroom41 : l0.length ≤ c0 := (Kd.V_reads' HO_0.out).2.1
                                have hC41 : Kd.F (Kd.int .i64) _ _ A0 l0.length l0 := (Kd.V_at (base := w.heap.size) HO_0.out).2.2
                                have ql41 : (x21_2 : Int) ≤ (x8_3 : Int) := of_decide_eq_true (by first | (with_reducible assumption) | assumption)
                                have q041 : (0 : Int) ≤ (x21_2 : Int) := of_decide_eq_true (by first | (with_reducible assumption) | assumption)
                                have hcut41 := cut_mid (P := Try.prog) 28 2 .i64 .i64 Try.underlying28 hi041 1 hsz41 A0 l0.length c0 x21_2 x8_3 q041 ql41 q41 hroom41
                                have hr41 := Kd.F_mid (lo := (x21_2 : Int).toNat) (hi := (x8_3 : Int).toNat) (c := c0) hC41 (by omega) (by omega) hroom41
                                obtain ⟨A41, hA41⟩ : ∃ A1, A1 = (if c0 = (x21_2 : Int).toNat then A0 else (A0 : Option Addr).map (·.add ((x21_2 : Int).toNat * 1))) := ⟨_, rfl⟩
                                obtain ⟨c41, hc41⟩ : ∃ c1, c1 = c0 - (x21_2 : Int).toNat := ⟨_, rfl⟩
                                have hy41 : y284.length = (x8_3 : Int).toNat - (x21_2 : Int).toNat := (by rw [Ny284.out, List.length_drop, List.length_take] <;> omega)
                                rw [show ((l0).take (x8_3 : Int).toNat).drop (x21_2 : Int).toNat = y284 from Ny284.out.symm] at hr41
                                replace hr41 : Kd.F (Kd.int .i64) _ _ A41 y284.length y284 := (by rw [hA41]; exact hr41)
                                rw [← hy41, ← hA41, ← hc41] at hcut41
                                have HO288 := Aside0.mk (show Kd.V (Kd.int .i64) 2 _ w.heap.size _ (.slice A41 y284.length c41) y284 from Kd.V_mk (by rw [hy41, hc41]; exact Nat.sub_le_sub_right (Nat.le_trans (by omega) hroom41) _) hr41)
                                have HC288 := Aside0.mk (show y284.length ≤ c41 from by rw [hy41, hc41]; exact Nat.sub_le_sub_right (Nat.le_trans (by omega) hroom41) _)
                                clear hr41 hC41 hroom41 hi041 hsz41 hc41
                                have KY41 := Aside0.mk hy41
                                have KA41 := Aside0.mk hA41
                                clear hy41 hA41
                                replace q41 := eq_true q41
                                obtain ⟨Ao42, co42, eo42⟩ := Kd.V_slice HO_6.out
                                subst eo42
                                go_wp2_with (first | (go_at_call 136; (with_reducible refine (slices_Compare_int64_int64.calls k3 _ _ y284 _ _ x6_3 t292 _ ?side1 ?side2 ?side3 ?side4 A29.out).mono ?_); (case side1 => repeat (first | exact (Kd.V_reads' HO288.out).2.2 | (with_reducible refine Kd.C_alloc ?_ _) | (with_reducible refine Kd.C_drewN ?_ _) | (with_reducible refine Kd.C_drew ?_))); (case side2 => exact (Kd.V_reads' HO288.out).2.1); (case side3 => repeat (first | exact (Kd.V_reads' HO_6.out).2.2 | (with_reducible refine Kd.C_alloc ?_ _) | (with_reducible refine Kd.C_drewN ?_ _) | (with_reducible refine Kd.C_drew ?_))); (case side4 => exact (Kd.V_reads' HO_6.out).2.1); rintro e w' ⟨rfl, ⟨nd, rfl⟩⟩))
                                go_roundg k3
                                case measure => have := HJ2.out; have := HK2.out; have := HK3.out; omega
                                case rel => exact ⟨(x6_3), (wrap64 (x8_3 + 1)), (by first | rfl | (simp; done) | (simp [*]; done)), H', ⟨by have := HJ2.out; have := HK2.out; have := HK3.out; omega⟩, ⟨by (with_reducible repeat (first | apply Kd.V_alloc | apply Kd.V_drewN | apply Kd.V_drew)); exact HO_0.out⟩, ⟨by (with_reducible repeat (first | apply Kd.V_alloc | apply Kd.V_drewN | apply Kd.V_drew)); exact HO_6.out⟩, ⟨by repeat (first | (with_reducible first | exact HB.out | apply below_alloc | apply pw_below_drewN | apply below_drew1) | exact HB.out)⟩⟩
                            · rw [if_neg c28] at H
                              have c28b0 : ((y284.length : Int) == (x6_3.length : Int)) = false := beq_eq_false_iff_ne.mpr c28
                              have c28b1 : ((y284.length : Int) != (x6_3.length : Int)) = true := bne_iff_ne.mpr c28
                              have c28b2 : (y284.length == x6_3.length) = false := by first | simpa using c28 | (simp at c28 ⊢; omega)
                              have H' := Aside0.mk H
                              clear H
                              have q43 : (x8_3 : Int) ≤ ((l0.length : Int) : Int) := of_decide_eq_true (by first | (with_reducible assumption) | assumption)
                              obtain ⟨i043, hi043, _, hsz43, _⟩ := info_parts info2
                              have hroom43 : l0.length ≤ c0 := (Kd.V_reads' HO_0.out).2.1
                              have hC43 : Kd.F (Kd.int .i64) _ _ A0 l0.length l0 := (Kd.V_at (base := w.heap.size) HO_0.out).2.2
                              have ql43 : (x21_2 : Int) ≤ (x8_3 : Int) := of_decide_eq_true (by first | (with_reducible assumption) | assumption)
                              have q043 : (0 : Int) ≤ (x21_2 : Int) := of_decide_eq_true (by first | (with_reducible assumption) | assumption)
                              have hcut43 := cut_mid (P := Try.prog) 28 2 .i64 .i64 Try.underlying28 hi043 1 hsz43 A0 l0.length c0 x21_2 x8_3 q043 ql43 q43 hroom43
                              have hr43 := Kd.F_mid (lo := (x21_2 : Int).toNat) (hi := (x8_3 : Int).toNat) (c := c0) hC43 (by omega) (by omega) hroom43
                              obtain ⟨A43, hA43⟩ : ∃ A1, A1 = (if c0 = (x21_2 : Int).toNat then A0 else (A0 : Option Addr).map (·.add ((x21_2 : Int).toNat * 1))) := ⟨_, rfl⟩
                              obtain ⟨c43, hc43⟩ : ∃ c1, c1 = c0 - (x21_2 : Int).toNat := ⟨_, rfl⟩
                              have hy43 : y284.length = (x8_3 : Int).toNat - (x21_2 : Int).toNat := (by rw [Ny284.out, List.length_drop, List.length_take] <;> omega)
                              rw [show ((l0).take (x8_3 : Int).toNat).drop (x21_2 : Int).toNat = y284 from Ny284.out.symm] at hr43
                              replace hr43 : Kd.F (Kd.int .i64) _ _ A43 y284.length y284 := (by rw [hA43]; exact hr43)
                              rw [← hy43, ← hA43, ← hc43] at hcut43
                              have HO288 := Aside0.mk (show Kd.V (Kd.int .i64) 2 _ w.heap.size _ (.slice A43 y284.length c43) y284 from Kd.V_mk (by rw [hy43, hc43]; exact Nat.sub_le_sub_right (Nat.le_trans (by omega) hroom43) _) hr43)
                              have HC288 := Aside0.mk (show y284.length ≤ c43 from by rw [hy43, hc43]; exact Nat.sub_le_sub_right (Nat.le_trans (by omega) hroom43) _)
                              clear hr43 hC43 hroom43 hi043 hsz43 hc43
                              have KY43 := Aside0.mk hy43
                              have KA43 := Aside0.mk hA43
                              clear hy43 hA43
                              replace q43 := eq_true q43
                              obtain ⟨Ao44, co44, eo44⟩ := Kd.V_slice HO_6.out
                              subst eo44
                              go_wp2
                              go_roundg k3
                              case measure => have := HJ2.out; have := HK2.out; have := HK3.out; omega
                              case rel => exact ⟨(x6_3), (wrap64 (x8_3 + 1)), (by first | rfl | (simp; done) | (simp [*]; done)), H', ⟨by have := HJ2.out; have := HK2.out; have := HK3.out; omega⟩, ⟨by (with_reducible repeat (first | apply Kd.V_alloc | apply Kd.V_drewN | apply Kd.V_drew)); exact HO_0.out⟩, ⟨by (with_reducible repeat (first | apply Kd.V_alloc | apply Kd.V_drewN | apply Kd.V_drew)); exact HO_6.out⟩, ⟨by repeat (first | (with_reducible first | exact HB.out | apply below_alloc | apply pw_below_drewN | apply below_drew1) | exact HB.out)⟩⟩
                        · rw [if_neg c16] at H
                          exact absurd H (by simp)
                      · rw [if_neg c15] at H
                        exact absurd H (by simp)
                    · rw [if_neg c14] at H
                      exact absurd H (by simp)
                  · rw [if_neg c13] at H
                    have c13b0 : decide (x8_3 ≤ (ji12)) = false := decide_eq_false c13
                    clear c13
                    have H' := Aside0.mk H
                    clear H
                    go_wp2
                    go_roundg k3
                    case measure => have := HJ2.out; have := HK2.out; have := HK3.out; omega
                    case rel => exact ⟨(x6_3), (wrap64 (x21_2 + 1)), (by first | rfl | (simp; done) | (simp [*]; done)), H', ⟨by have := HJ2.out; have := HK2.out; have := HK3.out; omega⟩, ⟨by (with_reducible repeat (first | apply Kd.V_alloc | apply Kd.V_drewN | apply Kd.V_drew)); exact HO_0.out⟩, ⟨by (with_reducible repeat (first | apply Kd.V_alloc | apply Kd.V_drewN | apply Kd.V_drew)); exact HO_6.out⟩, ⟨by repeat (first | (with_reducible first | exact HB.out | apply below_alloc | apply pw_below_drewN | apply below_drew1) | exact HB.out)⟩⟩
            · rw [if_neg c11] at H
              have c11b0 : decide (x21_2 < (l0.length : Int)) = false := decide_eq_false c11
              clear c11
              replace H := Option.bind_eq_some_iff.mp H
              obtain ⟨t281, A450, H⟩ := H
              replace H : (some (t281, 0)) = some (r1, r2) := H
              have A45 := Aside0.mk A450
              clear A450
              simp only [Option.some.injEq, Prod.mk.injEq] at H
              obtain ⟨rfl, rfl⟩ := H
              obtain ⟨Ao46, co46, eo46⟩ := Kd.V_slice HO_6.out
              subst eo46
              go_wp2_with (first | ((with_reducible refine gate_callee (f := 111) rfl ?_); refine goesL_ (some 68) rfl rfl Try.func111 (by kernel_rfl) rfl #[.slice Ao46 x6_2.length co46] rfl (by (try simp only [List.map_toArray, List.map_cons, List.map_nil]); first | done | rfl | (simp only [List.length_drop, List.length_take]; rfl)) ?_; (with_reducible refine (slices_Clone_int64_int64.calls _ _ x6_2 t281 _ ?side1 ?side2 A45.out).mono ?_); (case side1 => repeat (first | exact (Kd.V_reads' HO_6.out).2.2 | (with_reducible refine Kd.C_alloc ?_ _) | (with_reducible refine Kd.C_drewN ?_ _) | (with_reducible refine Kd.C_drew ?_))); (case side2 => exact (Kd.V_reads' HO_6.out).2.1); rintro e w47 ⟨v282, rfl, ho0, hb⟩; refine ⟨_, rfl, ?_⟩; have n0_ := Aside0.mk (Kd.V_elder' (by (with_reducible repeat (first | apply Kd.V_alloc | apply Kd.V_drewN | apply Kd.V_drew)); exact HO_0.out) (Kd.R_base ho0) hb); have n1_ := Aside0.mk (Kd.V_elder' (by (with_reducible repeat (first | apply Kd.V_alloc | apply Kd.V_drewN | apply Kd.V_drew)); exact HO_6.out) (Kd.R_base ho0) hb); have n2_ := Aside0.mk (Kd.R_lower (Kd.R_newM (M := fun k_ => (w.heap.size ≤ k_)) ho0 (below_size (by repeat (first | (with_reducible first | exact HB.out | apply below_alloc | apply pw_below_drewN | apply below_drew1) | exact HB.out))) (fun k_ h_ => h_)) (below_size (by repeat (first | (with_reducible first | exact HB.out | apply below_alloc | apply pw_below_drewN | apply below_drew1) | exact HB.out)))); have n3_ := Aside0.mk (below_step (by repeat (first | (with_reducible first | exact HB.out | apply below_alloc | apply pw_below_drewN | apply below_drew1) | exact HB.out)) hb); clear HO_0; clear HO_6; clear HB; have HO_0 := n0_; have HO_6 := n1_; have HO283 := n2_; have HB := n3_; clear n0_ n1_ n2_ n3_; (try clear hb); (try clear hb2); (try clear hk); (try clear hi); (try clear ho0)))
              go_ret2
              exact ⟨_, by first | rfl | (simp [errW_none, errW_some] <;> rfl) | (simp [*, errW_none, errW_some] <;> rfl), by (with_reducible repeat (first | apply Kd.R_alloc | apply Kd.R_drewN | apply Kd.R_drew)); exact Kd.R_mono HO283.out (fun _ hk => hk.1), by repeat (first | (with_reducible first | exact HB.out | apply below_alloc | apply pw_below_drewN | apply below_drew1) | exact HB.out)⟩

end Go.Proofs.Ytomeeimjlagbbaa.PT
