/- Consonance is the same both ways, no phase and no drone of a list is better than the best one, and rough units are those below a limit. -/
import Derived.Test.YtomeeimjlagbbaaPuD1
import Derived.Test.YtomeeimjlagbbaaPDx16
import Derived.Test.YtomeeimjlagbbaaPDx1
import Derived.Test.YtomeeimjlagbbaaPDx11
namespace Go.Proofs.Ytomeeimjlagbbaa.Pure
open Go.RowKit Go.Proofs.Ytomeeimjlagbbaa.PD Go.Proofs.YtomeeimjlagbbaaW.PrintWords Go.Proofs.YtomeeimjlagbbaaW.PrintLast
set_option linter.unusedSimpArgs false
set_option linter.unusedVariables false

theorem last_wp {c : List Int} (hc : c.length ≤ maxLen) (hb : Bytes c) : Wp (fun k => (spec_DrawConsonanceOf.f c).bind fun bt391 => ((impl_ConsonanceOf.f bt391.1 bt391.2).bind fun bt393 => ((impl_ConsonanceOf.f bt391.2 bt391.1).bind fun bt395 => (if bt393.2 = bt395.2 then (if bt393.1 = bt395.1 then (if bt393.2 = 0 then (if bt393.1 ≥ 0 then (some (decide (bt393.1 ≤ 100))) else (some false)) else (some true)) else (some false)) else (some false))))) (fun r => r = true) := by
  refine Wp.call (drawCons_wp hc hb) ?_
  rintro ⟨a, b⟩ -
  refine Wp.calls (consonanceOf_f a b) (Wp.calls (consonanceOf_f b a) ?_)
  rw [Bool.and_comm, cs_comm b a]
  have := cs_bd a b
  by_cases h : (decide (-12 ≤ b ∧ b ≤ 23) && decide (-12 ≤ a ∧ a ≤ 23)) = true
  · rw [if_pos h]
    exact Wp.pos rfl (Wp.pos rfl (Wp.pos rfl (Wp.pos this.1 (Wp.now (decide_eq_true this.2)))))
  · rw [if_neg h]
    exact Wp.pos rfl (Wp.pos rfl (Wp.neg (by decide) (Wp.now rfl)))
theorem l0_wp {c : List Int} (hc : c.length ≤ maxLen) (hb : Bytes c) {m : List S40} (hm : vm m = true) {L : List (List S40)} (hL : ∀ x ∈ L, dok x = true) (hl : L.length ≤ 100) {b w : Int} (h1 : S m (rd_L3 L b) 0 = w) (h2 : ∀ j : Int, 0 ≤ j → j < L.length → S m (rd_L3 L j) 0 ≤ w) :
    ∀ (d : Nat) (i : Int), 0 ≤ i → i + d = L.length → Wp (fun k => laws_FnDrones.l0 k c m L b w i) (fun r => r = true)
  | 0, i, h3, h4 => by
    refine Wp.step ?_
    simp only [laws_FnDrones.l0]
    exact Wp.neg (by omega) (last_wp hc hb)
  | d + 1, i, h3, h4 => by
    have hd := hL _ (rd_L3_mem (i := i) h3 (by omega))
    have hd1 : vm (rd_L3 L i) = true := by unfold dok at hd; rw [Bool.and_eq_true] at hd; exact hd.1
    have := vm_len hm
    have := vm_len hd1
    have hw := h2 i h3 (by omega)
    refine Wp.step ?_
    simp only [laws_FnDrones.l0]
    refine Wp.pos (by omega) (Wp.pos h3 (Wp.val (melCon_wp m (rd_L3 L i) (by omega) (by omega)) ?_))
    rw [hm, hd, w64 (n := i + 1) (by omega) (by omega)]
    simp only [Bool.and_true, if_true]
    have ih := l0_wp hc hb hm hL hl h1 h2 d (i + 1) (by omega) (by omega)
    refine Wp.neg (by omega) (Wp.ite (fun e => Wp.pos ?_ ih) (fun _ => ih))
    rw [e]; exact h1
theorem j3_wp {c : List Int} (hc : c.length ≤ maxLen) (hb : Bytes c) : Wp (fun k => laws_FnDrones.j3 k c) (fun r => r = true) := by
  refine Wp.step ?_
  simp only [laws_FnDrones.j3]
  refine Wp.call (drawDrones_wp hc hb) ?_
  rintro ⟨m, L⟩ ⟨a1, a2, a3⟩
  dsimp only at *
  refine Wp.call (bestDrone_wp m L (by omega) (fun x hx => by have := a3 x hx; omega) (by omega)) ?_
  rintro ⟨b, w, e⟩ h
  dsimp only at *
  refine Wp.ite (fun e0 => ?_) (fun _ => last_wp hc hb)
  obtain ⟨h1, h2, h3, h4, h5, h6⟩ := h e0
  refine Wp.neg (by omega) (Wp.step ?_)
  simp only [laws_FnDrones.j4]
  refine Wp.neg (by simp; omega) (l0_wp hc hb h1 h2 (by omega) h5 h6 L.length 0 (by omega) (by omega))
theorem j0_wp {c m : List Int} (hc : c.length ≤ maxLen) (hb : Bytes c) (hm : m.length ≤ maxLen) (hbm : Bytes m) : Wp (fun k => laws_FnDrones.j0 k c m false) (fun r => r = true) := by
  refine Wp.step ?_
  simp only [laws_FnDrones.j0]
  refine Wp.neg (by decide) (Wp.call (drawPhase_wp hc hb) ?_)
  rintro ⟨x, y⟩ ⟨a1, a2⟩
  dsimp only at *
  refine Wp.call (phase_wp x y (by omega) (by omega)) ?_
  rintro ⟨b, w, e⟩ h
  refine Wp.val (melCon_wp x y (by omega) (by omega)) ?_
  by_cases hv : (vm x && dok y) = true
  · rw [if_pos hv] at h
    rw [if_pos hv]
    dsimp only at *
    rw [Bool.and_eq_true] at hv
    obtain ⟨hx, hy⟩ := hv
    have hy1 : vm y = true := by unfold dok at hy; rw [Bool.and_eq_true] at hy; exact hy.1
    obtain ⟨h1, h2, h3, h4⟩ := h
    have hs := S_bd x y 0
    have hu := vm_units hx
    refine Wp.pos h1 (Wp.pos h1 (Wp.val (durationOf_wp y (by omega)) ?_))
    rw [if_pos hy1]
    dsimp only
    refine Wp.pos rfl (Wp.neg (by omega) (Wp.neg (by omega) (Wp.neg (by omega) (Wp.step ?_))))
    simp only [laws_FnDrones.j1]
    refine Wp.neg (by simp; omega) (Wp.call (rough_wp hx hy) ?_)
    rintro ⟨r, e4⟩ hr
    refine Wp.val (durationOf_wp x (by omega)) ?_
    rw [if_pos hx]
    dsimp only at *
    rw [w64 (n := 100 * ((units x).length : Int)) (by omega) (by omega)]
    have hj : Wp (fun k => laws_FnDrones.j2 k m x y (S x y 0) (units x).length (decide (S x y 0 > 100 * ((units x).length : Int)))) (fun r => r = true) := by
      refine Wp.step ?_
      simp only [laws_FnDrones.j2]
      refine Wp.neg (by simp; omega) (Wp.call (mean_wp hx hy) ?_)
      rintro ⟨q, e6⟩ hq
      dsimp only at *
      refine Wp.ite (fun e0 => ?_) (fun _ => j3_wp hm hbm)
      obtain ⟨q1, q2, q3, q4⟩ := hq e0
      have hp : 0 ≤ q * ((units x).length : Int) := Int.mul_nonneg q1 (by omega)
      have hp2 : q * ((units x).length : Int) ≤ 1000000 := by have := Int.mul_le_mul_of_nonneg_right q2 (show (0 : Int) ≤ ((units x).length : Int) by omega); omega
      refine Wp.neg (by omega) (Wp.neg (by omega) ?_)
      rw [w64 (n := 2 * q) (by omega) (by omega), Int.mul_assoc 2 q, w64 (n := 2 * (q * ((units x).length : Int))) (by omega) (by omega), w64 (n := 2 * S x y 0) (by omega) (by omega), w64 (n := 2 * (q * ((units x).length : Int)) - 2 * S x y 0) (by omega) (by omega)]
      generalize q * ((units x).length : Int) = z at *
      refine Wp.calls (a := if 2 * z - 2 * S x y 0 < 0 then -(2 * z - 2 * S x y 0) else 2 * z - 2 * S x y 0) ?_ (Wp.neg (by omega) (j3_wp hm hbm))
      unfold laws_b10Abs.f
      rw [w64 (n := -(2 * z - 2 * S x y 0)) (by omega) (by omega)]
      split <;> rfl
    refine Wp.pos rfl (Wp.ite (fun e0 => Wp.pos (by have := hr e0; omega) hj) (fun _ => hj))
  · rw [if_neg hv] at h
    rw [if_neg hv]
    dsimp only at *
    refine Wp.pos h (Wp.neg (by omega) (j3_wp hm hbm))
theorem FnDrones : laws_FnDrones.Pure := by
  intro code more hc hm
  apply Wp.rounds
  have ht : Wp (fun k => laws_FnDrones.j0 k code more true) (fun r => r = true) := Wp.step (by simp only [laws_FnDrones.j0]; exact Wp.now rfl)
  simp only [laws_FnDrones.f, laws_b10Long.f, Option.bind_some]
  refine Wp.ite (fun _ => ht) (fun _ => ?_)
  by_cases b : (more.length : Int) > 1048576
  · rw [decide_eq_true b]; exact ht
  · rw [decide_eq_false b]; exact j0_wp hc.1 hc.2 hm.1 hm.2
end Go.Proofs.Ytomeeimjlagbbaa.Pure
