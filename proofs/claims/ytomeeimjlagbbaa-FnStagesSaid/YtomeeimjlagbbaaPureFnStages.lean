/- Ranges become wider up to the whole, lengths that become shorter fill their totals, and shuffled notes are the same notes. -/
import Derived.Test.YtomeeimjlagbbaaPuS1
import Derived.Test.YtomeeimjlagbbaaPSx11
import Derived.Test.YtomeeimjlagbbaaPSx10
namespace Go.Proofs.Ytomeeimjlagbbaa.Pure
open Go.RowKit Go.Proofs.Ytomeeimjlagbbaa.PS Go.Proofs.YtomeeimjlagbbaaW.PrintWords Go.Proofs.YtomeeimjlagbbaaW.PrintLast
set_option linter.unusedSimpArgs false
set_option linter.unusedVariables false

def ceq (x y : S40) : Bool := x.f0 == y.f0 && (x.f1 == y.f1)
theorem l3_wp {x y : List S40} (hl : y.length = x.length) (hx : x.length ≤ 1000) {i : Int} (i0 : 0 ≤ i) (i1 : i < x.length) (hc : x.countP (fun z => ceq z (rd_T40 x i)) = y.countP (fun z => ceq z (rd_T40 x i)))
    (H : Wp (fun k => laws_FnStages.l2 k x y (wrap64 (i + 1))) (fun r => r = true)) : ∀ (d : Nat) (a b j : Int), 0 ≤ j → j + d = x.length → 0 ≤ a → a ≤ j → 0 ≤ b → b ≤ j → a + (x.drop j.toNat).countP (fun z => ceq z (rd_T40 x i)) = x.countP (fun z => ceq z (rd_T40 x i)) → b + (y.drop j.toNat).countP (fun z => ceq z (rd_T40 x i)) = y.countP (fun z => ceq z (rd_T40 x i)) →
    Wp (fun k => laws_FnStages.l3 k x y i a b j) (fun r => r = true)
  | 0, a, b, j, j0, j1, a0, a1, b0, b1, ha, hb => by
    refine Wp.step ?_
    simp only [laws_FnStages.l3]
    rw [List.drop_eq_nil_of_le (by omega)] at ha
    rw [List.drop_eq_nil_of_le (by omega)] at hb
    simp only [List.countP_nil] at ha hb
    exact Wp.neg (by omega) (Wp.pos (by omega) H)
  | d + 1, a, b, j, j0, j1, a0, a1, b0, b1, ha, hb => by
    refine Wp.step ?_
    simp only [laws_FnStages.l3]
    rw [rd_T40_drop j0 (by omega), List.countP_cons] at ha
    rw [rd_T40_drop j0 (by omega), List.countP_cons] at hb
    rw [w64 (n := j + 1) (by omega) (by omega), w64 (n := a + 1) (by omega) (by omega), w64 (n := b + 1) (by omega) (by omega)]
    refine Wp.pos (by omega) (Wp.pos j0 (Wp.pos i0 (Wp.pos i1 (Wp.iteB (fun e => Wp.pos (by omega) (Wp.iteB (fun e' => ?_) (fun e' => ?_))) (fun e => Wp.pos (by omega) (Wp.iteB (fun e' => ?_) (fun e' => ?_)))))))
    all_goals
      rw [show ceq (rd_T40 x j) (rd_T40 x i) = _ from e] at ha
      rw [show ceq (rd_T40 y j) (rd_T40 x i) = _ from e'] at hb
      simp at ha hb
      exact l3_wp hl hx i0 i1 hc H d _ _ _ (by omega) (by omega) (by omega) (by omega) (by omega) (by omega) (by omega) (by omega)
theorem l2_wp {x y : List S40} (hp : y.Perm x) (hx : x.length ≤ 1000) : ∀ (d : Nat) (i : Int), 0 ≤ i → i + d = x.length → Wp (fun k => laws_FnStages.l2 k x y i) (fun r => r = true)
  | 0, i, i0, i1 => by
    refine Wp.step ?_
    simp only [laws_FnStages.l2]
    exact Wp.neg (by omega) (Wp.now rfl)
  | d + 1, i, i0, i1 => by
    refine Wp.step ?_
    simp only [laws_FnStages.l2]
    refine Wp.pos (by omega) (l3_wp hp.length_eq hx i0 (by omega) (hp.countP_eq _).symm ?_ x.length 0 0 0 (by omega) (by omega) (by omega) (by omega) (by omega) (by omega) (by simp) (by simp))
    rw [w64 (n := i + 1) (by omega) (by omega)]
    exact l2_wp hp hx d (i + 1) (by omega) (by omega)
theorem j4_wp {c m : List Int} (hc : c.length ≤ maxLen) (hb : Bytes c) (hbm : Bytes m) : Wp (fun k => laws_FnStages.j4 k c m false) (fun r => r = true) := by
  refine Wp.step ?_
  simp only [laws_FnStages.j4]
  refine Wp.neg (by decide) (Wp.call (r8mel_wp hc hb) ?_)
  rintro x ⟨x9, hv⟩
  obtain ⟨s, es, s0, s1⟩ := r8Wide_f hbm (k := 6) (n := 60000) (by omega) (by omega) (by omega)
  obtain ⟨t, et, t0, t1⟩ := r8At_f hbm (k := 8) (n := 30) (by omega) (by omega)
  obtain ⟨q, y, eq, q0, q1, y0, y1, en⟩ := pick_f (s := s) (n := 1 + t) (by omega) (by omega) (by omega) (by omega)
  refine Wp.calls es (Wp.call (shuffle_wp hv (by omega) (by omega)) ?_)
  rintro ⟨z, e0⟩ ⟨h0, hp⟩
  dsimp only at *
  refine Wp.calls (a := (y, 0)) ?_ (Wp.calls et (Wp.calls (a := (q, y, 0)) ?_ ?_))
  · simp only [impl_NextSeed.f, impl_seedOk.f, within_f, Option.bind_some]
    rw [decide_eq_true (show 0 ≤ s ∧ s ≤ 999999 by omega), if_pos rfl, en]; rfl
  · simp only [impl_PickFrom.f, impl_seedOk.f, within_f, Option.bind_some]
    rw [w64 (n := 1 + t) (by omega) (by omega), decide_eq_true (show 0 ≤ s ∧ s ≤ 999999 by omega), if_pos rfl, decide_eq_true (show 1 ≤ 1 + t ∧ 1 + t ≤ 1000000 by omega), if_pos rfl, eq]; rfl
  · have hj : Wp (fun k => laws_FnStages.j5 k x z (decide (y ≥ 1000000))) (fun r => r = true) := by
      refine Wp.step ?_
      simp only [laws_FnStages.j5]
      exact Wp.neg (by simp; omega) (l2_wp hp (by omega) x.length 0 (by omega) (by omega))
    have hl := hp.length_eq
    dsimp only
    refine Wp.pos h0 (Wp.pos (by omega) (Wp.pos rfl (Wp.pos rfl (Wp.pos rfl (Wp.neg (by omega) (Wp.calls et (Wp.neg (by omega) (Wp.neg (by omega) hj))))))))
theorem l1_wp {c m : List Int} {t p : Int} {l : List Int} (ht : 1 ≤ t) (ht2 : t ≤ 12) (hp : 1 ≤ p) (hp2 : p ≤ 4) (hs : l.sum = t * p) (hl : ∀ x ∈ l, 1 ≤ x ∧ x ≤ p) (hll : l.length ≤ 1000) (H : Wp (fun k => laws_FnStages.j4 k c m false) (fun r => r = true)) : ∀ (d : Nat) (a j : Int), 0 ≤ j → j + d = l.length → 0 ≤ a → a ≤ 100 * j → a + (l.drop j.toNat).sum = l.sum →
    Wp (fun k => laws_FnStages.l1 k c m t p l 0 a j) (fun r => r = true)
  | 0, a, j, j0, j1, a0, a1, ha => by
    refine Wp.step ?_
    simp only [laws_FnStages.l1]
    have tp : t * p ≤ 12 * p := Int.mul_le_mul_of_nonneg_right ht2 (by omega)
    have tp0 : 0 ≤ t * p := Int.mul_nonneg (by omega) (by omega)
    rw [List.drop_eq_nil_of_le (by omega)] at ha
    rw [w64 (n := t * p) (by omega) (by omega), show (a != t * p) = false by simp; simp at ha; omega]
    exact Wp.neg (by omega) (Wp.pos (by trivial) H)
  | d + 1, a, j, j0, j1, a0, a1, ha => by
    have hx := hl _ (rd_mem j0 (show j < l.length by omega))
    refine Wp.step ?_
    simp only [laws_FnStages.l1]
    rw [drop_cons j0 (by omega), List.sum_cons] at ha
    rw [w64 (n := j + 1) (by omega) (by omega), w64 (n := a + rd l j) (by omega) (by omega)]
    exact Wp.pos (by omega) (Wp.pos j0 (Wp.neg (by omega) (Wp.neg (by omega) (l1_wp ht ht2 hp hp2 hs hl hll H d _ _ (by omega) (by omega) (by omega) (by omega) (by omega)))))
theorem j2_wp {c m : List Int} (hc : c.length ≤ maxLen) (hb : Bytes c) (hbm : Bytes m) : Wp (fun k => laws_FnStages.j2 k c m false) (fun r => r = true) := by
  refine Wp.step ?_
  simp only [laws_FnStages.j2]
  obtain ⟨s, es, s0, s1⟩ := r8At_f hbm (k := 4) (n := 12) (by omega) (by omega)
  obtain ⟨t, et, t0, t1⟩ := r8At_f hbm (k := 5) (n := 4) (by omega) (by omega)
  refine Wp.neg (by decide) (Wp.calls es (Wp.calls et ?_))
  rw [w64 (n := 1 + s) (by omega) (by omega), w64 (n := 1 + t) (by omega) (by omega)]
  refine Wp.call (dense_wp (t := 1 + s) (p := 1 + t) (by omega) (by omega) (by omega) (by omega)) ?_
  rintro ⟨l, e⟩ ⟨rfl, h1, h2, h3⟩
  dsimp only at *
  exact l1_wp (by omega) (by omega) (by omega) (by omega) h1 h2 h3 (j4_wp hc hb hbm) l.length 0 0 (by omega) (by omega) (by omega) (by omega) (by simp)
theorem l0_wp {c m : List Int} {lo hi ce s : Int} {x : List (List Int)} (h1 : lo ≤ ce) (h2 : ce ≤ hi) (h3 : -12 ≤ lo) (h4 : hi ≤ 23) (hs : 1 ≤ s) (hs2 : s ≤ 8) (hl : (x.length : Int) = s) (hx : ∀ j : Int, 0 ≤ j → j < s → rd_L2 x j = [rgA lo ce s j, rgB hi ce s j]) (H : Wp (fun k => laws_FnStages.j2 k c m false) (fun r => r = true)) : ∀ (d : Nat) (j : Int), 0 ≤ j → j + d = x.length →
    Wp (fun k => laws_FnStages.l0 k c m lo hi ce s x j) (fun r => r = true)
  | 0, j, j0, j1 => by
    refine Wp.step ?_
    simp only [laws_FnStages.l0]
    rw [w64 (n := s - 1) (by omega) (by omega), hx (s - 1) (by omega) (by omega)]
    have e1 : rgA lo ce s (s - 1) = lo := by unfold rgA; rw [show s - 1 + 1 = s by omega, Int.mul_ediv_cancel _ (by omega)]; omega
    have e2 : rgB hi ce s (s - 1) = hi := by unfold rgB; rw [show s - 1 + 1 = s by omega, Int.mul_ediv_cancel _ (by omega)]; omega
    rw [e1, e2]
    refine Wp.neg (by omega) (Wp.pos (by omega) (Wp.pos (by omega) (Wp.pos (by simp) (Wp.pos (by simp [rd]) (Wp.pos (by simp) ?_)))))
    rw [show (rd [lo, hi] 1 != hi) = false by simp [rd]]
    exact H
  | d + 1, j, j0, j1 => by
    have ih := l0_wp h1 h2 h3 h4 hs hs2 hl hx H d (j + 1) (by omega) (by omega)
    have b1 := step_bd (a := ce - lo) (s := s) (j := j) (by omega) (by omega) hs hs2 (by omega) (by omega)
    have b2 := step_bd (a := hi - ce) (s := s) (j := j) (by omega) (by omega) hs hs2 (by omega) (by omega)
    refine Wp.step ?_
    simp only [laws_FnStages.l0]
    rw [w64 (n := j + 1) (by omega) (by omega), hx j j0 (by omega)]
    have r0 : rd [rgA lo ce s j, rgB hi ce s j] 0 = rgA lo ce s j := rfl
    have r1 : rd [rgA lo ce s j, rgB hi ce s j] 1 = rgB hi ce s j := rfl
    rw [r0, r1]
    have c1 : rgA lo ce s j = ce - (ce - lo) * (j + 1) / s := rfl
    have c2 : rgB hi ce s j = ce + (hi - ce) * (j + 1) / s := rfl
    refine Wp.pos (by omega) (Wp.pos j0 (Wp.pos (by simp) (Wp.pos (by simp) (Wp.neg (by omega) (Wp.pos (by simp) (Wp.neg (by omega) (Wp.neg (by omega) (Wp.neg (by omega) (Wp.ite (fun hj => ?_) (fun _ => ih))))))))))
    rw [w64 (n := j - 1) (by omega) (by omega), hx (j - 1) (by omega) (by omega)]
    have d1 : rgA lo ce s (j - 1) = ce - (ce - lo) * j / s := by unfold rgA; rw [show j - 1 + 1 = j by omega]
    have d2 : rgB hi ce s (j - 1) = ce + (hi - ce) * j / s := by unfold rgB; rw [show j - 1 + 1 = j by omega]
    have m1 := step_mono (a := ce - lo) (s := s) (j := j) (by omega) hs
    have m2 := step_mono (a := hi - ce) (s := s) (j := j) (by omega) hs
    have q0 : rd [rgA lo ce s (j - 1), rgB hi ce s (j - 1)] 0 = rgA lo ce s (j - 1) := rfl
    have q1 : rd [rgA lo ce s (j - 1), rgB hi ce s (j - 1)] 1 = rgB hi ce s (j - 1) := rfl
    rw [q0, q1]
    exact Wp.pos (by omega) (Wp.pos (by omega) (Wp.pos (by simp) (Wp.neg (by omega) (Wp.pos (by simp) (Wp.neg (by omega) ih)))))
theorem FnStages : laws_FnStages.Pure := by
  intro code more hc hm
  apply Wp.rounds
  simp only [laws_FnStages.f]
  refine Wp.calls (a := decide ((code.length : Int) > 1048576) || decide ((more.length : Int) > 1048576)) (by unfold laws_r8Long.f; split <;> simp [*]) (Wp.iteB (fun _ => Wp.now rfl) (fun _ => ?_))
  obtain ⟨a, ea, a0, a1⟩ := r8At_f hm.2 (k := 0) (n := 10) (by omega) (by omega)
  obtain ⟨b, eb, b0, b1⟩ := r8At_f hm.2 (k := 1) (n := 20) (by omega) (by omega)
  obtain ⟨c, ec, c0, c1⟩ := r8At_f hm.2 (k := 2) (n := (a - 10 + b) - (a - 10) + 1) (by omega) (by omega)
  obtain ⟨s, es, s0, s1⟩ := r8At_f hm.2 (k := 3) (n := 8) (by omega) (by omega)
  refine Wp.calls ea (Wp.calls eb ?_)
  simp (disch := omega) only [w64]
  refine Wp.calls ec (Wp.calls es ?_)
  simp (disch := omega) only [w64]
  refine Wp.call (ranges_wp (lo := a - 10) (hi := a - 10 + b) (c := a - 10 + c) (s := 1 + s) (by omega) (by omega) (by omega) (by omega) (by omega) (by omega)) ?_
  rintro ⟨x, e⟩ ⟨h1, h2, h3⟩
  dsimp only at *
  refine Wp.pos h1 (Wp.step ?_)
  simp only [laws_FnStages.j0]
  rw [show ((x.length : Int) != 1 + s) = false by simp; omega]
  exact Wp.neg (by decide) (l0_wp (by omega) (by omega) (by omega) (by omega) (by omega) (by omega) h2 h3 (j2_wp hc.1 hc.2 hm.2) x.length 0 (by omega) (by omega))
end Go.Proofs.Ytomeeimjlagbbaa.Pure
