/- Two rotations that make up all tones change nothing, a rotation is found, and the steps of a scale are an octave. -/
import Derived.Test.YtcfcohfniibpdaaPuR1
import Derived.Test.YtcfcohfniibpdaaPRx14
import Derived.Test.YtcfcohfniibpdaaPRx1
import Derived.Test.YtcfcohfniibpdaaPRx3
import Derived.Test.YtcfcohfniibpdaaPRx11
import Derived.Test.YtcfcohfniibpdaaPRx14
namespace Go.Proofs.Ytcfcohfniibpdaa.Pure
open Go.RowKit Go.Proofs.Ytcfcohfniibpdaa.PR Go.Proofs.YtcfcohfniibpdaaW.PrintWords Go.Proofs.YtcfcohfniibpdaaW.PrintLast
set_option linter.unusedSimpArgs false
set_option linter.unusedVariables false
theorem l1_wp {s r c x20 : List Int} {x21 x22 : Int} (hs : scaleP s) (hr : scaleP r) (hc : ∀ x ∈ c, x ∈ s ∧ x ∈ r) (hl : c.length ≤ 1000) (hp : 1 ≤ c.length) (e1 : x20 = r) (e2 : x21 = 0) (e3 : x22 = 12) : Wp (fun k => laws_FnRotations.l1 k s r c x20 x21 x22 0) (fun r => r = true) := by
  subst e1 e2 e3
  have h2 := hs.2.1
  have h3 := hr.2.1
  have key : ∀ (d : Nat) (t : Int), 0 ≤ t → t + d = c.length → Wp (fun k => laws_FnRotations.l1 k s x20 c x20 0 12 t) (fun r => r = true) := by
    intro d
    induction d with
    | zero =>
      intro t t0 t1
      refine Wp.step ?_
      simp only [laws_FnRotations.l1]
      exact Wp.neg (by omega) (Wp.pos (by trivial) (Wp.pos (by trivial) (Wp.val (same_wp (by omega)) (Wp.posB rfl (Wp.now (decide_eq_true (by omega)))))))
    | succ d ih =>
      intro t t0 t1
      refine Wp.step ?_
      simp only [laws_FnRotations.l1]
      have hm := hc _ (rd_mem t0 (by omega))
      rw [w64 (n := t + 1) (by omega) (by omega)]
      exact Wp.pos (by omega) (Wp.pos t0 (Wp.val (r8Has_wp (by omega) _) (Wp.posB (decide_eq_true hm.1) (Wp.val (r8Has_wp (by omega) _) (Wp.posB (decide_eq_true hm.2) (ih (t + 1) (by omega) (by omega)))))))
  exact key c.length 0 (by omega) (by omega)
theorem FnRotations : laws_FnRotations.Pure := by
  intro code more hc hm
  apply Wp.rounds
  obtain ⟨z, ez⟩ : ∃ z, laws_r8Long.f code more = some z := by unfold laws_r8Long.f; split <;> exact ⟨_, rfl⟩
  simp only [laws_FnRotations.f]
  refine Wp.calls ez (Wp.iteB (fun _ => Wp.now rfl) (fun _ => Wp.call (r8scale_wp hc.1 hc.2) ?_))
  intro s hs
  have h1 := hs.1
  have h2 := hs.2.1
  obtain ⟨i, ei, i0, i1⟩ := r8At_f hm.2 (k := 0) (n := (s.length : Int)) (by omega) (by omega)
  refine Wp.calls ei ?_
  have hr := rot_scale hs i
  have hrl := rot_len s i
  have m0 : 0 ≤ Int.tmod ((s.length : Int) - i) s.length := Int.tmod_nonneg _ (by omega)
  have m1 : Int.tmod ((s.length : Int) - i) s.length < s.length := Int.tmod_lt_of_pos _ (by omega)
  refine Wp.val (rotateScale_wp hs i0 i1) ?_
  dsimp only
  rw [w64 (n := (s.length : Int) - i) (by omega) (by omega)]
  refine Wp.neg (by omega) (Wp.val (rotateScale_wp hr m0 (by omega)) (Wp.call (rotationTo_wp hs i0 i1) ?_))
  rintro ⟨j, je⟩ ⟨rfl, j0, j1, hj⟩
  refine Wp.call (intervals_wp hs) ?_
  rintro ⟨iv, ie⟩ ⟨rfl, ivl, hiv⟩
  refine Wp.call (intervals_wp hr) ?_
  rintro ⟨iw, we⟩ ⟨rfl, iwl, hiw⟩
  refine Wp.val (common_wp hs hr) ?_
  dsimp only at hj hiv hiw ivl iwl j0 j1 ⊢
  rw [rot_back hs i0 i1]
  refine Wp.pos (by trivial) (Wp.pos (by trivial) (Wp.val (same_wp (by omega)) (Wp.posB rfl (Wp.val (a := true) ?_ (Wp.posB rfl (Wp.pos (by trivial) (Wp.neg (by omega) (Wp.neg (by omega) (Wp.pos (by trivial) (Wp.pos (by trivial) (Wp.pos (by omega) (Wp.pos (by omega) (Wp.step ?_)))))))))))))
  · simp only [spec_ValidScale.f]
    exact Wp.val (l03Scale_wp hr) (Wp.now rfl)
  simp only [laws_FnRotations.j0]
  refine Wp.negB rfl (Wp.val (specRotate_wp hs j0 (by omega)) ?_)
  dsimp only
  rw [hj]
  have n0 : 0 < (s.length : Int) := by omega
  have key : ∀ (d : Nat) (t : Int), 0 ≤ t → t + d = s.length → Wp (fun k => laws_FnRotations.l0 k s s.length i (rot s i) iv iw (s.filter (fun x => (rot s i).contains x)) (rot s i) 0 (ff s t) t) (fun r => r = true) := by
    intro d
    induction d with
    | zero =>
      intro t t0 t1
      refine Wp.step ?_
      simp only [laws_FnRotations.l0]
      refine Wp.neg (by omega) (l1_wp hs hr (fun x hx => ?_) ?_ ?_ rfl rfl ?_)
      · obtain ⟨a, b⟩ := List.mem_filter.1 hx
        exact ⟨a, by simpa using b⟩
      · exact Nat.le_trans (List.length_filter_le _ _) (by omega)
      · apply List.length_pos_of_mem (a := 0)
        refine List.mem_filter.2 ⟨?_, ?_⟩
        · have := rd_mem (c := s) (i := 0) (by omega) (by omega); rw [rd0 hs] at this; exact this
        · have := rd_mem (c := rot s i) (i := 0) (by omega) (by omega); rw [rd0 hr] at this; simpa using this
      · have := ff_add (s := s) n0 0 1
        rw [Int.mul_one, ff_lo (s := s) (t := 0) (by omega) (by omega), rd0 hs] at this
        rw [show t = 0 + (s.length : Int) by omega, this]
        rfl
    | succ d ih =>
      intro t t0 t1
      refine Wp.step ?_
      simp only [laws_FnRotations.l0]
      have u0 : 0 ≤ Int.tmod (t + i) s.length := Int.tmod_nonneg _ (by omega)
      have u1 : Int.tmod (t + i) s.length < s.length := Int.tmod_lt_of_pos _ (by omega)
      have e1 := hiv t t0 (by omega)
      have e2 := hiw t t0 (by omega)
      have e3 := hiv _ u0 u1
      rw [ff_rot hs, ff_rot hs] at e2
      have l := ff_lt hs (a := t) (b := t + 1) (by omega)
      have e4 : rd iw t = rd iv (Int.tmod (t + i) s.length) := by
        rw [e2, e3, Int.tmod_eq_emod_of_nonneg (by omega)]
        have a := ff_add (s := s) n0 ((t + i) % s.length) ((t + i) / s.length)
        have b := ff_add (s := s) n0 ((t + i) % s.length + 1) ((t + i) / s.length)
        have c := Int.emod_add_mul_ediv (t + i) s.length
        rw [c] at a
        rw [show (t + i) % (s.length : Int) + 1 + s.length * ((t + i) / s.length) = t + i + 1 by omega] at b
        rw [show i + (t + 1) = t + i + 1 by omega, show i + t = t + i by omega]
        omega
      have lo : 0 ≤ ff s t ∧ ff s t ≤ 11 := by rw [ff_lo t0 (by omega)]; exact scale_at hs t0 (by omega)
      have hi : ff s (t + 1) ≤ 12 := by
        have a := ff_add (s := s) n0 0 1
        rw [Int.mul_one, ff_lo (s := s) (t := 0) (by omega) (by omega), rd0 hs] at a
        by_cases z : t + 1 = s.length
        · rw [show t + 1 = 0 + (s.length : Int) by omega, a]; omega
        · have := ff_lt hs (a := t + 1) (b := 0 + s.length) (by omega); omega
      rw [w64 (n := t + i) (by omega) (by omega), w64 (n := t + 1) (by omega) (by omega), w64 (n := ff s t + rd iv t) (by omega) (by omega), show ff s t + rd iv t = ff s (t + 1) by omega]
      exact Wp.pos (by omega) (Wp.pos t0 (Wp.pos (by omega) (Wp.neg (by omega) (Wp.pos (by omega) (Wp.neg (by omega) (Wp.pos u0 (Wp.pos (by omega) (Wp.pos e4 (ih (t + 1) (by omega) (by omega))))))))))
  have f0 := ff_lo (s := s) (t := 0) (by omega) (by omega)
  rw [rd0 hs] at f0
  have := key s.length 0 (by omega) (by omega)
  rw [f0] at this
  exact this
end Go.Proofs.Ytcfcohfniibpdaa.Pure
