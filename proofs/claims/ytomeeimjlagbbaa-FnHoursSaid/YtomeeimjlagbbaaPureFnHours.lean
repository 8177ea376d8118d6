/- The next start fits, and no earlier minute does; items that fit are those that are told. -/
import Derived.Test.YtomeeimjlagbbaaPuJ1
import Derived.Test.YtomeeimjlagbbaaPHx1
import Derived.Test.YtomeeimjlagbbaaPHx18
namespace Go.Proofs.Ytomeeimjlagbbaa.Pure
open Go.RowKit Go.Proofs.Ytomeeimjlagbbaa.PH Go.Proofs.YtomeeimjlagbbaaW.PrintWords Go.Proofs.YtomeeimjlagbbaaW.PrintLast
set_option linter.unusedSimpArgs false
set_option linter.unusedVariables false

theorem l0_wp {l : List S43} (hl : l.length ≤ 100) (hs : Small l) {t se : Int} (hit : ∀ x ∈ l, itX x) (ht : 0 ≤ t ∧ t ≤ 1439) (hse : 0 ≤ se ∧ se ≤ 5) : ∀ (d : Nat) (i : Int), 0 ≤ i → i + d = l.length → Wp (fun k => laws_FnHours.l0 k l t se (filR (fitX l t se) l.length 0) i) (fun r => r = true)
  | 0, i, i0, i1 => by
    have hlen := filR_length (fitX l t se) l.length 0
    refine Wp.step ?_
    simp only [laws_FnHours.l0]
    refine Wp.neg (by omega) (Wp.val (a := true) ⟨true, rfl, _, rises_ev _ (l.length : Int) (fun j hj => ?_) (filR_pw _ _ _) (by omega)⟩ (Wp.now rfl))
    have := filR_mem.1 hj
    omega
  | d + 1, i, i0, i1 => by
    have hlen := filR_length (fitX l t se) l.length 0
    have hx := rd_T43_mem (c := l) (i := i) i0 (by omega)
    refine Wp.step ?_
    simp only [laws_FnHours.l0]
    rw [w64 (n := i + 1) (by omega) (by omega)]
    refine Wp.pos (by omega) (Wp.val (a := decide (i ∈ filR (fitX l t se) l.length 0)) ⟨_, rfl, _, has_ev _ i (by omega)⟩ (Wp.pos i0 (Wp.val (sfitsTime_wp _ (hs _ hx) _ _ _ _ _ t se) ?_)))
    have e : decide (i ∈ filR (fitX l t se) l.length 0) = decide (okT (rd_T43 l i).f0 (rd_T43 l i).f1 (rd_T43 l i).f2 (rd_T43 l i).f3 (rd_T43 l i).f4 (rd_T43 l i).f5 t se) := by
      apply decide_eq_decide.2
      rw [filR_mem]
      unfold fitX
      rw [decide_eq_true_eq]
      exact ⟨fun h => ⟨hit _ hx, ht, hse, h.2.2⟩, fun h => ⟨i0, by omega, h.2.2.2⟩⟩
    rw [e]
    exact Wp.neg (by simp) (l0_wp hl hs hit ht hse d (i + 1) (by omega) (by omega))
theorem j2_wp {c : List Int} (hc : c.length ≤ maxLen) (hb : Bytes c) : Wp (fun k => laws_FnHours.j2 k c) (fun r => r = true) := by
  refine Wp.step ?_
  simp only [laws_FnHours.j2]
  refine Wp.call (drawFit_wp hc hb) ?_
  rintro ⟨l, t, se⟩ ⟨h1, h2⟩
  dsimp only at *
  refine Wp.call (fitting_wp (by omega) h2 t se) ?_
  rintro ⟨f, e⟩ h
  dsimp only at *
  rcases h with ⟨h3, rfl⟩ | ⟨rfl, h4, h5, h6, rfl⟩
  · exact Wp.neg h3 (Wp.now rfl)
  · exact Wp.pos rfl (l0_wp (by omega) h2 h4 h5 h6 l.length 0 (by omega) (by omega))
theorem between {a b s t se u : Int} (ha : 0 ≤ a ∧ a ≤ 1439) (hb : 0 ≤ b ∧ b ≤ 1439) (ht : 0 ≤ t ∧ t ≤ 1439) (hne : a ≠ b) (hs : s = -1 ∨ s = se) (hn : ¬ fitP a b s t se) (hat : a ≠ t) (u0 : 0 ≤ u) (hu : u < (a - t + 1440) % 1440) : ¬ fitP a b s ((t + u) % 1440) se := by
  have h1 : ¬ (a < b ∧ a ≤ t ∧ t < b ∨ ¬ a < b ∧ (a ≤ t ∨ t < b)) := fun h => hn ⟨hs, h⟩
  rintro ⟨_, h2⟩
  omega
theorem j0_wp {c m : List Int} (hc : c.length ≤ maxLen) (hb : Bytes c) (hm : m.length ≤ maxLen) (hbm : Bytes m) : Wp (fun k => laws_FnHours.j0 k c m false) (fun r => r = true) := by
  have h2 := j2_wp hm hbm
  refine Wp.step ?_
  simp only [laws_FnHours.j0]
  refine Wp.neg (by decide) (Wp.call (drawNext_wp hc hb) ?_)
  rintro ⟨n, a, b, s, q, w, t, se⟩ hn
  dsimp only at *
  refine Wp.call (next_wp n hn a b s q w t se) ?_
  rintro ⟨x, e⟩ h
  dsimp only at *
  refine Wp.ite (fun e0 => ?_) (fun _ => h2)
  obtain ⟨h3, h4, h5, h6, h7⟩ := h e0
  have hx : 0 ≤ x ∧ x ≤ 1439 := by rcases h7 with ⟨_, rfl⟩ | ⟨_, rfl⟩; exact h4; exact h3.2.1
  have hf : fitP a b s x se := by
    rcases h7 with ⟨h8, rfl⟩ | ⟨h8, rfl⟩
    · exact h8
    · exact ⟨h6, by have := h3.2.2.2.1; omega⟩
  have hok : okT n a b s q w x se := ⟨h3, hx, h5, hf⟩
  refine Wp.val (fitsTime_wp n hn a b s q w x se) ?_
  rw [decide_eq_true hok]
  refine Wp.posB rfl (Wp.val (sfitsTime_wp n hn a b s q w x se) ?_)
  rw [decide_eq_true hok]
  refine Wp.step ?_
  simp only [laws_FnHours.j1]
  refine Wp.neg (by decide) (Wp.ite (fun _ => h2) (fun hne => ?_))
  obtain ⟨u, eu, u0, u1⟩ := b10At_f hbm (k := 0) (n := 1440) (by omega) (by omega) (by omega)
  refine Wp.calls eu ?_
  rw [w64 (n := x - t) (by omega) (by omega), w64 (n := x - t + 1440) (by omega) (by omega), w64 (n := t + u) (by omega) (by omega), Int.tmod_eq_emod_of_nonneg (show 0 ≤ x - t + 1440 by omega), Int.tmod_eq_emod_of_nonneg (show 0 ≤ t + u by omega)]
  refine Wp.ite (fun hlt => Wp.val (sfitsTime_wp n hn a b s q w _ se) ?_) (fun _ => h2)
  have hno : ¬ okT n a b s q w ((t + u) % 1440) se := by
    rcases h7 with ⟨_, h9⟩ | ⟨h8, rfl⟩
    · exact absurd h9 hne
    · exact fun z => between h3.2.1 h3.2.2.1 h4 h3.2.2.2.1 h6 h8 hne u0 hlt z.2.2.2
  rw [decide_eq_false hno]
  exact Wp.neg (by decide) h2
theorem FnHours : laws_FnHours.Pure := by
  intro code more hc hm
  apply Wp.rounds
  have ht : Wp (fun k => laws_FnHours.j0 k code more true) (fun r => r = true) := Wp.step (by simp only [laws_FnHours.j0]; exact Wp.now rfl)
  simp only [laws_FnHours.f, laws_b10Long.f, Option.bind_some]
  refine Wp.ite (fun _ => ht) (fun _ => ?_)
  by_cases b : (more.length : Int) > 1048576
  · rw [decide_eq_true b]; exact ht
  · rw [decide_eq_false b]; exact j0_wp hc.1 hc.2 hm.1 hm.2
end Go.Proofs.Ytomeeimjlagbbaa.Pure
