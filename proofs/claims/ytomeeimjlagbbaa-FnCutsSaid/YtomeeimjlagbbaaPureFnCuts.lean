/- Two parts that are cut and joined again sound like the melody, and parts have the durations that are asked. -/
import Derived.Test.YtomeeimjlagbbaaPuC1
import Derived.Test.YtomeeimjlagbbaaPCx11
namespace Go.Proofs.Ytomeeimjlagbbaa.Pure
open Go.RowKit Go.Proofs.Ytomeeimjlagbbaa.PC Go.Proofs.YtomeeimjlagbbaaW.PrintWords Go.Proofs.YtomeeimjlagbbaaW.PrintLast
set_option linter.unusedSimpArgs false
set_option linter.unusedVariables false

theorem l0_wp {x y : List S40} (hx : vm x = true) (hy : vm y = true) (he : units x = units y) {n : Int} (hn : n = (units y).length) (hn2 : n ≤ 10000) : ∀ (d : Nat) (t : Int), 0 ≤ t → t + d = n → Wp (fun k => laws_FnCuts.l0 k n x y t) (fun r => r = true)
  | 0, t, t0, t1 => by
    refine Wp.step ?_
    simp only [laws_FnCuts.l0]
    exact Wp.neg (by omega) (Wp.now rfl)
  | d + 1, t, t0, t1 => by
    refine Wp.step ?_
    simp only [laws_FnCuts.l0]
    rw [w64 (n := t + 1) (by omega) (by omega)]
    refine Wp.pos (by omega) (Wp.val (pitchAt_wp hx t0 (by rw [he]; omega)) (Wp.val (pitchAt_wp hy t0 (by omega)) ?_))
    rw [he]
    exact Wp.pos rfl (Wp.pos rfl (Wp.pos rfl (l0_wp hx hy he hn hn2 d (t + 1) (by omega) (by omega))))
theorem FnCuts : laws_FnCuts.Pure := by
  intro code more hc hm
  apply Wp.rounds
  simp only [laws_FnCuts.f]
  refine Wp.calls (a := decide ((code.length : Int) > 1048576) || decide ((more.length : Int) > 1048576)) (by unfold laws_r8Long.f; split <;> simp [*]) (Wp.iteB (fun _ => Wp.now rfl) (fun _ => Wp.call (r8mel_wp hc.1 hc.2) ?_))
  rintro m ⟨m9, hv⟩
  have hu := vm_units hv
  refine Wp.val (durationOf_wp m (by omega)) ?_
  rw [if_pos hv]
  dsimp only
  rw [w64 (n := ((units m).length : Int) + 1) (by omega) (by omega)]
  obtain ⟨a, ea, a0, a1⟩ := r8At_f hm.2 (k := 0) (n := ((units m).length : Int) + 1) (by omega) (by omega)
  have hn : ∀ x ∈ m, vNote x = true := fun x hx => by unfold vm at hv; rw [Bool.and_eq_true] at hv; exact List.all_eq_true.1 hv.2 x hx
  have hn1 : ∀ x ∈ m, 1 ≤ x.f1 := fun x hx => (vn_bd (hn x hx)).2.2.1
  have hcnt := cut_count (t := (units m).length) a0 (by omega) m 0 (by omega) hn1
  have cl : ∀ f u : Int, 0 ≤ f → ∀ y ∈ cutL f u 0 m, vNote y = true := fun f u h => cut_valid h m 0 (by omega) hn
  have vcl : ∀ f u : Int, 0 ≤ f → (cutL f u 0 m).length ≤ 48 → vm (cutL f u 0 m) = true := fun f u h hl => by
    unfold vm; rw [Bool.and_eq_true]; exact ⟨decide_eq_true hl, List.all_eq_true.2 (cl f u h)⟩
  have lle : (cutL 0 a 0 m).length ≤ 10 ∧ (cutL a (units m).length 0 m).length ≤ 10 := by split at hcnt <;> omega
  have vl := vcl 0 a (by omega) (by omega)
  have vr := vcl a (units m).length a0 (by omega)
  have ul : units (cutL 0 a 0 m) = (units m).take a.toNat := by rw [cut_units a0 m 0 (by omega) (fun x hx => by have := hn1 x hx; omega)]; simp
  have ur : units (cutL a (units m).length 0 m) = (units m).drop a.toNat := by rw [cut_units (by omega) m 0 (by omega) (fun x hx => by have := hn1 x hx; omega)]; simp
  refine Wp.calls ea (Wp.val (cut_wp hv (by omega) a0 (by omega)) (Wp.val (cut_wp hv a0 (by omega) (by omega)) (Wp.val (cut_wp hv (by omega) (by omega) (by omega)) ?_)))
  rw [cut_all (u := ((units m).length : Int)) m 0 (by omega) hn1 (by omega)]
  dsimp only
  have hj : Wp (fun k => impl_JoinMelodies.f k (cutL 0 a 0 m) (cutL a (units m).length 0 m)) (fun r => r = (cutL 0 a 0 m ++ cutL a (units m).length 0 m, 0)) := by
    simp only [impl_JoinMelodies.f]
    refine Wp.val (valid_wp _ (by omega)) (Wp.posB vl (Wp.val (valid_wp _ (by omega)) (Wp.step ?_)))
    simp only [impl_JoinMelodies.j0]
    rw [vr]
    refine Wp.neg (by decide) (Wp.val (concat_wp _ (by simp) (fun x hx => ?_)) ?_)
    · simp only [List.mem_cons, List.not_mem_nil, or_false] at hx
      rcases hx with rfl | rfl <;> omega
    · refine Wp.calls (checked_wp _ (fun x hx => ?_)) ?_
      · simp only [List.flatten_cons, List.flatten_nil, List.append_nil, List.mem_append] at hx
        rcases hx with h | h
        · exact cl _ _ (by omega) x h
        · exact cl _ _ a0 x h
      · rw [if_pos (by simp; omega)]
        exact Wp.now (by simp)
  refine Wp.val hj (Wp.val (durationOf_wp _ (by omega)) (Wp.val (durationOf_wp _ (by omega)) ?_))
  rw [if_pos vl, if_pos vr, ul, ur]
  dsimp only
  have e1 : ((((units m).take a.toNat).length : Nat) : Int) = a := by simp; omega
  have e2 : ((((units m).drop a.toNat).length : Nat) : Int) = (units m).length - a := by simp; omega
  rw [e1, e2, w64 (n := ((units m).length : Int) - a) (by omega) (by omega), w64 (n := (m.length : Int) + 1) (by omega) (by omega)]
  refine Wp.pos rfl (Wp.pos rfl (Wp.pos rfl (Wp.val (same_wp m (by omega)) (Wp.posB rfl (Wp.pos rfl (Wp.pos rfl (Wp.pos rfl (Wp.pos rfl (Wp.pos rfl (Wp.step ?_))))))))))
  simp only [laws_FnCuts.j0]
  have vb : vm (cutL 0 a 0 m ++ cutL a (units m).length 0 m) = true := by
    unfold vm; rw [Bool.and_eq_true]
    refine ⟨decide_eq_true (by simp; omega), List.all_eq_true.2 (fun x hx => ?_)⟩
    rcases List.mem_append.1 hx with h | h
    · exact cl _ _ (by omega) x h
    · exact cl _ _ a0 x h
  have ub : units (cutL 0 a 0 m ++ cutL a (units m).length 0 m) = units m := by rw [units_append, ul, ur, List.take_append_drop]
  refine Wp.neg (by simp; split at hcnt <;> omega) (Wp.call (tie_wp vb) ?_)
  rintro ⟨z1, q1⟩ ⟨rfl, u1, v1⟩
  refine Wp.call (tie_wp hv) ?_
  rintro ⟨z2, q2⟩ ⟨rfl, u2, v2⟩
  dsimp only at *
  refine Wp.pos rfl (Wp.step ?_)
  simp only [laws_FnCuts.j1]
  exact Wp.neg (by decide) (l0_wp v1 v2 (by rw [u1, u2, ub]) (by rw [u2]) (by omega) (units m).length 0 (by omega) (by omega))
end Go.Proofs.Ytomeeimjlagbbaa.Pure
