/- Grammars that are drawn. -/
import Derived.Test.YtojmfjhbfcnecaaP2
namespace Go.Proofs.Ytojmfjhbfcnecaa.F
open Go Go.Proofs.Ytojmfjhbfcnecaa.Eng
set_option linter.unusedSimpArgs false
set_option linter.unusedVariables false
set_option maxRecDepth 100000
theorem tone_eq (x : Int) : (x.tmod 12 + 12).tmod 12 = x % 12 := by
  have h1 := Int.lt_tmod_of_pos x (b := 12) (by decide)
  rw [Int.tmod_eq_emod_of_nonneg (by omega), Int.tmod_def]
  generalize x.tdiv 12 = q
  omega
theorem tone_wp {x : Int} : Wp (fun k => spec_l03Tone k x) (fun r => r = x % 12) := by
  refine Wp.step ?_
  simp only [spec_l03Tone_eq, vLt, vLe, vEq, vNot, inR, decide_eq_true_eq, Bool.not_eq_true', decide_eq_false_iff_not, Bool.not_eq_eq_eq_not, Bool.not_true]
  refine Wp.neg (by decide) (Wp.neg (by decide) (Wp.now ?_))
  have h1 := Int.lt_tmod_of_pos x (b := 12) (by decide)
  have h2 := Int.tmod_lt_of_pos x (b := 12) (by decide)
  simp only [vRem]
  rw [add64 (by omega) (by omega)]
  exact tone_eq x
theorem has2_wp {l : List Int} {x : Int} (hl : l.length ≤ 1000000) : ∀ (d : Nat) {i : Int}, 0 ≤ i → i + d = l.length → Wp (fun k => spec_l00Has_r2 k l x i) (fun r => r = true ↔ x ∈ l.drop i.toNat)
  | 0, i, h0, hd => by
    refine Wp.step ?_
    simp only [spec_l00Has_r2_eq, vLt, vLe, vEq, vNot, inR, decide_eq_true_eq, Bool.not_eq_true', decide_eq_false_iff_not, Bool.not_eq_eq_eq_not, Bool.not_true]
    refine Wp.neg (by simp only [vLen]; omega) (Wp.now ?_)
    rw [List.drop_eq_nil_of_le (by omega)]; simp
  | d + 1, i, h0, hd => by
    have hi : i < (l.length : Int) := by omega
    have ih := has2_wp (x := x) hl d (i := i + 1) (by omega) (by omega)
    refine Wp.step ?_
    simp (disch := omega) only [spec_l00Has_r2_eq, vLt, vLe, vEq, vNot, inR, decide_eq_true_eq, Bool.not_eq_true', decide_eq_false_iff_not, Bool.not_eq_eq_eq_not, Bool.not_true, add64]
    rw [vGet_drop (d := 0) h0 hi]
    refine Wp.pos hi (Wp.pos ⟨h0, hi⟩ (Wp.ite (fun h => Wp.now ?_) (fun h => ih.mono fun r hr => hr.trans ?_)))
    · simp [h]
    · simp [List.mem_cons, Ne.symm h]
theorem has_wp {l : List Int} {x : Int} (hl : l.length ≤ 1000000) : Wp (fun k => spec_l00Has k l x) (fun r => r = true ↔ x ∈ l) := by
  refine Wp.step ?_
  simp only [spec_l00Has_eq]
  exact has2_wp hl l.length (by omega) (by omega)
section
variable {nm : ByteArray} {up dn : List Int} {st wk : Int} {fb : List (List Int)}
theorem rtone_wp (hu : up.length ≤ 1000000) (hd : dn.length ≤ 1000000) {t : Int} : Wp (fun k => spec_l05Tone k nm up dn st wk fb t) (fun r => (r.1 = true ↔ t ∈ up ∨ t ∈ dn) ∧ r.2 = (nm, up, dn, st, wk, fb)) := by
  refine Wp.step ?_
  simp only [spec_l05Tone_eq]
  refine Wp.call (has_wp hu) (fun r hr => Wp.ite (fun h => Wp.now ⟨by simp [hr.1 h], rfl⟩) (fun h => Wp.call (has_wp hd) (fun q hq => Wp.now ⟨?_, rfl⟩)))
  have : t ∉ up := fun e => h (hr.2 e)
  simp [hq, this]
/-- No pair that is forbidden leads from a to b. -/
def noPair (fb : List (List Int)) (a b : Int) : Prop := ∀ p ∈ fb, ¬(vGet p 0 0 = a ∧ vGet p 1 0 = b)
theorem reason12_wp (hf : fb.length ≤ 1000000) (hp : ∀ p ∈ fb, p.length = 2) {a b : Int} : ∀ (d : Nat) {i : Int}, 0 ≤ i → i + d = fb.length → Wp (fun k => spec_l05Reason_r12 k a b i nm up dn st wk fb) (fun r => (r.1 = 0 ∧ noPair (fb.drop i.toNat) a b ∨ r.1 = 5 ∧ ¬ noPair (fb.drop i.toNat) a b) ∧ r.2 = (nm, up, dn, st, wk, fb))
  | 0, i, h0, hd => by
    refine Wp.step ?_
    simp only [spec_l05Reason_r12_eq, vLt, vLe, vEq, vNot, inR, decide_eq_true_eq, Bool.not_eq_true', decide_eq_false_iff_not, Bool.not_eq_eq_eq_not, Bool.not_true]
    refine Wp.neg (by simp only [vLen]; omega) (Wp.now ⟨.inl ⟨rfl, ?_⟩, rfl⟩)
    rw [List.drop_eq_nil_of_le (by omega)]; exact fun p h => by cases h
  | d + 1, i, h0, hd => by
    have hi : i < (fb.length : Int) := by omega
    have ih := reason12_wp hf hp (a := a) (b := b) d (i := i + 1) (by omega) (by omega)
    have hl := hp _ (vGet_mem (d := []) h0 hi)
    have go : ¬(vGet (vGet fb i []) 0 0 = a ∧ vGet (vGet fb i []) 1 0 = b) → Wp (fun k => spec_l05Reason_r12 k a b (i + 1) nm up dn st wk fb) (fun r => (r.1 = 0 ∧ noPair (fb.drop i.toNat) a b ∨ r.1 = 5 ∧ ¬ noPair (fb.drop i.toNat) a b) ∧ r.2 = (nm, up, dn, st, wk, fb)) := fun h => ih.mono fun r hr => ⟨by
      have e : noPair (fb.drop i.toNat) a b ↔ noPair (fb.drop (i + 1).toNat) a b := by
        rw [vGet_drop (d := []) h0 hi]
        exact ⟨fun q p hp => q p (by simp [hp]), fun q p hp => (List.mem_cons.1 hp).elim (fun e => e ▸ h) (q p)⟩
      rw [e]; exact hr.1, hr.2⟩
    refine Wp.step ?_
    simp (disch := omega) only [spec_l05Reason_r12_eq, vLt, vLe, vEq, vNot, inR, decide_eq_true_eq, Bool.not_eq_true', decide_eq_false_iff_not, Bool.not_eq_eq_eq_not, Bool.not_true, add64]
    refine Wp.pos hi (Wp.pos ⟨h0, hi⟩ (Wp.pos ⟨by omega, by simp only [vLen]; omega⟩ (Wp.ite (fun h1 => Wp.pos ⟨h0, hi⟩ (Wp.pos ⟨by omega, by simp only [vLen]; omega⟩ (Wp.ite (fun h2 => Wp.now ⟨.inr ⟨rfl, fun q => ?_⟩, rfl⟩) (fun h2 => go fun h => h2 h.2)))) (fun h1 => go fun h => h1 h.1))))
    exact q _ (by rw [vGet_drop (d := []) h0 hi]; simp) ⟨h1, h2⟩
/-- Why a move is wrong: 0 if it is not. -/
def moveOk (up dn : List Int) (fb : List (List Int)) (x y : Int) : Prop :=
  (x % 12 ∈ up ∨ x % 12 ∈ dn) ∧ (y % 12 ∈ up ∨ y % 12 ∈ dn) ∧ (x - y ≤ 12 ∧ y - x ≤ 12) ∧ (x < y → y % 12 ∈ up) ∧ (y < x → y % 12 ∈ dn) ∧ noPair fb (x % 12) (y % 12)
theorem reason_wp (hu : up.length ≤ 1000000) (hd : dn.length ≤ 1000000) (hf : fb.length ≤ 1000000) (hp : ∀ p ∈ fb, p.length = 2) {x y : Int} (hx : -1000000 ≤ x ∧ x ≤ 1000000) (hy : -1000000 ≤ y ∧ y ≤ 1000000) :
    Wp (fun k => spec_l05Reason k nm up dn st wk fb x y) (fun r => (r.1 = 0 ↔ moveOk up dn fb x y) ∧ r.2 = (nm, up, dn, st, wk, fb)) := by
  refine Wp.step ?_
  simp (disch := omega) only [spec_l05Reason_eq, vLt, vLe, vEq, vNot, inR, decide_eq_true_eq, Bool.not_eq_true', decide_eq_false_iff_not, Bool.not_eq_eq_eq_not, Bool.not_true, sub64]
  refine Wp.val tone_wp (Wp.val tone_wp (Wp.call (rtone_wp hu hd) (fun r hr => ?_)))
  rw [hr.2]
  refine Wp.ite (fun h => Wp.now ⟨⟨fun e => (by simp at e), fun q => ?_⟩, rfl⟩) (fun h => ?_)
  · have := hr.1.2 q.1; rw [h] at this; cases this
  have k1 := hr.1.1 (by simpa using h)
  clear hr h
  refine Wp.call (rtone_wp hu hd) (fun r hr => ?_)
  rw [hr.2]
  refine Wp.ite (fun h => Wp.now ⟨⟨fun e => (by simp at e), fun q => ?_⟩, rfl⟩) (fun h => ?_)
  · have := hr.1.2 q.2.1; rw [h] at this; cases this
  have k2 := hr.1.1 (by simpa using h)
  clear hr h
  have mx : Wp (fun k => spec_l00Max k (x - y) (y - x)) (fun r => r ≤ 12 ↔ x - y ≤ 12 ∧ y - x ≤ 12) := by
    refine Wp.step ?_
    simp only [spec_l00Max_eq, vLt, vLe, vEq, vNot, inR, decide_eq_true_eq, Bool.not_eq_true', decide_eq_false_iff_not, Bool.not_eq_eq_eq_not, Bool.not_true]
    exact Wp.ite (fun h => Wp.now (by omega)) (fun h => Wp.now (by omega))
  refine Wp.call mx (fun r hr => Wp.ite (fun h => Wp.now ⟨⟨fun e => (by simp at e), fun q => ?_⟩, rfl⟩) (fun h => ?_))
  · have := hr.2 q.2.2.1; omega
  have k3 := hr.1 (by omega)
  clear hr h
  have r12 : (x < y → y % 12 ∈ up) → (y < x → y % 12 ∈ dn) → Wp (fun k => spec_l05Reason_r12 k (x % 12) (y % 12) 0 nm up dn st wk fb) (fun r => (r.1 = 0 ↔ moveOk up dn fb x y) ∧ r.2 = (nm, up, dn, st, wk, fb)) := fun h1 h2 =>
    (reason12_wp hf hp fb.length (by omega) (by omega)).mono fun r hr => ⟨by
      rcases hr.1 with ⟨e, q⟩ | ⟨e, q⟩
      · rw [e]; exact ⟨fun _ => ⟨k1, k2, k3, h1, h2, q⟩, fun _ => rfl⟩
      · rw [e]; exact ⟨fun e => (by simp at e), fun m => (q m.2.2.2.2.2).elim⟩, hr.2⟩
  have r9 : (x < y → y % 12 ∈ up) → Wp (fun k => spec_l05Reason_r9 k x y (x % 12) (y % 12) nm up dn st wk fb) (fun r => (r.1 = 0 ↔ moveOk up dn fb x y) ∧ r.2 = (nm, up, dn, st, wk, fb)) := fun h1 => by
    refine Wp.step ?_
    simp only [spec_l05Reason_r9_eq, vLt, vLe, vEq, vNot, inR, decide_eq_true_eq, Bool.not_eq_true', decide_eq_false_iff_not, Bool.not_eq_eq_eq_not, Bool.not_true]
    refine Wp.ite (fun hlt => Wp.call (has_wp hd) (fun r hr => Wp.ite (fun h => Wp.now ⟨⟨fun e => (by simp at e), fun q => ?_⟩, rfl⟩) (fun h => r12 h1 (fun _ => hr.1 (by simpa using h))))) (fun hlt => r12 h1 (fun h => absurd h hlt))
    have := hr.2 (q.2.2.2.2.1 hlt); rw [h] at this; cases this
  refine Wp.ite (fun hlt => Wp.call (has_wp hu) (fun r hr => Wp.ite (fun h => Wp.now ⟨⟨fun e => (by simp at e), fun q => ?_⟩, rfl⟩) (fun h => r9 (fun _ => hr.1 (by simpa using h))))) (fun hlt => r9 (fun h => absurd h hlt))
  have := hr.2 (q.2.2.2.1 hlt); rw [h] at this; cases this
end
end Go.Proofs.Ytojmfjhbfcnecaa.F
