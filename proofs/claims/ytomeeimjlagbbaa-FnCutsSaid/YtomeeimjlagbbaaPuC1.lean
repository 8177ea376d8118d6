/- Plain facts: units of melodies, cuts, joins and ties. -/
import Derived.Test.YtomeeimjlagbbaaPuC0
import Derived.Test.YtomeeimjlagbbaaPCx4
import Derived.Test.YtomeeimjlagbbaaPCx5
import Derived.Test.YtomeeimjlagbbaaPCx6
import Derived.Test.YtomeeimjlagbbaaPCx8
import Derived.Test.YtomeeimjlagbbaaPCx10
namespace Go.Proofs.Ytomeeimjlagbbaa.Pure
open Go.RowKit Go.Proofs.Ytomeeimjlagbbaa.PC Go.Proofs.YtomeeimjlagbbaaW.PrintWords Go.Proofs.YtomeeimjlagbbaaW.PrintLast
set_option linter.unusedSimpArgs false
set_option linter.unusedVariables false
theorem rd_L3_get {c : List (List S40)} {i : Int} (h0 : 0 ≤ i) (h1 : i < c.length) : rd_L3 c i = c[i.toNat]'(by omega) := by
  simp [rd_L3, List.getD_eq_getElem?_getD, List.getElem?_eq_getElem (show i.toNat < c.length by omega)]
theorem rd_L3_mem {c : List (List S40)} {i : Int} (h0 : 0 ≤ i) (h1 : i < c.length) : rd_L3 c i ∈ c := by
  rw [rd_L3_get h0 h1]; exact List.getElem_mem _
theorem rd_L3_drop {c : List (List S40)} {i : Int} (h0 : 0 ≤ i) (h1 : i < c.length) : c.drop i.toNat = rd_L3 c i :: c.drop (i + 1).toNat := by
  rw [rd_L3_get h0 h1, show (i + 1).toNat = i.toNat + 1 by omega]
  exact List.drop_eq_getElem_cons (by omega)
theorem pitchOk_f (a : Int) : impl_pitchOk.f a = some (decide (-12 ≤ a ∧ a ≤ 23)) := by
  unfold impl_pitchOk.f impl_within.f
  by_cases h : a ≥ -12
  · simp only [if_pos h, Option.bind_some]; congr 1; exact decide_eq_decide.2 ⟨fun x => ⟨h, x⟩, fun x => x.2⟩
  · simp only [if_neg h, Option.bind_some]; congr 1; symm; exact decide_eq_false (fun x => h x.1)
theorem lengthOk_f (a : Int) : impl_lengthOk.f a = some (decide (1 ≤ a ∧ a ≤ 64)) := by
  unfold impl_lengthOk.f impl_within.f
  by_cases h : a ≥ 1
  · simp only [if_pos h, Option.bind_some]; congr 1; exact decide_eq_decide.2 ⟨fun x => ⟨h, x⟩, fun x => x.2⟩
  · simp only [if_neg h, Option.bind_some]; congr 1; symm; exact decide_eq_false (fun x => h x.1)
theorem valid_l0 (m : List S40) (hm : m.length ≤ 10000) : ∀ (d : Nat) (i : Int), 0 ≤ i → i + d = m.length → Wp (fun k => impl_ValidMelody.l0 k m m.length i) (fun r => r = (m.drop i.toNat).all vNote)
  | 0, i, h0, h1 => by
    refine Wp.step ?_
    simp only [impl_ValidMelody.l0]
    refine Wp.neg (by omega) (Wp.now ?_)
    rw [List.drop_eq_nil_of_le (by omega)]; simp only [List.all_nil]
  | d + 1, i, h0, h1 => by
    refine Wp.step ?_
    simp only [impl_ValidMelody.l0, pitchOk_f, lengthOk_f, Option.bind_some]
    refine Wp.pos (by omega) (Wp.pos h0 (Wp.pos (by omega) ?_))
    simp (disch := omega) only [w64]
    rw [rd_T40_drop h0 (by omega), List.all_cons]
    refine Wp.iteB (fun e => Wp.iteB (fun e' => ?_) (fun e' => ?_)) (fun e => ?_)
    · rw [decide_eq_true_eq] at e e'
      rw [show vNote (rd_T40 m i) = true from decide_eq_true ⟨e.1, e.2, e'.1, e'.2⟩, Bool.true_and]
      exact valid_l0 m hm d (i + 1) (by omega) (by omega)
    · rw [decide_eq_false_iff_not] at e'
      rw [show vNote (rd_T40 m i) = false from decide_eq_false (fun h => e' ⟨h.2.2.1, h.2.2.2⟩)]
      exact Wp.now rfl
    · rw [decide_eq_false_iff_not] at e
      rw [show vNote (rd_T40 m i) = false from decide_eq_false (fun h => e ⟨h.1, h.2.1⟩)]
      exact Wp.now rfl
theorem valid_wp (m : List S40) (hm : m.length ≤ 10000) : Wp (fun k => impl_ValidMelody.f k m) (fun r => r = vm m) := by
  simp only [impl_ValidMelody.f]
  refine Wp.ite (fun h => Wp.now ?_) (fun h => (valid_l0 m hm m.length 0 (by omega) (by omega)).mono ?_)
  · unfold vm; rw [decide_eq_false (by omega)]; rfl
  · rintro r rfl
    unfold vm; rw [decide_eq_true (by omega)]; simp
theorem l03Pitch_f (a : Int) : spec_l03Pitch.f a = some (decide (-12 ≤ a ∧ a ≤ 23)) := by
  unfold spec_l03Pitch.f spec_l00In.f
  by_cases h : a ≥ -12
  · simp only [if_pos h, Option.bind_some]; congr 1; exact decide_eq_decide.2 ⟨fun x => ⟨h, x⟩, fun x => x.2⟩
  · simp only [if_neg h, Option.bind_some]; congr 1; symm; exact decide_eq_false (fun x => h x.1)
theorem l09Length_f (a : Int) : spec_l09Length.f a = some (decide (1 ≤ a ∧ a ≤ 64)) := by
  unfold spec_l09Length.f spec_l00In.f
  by_cases h : a ≥ 1
  · simp only [if_pos h, Option.bind_some]; congr 1; exact decide_eq_decide.2 ⟨fun x => ⟨h, x⟩, fun x => x.2⟩
  · simp only [if_neg h, Option.bind_some]; congr 1; symm; exact decide_eq_false (fun x => h x.1)
theorem l09Ok_l0 (m : List S40) (hm : m.length ≤ 10000) : ∀ (d : Nat) (i : Int), 0 ≤ i → i + d = m.length → Wp (fun k => spec_l09Ok.l0 k m i) (fun r => r = ((m.drop i.toNat).all vNote && decide (m.length ≤ 48)))
  | 0, i, h0, h1 => by
    refine Wp.step ?_
    simp only [spec_l09Ok.l0]
    refine Wp.neg (by omega) (Wp.now ?_)
    rw [List.drop_eq_nil_of_le (by omega)]; simp only [List.all_nil, Bool.true_and]; exact decide_eq_decide.2 (by omega)
  | d + 1, i, h0, h1 => by
    refine Wp.step ?_
    simp only [spec_l09Ok.l0, l03Pitch_f, l09Length_f, Option.bind_some]
    refine Wp.pos (by omega) (Wp.pos h0 ?_)
    simp (disch := omega) only [w64]
    rw [rd_T40_drop h0 (by omega), List.all_cons]
    refine Wp.iteB (fun e => Wp.iteB (fun e' => ?_) (fun e' => ?_)) (fun e => ?_)
    · rw [decide_eq_true_eq] at e e'
      rw [show vNote (rd_T40 m i) = true from decide_eq_true ⟨e.1, e.2, e'.1, e'.2⟩, Bool.true_and]
      exact l09Ok_l0 m hm d (i + 1) (by omega) (by omega)
    · rw [decide_eq_false_iff_not] at e'
      rw [show vNote (rd_T40 m i) = false from decide_eq_false (fun h => e' ⟨h.2.2.1, h.2.2.2⟩)]
      exact Wp.now rfl
    · rw [decide_eq_false_iff_not] at e
      rw [show vNote (rd_T40 m i) = false from decide_eq_false (fun h => e ⟨h.1, h.2.1⟩)]
      exact Wp.now rfl
theorem l09Ok_wp (m : List S40) (hm : m.length ≤ 10000) : Wp (fun k => spec_l09Ok.f k m) (fun r => r = vm m) := by
  simp only [spec_l09Ok.f]
  refine (l09Ok_l0 m hm m.length 0 (by omega) (by omega)).mono ?_
  rintro r rfl
  simp [vm, Bool.and_comm]
theorem vm_len {m : List S40} (h : vm m = true) : m.length ≤ 48 := by unfold vm at h; simp at h; exact h.1
theorem vm_note {m : List S40} (h : vm m = true) {x : S40} (hx : x ∈ m) : -12 ≤ x.f0 ∧ x.f0 ≤ 23 ∧ 1 ≤ x.f1 ∧ x.f1 ≤ 64 := by
  unfold vm at h
  rw [Bool.and_eq_true] at h
  have := List.all_eq_true.1 h.2 x hx
  unfold vNote at this
  simpa using this
theorem within_f (a b c : Int) : impl_within.f a b c = some (decide (b ≤ a ∧ a ≤ c)) := by
  unfold impl_within.f
  by_cases h : a ≥ b
  · simp only [if_pos h, Option.bind_some]; congr 1; exact decide_eq_decide.2 ⟨fun x => ⟨h, x⟩, fun x => x.2⟩
  · simp only [if_neg h, Option.bind_some]; congr 1; symm; exact decide_eq_false (fun x => h x.1)
def units (m : List S40) : List Int := m.flatMap fun x => List.replicate x.f1.toNat x.f0
theorem units_cons (x : S40) (m : List S40) : units (x :: m) = List.replicate x.f1.toNat x.f0 ++ units m := by simp [units]
theorem units_len : ∀ (m : List S40), (∀ x ∈ m, 0 ≤ x.f1 ∧ x.f1 ≤ 64) → ((units m).length : Int) = (m.map (·.f1)).sum ∧ (units m).length ≤ 64 * m.length
  | [], _ => by simp [units]
  | x :: m, h => by
    have ih := units_len m (fun y hy => h y (List.mem_cons_of_mem _ hy))
    have := h x List.mem_cons_self
    rw [units_cons]
    simp only [List.length_append, List.length_replicate, List.map_cons, List.sum_cons, List.length_cons]
    omega
theorem units_mem {m : List S40} (hv : vm m = true) {p : Int} (h : p ∈ units m) : -12 ≤ p ∧ p ≤ 23 := by
  unfold units at h
  obtain ⟨x, hx, hp⟩ := List.mem_flatMap.1 h
  have := vm_note hv hx
  rw [List.eq_of_mem_replicate hp]; omega
theorem vm_units {m : List S40} (hv : vm m = true) : ((units m).length : Int) = (m.map (·.f1)).sum ∧ (units m).length ≤ 3072 := by
  have := units_len m (fun x hx => by have := vm_note hv hx; omega)
  have := vm_len hv
  omega
theorem dur_l0 {m : List S40} (hv : vm m = true) : ∀ (d : Nat) (acc i : Int), 0 ≤ i → i + d = m.length → 0 ≤ acc → acc + 64 * d ≤ 10000 →
    Wp (fun k => impl_durationOf.l0 k acc m m.length i) (fun r => r = acc + ((m.drop i.toNat).map (·.f1)).sum)
  | 0, acc, i, h0, h1, h2, h3 => by
    refine Wp.step ?_
    simp only [impl_durationOf.l0]
    refine Wp.neg (by omega) (Wp.now ?_)
    rw [List.drop_eq_nil_of_le (by omega)]; simp
  | d + 1, acc, i, h0, h1, h2, h3 => by
    have hl := vm_len hv
    have hn := vm_note hv (rd_T40_mem (i := i) h0 (by omega))
    refine Wp.step ?_
    simp only [impl_durationOf.l0]
    refine Wp.pos (by omega) (Wp.pos h0 (Wp.pos (by omega) ?_))
    simp (disch := omega) only [w64]
    rw [rd_T40_drop h0 (by omega), List.map_cons, List.sum_cons, ← Int.add_assoc]
    exact dur_l0 hv d _ (i + 1) (by omega) (by omega) (by omega) (by omega)
theorem dur_wp {m : List S40} (hv : vm m = true) : Wp (fun k => impl_durationOf.f k m) (fun r => r = (units m).length) := by
  simp only [impl_durationOf.f]
  refine (dur_l0 hv m.length 0 0 (by omega) (by omega) (by omega) (by have := vm_len hv; omega)).mono ?_
  rintro r rfl; have := vm_units hv; simp [this]
theorem sum9_l0 {m : List S40} (hv : vm m = true) : ∀ (d : Nat) (acc i : Int), 0 ≤ i → i + d = m.length → 0 ≤ acc → acc + 64 * d ≤ 10000 →
    Wp (fun k => spec_l09Sum.l0 k m acc i) (fun r => r = acc + ((m.drop i.toNat).map (·.f1)).sum)
  | 0, acc, i, h0, h1, h2, h3 => by
    refine Wp.step ?_
    simp only [spec_l09Sum.l0]
    refine Wp.neg (by omega) (Wp.now ?_)
    rw [List.drop_eq_nil_of_le (by omega)]; simp
  | d + 1, acc, i, h0, h1, h2, h3 => by
    have hl := vm_len hv
    have hn := vm_note hv (rd_T40_mem (i := i) h0 (by omega))
    refine Wp.step ?_
    simp only [spec_l09Sum.l0]
    refine Wp.pos (by omega) (Wp.pos h0 ?_)
    simp (disch := omega) only [w64]
    rw [rd_T40_drop h0 (by omega), List.map_cons, List.sum_cons, ← Int.add_assoc]
    exact sum9_l0 hv d _ (i + 1) (by omega) (by omega) (by omega) (by omega)
theorem durationOf_wp (m : List S40) (hm : m.length ≤ 10000) : Wp (fun k => spec_DurationOf.f k m) (fun r => r = if vm m = true then (((units m).length : Int), 0) else (0, 1)) := by
  simp only [spec_DurationOf.f]
  refine Wp.val (l09Ok_wp m hm) (Wp.iteB (fun hv => ?_) (fun hv => ?_))
  · simp only [spec_l09Sum.f]
    refine Wp.call (sum9_l0 hv m.length 0 0 (by omega) (by omega) (by omega) (by have := vm_len hv; omega)) ?_
    rintro r rfl
    refine Wp.now ?_
    rw [if_pos hv]; have := vm_units hv; simp [this]
  · rw [hv]; exact Wp.now rfl
theorem rd_L3_two0 (a b : List S40) : rd_L3 [a, b] 0 = a := rfl
theorem rd_L3_two1 (a b : List S40) : rd_L3 [a, b] 1 = b := rfl
theorem grow_f {n : Int} (h0 : 0 ≤ n) (h1 : n ≤ 100000) : impl_Note_155.f n = some [] := by
  unfold impl_Note_155.f
  rw [if_neg (by omega), w64 (by omega) (by omega)]
  by_cases h : n > 0
  · rw [if_pos h, if_pos h0, if_pos (by simp; omega)]; simp
  · rw [if_neg h]
theorem join_l0 (L0 : List (List S40)) {Q : List S40 → Prop} : ∀ (d : Nat) (i s : Int), 0 ≤ i → i + d = L0.length → 0 ≤ s → s ≤ 1000 * i → L0.length ≤ 50 → (∀ x ∈ L0, x.length ≤ 1000) →
    Wp (fun k => impl_Note_99.l1 k [] L0 L0.length 0) Q → Wp (fun k => impl_Note_99.l0 k L0 s L0 L0.length i) Q
  | 0, i, s, h0, h1, h2, h3, h4, h5, h => by
    refine Wp.step ?_
    simp only [impl_Note_99.l0]
    exact Wp.neg (by omega) (Wp.calls (grow_f h2 (by omega)) h)
  | d + 1, i, s, h0, h1, h2, h3, h4, h5, h => by
    have := h5 _ (rd_L3_mem (i := i) h0 (by omega))
    refine Wp.step ?_
    simp only [impl_Note_99.l0]
    rw [w64 (n := s + ((rd_L3 L0 i).length : Int)) (by omega) (by omega), w64 (n := i + 1) (by omega) (by omega)]
    exact Wp.pos (by omega) (Wp.pos h0 (Wp.pos (by omega) (Wp.neg (by omega) (join_l0 L0 d _ _ (by omega) (by omega) (by omega) (by omega) h4 h5 h))))
theorem join_l1 (L0 : List (List S40)) : ∀ (d : Nat) (i : Int) (acc : List S40), 0 ≤ i → i + d = L0.length → acc.length ≤ 1000 * i → L0.length ≤ 50 → (∀ x ∈ L0, x.length ≤ 1000) →
    Wp (fun k => impl_Note_99.l1 k acc L0 L0.length i) (fun r => r = acc ++ (L0.drop i.toNat).flatten)
  | 0, i, acc, h0, h1, h3, h4, h5 => by
    refine Wp.step ?_
    simp only [impl_Note_99.l1]
    refine Wp.neg (by omega) (Wp.now ?_)
    rw [List.drop_eq_nil_of_le (by omega)]; simp
  | d + 1, i, acc, h0, h1, h3, h4, h5 => by
    have := h5 _ (rd_L3_mem (i := i) h0 (by omega))
    refine Wp.step ?_
    simp only [impl_Note_99.l1]
    rw [w64 (n := i + 1) (by omega) (by omega), rd_L3_drop h0 (by omega), List.flatten_cons, ← List.append_assoc]
    exact Wp.pos (by omega) (Wp.pos h0 (Wp.pos (by omega) (Wp.pos (by omega) (join_l1 L0 d _ _ (by omega) (by omega) (by simp; omega) h4 h5))))
theorem concat_wp (L0 : List (List S40)) (h4 : L0.length ≤ 50) (h5 : ∀ x ∈ L0, x.length ≤ 1000) : Wp (fun k => impl_Note_99.f k L0) (fun r => r = L0.flatten) := by
  simp only [impl_Note_99.f]
  refine join_l0 L0 L0.length 0 0 (by omega) (by omega) (by omega) (by omega) h4 h5 ?_
  simpa using join_l1 L0 L0.length 0 [] (by omega) (by omega) (by simp) h4 h5
theorem checked_wp (m : List S40) (hv : ∀ x ∈ m, vNote x = true) : impl_checkedMelody.f m = some (if m.length ≤ 48 then (m, 0) else ([], 5)) := by
  have h : ∀ (l : List S40), (∀ x ∈ l, vNote x = true) → anyO (fun x => impl_checkedMelody_1.f x.f0 x.f1) l = some false := by
    intro l
    induction l with
    | nil => intro _; rfl
    | cons x l ih =>
      intro hl
      have hx := hl x List.mem_cons_self
      unfold vNote at hx
      rw [decide_eq_true_eq] at hx
      simp only [anyO, impl_checkedMelody_1.f, pitchOk_f, lengthOk_f, Option.bind_some]
      rw [if_pos (by simp; omega), Option.bind_some, if_neg (by simp; omega)]
      have h2 := ih (fun y hy => hl y (List.mem_cons_of_mem _ hy))
      simp only [impl_checkedMelody_1.f, pitchOk_f, lengthOk_f, Option.bind_some] at h2
      exact h2
  unfold impl_checkedMelody.f slices_ContainsFunc_at_impl_checkedMelody_1.f
  rw [h m hv, Option.bind_some, if_neg (by decide)]
  by_cases hl : m.length ≤ 48
  · rw [if_pos hl, if_neg (by omega)]
  · rw [if_neg hl, if_pos (by omega)]
/-! notes tied -/
theorem vn_mk {p l : Int} (h1 : -12 ≤ p) (h2 : p ≤ 23) (h3 : 1 ≤ l) (h4 : l ≤ 64) : vNote ⟨p, l⟩ = true := decide_eq_true ⟨h1, h2, h3, h4⟩
theorem vn_bd {x : S40} (h : vNote x = true) : -12 ≤ x.f0 ∧ x.f0 ≤ 23 ∧ 1 ≤ x.f1 ∧ x.f1 ≤ 64 := by unfold vNote at h; simpa using h
theorem units_append (a b : List S40) : units (a ++ b) = units a ++ units b := by simp [units]
theorem units_one (x : S40) : units [x] = List.replicate x.f1.toNat x.f0 := by simp [units]
theorem tied_l0 {m : List S40} (hv : vm m = true) : ∀ (d : Nat) (acc : List S40) (i : Int), 0 ≤ i → i + d = m.length → acc.length ≤ i → (∀ x ∈ acc, vNote x = true) →
    Wp (fun k => impl_tied.l0 k acc m m.length i) (fun r => units r = units acc ++ units (m.drop i.toNat) ∧ r.length ≤ m.length ∧ ∀ x ∈ r, vNote x = true)
  | 0, acc, i, h0, h1, h2, ha => by
    refine Wp.step ?_
    simp only [impl_tied.l0]
    refine Wp.neg (by omega) (Wp.now ⟨?_, by omega, ha⟩)
    rw [List.drop_eq_nil_of_le (by omega)]; simp [units]
  | d + 1, acc, i, h0, h1, h2, ha => by
    have hl := vm_len hv
    have hn := vm_note hv (rd_T40_mem (i := i) h0 (by omega))
    have add : Wp (fun k => if acc.length < 8796093022208 then impl_tied.l0 k (acc ++ [(⟨(rd_T40 m i).f0, (rd_T40 m i).f1⟩ : S40)]) m m.length (wrap64 (i + 1)) else none) (fun r => units r = units acc ++ units (m.drop i.toNat) ∧ r.length ≤ m.length ∧ ∀ x ∈ r, vNote x = true) := by
      rw [w64 (n := i + 1) (by omega) (by omega)]
      refine Wp.pos (by omega) ((tied_l0 hv d _ (i + 1) (by omega) (by omega) (by simp; omega) (fun x hx => ?_)).mono (fun r hr => ⟨?_, hr.2⟩))
      · rcases List.mem_append.1 hx with h | h
        · exact ha x h
        · rw [List.mem_singleton.1 h]; exact vn_mk hn.1 hn.2.1 hn.2.2.1 hn.2.2.2
      · rw [hr.1, rd_T40_drop h0 (by omega), units_append, units_one, units_cons, List.append_assoc]
    refine Wp.step ?_
    simp only [impl_tied.l0]
    refine Wp.pos (by omega) (Wp.pos h0 (Wp.pos (by omega) (Wp.ite (fun hp => ?_) (fun _ => add))))
    obtain ⟨acc', y, rfl⟩ : ∃ acc' y, acc = acc' ++ [y] := ⟨acc.dropLast, acc.getLast (by intro e; rw [e] at hp; simp at hp), (List.dropLast_concat_getLast _).symm⟩
    have hy := vn_bd (ha y (by simp))
    have el : ((acc' ++ [y]).length : Int) - 1 = acc'.length := by simp
    have hy2 : rd_T40 (acc' ++ [y]) (acc'.length : Int) = y := by rw [rd_T40_get (by omega) (by simp; omega)]; simp
    rw [w64 (n := ((acc' ++ [y]).length : Int) - 1) (by omega) (by omega), el, hy2, lengthOk_f]
    rw [w64 (n := y.f1 + (rd_T40 m i).f1) (by omega) (by omega)]
    refine Wp.pos (by omega) (Wp.pos (by simp; omega) (Wp.ite (fun he => Wp.calls rfl (Wp.iteB (fun hb => ?_) (fun _ => add))) (fun _ => add)))
    rw [decide_eq_true_eq] at hb
    rw [w64 (n := i + 1) (by omega) (by omega), show (acc' ++ [y]).set (acc'.length : Int).toNat ⟨y.f0, y.f1 + (rd_T40 m i).f1⟩ = acc' ++ [⟨y.f0, y.f1 + (rd_T40 m i).f1⟩] by simp]
    refine (tied_l0 hv d _ (i + 1) (by omega) (by omega) (by simp at h2 ⊢; omega) (fun x hx => ?_)).mono (fun r hr => ⟨?_, hr.2⟩)
    · rcases List.mem_append.1 hx with h | h
      · exact ha x (List.mem_append_left _ h)
      · rw [List.mem_singleton.1 h]; exact vn_mk hy.1 hy.2.1 hb.1 hb.2
    · rw [hr.1, rd_T40_drop h0 (by omega), units_append, units_append, units_one, units_one, units_cons, ← he]
      simp only [List.append_assoc]
      rw [← List.append_assoc (List.replicate _ _), List.replicate_append_replicate, show (y.f1 + (rd_T40 m i).f1).toNat = y.f1.toNat + (rd_T40 m i).f1.toNat by omega]
theorem tie_wp {m : List S40} (hv : vm m = true) : Wp (fun k => impl_TieMelody.f k m) (fun r => r.2 = 0 ∧ units r.1 = units m ∧ vm r.1 = true) := by
  have hl := vm_len hv
  simp only [impl_TieMelody.f, impl_tied.f]
  refine Wp.val (valid_wp m (by omega)) (Wp.posB hv (Wp.call (tied_l0 hv m.length [] 0 (by omega) (by omega) (by simp) (by simp)) (fun r hr => Wp.now ⟨rfl, by simpa [units] using hr.1, ?_⟩)))
  unfold vm
  rw [Bool.and_eq_true]
  exact ⟨decide_eq_true (by dsimp only; omega), List.all_eq_true.2 hr.2.2⟩

/-! cuts -/
def cutL (f u : Int) : Int → List S40 → List S40
  | _, [] => []
  | b, x :: xs => if mn (b + x.f1) u - mx b f > 0 then ⟨x.f0, mn (b + x.f1) u - mx b f⟩ :: cutL f u (b + x.f1) xs else cutL f u (b + x.f1) xs
theorem cut_l0 {m : List S40} (hv : vm m = true) {f u : Int} (f0 : 0 ≤ f) (f1 : f ≤ 10000) (u0 : 0 ≤ u) (u1 : u ≤ 10000) : ∀ (d : Nat) (acc : List S40) (b i : Int), 0 ≤ i → i + d = m.length → acc.length ≤ i → 0 ≤ b → b ≤ 64 * i →
    Wp (fun k => impl_CutMelody.l0 k f u acc b m m.length i) (fun r => r = (acc ++ cutL f u b (m.drop i.toNat), 0))
  | 0, acc, b, i, h0, h1, h2, b0, b1 => by
    refine Wp.step ?_
    simp only [impl_CutMelody.l0]
    refine Wp.neg (by omega) (Wp.now ?_)
    rw [List.drop_eq_nil_of_le (by omega)]; simp [cutL]
  | d + 1, acc, b, i, h0, h1, h2, b0, b1 => by
    have hl := vm_len hv
    have hn := vm_note hv (rd_T40_mem (i := i) h0 (by omega))
    have q1 : mn (b + (rd_T40 m i).f1) u ≤ u ∧ 0 ≤ mn (b + (rd_T40 m i).f1) u := by unfold mn; omega
    have q2 : 0 ≤ mx b f ∧ mx b f ≤ 20000 := by unfold mx; omega
    refine Wp.step ?_
    simp only [impl_CutMelody.l0]
    rw [w64 (n := b + (rd_T40 m i).f1) (by omega) (by omega), w64 (n := mn (b + (rd_T40 m i).f1) u - mx b f) (by omega) (by omega), w64 (n := i + 1) (by omega) (by omega), rd_T40_drop h0 (by omega)]
    simp only [cutL]
    refine Wp.pos (by omega) (Wp.pos h0 (Wp.pos (by omega) (Wp.ite (fun h => Wp.pos (by omega) ?_) (fun h => ?_))))
    · rw [if_pos h]
      refine (cut_l0 hv f0 f1 u0 u1 d (acc ++ [⟨(rd_T40 m i).f0, mn (b + (rd_T40 m i).f1) u - mx b f⟩]) (b + (rd_T40 m i).f1) (i + 1) (by omega) (by omega) (by simp; omega) (by omega) (by omega)).mono ?_
      rintro r rfl
      simp
    · rw [if_neg h]
      exact cut_l0 hv f0 f1 u0 u1 d _ _ (i + 1) (by omega) (by omega) (by omega) (by omega) (by omega)
theorem cut_wp {m : List S40} (hv : vm m = true) {f u : Int} (f0 : 0 ≤ f) (f1 : f ≤ u) (u1 : u ≤ (units m).length) : Wp (fun k => impl_CutMelody.f k m f u) (fun r => r = (cutL f u 0 m, 0)) := by
  have hl := vm_len hv
  have hu := vm_units hv
  simp only [impl_CutMelody.f, within_f, Option.bind_some]
  refine Wp.val (valid_wp m (by omega)) (Wp.posB hv (Wp.val (dur_wp hv) ?_))
  rw [decide_eq_true (show 0 ≤ f ∧ f ≤ ((units m).length : Int) by omega)]
  refine Wp.posB rfl (Wp.val (dur_wp hv) ?_)
  rw [decide_eq_true (show f ≤ u ∧ u ≤ ((units m).length : Int) by omega)]
  refine Wp.posB rfl ?_
  simpa using cut_l0 hv f0 (by omega) (by omega) (by omega) m.length [] 0 0 (by omega) (by omega) (by simp) (by omega) (by omega)
theorem cut_units {f u : Int} (h : f ≤ u) : ∀ (m : List S40) (b : Int), 0 ≤ b → (∀ x ∈ m, 0 ≤ x.f1) → units (cutL f u b m) = ((units m).take (u - b).toNat).drop (f - b).toNat
  | [], b, _, _ => by simp [cutL, units]
  | x :: m, b, b0, hm => by
    have hx := hm x List.mem_cons_self
    have ih := cut_units h m (b + x.f1) (by omega) (fun y hy => hm y (List.mem_cons_of_mem _ hy))
    rw [units_cons, List.take_append, List.drop_append, List.take_replicate, List.drop_replicate, List.length_replicate, List.length_replicate]
    have e1 : (u - b).toNat - x.f1.toNat = (u - (b + x.f1)).toNat := by omega
    rw [e1]
    have e2 : ((units m).take (u - (b + x.f1)).toNat).drop ((f - b).toNat - min (u - b).toNat x.f1.toNat) = units (cutL f u (b + x.f1) m) := by
      rw [ih]
      by_cases c : x.f1.toNat ≤ (u - b).toNat
      · rw [show (f - b).toNat - min (u - b).toNat x.f1.toNat = (f - (b + x.f1)).toNat by omega]
      · rw [show (u - (b + x.f1)).toNat = 0 by omega]; simp
    rw [e2]
    simp only [cutL]
    have e3 : (mn (b + x.f1) u - mx b f).toNat = min (u - b).toNat x.f1.toNat - (f - b).toNat := by unfold mn mx; omega
    by_cases c : mn (b + x.f1) u - mx b f > 0
    · rw [if_pos c, units_cons, e3]
    · rw [if_neg c, show min (u - b).toNat x.f1.toNat - (f - b).toNat = 0 by omega]; simp
theorem cut_valid {f u : Int} (h0 : 0 ≤ f) : ∀ (m : List S40) (b : Int), 0 ≤ b → (∀ x ∈ m, vNote x = true) → ∀ y ∈ cutL f u b m, vNote y = true
  | [], _, _, _, y, hy => by simp [cutL] at hy
  | x :: m, b, b0, hm, y, hy => by
    have hx := vn_bd (hm x List.mem_cons_self)
    have ih := cut_valid (u := u) h0 m (b + x.f1) (by omega) (fun y hy => hm y (List.mem_cons_of_mem _ hy))
    simp only [cutL] at hy
    split at hy
    · rename_i hp
      rcases List.mem_cons.1 hy with rfl | hy
      · exact vn_mk hx.1 hx.2.1 (by omega) (by unfold mn mx; omega)
      · exact ih y hy
    · exact ih y hy
theorem cut_all {u : Int} : ∀ (m : List S40) (b : Int), 0 ≤ b → (∀ x ∈ m, 1 ≤ x.f1) → b + ((m.map (·.f1)).sum) ≤ u → cutL 0 u b m = m
  | [], _, _, _, _ => rfl
  | x :: m, b, b0, hm, hu => by
    have hx := hm x List.mem_cons_self
    have hs : ∀ (l : List S40), (∀ y ∈ l, 1 ≤ y.f1) → 0 ≤ (l.map (·.f1)).sum := by
      intro l
      induction l with
      | nil => intro _; simp
      | cons y l ih => intro h; have := ih (fun z hz => h z (List.mem_cons_of_mem _ hz)); have := h y List.mem_cons_self; simp only [List.map_cons, List.sum_cons]; omega
    have hs' := hs m (fun y hy => hm y (List.mem_cons_of_mem _ hy))
    simp only [List.map_cons, List.sum_cons] at hu
    have e : mn (b + x.f1) u - mx b 0 = x.f1 := by unfold mn mx; omega
    simp only [cutL]
    rw [e, if_pos (by omega), cut_all m (b + x.f1) (by omega) (fun y hy => hm y (List.mem_cons_of_mem _ hy)) (by omega)]
theorem cut_count {a t : Int} (h0 : 0 ≤ a) (h1 : a ≤ t) : ∀ (m : List S40) (b : Int), 0 ≤ b → (∀ x ∈ m, 1 ≤ x.f1) → (cutL 0 a b m).length + (cutL a t b m).length ≤ m.length + (if b < a then 1 else 0)
  | [], _, _, _ => by simp [cutL]
  | x :: m, b, b0, hm => by
    have hx := hm x List.mem_cons_self
    have ih := cut_count h0 h1 m (b + x.f1) (by omega) (fun y hy => hm y (List.mem_cons_of_mem _ hy))
    simp only [cutL]
    have l1 : (if mn (b + x.f1) a - mx b 0 > 0 then ({ f0 := x.f0, f1 := mn (b + x.f1) a - mx b 0 } : S40) :: cutL 0 a (b + x.f1) m else cutL 0 a (b + x.f1) m).length ≤ (cutL 0 a (b + x.f1) m).length + (if b < a then 1 else 0) := by
      split
      · rename_i h; rw [if_pos (by unfold mn mx at h; omega)]; simp
      · omega
    have l2 : (if mn (b + x.f1) t - mx b a > 0 then ({ f0 := x.f0, f1 := mn (b + x.f1) t - mx b a } : S40) :: cutL a t (b + x.f1) m else cutL a t (b + x.f1) m).length ≤ (cutL a t (b + x.f1) m).length + (if a < b + x.f1 then 1 else 0) := by
      split
      · rename_i h; rw [if_pos (by unfold mn mx at h; omega)]; simp
      · omega
    simp only [List.length_cons]
    by_cases c1 : b < a <;> by_cases c2 : a < b + x.f1 <;> by_cases c3 : b + x.f1 < a <;> simp only [c1, c2, c3, if_true, if_false] at l1 l2 ih ⊢ <;> omega
/-! equality, pitches at times -/
theorem same_wp (m : List S40) (hl : m.length ≤ 1000) : Wp (fun k => spec_SameMelody.f k m m) (fun r => r = true) := by
  have L0 : ∀ (d : Nat) (i : Int), 0 ≤ i → i + d = m.length → Wp (fun k => spec_l09Same.l0 k m m i) (fun r => r = true) := by
    intro d
    induction d with
    | zero => intro i h0 h1; refine Wp.step ?_; simp only [spec_l09Same.l0]; exact Wp.neg (by omega) (Wp.now rfl)
    | succ d ih =>
      intro i h0 h1
      refine Wp.step ?_
      simp only [spec_l09Same.l0]
      rw [w64 (n := i + 1) (by omega) (by omega)]
      exact Wp.pos (by omega) (Wp.pos h0 (Wp.pos (by omega) (Wp.neg (by simp) (ih (i + 1) (by omega) (by omega)))))
  simp only [spec_SameMelody.f, spec_l09Same.f]
  refine Wp.val (Wp.pos (by trivial) (L0 m.length 0 (by omega) (by omega))) (Wp.now rfl)
theorem at_l0 {m : List S40} (hv : vm m = true) : ∀ (d : Nat) (t i : Int), 0 ≤ i → i + d = m.length → 0 ≤ t → t < (units (m.drop i.toNat)).length → t ≤ 10000 → Wp (fun k => spec_PitchAt.l0 k m t i) (fun r => r = (rd (units (m.drop i.toNat)) t, 0))
  | 0, t, i, h0, h1, t0, t1, t2 => by
    rw [List.drop_eq_nil_of_le (by omega)] at t1
    simp [units] at t1; omega
  | d + 1, t, i, h0, h1, t0, t1, t2 => by
    have hl := vm_len hv
    have hn := vm_note hv (rd_T40_mem (i := i) h0 (by omega))
    refine Wp.step ?_
    simp only [spec_PitchAt.l0]
    rw [rd_T40_drop h0 (by omega), units_cons] at t1 ⊢
    simp only [List.length_append, List.length_replicate] at t1
    refine Wp.pos h0 (Wp.pos (by omega) (Wp.ite (fun h => ?_) (fun h => Wp.now ?_)))
    · rw [w64 (n := t - (rd_T40 m i).f1) (by omega) (by omega), w64 (n := i + 1) (by omega) (by omega)]
      refine (at_l0 hv d _ (i + 1) (by omega) (by omega) (by omega) (by omega) (by omega)).mono ?_
      rintro r rfl
      congr 1
      unfold rd
      rw [List.getD_eq_getElem?_getD, List.getD_eq_getElem?_getD, List.getElem?_append_right (by simp; omega), List.length_replicate, show (t - (rd_T40 m i).f1).toNat = t.toNat - (rd_T40 m i).f1.toNat by omega]
    · congr 1
      unfold rd
      rw [List.getD_eq_getElem?_getD, List.getElem?_append_left (by simp; omega), List.getElem?_replicate, if_pos (by omega)]; rfl
theorem l00In_f (a b c : Int) : spec_l00In.f a b c = some (decide (b ≤ a ∧ a ≤ c)) := by
  unfold spec_l00In.f
  by_cases h : a ≥ b
  · simp only [if_pos h]; congr 1; exact decide_eq_decide.2 ⟨fun x => ⟨h, x⟩, fun x => x.2⟩
  · simp only [if_neg h]; congr 1; symm; exact decide_eq_false (fun x => h x.1)
theorem pitchAt_wp {m : List S40} (hv : vm m = true) {t : Int} (t0 : 0 ≤ t) (t1 : t < (units m).length) : Wp (fun k => spec_PitchAt.f k m t) (fun r => r = (rd (units m) t, 0)) := by
  have hl := vm_len hv
  have hu := vm_units hv
  simp only [spec_PitchAt.f, l00In_f, Option.bind_some, spec_l09Sum.f]
  refine Wp.val (l09Ok_wp m (by omega)) (Wp.posB hv (Wp.call (sum9_l0 hv m.length 0 0 (by omega) (by omega) (by omega) (by omega)) ?_))
  rintro s rfl
  have es : (0 : Int) + ((m.drop (0 : Int).toNat).map (·.f1)).sum = (units m).length := by simp [hu.1]
  rw [es, w64 (n := ((units m).length : Int) - 1) (by omega) (by omega), decide_eq_true (show 0 ≤ t ∧ t ≤ ((units m).length : Int) - 1 by omega)]
  exact Wp.posB rfl (by simpa using at_l0 hv m.length t 0 (by omega) (by omega) t0 (by simpa using t1) (by omega))
end Go.Proofs.Ytomeeimjlagbbaa.Pure
