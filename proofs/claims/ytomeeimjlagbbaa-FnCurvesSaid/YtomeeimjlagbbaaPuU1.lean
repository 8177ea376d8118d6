/- Plain facts: rounded quotients, curves made smoother, glides, notes put before others and trills. -/
import Derived.Test.YtomeeimjlagbbaaPuU0
import Derived.Test.YtomeeimjlagbbaaPUx1
import Derived.Test.YtomeeimjlagbbaaPUx8
import Derived.Test.YtomeeimjlagbbaaPUx9
import Derived.Test.YtomeeimjlagbbaaPUx14
import Derived.Test.YtomeeimjlagbbaaPUx15
import Derived.Test.YtomeeimjlagbbaaPUx16
namespace Go.Proofs.Ytomeeimjlagbbaa.Pure
open Go.RowKit Go.Proofs.Ytomeeimjlagbbaa.PU Go.Proofs.YtomeeimjlagbbaaW.PrintWords Go.Proofs.YtomeeimjlagbbaaW.PrintLast
set_option linter.unusedSimpArgs false
set_option linter.unusedVariables false
theorem rd_L4_get {c : List (List S40)} {i : Int} (h0 : 0 ≤ i) (h1 : i < c.length) : rd_L4 c i = c[i.toNat]'(by omega) := by
  simp [rd_L4, List.getD_eq_getElem?_getD, List.getElem?_eq_getElem (show i.toNat < c.length by omega)]
theorem rd_L4_mem {c : List (List S40)} {i : Int} (h0 : 0 ≤ i) (h1 : i < c.length) : rd_L4 c i ∈ c := by
  rw [rd_L4_get h0 h1]; exact List.getElem_mem _
theorem rd_L4_drop {c : List (List S40)} {i : Int} (h0 : 0 ≤ i) (h1 : i < c.length) : c.drop i.toNat = rd_L4 c i :: c.drop (i + 1).toNat := by
  rw [rd_L4_get h0 h1, show (i + 1).toNat = i.toNat + 1 by omega]
  exact List.drop_eq_getElem_cons (by omega)
theorem pitchOk_f (a : Int) : impl_pitchOk.f a = some (decide (-12 ≤ a ∧ a ≤ 23)) := by
  unfold impl_pitchOk.f impl_within.f
  by_cases h : a ≥ -12
  · simp only [if_pos h, Option.bind_some]; congr 1; exact decide_eq_decide.2 ⟨fun x => ⟨h, x⟩, fun x => x.2⟩
  · simp only [if_neg h, Option.bind_some]; congr 1; symm; exact decide_eq_false (fun x => h x.1)
theorem lengthOk_f (a : Int) : impl_lengthOk.f a = some (decide (1 ≤ a ∧ a ≤ 64)) := by
  unfold impl_lengthOk.f impl_within.f
  by_cases h : a ≥ 1
  · simp only [if_pos h, Option.bind_some]; congr 1; exact decide_eq_decide.2 ⟨fun x => ⟨h, x⟩, fun x => x.2⟩
  · simp only [if_neg h, Option.bind_some]; congr 1; symm; exact decide_eq_false (fun x => h x.1)
theorem valid_l0 (m : List S40) (hm : m.length ≤ 10000) : ∀ (d : Nat) (i : Int), 0 ≤ i → i + d = m.length → Wp (fun k => impl_ValidMelody.l0 k m m.length i) (fun r => r = (m.drop i.toNat).all vNote)
  | 0, i, h0, h1 => by
    refine Wp.step ?_
    simp only [impl_ValidMelody.l0]
    refine Wp.neg (by omega) (Wp.now ?_)
    rw [List.drop_eq_nil_of_le (by omega)]; simp only [List.all_nil]
  | d + 1, i, h0, h1 => by
    refine Wp.step ?_
    simp only [impl_ValidMelody.l0, pitchOk_f, lengthOk_f, Option.bind_some]
    refine Wp.pos (by omega) (Wp.pos h0 (Wp.pos (by omega) ?_))
    simp (disch := omega) only [w64]
    rw [rd_T40_drop h0 (by omega), List.all_cons]
    refine Wp.iteB (fun e => Wp.iteB (fun e' => ?_) (fun e' => ?_)) (fun e => ?_)
    · rw [decide_eq_true_eq] at e e'
      rw [show vNote (rd_T40 m i) = true from decide_eq_true ⟨e.1, e.2, e'.1, e'.2⟩, Bool.true_and]
      exact valid_l0 m hm d (i + 1) (by omega) (by omega)
    · rw [decide_eq_false_iff_not] at e'
      rw [show vNote (rd_T40 m i) = false from decide_eq_false (fun h => e' ⟨h.2.2.1, h.2.2.2⟩)]
      exact Wp.now rfl
    · rw [decide_eq_false_iff_not] at e
      rw [show vNote (rd_T40 m i) = false from decide_eq_false (fun h => e ⟨h.1, h.2.1⟩)]
      exact Wp.now rfl
theorem valid_wp (m : List S40) (hm : m.length ≤ 10000) : Wp (fun k => impl_ValidMelody.f k m) (fun r => r = vm m) := by
  simp only [impl_ValidMelody.f]
  refine Wp.ite (fun h => Wp.now ?_) (fun h => (valid_l0 m hm m.length 0 (by omega) (by omega)).mono ?_)
  · unfold vm; rw [decide_eq_false (by omega)]; rfl
  · rintro r rfl
    unfold vm; rw [decide_eq_true (by omega)]; simp
def units (m : List S40) : List Int := m.flatMap fun x => List.replicate x.f1.toNat x.f0
theorem units_cons (x : S40) (m : List S40) : units (x :: m) = List.replicate x.f1.toNat x.f0 ++ units m := by simp [units]
theorem units_len : ∀ (m : List S40), (∀ x ∈ m, 0 ≤ x.f1 ∧ x.f1 ≤ 64) → ((units m).length : Int) = (m.map (·.f1)).sum ∧ (units m).length ≤ 64 * m.length
  | [], _ => by simp [units]
  | x :: m, h => by
    have ih := units_len m (fun y hy => h y (List.mem_cons_of_mem _ hy))
    have := h x List.mem_cons_self
    rw [units_cons]
    simp only [List.length_append, List.length_replicate, List.map_cons, List.sum_cons, List.length_cons]
    omega
theorem units_mem {m : List S40} (hv : vm m = true) {p : Int} (h : p ∈ units m) : -12 ≤ p ∧ p ≤ 23 := by
  unfold units at h
  obtain ⟨x, hx, hp⟩ := List.mem_flatMap.1 h
  have := vm_note hv hx
  rw [List.eq_of_mem_replicate hp]; omega
theorem vm_units {m : List S40} (hv : vm m = true) : ((units m).length : Int) = (m.map (·.f1)).sum ∧ (units m).length ≤ 3072 := by
  have := units_len m (fun x hx => by have := vm_note hv hx; omega)
  have := vm_len hv
  omega
theorem sum9_l0 {m : List S40} (hv : vm m = true) : ∀ (d : Nat) (acc i : Int), 0 ≤ i → i + d = m.length → 0 ≤ acc → acc + 64 * d ≤ 10000 →
    Wp (fun k => spec_l09Sum.l0 k m acc i) (fun r => r = acc + ((m.drop i.toNat).map (·.f1)).sum)
  | 0, acc, i, h0, h1, h2, h3 => by
    refine Wp.step ?_
    simp only [spec_l09Sum.l0]
    refine Wp.neg (by omega) (Wp.now ?_)
    rw [List.drop_eq_nil_of_le (by omega)]; simp
  | d + 1, acc, i, h0, h1, h2, h3 => by
    have hl := vm_len hv
    have hn := vm_note hv (rd_T40_mem (i := i) h0 (by omega))
    refine Wp.step ?_
    simp only [spec_l09Sum.l0]
    refine Wp.pos (by omega) (Wp.pos h0 ?_)
    simp (disch := omega) only [w64]
    rw [rd_T40_drop h0 (by omega), List.map_cons, List.sum_cons, ← Int.add_assoc]
    exact sum9_l0 hv d _ (i + 1) (by omega) (by omega) (by omega) (by omega)
theorem durationOf_wp (m : List S40) (hm : m.length ≤ 10000) : Wp (fun k => spec_DurationOf.f k m) (fun r => r = if vm m = true then (((units m).length : Int), 0) else (0, 1)) := by
  simp only [spec_DurationOf.f]
  refine Wp.val (l09Ok_wp m hm) (Wp.iteB (fun hv => ?_) (fun hv => ?_))
  · simp only [spec_l09Sum.f]
    refine Wp.call (sum9_l0 hv m.length 0 0 (by omega) (by omega) (by omega) (by have := vm_len hv; omega)) ?_
    rintro r rfl
    refine Wp.now ?_
    rw [if_pos hv]; have := vm_units hv; simp [this]
  · rw [hv]; exact Wp.now rfl
theorem grow_f {n : Int} (h0 : 0 ≤ n) (h1 : n ≤ 100000) : impl_Note_155.f n = some [] := by
  unfold impl_Note_155.f
  rw [if_neg (by omega), w64 (by omega) (by omega)]
  by_cases h : n > 0
  · rw [if_pos h, if_pos h0, if_pos (by simp; omega)]; simp
  · rw [if_neg h]
theorem join_l0 (L0 : List (List S40)) {Q : List S40 → Prop} : ∀ (d : Nat) (i s : Int), 0 ≤ i → i + d = L0.length → 0 ≤ s → s ≤ 1000 * i → L0.length ≤ 50 → (∀ x ∈ L0, x.length ≤ 1000) →
    Wp (fun k => impl_Note_99.l1 k [] L0 L0.length 0) Q → Wp (fun k => impl_Note_99.l0 k L0 s L0 L0.length i) Q
  | 0, i, s, h0, h1, h2, h3, h4, h5, h => by
    refine Wp.step ?_
    simp only [impl_Note_99.l0]
    exact Wp.neg (by omega) (Wp.calls (grow_f h2 (by omega)) h)
  | d + 1, i, s, h0, h1, h2, h3, h4, h5, h => by
    have := h5 _ (rd_L4_mem (i := i) h0 (by omega))
    refine Wp.step ?_
    simp only [impl_Note_99.l0]
    rw [w64 (n := s + ((rd_L4 L0 i).length : Int)) (by omega) (by omega), w64 (n := i + 1) (by omega) (by omega)]
    exact Wp.pos (by omega) (Wp.pos h0 (Wp.pos (by omega) (Wp.neg (by omega) (join_l0 L0 d _ _ (by omega) (by omega) (by omega) (by omega) h4 h5 h))))
theorem join_l1 (L0 : List (List S40)) : ∀ (d : Nat) (i : Int) (acc : List S40), 0 ≤ i → i + d = L0.length → acc.length ≤ 1000 * i → L0.length ≤ 50 → (∀ x ∈ L0, x.length ≤ 1000) →
    Wp (fun k => impl_Note_99.l1 k acc L0 L0.length i) (fun r => r = acc ++ (L0.drop i.toNat).flatten)
  | 0, i, acc, h0, h1, h3, h4, h5 => by
    refine Wp.step ?_
    simp only [impl_Note_99.l1]
    refine Wp.neg (by omega) (Wp.now ?_)
    rw [List.drop_eq_nil_of_le (by omega)]; simp
  | d + 1, i, acc, h0, h1, h3, h4, h5 => by
    have := h5 _ (rd_L4_mem (i := i) h0 (by omega))
    refine Wp.step ?_
    simp only [impl_Note_99.l1]
    rw [w64 (n := i + 1) (by omega) (by omega), rd_L4_drop h0 (by omega), List.flatten_cons, ← List.append_assoc]
    exact Wp.pos (by omega) (Wp.pos h0 (Wp.pos (by omega) (Wp.pos (by omega) (join_l1 L0 d _ _ (by omega) (by omega) (by simp; omega) h4 h5))))
theorem concat_wp (L0 : List (List S40)) (h4 : L0.length ≤ 50) (h5 : ∀ x ∈ L0, x.length ≤ 1000) : Wp (fun k => impl_Note_99.f k L0) (fun r => r = L0.flatten) := by
  simp only [impl_Note_99.f]
  refine join_l0 L0 L0.length 0 0 (by omega) (by omega) (by omega) (by omega) h4 h5 ?_
  simpa using join_l1 L0 L0.length 0 [] (by omega) (by omega) (by simp) h4 h5
theorem checked_wp (m : List S40) (hv : ∀ x ∈ m, vNote x = true) : impl_checkedMelody.f m = some (if m.length ≤ 48 then (m, 0) else ([], 5)) := by
  have h : ∀ (l : List S40), (∀ x ∈ l, vNote x = true) → anyO (fun x => impl_checkedMelody_1.f x.f0 x.f1) l = some false := by
    intro l
    induction l with
    | nil => intro _; rfl
    | cons x l ih =>
      intro hl
      have hx := hl x List.mem_cons_self
      unfold vNote at hx
      rw [decide_eq_true_eq] at hx
      simp only [anyO, impl_checkedMelody_1.f, pitchOk_f, lengthOk_f, Option.bind_some]
      rw [if_pos (by simp; omega), Option.bind_some, if_neg (by simp; omega)]
      have h2 := ih (fun y hy => hl y (List.mem_cons_of_mem _ hy))
      simp only [impl_checkedMelody_1.f, pitchOk_f, lengthOk_f, Option.bind_some] at h2
      exact h2
  unfold impl_checkedMelody.f slices_ContainsFunc_at_impl_checkedMelody_1.f
  rw [h m hv, Option.bind_some, if_neg (by decide)]
  by_cases hl : m.length ≤ 48
  · rw [if_pos hl, if_neg (by omega)]
  · rw [if_neg hl, if_pos (by omega)]
theorem divRound_p {a b : Int} (ha : 0 ≤ a) (hb : 0 < b) (ha2 : a ≤ 1000000000) (hb2 : b ≤ 1000000) : ∃ q, impl_divRound.f a b = some q ∧ 2 * (q * b) - 2 * a ≤ b ∧ 2 * a - 2 * (q * b) ≤ b ∧ 0 ≤ q ∧ (a ≤ 100 * b → q ≤ 100) := by
  have e1 : Int.tmod a b = a % b := Int.tmod_eq_emod_of_nonneg ha
  have e2 : Int.tdiv a b = a / b := Int.tdiv_eq_ediv_of_nonneg ha
  have hr0 := Int.emod_nonneg a (show b ≠ 0 by omega)
  have hr1 := Int.emod_lt_of_pos a hb
  have hq0 : 0 ≤ a / b := Int.ediv_nonneg ha (by omega)
  have hq1 : a / b ≤ a := Int.ediv_le_self _ ha
  have hdm : b * (a / b) + a % b = a := Int.mul_ediv_add_emod a b
  have hmul : b * (a / b) = (a / b) * b := Int.mul_comm _ _
  have hq100 : a ≤ 100 * b → a / b ≤ 100 := fun h => Int.ediv_le_of_le_mul hb h
  have hq99 : a ≤ 100 * b → a / b = 100 → a % b = 0 := fun h e => by rw [e] at hdm; omega
  have ab : impl_abs.f b = some b := by unfold impl_abs.f; rw [w64 (by omega) (by omega)]; congr 1; unfold mx; omega
  have ar : impl_abs.f (a % b) = some (a % b) := by unfold impl_abs.f; rw [w64 (by omega) (by omega)]; congr 1; unfold mx; omega
  unfold impl_divRound.f
  rw [if_neg (by omega), e1, e2, ar, Option.bind_some, ab, Option.bind_some, w64 (n := b - a % b) (by omega) (by omega), w64 (n := a / b) (by omega) (by omega)]
  have h1 : decide (a < 0) = false := decide_eq_false (by omega)
  have h2 : decide (b < 0) = false := decide_eq_false (by omega)
  rw [h1, h2]
  simp only [BEq.rfl, if_true]
  rw [w64 (n := a / b + 1) (by omega) (by omega)]
  by_cases c : a % b ≥ b - a % b
  · rw [if_pos c]
    refine ⟨_, rfl, ?_, ?_, by omega, fun h => ?_⟩
    · rw [Int.add_mul]; omega
    · rw [Int.add_mul]; omega
    · have := hq100 h; have := hq99 h; omega
  · rw [if_neg c]
    exact ⟨_, rfl, by omega, by omega, by omega, hq100⟩

theorem divRound_g {a b : Int} (hb : 0 < b) (ha : -1000000000 ≤ a) (ha2 : a ≤ 1000000000) (hb2 : b ≤ 1000000) : ∃ q, impl_divRound.f a b = some q ∧ 2 * (q * b) - 2 * a ≤ b ∧ 2 * a - 2 * (q * b) ≤ b := by
  by_cases hn : 0 ≤ a
  · obtain ⟨q, e, h1, h2, _⟩ := divRound_p hn hb ha2 hb2
    exact ⟨q, e, h1, h2⟩
  · obtain ⟨n, rfl⟩ : ∃ n, a = -n := ⟨-a, by omega⟩
    have hn0 : 0 ≤ n := by omega
    have e1 : Int.tmod (-n) b = -(n % b) := by rw [Int.neg_tmod, Int.tmod_eq_emod_of_nonneg hn0]
    have e2 : Int.tdiv (-n) b = -(n / b) := by rw [Int.neg_tdiv, Int.tdiv_eq_ediv_of_nonneg hn0]
    have hr0 := Int.emod_nonneg n (show b ≠ 0 by omega)
    have hr1 := Int.emod_lt_of_pos n hb
    have hq0 : 0 ≤ n / b := Int.ediv_nonneg hn0 (by omega)
    have hq1 : n / b ≤ n := Int.ediv_le_self _ hn0
    have hdm : b * (n / b) + n % b = n := Int.mul_ediv_add_emod n b
    have hmul : b * (n / b) = (n / b) * b := Int.mul_comm _ _
    have ab : impl_abs.f b = some b := by unfold impl_abs.f; rw [w64 (by omega) (by omega)]; congr 1; unfold mx; omega
    have ar : impl_abs.f (-(n % b)) = some (n % b) := by unfold impl_abs.f; rw [w64 (by omega) (by omega)]; congr 1; unfold mx; omega
    unfold impl_divRound.f
    rw [if_neg (by omega), e1, e2, ar, Option.bind_some, ab, Option.bind_some, w64 (n := b - n % b) (by omega) (by omega), w64 (n := -(n / b)) (by omega) (by omega)]
    have h1 : decide (-n < 0) = true := decide_eq_true (by omega)
    have h2 : decide (b < 0) = false := decide_eq_false (by omega)
    rw [h1, h2]
    rw [if_neg (show ¬ ((true == false) = true) by decide), w64 (n := -(n / b) - 1) (by omega) (by omega)]
    by_cases c : n % b ≥ b - n % b
    · rw [if_pos c]
      have : (-(n / b) - 1) * b = -((n / b) * b) - b := by rw [Int.sub_mul, Int.neg_mul]; omega
      exact ⟨_, rfl, by omega, by omega⟩
    · rw [if_neg c]
      have : (-(n / b)) * b = -((n / b) * b) := Int.neg_mul _ _
      exact ⟨_, rfl, by omega, by omega⟩
theorem divRound_mono {a a' b q q' : Int} (hb : 0 < b) (ha : -1000000000 ≤ a) (ha2 : a' ≤ 1000000000) (hb2 : b ≤ 1000000) (h : a ≤ a') (e : impl_divRound.f a b = some q) (e' : impl_divRound.f a' b = some q') : q ≤ q' := by
  obtain ⟨p, f1, f2, f3⟩ := divRound_g hb ha (show a ≤ 1000000000 by omega) hb2
  obtain ⟨p', g1, g2, g3⟩ := divRound_g hb (show -1000000000 ≤ a' by omega) ha2 hb2
  rw [e] at f1; injection f1 with f1; subst f1
  rw [e'] at g1; injection g1 with g1; subst g1
  by_cases c : a = a'
  · subst c; rw [e] at e'; injection e' with e'; omega
  · by_cases d : q ≤ q'
    · exact d
    · have : (q' + 1) * b ≤ q * b := Int.mul_le_mul_of_nonneg_right (by omega) (by omega)
      rw [Int.add_mul] at this
      omega
/-! curves made smoother -/
def SB (c y : List Int) : Prop := y.length = c.length ∧ rd y 0 = rd c 0 ∧ rd y ((c.length : Int) - 1) = rd c ((c.length : Int) - 1) ∧ ∀ lo hi : Int, (∀ x ∈ c, lo ≤ x ∧ x ≤ hi) → ∀ z ∈ y, lo ≤ z ∧ z ≤ hi
theorem rd_set_ne (y : List Int) (i j q : Int) (hi : 0 ≤ i) (hj : 0 ≤ j) (h : i ≠ j) : rd (y.set i.toNat q) j = rd y j := by
  unfold rd
  rw [List.getD_eq_getElem?_getD, List.getD_eq_getElem?_getD, List.getElem?_set_ne (by omega)]
theorem SB_set {c y : List Int} (h : SB c y) {i q : Int} (i1 : 1 ≤ i) (i2 : i < (c.length : Int) - 1) (hq : ∀ lo hi : Int, (∀ x ∈ c, lo ≤ x ∧ x ≤ hi) → lo ≤ q ∧ q ≤ hi) : SB c (y.set i.toNat q) := by
  obtain ⟨h1, h2, h3, h4⟩ := h
  refine ⟨by rw [List.length_set]; exact h1, ?_, ?_, fun lo hi hc z hz => ?_⟩
  · rw [rd_set_ne y i 0 q (by omega) (by omega) (by omega)]; exact h2
  · rw [rd_set_ne y i _ q (by omega) (by omega) (by omega)]; exact h3
  · rcases List.mem_or_eq_of_mem_set hz with h | h
    · exact h4 lo hi hc z h
    · rw [h]; exact hq lo hi hc
theorem smooth_l1 {c b : List Int} (hc : ∀ x ∈ c, -2000 ≤ x ∧ x ≤ 3000) (hl : c.length ≤ 3072) (hb : SB c b) {n t : Int} {Q : List Int × Int → Prop} (H : ∀ y, SB c y → Wp (fun k => impl_SmoothCurve.l0 k y n (wrap64 (t + 1))) Q) : ∀ (d : Nat) (y : List Int) (i : Int), SB c y → 1 ≤ i → (c.length : Int) - 1 - i ≤ d → i ≤ 4000 →
    Wp (fun k => impl_SmoothCurve.l1 k y b i n t) Q
  | 0, y, i, hy, i1, i2, i3 => by
    have l1 := hy.1
    refine Wp.step ?_
    simp only [impl_SmoothCurve.l1]
    rw [w64 (n := (y.length : Int) - 1) (by omega) (by omega)]
    exact Wp.neg (by omega) (H y hy)
  | d + 1, y, i, hy, i1, i2, i3 => by
    have l1 := hy.1
    have l2 := hb.1
    refine Wp.step ?_
    simp only [impl_SmoothCurve.l1]
    rw [w64 (n := (y.length : Int) - 1) (by omega) (by omega), w64 (n := i - 1) (by omega) (by omega), w64 (n := i + 1) (by omega) (by omega)]
    refine Wp.ite (fun hi => ?_) (fun _ => H y hy)
    have m1 := rd_mem (c := b) (i := i - 1) (by omega) (by omega)
    have m2 := rd_mem (c := b) (i := i) (by omega) (by omega)
    have m3 := rd_mem (c := b) (i := i + 1) (by omega) (by omega)
    have v1 := hb.2.2.2 _ _ hc _ m1
    have v2 := hb.2.2.2 _ _ hc _ m2
    have v3 := hb.2.2.2 _ _ hc _ m3
    obtain ⟨q, e, q1, q2⟩ := divRound_g (a := rd b (i - 1) + 2 * rd b i + rd b (i + 1)) (b := 4) (by omega) (by omega) (by omega) (by omega)
    rw [w64 (n := 2 * rd b i) (by omega) (by omega), w64 (n := rd b (i - 1) + 2 * rd b i) (by omega) (by omega), w64 (n := rd b (i - 1) + 2 * rd b i + rd b (i + 1)) (by omega) (by omega)]
    refine Wp.pos (by omega) (Wp.pos (by omega) (Wp.pos (by omega) (Wp.pos (by omega) (Wp.pos (by omega) (Wp.pos (by omega) (Wp.calls e (Wp.pos (by omega) ?_)))))))
    refine smooth_l1 hc hl hb H d _ (i + 1) (SB_set hy i1 (by omega) (fun lo hi h => ?_)) (by omega) (by omega) (by omega)
    have w1 := hb.2.2.2 _ _ h _ m1
    have w2 := hb.2.2.2 _ _ h _ m2
    have w3 := hb.2.2.2 _ _ h _ m3
    omega
theorem clone_f (l : List Int) (h : l.length ≤ 100000) : slices_Clone_int64_int64.f l = some l := by
  simp only [slices_Clone_int64_int64.f, Option.bind_some]
  rw [if_pos (by simp; omega)]; simp
theorem smooth_l0 {c : List Int} (hc : ∀ x ∈ c, -2000 ≤ x ∧ x ≤ 3000) (hl : c.length ≤ 3072) {n : Int} (hn : n ≤ 1000) : ∀ (d : Nat) (y : List Int) (t : Int), SB c y → 0 ≤ t → n - t ≤ d → t ≤ 1000 →
    Wp (fun k => impl_SmoothCurve.l0 k y n t) (fun r => SB c r.1 ∧ r.2 = 0)
  | 0, y, t, hy, t0, t1, t2 => by
    refine Wp.step ?_
    simp only [impl_SmoothCurve.l0]
    exact Wp.neg (by omega) (Wp.now ⟨hy, rfl⟩)
  | d + 1, y, t, hy, t0, t1, t2 => by
    have l1 := hy.1
    refine Wp.step ?_
    simp only [impl_SmoothCurve.l0]
    refine Wp.ite (fun h => Wp.calls (clone_f y (by omega)) (smooth_l1 hc hl hy (fun z hz => ?_) c.length y 1 hy (by omega) (by omega) (by omega))) (fun _ => Wp.now ⟨hy, rfl⟩)
    rw [w64 (n := t + 1) (by omega) (by omega)]
    exact smooth_l0 hc hl hn d z (t + 1) hz (by omega) (by omega) (by omega)
theorem curveOk_f (c : List Int) : impl_curveOk.f c = some (decide (c.length ≤ 3072) && c.all (fun n => within_ n (-2000) 3000)) := by
  unfold impl_curveOk.f impl_allWithin.f
  by_cases h : c.length ≤ 3072
  · rw [if_pos (by omega), decide_eq_true h]; simp
  · rw [if_neg (by omega), decide_eq_false h]; rfl
theorem smooth_wp (c : List Int) (n : Int) : Wp (fun k => impl_SmoothCurve.f k c n) (fun r => r.2 = 0 → SB c r.1 ∧ c.length ≤ 3072) := by
  simp only [impl_SmoothCurve.f, curveOk_f, Option.bind_some, within_f]
  refine Wp.iteB (fun h => Wp.iteB (fun h2 => ?_) (fun _ => Wp.now (fun h => by simp at h))) (fun _ => Wp.now (fun h => by simp at h))
  rw [Bool.and_eq_true, decide_eq_true_eq] at h
  have hc : ∀ x ∈ c, -2000 ≤ x ∧ x ≤ 3000 := fun x hx => by have := List.all_eq_true.1 h.2 x hx; unfold within_ at this; simpa using this
  have hn : 0 ≤ n ∧ n ≤ 100 := by unfold within_ at h2; simpa using h2
  refine Wp.calls (clone_f c (by omega)) ((smooth_l0 hc h.1 (n := n) (by omega) n.toNat c 0 ⟨rfl, rfl, rfl, fun _ _ h => h⟩ (by omega) (by omega) (by omega)).mono (fun r hr _ => ⟨hr.1, h.1⟩))
/-! glides -/
theorem glide_l0 {a b n : Int} (ha : -2000 ≤ a ∧ a ≤ 3000) (hb : -2000 ≤ b ∧ b ≤ 3000) (hn : 1 ≤ n) (hn2 : n ≤ 64) : ∀ (d : Nat) (acc : List Int), acc.length + d = n.toNat → (∀ j : Int, 0 ≤ j → j < acc.length → impl_divRound.f (a * (n - j) + b * j) n = some (rd acc j)) →
    Wp (fun k => impl_GlideCurve.l0 k a b n acc n acc.length) (fun r => r.2 = 0 ∧ (r.1.length : Int) = n ∧ ∀ j : Int, 0 ≤ j → j < n → impl_divRound.f (a * (n - j) + b * j) n = some (rd r.1 j))
  | 0, acc, hl, h => by
    refine Wp.step ?_
    simp only [impl_GlideCurve.l0]
    exact Wp.neg (by omega) (Wp.now ⟨rfl, by dsimp only; omega, fun j j0 j1 => h j j0 (by omega)⟩)
  | d + 1, acc, hl, h => by
    have b1 : a * (n - acc.length) ≤ 3000 * (n - acc.length) := Int.mul_le_mul_of_nonneg_right (by omega) (by omega)
    have b2 : -2000 * (n - acc.length) ≤ a * (n - acc.length) := Int.mul_le_mul_of_nonneg_right (by omega) (by omega)
    have b3 : b * acc.length ≤ 3000 * acc.length := Int.mul_le_mul_of_nonneg_right (by omega) (by omega)
    have b4 : -2000 * acc.length ≤ b * acc.length := Int.mul_le_mul_of_nonneg_right (by omega) (by omega)
    obtain ⟨q, e, _⟩ := divRound_g (a := a * (n - acc.length) + b * acc.length) (b := n) (by omega) (by omega) (by omega) (by omega)
    refine Wp.step ?_
    simp only [impl_GlideCurve.l0]
    rw [w64 (n := n - (acc.length : Int)) (by omega) (by omega), w64 (n := a * (n - (acc.length : Int))) (by omega) (by omega), w64 (n := b * (acc.length : Int)) (by omega) (by omega), w64 (n := a * (n - (acc.length : Int)) + b * (acc.length : Int)) (by omega) (by omega), w64 (n := (acc.length : Int) + 1) (by omega) (by omega)]
    refine Wp.pos (by omega) (Wp.calls e (Wp.pos (by omega) ?_))
    rw [show (acc.length : Int) + 1 = ((acc ++ [q]).length : Nat) by simp]
    refine glide_l0 ha hb hn hn2 d _ (by simp; omega) (fun j j0 j1 => ?_)
    by_cases c : j < acc.length
    · rw [h j j0 c]
      congr 1
      unfold rd
      rw [List.getD_eq_getElem?_getD, List.getD_eq_getElem?_getD, List.getElem?_append_left (by omega)]
    · have ej : j = acc.length := by simp at j1; omega
      subst ej
      rw [e]
      congr 1
      simp [rd]
theorem lengthOk_b {n : Int} : decide (1 ≤ n ∧ n ≤ 64) = true ↔ 1 ≤ n ∧ n ≤ 64 := decide_eq_true_iff
theorem glide_wp (a b n : Int) : Wp (fun k => impl_GlideCurve.f k a b n) (fun r => r.2 = 0 → (-2000 ≤ a ∧ a ≤ 3000) ∧ (-2000 ≤ b ∧ b ≤ 3000) ∧ 1 ≤ n ∧ n ≤ 64 ∧ (r.1.length : Int) = n ∧ ∀ j : Int, 0 ≤ j → j < n → impl_divRound.f (a * (n - j) + b * j) n = some (rd r.1 j)) := by
  have bad : Wp (fun k => impl_GlideCurve.j0 k a b n true) (fun r => r.2 = 0 → (-2000 ≤ a ∧ a ≤ 3000) ∧ (-2000 ≤ b ∧ b ≤ 3000) ∧ 1 ≤ n ∧ n ≤ 64 ∧ (r.1.length : Int) = n ∧ ∀ j : Int, 0 ≤ j → j < n → impl_divRound.f (a * (n - j) + b * j) n = some (rd r.1 j)) :=
    Wp.step (by simp only [impl_GlideCurve.j0]; exact Wp.now (fun h => by simp at h))
  simp only [impl_GlideCurve.f, impl_curveNumber.f, within_f, lengthOk_f, Option.bind_some]
  refine Wp.iteB (fun h => Wp.iteB (fun h2 => ?_) (fun _ => bad)) (fun _ => bad)
  by_cases h3 : 1 ≤ n ∧ n ≤ 64
  · rw [decide_eq_true h3]
    have ha : -2000 ≤ a ∧ a ≤ 3000 := by unfold within_ at h; simpa using h
    have hb : -2000 ≤ b ∧ b ≤ 3000 := by unfold within_ at h2; simpa using h2
    refine Wp.step ?_
    simp only [impl_GlideCurve.j0]
    refine Wp.neg (by decide) ((glide_l0 ha hb h3.1 h3.2 n.toNat [] (by simp) (by simp; omega)).mono (fun r hr _ => ⟨ha, hb, h3.1, h3.2, hr.2⟩))
  · rw [decide_eq_false h3]; exact bad
/-! notes put before others, trills -/
def code (m : List S40) (k p l : Int) : Int := if vm m = true then if 0 ≤ k ∧ k ≤ (m.length : Int) - 1 then if -12 ≤ p ∧ p ≤ 23 then if 1 ≤ l ∧ l ≤ 64 then 0 else 2 else 2 else 2 else 1
theorem code_wp (m : List S40) (hm : m.length ≤ 1000) (k0 p l : Int) : Wp (fun k => impl_noteCode.f k m k0 p l) (fun r => r = code m k0 p l) := by
  simp only [impl_noteCode.f, impl_Note_175.f, within_f, pitchOk_f, lengthOk_f, Option.bind_some]
  rw [w64 (n := (m.length : Int) - 1) (by omega) (by omega)]
  refine Wp.val (valid_wp m (by omega)) ?_
  unfold code
  refine Wp.iteB (fun h => ?_) (fun h => Wp.now (by rw [if_neg (by rw [h]; decide)]))
  rw [if_pos h]
  refine Wp.iteB (fun h1 => ?_) (fun h1 => Wp.now ?_)
  · have g1 : 0 ≤ k0 ∧ k0 ≤ (m.length : Int) - 1 := by unfold within_ at h1; simpa using h1
    rw [if_pos g1]
    refine Wp.iteB (fun h2 => ?_) (fun h2 => Wp.now ?_)
    · have g2 : -12 ≤ p ∧ p ≤ 23 := by simpa using h2
      rw [if_pos g2]
      refine Wp.iteB (fun h3 => Wp.now ?_) (fun h3 => Wp.now ?_)
      · have g3 : 1 ≤ l ∧ l ≤ 64 := by simpa using h3
        rw [if_pos g3]
      · have g3 : ¬ (1 ≤ l ∧ l ≤ 64) := by simpa using h3
        rw [if_neg g3]
    · have g2 : ¬ (-12 ≤ p ∧ p ≤ 23) := by simpa using h2
      rw [if_neg g2]
  · have g1 : ¬ (0 ≤ k0 ∧ k0 ≤ (m.length : Int) - 1) := by unfold within_ at h1; simpa using h1
    rw [if_neg g1]
theorem code_zero {m : List S40} {k p l : Int} (h : code m k p l = 0) : vm m = true ∧ 0 ≤ k ∧ k < m.length ∧ -12 ≤ p ∧ p ≤ 23 ∧ 1 ≤ l ∧ l ≤ 64 := by
  unfold code at h
  split at h
  · rename_i h1
    split at h
    · split at h
      · split at h
        · exact ⟨h1, by omega, by omega, by omega, by omega, by omega, by omega⟩
        · omega
      · omega
    · omega
  · omega
def sm (m : List S40) : Int := (m.map (·.f1)).sum
theorem sm_append (a b : List S40) : sm (a ++ b) = sm a + sm b := by simp [sm]
theorem sm_parts {m : List S40} {k : Int} (k0 : 0 ≤ k) (k1 : k < m.length) : sm m = sm (m.take k.toNat) + ((rd_T40 m k).f1 + sm (m.drop (k + 1).toNat)) := by
  conv => lhs; rw [← List.take_append_drop k.toNat m]
  rw [sm_append, rd_T40_drop k0 k1]
  simp [sm]
theorem dur_of {m : List S40} (hm : m.length ≤ 10000) : Wp (fun k => spec_DurationOf.f k m) (fun r => r = if vm m = true then (sm m, 0) else (0, 1)) := by
  refine (durationOf_wp m hm).mono ?_
  rintro r rfl
  by_cases h : vm m = true
  · rw [if_pos h, if_pos h, (vm_units h).1]; rfl
  · rw [if_neg h, if_neg h]
theorem vn_mk {p l : Int} (h1 : -12 ≤ p) (h2 : p ≤ 23) (h3 : 1 ≤ l) (h4 : l ≤ 64) : vNote ⟨p, l⟩ = true := decide_eq_true ⟨h1, h2, h3, h4⟩
theorem vm_of {m : List S40} (hl : m.length ≤ 48) (h : ∀ x ∈ m, vNote x = true) : vm m = true := by
  unfold vm; rw [Bool.and_eq_true]; exact ⟨decide_eq_true hl, List.all_eq_true.2 h⟩
theorem vm_all {m : List S40} (h : vm m = true) : ∀ x ∈ m, vNote x = true := by
  unfold vm at h; rw [Bool.and_eq_true] at h; exact List.all_eq_true.1 h.2
/-- Three parts put together, the middle one new. -/
theorem three_wp {m t : List S40} (hv : vm m = true) {k : Int} (k0 : 0 ≤ k) (k1 : k < m.length) (ht : ∀ x ∈ t, vNote x = true) (htl : t.length ≤ 64) :
    Wp (fun n => (impl_Note_99.f n [m.take k.toNat, t, m.drop (k + 1).toNat]).bind fun t403 => ((impl_checkedMelody.f t403).bind fun bt406 => (some (bt406.1, bt406.2))))
      (fun r => r.2 ≠ 0 ∧ r.1 = [] ∨ r = (m.take k.toNat ++ (t ++ m.drop (k + 1).toNat), 0) ∧ vm r.1 = true) := by
  have hl := vm_len hv
  refine Wp.val (concat_wp _ (by simp) (fun x hx => ?_)) ?_
  · simp only [List.mem_cons, List.not_mem_nil, or_false] at hx
    rcases hx with rfl | rfl | rfl
    · simp; omega
    · omega
    · simp; omega
  · have hn : ∀ x ∈ [m.take k.toNat, t, m.drop (k + 1).toNat].flatten, vNote x = true := by
      intro x hx
      simp only [List.flatten_cons, List.flatten_nil, List.append_nil, List.mem_append] at hx
      rcases hx with h | h | h
      · exact vm_all hv x (List.mem_of_mem_take h)
      · exact ht x h
      · exact vm_all hv x (List.mem_of_mem_drop h)
    refine Wp.calls (checked_wp _ hn) (Wp.now ?_)
    by_cases c : [m.take k.toNat, t, m.drop (k + 1).toNat].flatten.length ≤ 48
    · rw [if_pos c]
      exact .inr ⟨by simp, vm_of c hn⟩
    · rw [if_neg c]
      exact .inl ⟨by decide, rfl⟩
theorem grace_wp (m : List S40) (hm : m.length ≤ 1000) (k p l : Int) : Wp (fun n => impl_GraceNotes.f n m k p l) (fun r => r.2 = 0 → vm m = true ∧ vm r.1 = true ∧ sm r.1 = sm m ∧ r.1.length = m.length + 1) := by
  simp only [impl_GraceNotes.f]
  refine Wp.val (code_wp m hm k p l) (Wp.ite (fun h => ?_) (fun h => Wp.now (fun h2 => absurd h2 h)))
  obtain ⟨hv, k0, k1, p0, p1, l0, l1⟩ := code_zero h
  have hn := vm_note hv (rd_T40_mem (i := k) k0 k1)
  have hl := vm_len hv
  refine Wp.pos k0 (Wp.pos k1 (Wp.ite (fun _ => Wp.now (fun h => by simp at h)) (fun hlt => ?_)))
  rw [w64 (n := k + 1) (by omega) (by omega), w64 (n := (rd_T40 m k).f1 - l) (by omega) (by omega)]
  refine Wp.pos (by omega) (Wp.pos (by omega) (Wp.pos (by omega) ((three_wp hv k0 k1 (t := [⟨p, l⟩, ⟨(rd_T40 m k).f0, (rd_T40 m k).f1 - l⟩]) (fun x hx => ?_) (by simp)).mono ?_)))
  · simp only [List.mem_cons, List.not_mem_nil, or_false] at hx
    rcases hx with rfl | rfl
    · exact vn_mk p0 p1 l0 l1
    · exact vn_mk hn.1 hn.2.1 (by omega) (by omega)
  · rintro r (⟨h1, _⟩ | ⟨rfl, h2⟩) h0
    · exact absurd h0 h1
    · refine ⟨hv, h2, ?_, by simp; omega⟩
      dsimp only
      rw [sm_append, sm_append, sm_parts k0 k1]
      simp [sm]; omega
theorem trill_l0 {m : List S40} (hv : vm m = true) {k p l : Int} (k0 : 0 ≤ k) (k1 : k < m.length) (hp : -12 ≤ p ∧ p ≤ 23) (hl : 1 ≤ l ∧ l ≤ 64) {n q : Int} (hq : -12 ≤ q ∧ q ≤ 23) (hn : n ≤ 64) : ∀ (d : Nat) (acc : List S40), acc.length + d = n.toNat → (∀ x ∈ acc, vNote x = true) → sm acc = l * acc.length →
    Wp (fun z => impl_TrillNote.l0 z m k p l acc n acc.length q ((rd_T40 m k).f1)) (fun r => r.2 ≠ 0 ∧ r.1 = [] ∨ r.2 = 0 ∧ vm r.1 = true ∧ sm r.1 = sm (m.take k.toNat) + (l * n.toNat + sm (m.drop (k + 1).toNat)))
  | 0, acc, ha, h1, h2 => by
    have hll := vm_len hv
    refine Wp.step ?_
    simp only [impl_TrillNote.l0]
    rw [w64 (n := k + 1) (by omega) (by omega)]
    refine Wp.neg (by omega) (Wp.pos k0 (Wp.pos (by omega) (Wp.pos (by omega) (Wp.pos (by omega) ((three_wp hv k0 k1 h1 (by omega)).mono ?_)))))
    rintro r (h | ⟨rfl, h⟩)
    · exact .inl h
    · refine .inr ⟨rfl, h, ?_⟩
      dsimp only
      rw [sm_append, sm_append, h2, show acc.length = n.toNat by omega]
  | d + 1, acc, ha, h1, h2 => by
    have t0 := Int.tmod_nonneg (a := (acc.length : Int)) 2 (by omega)
    have t1 := Int.tmod_lt_of_pos (acc.length : Int) (b := 2) (by omega)
    have hr : -12 ≤ rd [q, p] (Int.tmod (acc.length : Int) 2) ∧ rd [q, p] (Int.tmod (acc.length : Int) 2) ≤ 23 := by
      have := rd_mem (c := [q, p]) t0 (by simpa using t1)
      simp only [List.mem_cons, List.not_mem_nil, or_false] at this
      rcases this with e | e <;> rw [e] <;> omega
    refine Wp.step ?_
    simp only [impl_TrillNote.l0]
    rw [w64 (n := (acc.length : Int) + 1) (by omega) (by omega)]
    refine Wp.pos (by omega) (Wp.pos t0 (Wp.pos t1 (Wp.pos (by omega) ?_)))
    rw [show (acc.length : Int) + 1 = ((acc ++ [(⟨rd [q, p] (Int.tmod (acc.length : Int) 2), l⟩ : S40)]).length : Nat) by simp]
    refine trill_l0 hv k0 k1 hp hl hq hn d _ (by simp; omega) (fun x hx => ?_) ?_
    · rcases List.mem_append.1 hx with h | h
      · exact h1 x h
      · rw [List.mem_singleton.1 h]; exact vn_mk hr.1 hr.2 hl.1 hl.2
    · rw [sm_append, h2]
      simp only [List.length_append, List.length_singleton, sm, List.map_cons, List.map_nil, List.sum_cons, List.sum_nil]
      rw [show (((acc.length + 1 : Nat)) : Int) = (acc.length : Int) + 1 by omega, Int.mul_add]
      omega
theorem trill_wp (m : List S40) (hm : m.length ≤ 1000) (k p l : Int) : Wp (fun n => impl_TrillNote.f n m k p l) (fun r => r.2 ≠ 0 ∧ r.1 = [] ∨ r.2 = 0 ∧ vm m = true ∧ vm r.1 = true ∧ sm r.1 = sm m) := by
  simp only [impl_TrillNote.f]
  refine Wp.val (code_wp m hm k p l) (Wp.ite (fun h => ?_) (fun h => Wp.now (.inl ⟨h, rfl⟩)))
  obtain ⟨hv, k0, k1, p0, p1, l0, l1⟩ := code_zero h
  have hn := vm_note hv (rd_T40_mem (i := k) k0 k1)
  have hl := vm_len hv
  have bad : Wp (fun n => impl_TrillNote.j0 n m k p l true ((rd_T40 m k).f0) ((rd_T40 m k).f1)) (fun r => r.2 ≠ 0 ∧ r.1 = [] ∨ r.2 = 0 ∧ vm m = true ∧ vm r.1 = true ∧ sm r.1 = sm m) :=
    Wp.step (by simp only [impl_TrillNote.j0]; exact Wp.now (.inl ⟨by decide, rfl⟩))
  refine Wp.pos k0 (Wp.pos k1 (Wp.ite (fun _ => bad) (fun hlt => Wp.neg (by omega) ?_)))
  by_cases hz : Int.tmod (rd_T40 m k).f1 l = 0
  · rw [show (Int.tmod (rd_T40 m k).f1 l != 0) = false by rw [hz]; rfl]
    have ee : Int.tmod (rd_T40 m k).f1 l = (rd_T40 m k).f1 % l := Int.tmod_eq_emod_of_nonneg (by omega)
    have ed : Int.tdiv (rd_T40 m k).f1 l = (rd_T40 m k).f1 / l := Int.tdiv_eq_ediv_of_nonneg (by omega)
    have hdm := Int.mul_ediv_add_emod (rd_T40 m k).f1 l
    have hd0 : 0 ≤ (rd_T40 m k).f1 / l := Int.ediv_nonneg (by omega) (by omega)
    have hd1 : (rd_T40 m k).f1 / l ≤ (rd_T40 m k).f1 := Int.ediv_le_self _ (by omega)
    refine Wp.step ?_
    simp only [impl_TrillNote.j0]
    rw [ed, w64 (n := (rd_T40 m k).f1 / l) (by omega) (by omega)]
    refine Wp.neg (by decide) (Wp.neg (by omega) ((trill_l0 hv k0 k1 ⟨p0, p1⟩ ⟨l0, l1⟩ (n := (rd_T40 m k).f1 / l) (q := (rd_T40 m k).f0) ⟨hn.1, hn.2.1⟩ (by omega) ((rd_T40 m k).f1 / l).toNat [] (by simp) (by simp) (by simp [sm])).mono ?_))
    rintro r (h | ⟨h9, h1, h2⟩)
    · exact .inl h
    · refine .inr ⟨h9, hv, h1, ?_⟩
      rw [h2, sm_parts k0 k1, show (((((rd_T40 m k).f1 / l).toNat : Nat)) : Int) = (rd_T40 m k).f1 / l by omega]
      omega
  · rw [show (Int.tmod (rd_T40 m k).f1 l != 0) = true by simp [hz]]
    exact bad
end Go.Proofs.Ytomeeimjlagbbaa.Pure
