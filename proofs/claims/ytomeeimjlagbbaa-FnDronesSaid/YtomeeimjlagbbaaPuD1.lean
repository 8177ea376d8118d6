/- Plain facts: units of melodies, consonances and their sums. -/
import Derived.Test.YtomeeimjlagbbaaPuD0
import Derived.Test.YtomeeimjlagbbaaPDx1
import Derived.Test.YtomeeimjlagbbaaPDx5
import Derived.Test.YtomeeimjlagbbaaPDx6
import Derived.Test.YtomeeimjlagbbaaPDx7
import Derived.Test.YtomeeimjlagbbaaPDx8
import Derived.Test.YtomeeimjlagbbaaPDx9
import Derived.Test.YtomeeimjlagbbaaPDx10
import Derived.Test.YtomeeimjlagbbaaPDx11
import Derived.Test.YtomeeimjlagbbaaPDx13
import Derived.Test.YtomeeimjlagbbaaPDx14
namespace Go.Proofs.Ytomeeimjlagbbaa.Pure
open Go.RowKit Go.Proofs.Ytomeeimjlagbbaa.PD Go.Proofs.YtomeeimjlagbbaaW.PrintWords Go.Proofs.YtomeeimjlagbbaaW.PrintLast
set_option linter.unusedSimpArgs false
set_option linter.unusedVariables false
theorem rd_T40_get {c : List S40} {i : Int} (h0 : 0 ≤ i) (h1 : i < c.length) : rd_T40 c i = c[i.toNat]'(by omega) := by
  simp [rd_T40, List.getD_eq_getElem?_getD, List.getElem?_eq_getElem (show i.toNat < c.length by omega)]
theorem rd_T40_mem {c : List S40} {i : Int} (h0 : 0 ≤ i) (h1 : i < c.length) : rd_T40 c i ∈ c := by
  rw [rd_T40_get h0 h1]; exact List.getElem_mem _
theorem rd_T40_drop {c : List S40} {i : Int} (h0 : 0 ≤ i) (h1 : i < c.length) : c.drop i.toNat = rd_T40 c i :: c.drop (i + 1).toNat := by
  rw [rd_T40_get h0 h1, show (i + 1).toNat = i.toNat + 1 by omega]
  exact List.drop_eq_getElem_cons (by omega)
theorem rd_L3_get {c : List (List S40)} {i : Int} (h0 : 0 ≤ i) (h1 : i < c.length) : rd_L3 c i = c[i.toNat]'(by omega) := by
  simp [rd_L3, List.getD_eq_getElem?_getD, List.getElem?_eq_getElem (show i.toNat < c.length by omega)]
theorem rd_L3_mem {c : List (List S40)} {i : Int} (h0 : 0 ≤ i) (h1 : i < c.length) : rd_L3 c i ∈ c := by
  rw [rd_L3_get h0 h1]; exact List.getElem_mem _
theorem rd_L3_drop {c : List (List S40)} {i : Int} (h0 : 0 ≤ i) (h1 : i < c.length) : c.drop i.toNat = rd_L3 c i :: c.drop (i + 1).toNat := by
  rw [rd_L3_get h0 h1, show (i + 1).toNat = i.toNat + 1 by omega]
  exact List.drop_eq_getElem_cons (by omega)

def vNote (x : S40) : Bool := decide (-12 ≤ x.f0 ∧ x.f0 ≤ 23 ∧ 1 ≤ x.f1 ∧ x.f1 ≤ 64)
def vm (m : List S40) : Bool := decide (m.length ≤ 48) && m.all vNote
theorem l03Pitch_f (a : Int) : spec_l03Pitch.f a = some (decide (-12 ≤ a ∧ a ≤ 23)) := by
  unfold spec_l03Pitch.f spec_l00In.f
  by_cases h : a ≥ -12
  · simp only [if_pos h, Option.bind_some]; congr 1; exact decide_eq_decide.2 ⟨fun x => ⟨h, x⟩, fun x => x.2⟩
  · simp only [if_neg h, Option.bind_some]; congr 1; symm; exact decide_eq_false (fun x => h x.1)
theorem l09Length_f (a : Int) : spec_l09Length.f a = some (decide (1 ≤ a ∧ a ≤ 64)) := by
  unfold spec_l09Length.f spec_l00In.f
  by_cases h : a ≥ 1
  · simp only [if_pos h, Option.bind_some]; congr 1; exact decide_eq_decide.2 ⟨fun x => ⟨h, x⟩, fun x => x.2⟩
  · simp only [if_neg h, Option.bind_some]; congr 1; symm; exact decide_eq_false (fun x => h x.1)
theorem pitchOk_f (a : Int) : impl_pitchOk.f a = some (decide (-12 ≤ a ∧ a ≤ 23)) := by
  unfold impl_pitchOk.f impl_within.f
  by_cases h : a ≥ -12
  · simp only [if_pos h, Option.bind_some]; congr 1; exact decide_eq_decide.2 ⟨fun x => ⟨h, x⟩, fun x => x.2⟩
  · simp only [if_neg h, Option.bind_some]; congr 1; symm; exact decide_eq_false (fun x => h x.1)
theorem lengthOk_f (a : Int) : impl_lengthOk.f a = some (decide (1 ≤ a ∧ a ≤ 64)) := by
  unfold impl_lengthOk.f impl_within.f
  by_cases h : a ≥ 1
  · simp only [if_pos h, Option.bind_some]; congr 1; exact decide_eq_decide.2 ⟨fun x => ⟨h, x⟩, fun x => x.2⟩
  · simp only [if_neg h, Option.bind_some]; congr 1; symm; exact decide_eq_false (fun x => h x.1)
theorem l09Ok_l0 (m : List S40) (hm : m.length ≤ 10000) : ∀ (d : Nat) (i : Int), 0 ≤ i → i + d = m.length → Wp (fun k => spec_l09Ok.l0 k m i) (fun r => r = ((m.drop i.toNat).all vNote && decide (m.length ≤ 48)))
  | 0, i, h0, h1 => by
    refine Wp.step ?_
    simp only [spec_l09Ok.l0]
    refine Wp.neg (by omega) (Wp.now ?_)
    rw [List.drop_eq_nil_of_le (by omega)]; simp only [List.all_nil, Bool.true_and]; exact decide_eq_decide.2 (by omega)
  | d + 1, i, h0, h1 => by
    refine Wp.step ?_
    simp only [spec_l09Ok.l0, l03Pitch_f, l09Length_f, Option.bind_some]
    refine Wp.pos (by omega) (Wp.pos h0 ?_)
    simp (disch := omega) only [w64]
    rw [rd_T40_drop h0 (by omega), List.all_cons]
    refine Wp.iteB (fun e => Wp.iteB (fun e' => ?_) (fun e' => ?_)) (fun e => ?_)
    · rw [decide_eq_true_eq] at e e'
      rw [show vNote (rd_T40 m i) = true from decide_eq_true ⟨e.1, e.2, e'.1, e'.2⟩, Bool.true_and]
      exact l09Ok_l0 m hm d (i + 1) (by omega) (by omega)
    · rw [decide_eq_false_iff_not] at e'
      rw [show vNote (rd_T40 m i) = false from decide_eq_false (fun h => e' ⟨h.2.2.1, h.2.2.2⟩)]
      exact Wp.now rfl
    · rw [decide_eq_false_iff_not] at e
      rw [show vNote (rd_T40 m i) = false from decide_eq_false (fun h => e ⟨h.1, h.2.1⟩)]
      exact Wp.now rfl
theorem l09Ok_wp (m : List S40) (hm : m.length ≤ 10000) : Wp (fun k => spec_l09Ok.f k m) (fun r => r = vm m) := by
  simp only [spec_l09Ok.f]
  refine (l09Ok_l0 m hm m.length 0 (by omega) (by omega)).mono ?_
  rintro r rfl
  simp [vm, Bool.and_comm]
theorem valid_l0 (m : List S40) (hm : m.length ≤ 10000) : ∀ (d : Nat) (i : Int), 0 ≤ i → i + d = m.length → Wp (fun k => impl_ValidMelody.l0 k m m.length i) (fun r => r = (m.drop i.toNat).all vNote)
  | 0, i, h0, h1 => by
    refine Wp.step ?_
    simp only [impl_ValidMelody.l0]
    refine Wp.neg (by omega) (Wp.now ?_)
    rw [List.drop_eq_nil_of_le (by omega)]; simp only [List.all_nil]
  | d + 1, i, h0, h1 => by
    refine Wp.step ?_
    simp only [impl_ValidMelody.l0, pitchOk_f, lengthOk_f, Option.bind_some]
    refine Wp.pos (by omega) (Wp.pos h0 (Wp.pos (by omega) ?_))
    simp (disch := omega) only [w64]
    rw [rd_T40_drop h0 (by omega), List.all_cons]
    refine Wp.iteB (fun e => Wp.iteB (fun e' => ?_) (fun e' => ?_)) (fun e => ?_)
    · rw [decide_eq_true_eq] at e e'
      rw [show vNote (rd_T40 m i) = true from decide_eq_true ⟨e.1, e.2, e'.1, e'.2⟩, Bool.true_and]
      exact valid_l0 m hm d (i + 1) (by omega) (by omega)
    · rw [decide_eq_false_iff_not] at e'
      rw [show vNote (rd_T40 m i) = false from decide_eq_false (fun h => e' ⟨h.2.2.1, h.2.2.2⟩)]
      exact Wp.now rfl
    · rw [decide_eq_false_iff_not] at e
      rw [show vNote (rd_T40 m i) = false from decide_eq_false (fun h => e ⟨h.1, h.2.1⟩)]
      exact Wp.now rfl
theorem valid_wp (m : List S40) (hm : m.length ≤ 10000) : Wp (fun k => impl_ValidMelody.f k m) (fun r => r = vm m) := by
  simp only [impl_ValidMelody.f]
  refine Wp.ite (fun h => Wp.now ?_) (fun h => (valid_l0 m hm m.length 0 (by omega) (by omega)).mono ?_)
  · unfold vm; rw [decide_eq_false (by omega)]; rfl
  · rintro r rfl
    unfold vm; rw [decide_eq_true (by omega)]; simp
theorem vm_len {m : List S40} (h : vm m = true) : m.length ≤ 48 := by unfold vm at h; simp at h; exact h.1
theorem vm_note {m : List S40} (h : vm m = true) {x : S40} (hx : x ∈ m) : -12 ≤ x.f0 ∧ x.f0 ≤ 23 ∧ 1 ≤ x.f1 ∧ x.f1 ≤ 64 := by
  unfold vm at h
  rw [Bool.and_eq_true] at h
  have := List.all_eq_true.1 h.2 x hx
  unfold vNote at this
  simpa using this
def dok (m : List S40) : Bool := vm m && decide (0 < m.length)
theorem droneOk_wp (m : List S40) (hm : m.length ≤ 10000) : Wp (fun k => impl_droneOk.f k m) (fun r => r = dok m) := by
  simp only [impl_droneOk.f]
  refine Wp.val (valid_wp m hm) (Wp.iteB (fun e => Wp.now ?_) (fun e => Wp.now ?_))
  · unfold dok; rw [e, Bool.true_and]; exact decide_eq_decide.2 (by omega)
  · unfold dok; rw [e]; rfl
/-! units -/
def units (m : List S40) : List Int := m.flatMap fun x => List.replicate x.f1.toNat x.f0
theorem units_cons (x : S40) (m : List S40) : units (x :: m) = List.replicate x.f1.toNat x.f0 ++ units m := by simp [units]
theorem units_l1 {m : List S40} {n : Nat} {i b p q : Int} {Q : List Int → Prop} : ∀ (d : Nat) (acc : List Int) (j : Int), j + d = b → 0 ≤ j → b ≤ 1000 → acc.length + d ≤ 100000 →
    Wp (fun k => impl_unitsOf.l0 k (acc ++ List.replicate d p) m n (wrap64 (i + 1))) Q → Wp (fun k => impl_unitsOf.l1 k acc m n i b j p q) Q
  | 0, acc, j, h0, h1, h2, h3, h => by
    refine Wp.step ?_
    simp only [impl_unitsOf.l1]
    refine Wp.neg (by omega) ?_
    simpa using h
  | d + 1, acc, j, h0, h1, h2, h3, h => by
    refine Wp.step ?_
    simp only [impl_unitsOf.l1]
    refine Wp.pos (by omega) (Wp.pos (by omega) ?_)
    rw [w64 (n := j + 1) (by omega) (by omega)]
    refine units_l1 d _ (j + 1) (by omega) (by omega) h2 (by simp; omega) ?_
    rw [List.append_assoc, show [p] ++ List.replicate d p = List.replicate (d + 1) p from by simp [List.replicate_succ]]
    exact h
theorem units_l0 {m : List S40} (hv : vm m = true) : ∀ (d : Nat) (acc : List Int) (i : Int), 0 ≤ i → i + d = m.length → acc.length + 64 * d ≤ 10000 →
    Wp (fun k => impl_unitsOf.l0 k acc m m.length i) (fun r => r = acc ++ units (m.drop i.toNat))
  | 0, acc, i, h0, h1, h2 => by
    refine Wp.step ?_
    simp only [impl_unitsOf.l0]
    refine Wp.neg (by omega) (Wp.now ?_)
    rw [List.drop_eq_nil_of_le (by omega)]; simp [units]
  | d + 1, acc, i, h0, h1, h2 => by
    have hl := vm_len hv
    have hn := vm_note hv (rd_T40_mem (i := i) h0 (by omega))
    refine Wp.step ?_
    simp only [impl_unitsOf.l0]
    refine Wp.pos (by omega) (Wp.pos h0 (Wp.pos (by omega) ?_))
    refine units_l1 (rd_T40 m i).f1.toNat acc 0 (by omega) (by omega) (by omega) (by omega) ?_
    rw [w64 (n := i + 1) (by omega) (by omega), rd_T40_drop h0 (by omega), units_cons, ← List.append_assoc]
    exact units_l0 hv d _ (i + 1) (by omega) (by omega) (by simp; omega)
theorem units_wp {m : List S40} (hv : vm m = true) : Wp (fun k => impl_unitsOf.f k m) (fun r => r = units m) := by
  simp only [impl_unitsOf.f]
  refine (units_l0 hv m.length [] 0 (by omega) (by omega) (by have := vm_len hv; simp; omega)).mono ?_
  rintro r rfl; simp
theorem units_len : ∀ (m : List S40), (∀ x ∈ m, 0 ≤ x.f1 ∧ x.f1 ≤ 64) → ((units m).length : Int) = (m.map (·.f1)).sum ∧ (units m).length ≤ 64 * m.length
  | [], _ => by simp [units]
  | x :: m, h => by
    have ih := units_len m (fun y hy => h y (List.mem_cons_of_mem _ hy))
    have := h x List.mem_cons_self
    rw [units_cons]
    simp only [List.length_append, List.length_replicate, List.map_cons, List.sum_cons, List.length_cons]
    omega
theorem units_mem {m : List S40} (hv : vm m = true) {p : Int} (h : p ∈ units m) : -12 ≤ p ∧ p ≤ 23 := by
  unfold units at h
  obtain ⟨x, hx, hp⟩ := List.mem_flatMap.1 h
  have := vm_note hv hx
  rw [List.eq_of_mem_replicate hp]; omega
theorem vm_units {m : List S40} (hv : vm m = true) : ((units m).length : Int) = (m.map (·.f1)).sum ∧ (units m).length ≤ 3072 := by
  have := units_len m (fun x hx => by have := vm_note hv hx; omega)
  have := vm_len hv
  omega
theorem dok_units {m : List S40} (hd : dok m = true) : 1 ≤ (units m).length := by
  unfold dok at hd
  rw [Bool.and_eq_true, decide_eq_true_eq] at hd
  obtain ⟨x, m', rfl⟩ : ∃ x m', m = x :: m' := by cases m with | nil => simp at hd | cons x m' => exact ⟨x, m', rfl⟩
  have := vm_note hd.1 (List.mem_cons_self (a := x) (l := m'))
  rw [units_cons]; simp; omega
theorem dur_l0 {m : List S40} (hv : vm m = true) : ∀ (d : Nat) (acc i : Int), 0 ≤ i → i + d = m.length → 0 ≤ acc → acc + 64 * d ≤ 10000 →
    Wp (fun k => impl_durationOf.l0 k acc m m.length i) (fun r => r = acc + ((m.drop i.toNat).map (·.f1)).sum)
  | 0, acc, i, h0, h1, h2, h3 => by
    refine Wp.step ?_
    simp only [impl_durationOf.l0]
    refine Wp.neg (by omega) (Wp.now ?_)
    rw [List.drop_eq_nil_of_le (by omega)]; simp
  | d + 1, acc, i, h0, h1, h2, h3 => by
    have hl := vm_len hv
    have hn := vm_note hv (rd_T40_mem (i := i) h0 (by omega))
    refine Wp.step ?_
    simp only [impl_durationOf.l0]
    refine Wp.pos (by omega) (Wp.pos h0 (Wp.pos (by omega) ?_))
    simp (disch := omega) only [w64]
    rw [rd_T40_drop h0 (by omega), List.map_cons, List.sum_cons, ← Int.add_assoc]
    exact dur_l0 hv d _ (i + 1) (by omega) (by omega) (by omega) (by omega)
theorem dur_wp {m : List S40} (hv : vm m = true) : Wp (fun k => impl_durationOf.f k m) (fun r => r = (units m).length) := by
  simp only [impl_durationOf.f]
  refine (dur_l0 hv m.length 0 0 (by omega) (by omega) (by omega) (by have := vm_len hv; omega)).mono ?_
  rintro r rfl; have := vm_units hv; simp [this]
theorem sum9_l0 {m : List S40} (hv : vm m = true) : ∀ (d : Nat) (acc i : Int), 0 ≤ i → i + d = m.length → 0 ≤ acc → acc + 64 * d ≤ 10000 →
    Wp (fun k => spec_l09Sum.l0 k m acc i) (fun r => r = acc + ((m.drop i.toNat).map (·.f1)).sum)
  | 0, acc, i, h0, h1, h2, h3 => by
    refine Wp.step ?_
    simp only [spec_l09Sum.l0]
    refine Wp.neg (by omega) (Wp.now ?_)
    rw [List.drop_eq_nil_of_le (by omega)]; simp
  | d + 1, acc, i, h0, h1, h2, h3 => by
    have hl := vm_len hv
    have hn := vm_note hv (rd_T40_mem (i := i) h0 (by omega))
    refine Wp.step ?_
    simp only [spec_l09Sum.l0]
    refine Wp.pos (by omega) (Wp.pos h0 ?_)
    simp (disch := omega) only [w64]
    rw [rd_T40_drop h0 (by omega), List.map_cons, List.sum_cons, ← Int.add_assoc]
    exact sum9_l0 hv d _ (i + 1) (by omega) (by omega) (by omega) (by omega)
theorem durationOf_wp (m : List S40) (hm : m.length ≤ 10000) : Wp (fun k => spec_DurationOf.f k m) (fun r => r = if vm m = true then (((units m).length : Int), 0) else (0, 1)) := by
  simp only [spec_DurationOf.f]
  refine Wp.val (l09Ok_wp m hm) (Wp.iteB (fun hv => ?_) (fun hv => ?_))
  · simp only [spec_l09Sum.f]
    refine Wp.call (sum9_l0 hv m.length 0 0 (by omega) (by omega) (by omega) (by have := vm_len hv; omega)) ?_
    rintro r rfl
    refine Wp.now ?_
    rw [if_pos hv]; have := vm_units hv; simp [this]
  · rw [hv]; exact Wp.now rfl
/-! consonances -/
def cs (a b : Int) : Int := rd [100, 0, 20, 50, 60, 80, 10, 90, 45, 55, 30, 15] (Int.tmod (mx (a - b) (-(a - b))) 12)
theorem cs_comm (a b : Int) : cs a b = cs b a := by
  unfold cs
  rw [show mx (a - b) (-(a - b)) = mx (b - a) (-(b - a)) by unfold mx; omega]
theorem tmod12 (a : Int) (h : 0 ≤ a) : 0 ≤ Int.tmod a 12 ∧ Int.tmod a 12 < 12 := ⟨Int.tmod_nonneg _ h, Int.tmod_lt_of_pos _ (by omega)⟩
theorem cs_bd (a b : Int) : 0 ≤ cs a b ∧ cs a b ≤ 100 := by
  unfold cs
  have h := tmod12 (mx (a - b) (-(a - b))) (by unfold mx; omega)
  generalize Int.tmod (mx (a - b) (-(a - b))) 12 = x at h
  have hx : x = 0 ∨ x = 1 ∨ x = 2 ∨ x = 3 ∨ x = 4 ∨ x = 5 ∨ x = 6 ∨ x = 7 ∨ x = 8 ∨ x = 9 ∨ x = 10 ∨ x = 11 := by omega
  rcases hx with rfl | rfl | rfl | rfl | rfl | rfl | rfl | rfl | rfl | rfl | rfl | rfl <;> decide
theorem cons_f {a b : Int} (ha : -100 ≤ a ∧ a ≤ 100) (hb : -100 ≤ b ∧ b ≤ 100) : impl_consonance.f a b = some (cs a b) := by
  unfold impl_consonance.f impl_abs.f cs
  simp (disch := omega) only [w64, Option.bind_some]
  rw [if_pos (tmod12 _ (by unfold mx; omega)).1]
def conL (u v : List Int) (p : Int) (d : Nat) (t : Int) : List Int := match d with
  | 0 => []
  | d + 1 => cs (rd u t) (rd v (Int.tmod (p + t) v.length)) :: conL u v p d (t + 1)
theorem conL_len (u v : List Int) (p : Int) : ∀ (d : Nat) (t : Int), (conL u v p d t).length = d
  | 0, _ => rfl
  | d + 1, t => by simp [conL, conL_len u v p d]
theorem conL_bd (u v : List Int) (p : Int) : ∀ (d : Nat) (t : Int), ∀ x ∈ conL u v p d t, 0 ≤ x ∧ x ≤ 100
  | 0, _, x, h => by cases h
  | d + 1, t, x, h => by
    rcases List.mem_cons.1 h with rfl | h
    · exact cs_bd _ _
    · exact conL_bd u v p d (t + 1) x h
theorem conL_sum (u v : List Int) (p : Int) : ∀ (d : Nat) (t : Int), 0 ≤ (conL u v p d t).sum ∧ (conL u v p d t).sum ≤ 100 * d
  | 0, _ => by simp [conL]
  | d + 1, t => by
    have := conL_sum u v p d (t + 1)
    have := cs_bd (rd u t) (rd v (Int.tmod (p + t) v.length))
    simp only [conL, List.sum_cons]; omega
theorem con_l0 {u v : List Int} {p : Int} (hp : 0 ≤ p) (hp2 : p ≤ 10000) (hu : ∀ x ∈ u, -12 ≤ x ∧ x ≤ 23) (hv : ∀ x ∈ v, -12 ≤ x ∧ x ≤ 23) (hul : u.length ≤ 10000) (hv1 : 1 ≤ v.length) (hvl : v.length ≤ 10000) : ∀ (d : Nat) (acc : List Int) (t : Int), 0 ≤ t → t + d = u.length → acc.length ≤ t →
    Wp (fun k => impl_consonances.l0 k p v acc u u.length t) (fun r => r = acc ++ conL u v p d t)
  | 0, acc, t, h0, h1, h2 => by
    refine Wp.step ?_
    simp only [impl_consonances.l0]
    exact Wp.neg (by omega) (Wp.now (by simp [conL]))
  | d + 1, acc, t, h0, h1, h2 => by
    refine Wp.step ?_
    simp only [impl_consonances.l0]
    simp (disch := omega) only [w64]
    have hm1 := Int.tmod_nonneg (a := p + t) (v.length : Int) (by omega)
    have hm2 := Int.tmod_lt_of_pos (p + t) (b := (v.length : Int)) (by omega)
    refine Wp.pos (by omega) (Wp.pos h0 (Wp.pos (by omega) (Wp.neg (by omega) (Wp.pos hm1 (Wp.pos hm2 ?_)))))
    have a1 := hu _ (rd_mem (i := t) h0 (by omega))
    have a2 := hv _ (rd_mem hm1 hm2)
    refine Wp.calls (cons_f (by omega) (by omega)) (Wp.pos (by omega) ?_)
    simp only [conL]
    rw [show acc ++ cs (rd u t) (rd v (Int.tmod (p + t) v.length)) :: conL u v p d (t + 1) = (acc ++ [cs (rd u t) (rd v (Int.tmod (p + t) v.length))]) ++ conL u v p d (t + 1) by simp]
    exact con_l0 hp hp2 hu hv hul hv1 hvl d _ (t + 1) (by omega) (by omega) (by simp; omega)
def con (m dr : List S40) (p : Int) : List Int := conL (units m) (units dr) p (units m).length 0
theorem con_wp {m dr : List S40} (hm : vm m = true) (hd : dok dr = true) {p : Int} (hp : 0 ≤ p) (hp2 : p ≤ 10000) : Wp (fun k => impl_consonances.f k m dr p) (fun r => r = con m dr p) := by
  have hd1 : vm dr = true := by unfold dok at hd; rw [Bool.and_eq_true] at hd; exact hd.1
  have h1 := vm_units hm
  have h2 := vm_units hd1
  simp only [impl_consonances.f]
  refine Wp.val (units_wp hd1) (Wp.val (units_wp hm) ?_)
  refine (con_l0 hp hp2 (fun x hx => units_mem hm hx) (fun x hx => units_mem hd1 hx) (by omega) (dok_units hd) (by omega) (units m).length [] 0 (by omega) (by omega) (by simp)).mono ?_
  rintro r rfl; simp [con]
theorem con_len (m dr : List S40) (p : Int) : (con m dr p).length = (units m).length := conL_len _ _ _ _ _
theorem sum_l0 {l : List Int} (hb : ∀ x ∈ l, 0 ≤ x ∧ x ≤ 100) (hl : l.length ≤ 10000) : ∀ (d : Nat) (acc i : Int), 0 ≤ i → i + d = l.length → 0 ≤ acc → acc + 100 * d ≤ 100000000 →
    Wp (fun k => impl_sumOf.l0 k acc l l.length i) (fun r => r = acc + (l.drop i.toNat).sum)
  | 0, acc, i, h0, h1, h2, h3 => by
    refine Wp.step ?_
    simp only [impl_sumOf.l0]
    refine Wp.neg (by omega) (Wp.now ?_)
    rw [List.drop_eq_nil_of_le (by omega)]; simp
  | d + 1, acc, i, h0, h1, h2, h3 => by
    have hn := hb _ (rd_mem (i := i) h0 (by omega))
    refine Wp.step ?_
    simp only [impl_sumOf.l0]
    refine Wp.pos (by omega) (Wp.pos h0 (Wp.pos (by omega) ?_))
    simp (disch := omega) only [w64]
    rw [drop_cons h0 (by omega), List.sum_cons, ← Int.add_assoc]
    exact sum_l0 hb hl d _ (i + 1) (by omega) (by omega) (by omega) (by omega)
def S (m dr : List S40) (p : Int) : Int := (con m dr p).sum
theorem S_bd (m dr : List S40) (p : Int) : 0 ≤ S m dr p ∧ S m dr p ≤ 100 * (units m).length := conL_sum _ _ _ _ _
theorem sum_wp {m dr : List S40} (hm : vm m = true) (p : Int) : Wp (fun k => impl_sumOf.f k (con m dr p)) (fun r => r = S m dr p) := by
  have h1 := vm_units hm
  have h2 := con_len m dr p
  simp only [impl_sumOf.f]
  refine (sum_l0 (l := con m dr p) (fun x hx => conL_bd _ _ _ _ _ x hx) (by omega) (con m dr p).length 0 0 (by omega) (by omega) (by omega) (by omega)).mono ?_
  rintro r rfl; simp [S]
theorem melCon_wp (m dr : List S40) (hm : m.length ≤ 10000) (hd : dr.length ≤ 10000) : Wp (fun k => impl_MelodyConsonance.f k m dr) (fun r => r = if (vm m && dok dr) = true then (S m dr 0, 0) else (0, 1)) := by
  simp only [impl_MelodyConsonance.f]
  refine Wp.val (valid_wp m hm) (Wp.iteB (fun hv => Wp.val (droneOk_wp dr hd) (Wp.step ?_)) (fun hv => Wp.step ?_))
  · simp only [impl_MelodyConsonance.j0]
    refine Wp.iteB (fun h => Wp.now ?_) (fun h => ?_)
    · rw [show dok dr = false by simpa using h, Bool.and_false]; rfl
    · have hd' : dok dr = true := by simpa using h
      refine Wp.val (con_wp hv hd' (by omega) (by omega)) (Wp.val (sum_wp hv 0) (Wp.now ?_))
      rw [hv, hd']; rfl
  · simp only [impl_MelodyConsonance.j0]
    rw [hv]
    exact Wp.now rfl
theorem phase_l0 {m dr : List S40} (hm : vm m = true) (hd : dok dr = true) (n : Int) (hn : n ≤ 10000) (hn1 : 1 ≤ n) : ∀ (d : Nat) (b w i : Int), i + d = n → (i = 0 ∧ b = 0 ∧ w = -1 ∨ 1 ≤ i ∧ 0 ≤ b ∧ b < i ∧ S m dr 0 ≤ w) →
    Wp (fun k => impl_BestPhase.l0 k m dr b w n i) (fun r => r.2.2 = 0 ∧ 0 ≤ r.1 ∧ r.1 < n ∧ S m dr 0 ≤ r.2.1)
  | 0, b, w, i, h0, h1 => by
    refine Wp.step ?_
    simp only [impl_BestPhase.l0]
    exact Wp.neg (by omega) (Wp.now ⟨rfl, by dsimp only; omega, by dsimp only; omega, by dsimp only; omega⟩)
  | d + 1, b, w, i, h0, h1 => by
    refine Wp.step ?_
    simp only [impl_BestPhase.l0]
    refine Wp.pos (by omega) (Wp.val (con_wp hm hd (p := i) (by omega) (by omega)) (Wp.val (sum_wp hm i) ?_))
    have hb := S_bd m dr i
    rw [w64 (n := i + 1) (by omega) (by omega)]
    refine Wp.ite (fun h => ?_) (fun h => ?_)
    · refine phase_l0 hm hd n hn hn1 d i _ (i + 1) (by omega) (.inr ⟨by omega, by omega, by omega, ?_⟩)
      rcases h1 with ⟨rfl, _⟩ | h1
      · exact Int.le_refl _
      · omega
    · refine phase_l0 hm hd n hn hn1 d b w (i + 1) (by omega) (.inr ?_)
      rcases h1 with ⟨rfl, h2, h3⟩ | h1
      · omega
      · omega
theorem phase_wp (m dr : List S40) (hm : m.length ≤ 10000) (hd : dr.length ≤ 10000) : Wp (fun k => impl_BestPhase.f k m dr) (fun r => if (vm m && dok dr) = true then r.2.2 = 0 ∧ 0 ≤ r.1 ∧ r.1 < (units dr).length ∧ S m dr 0 ≤ r.2.1 else r.2.2 = 1) := by
  simp only [impl_BestPhase.f]
  refine Wp.val (valid_wp m hm) (Wp.iteB (fun hv => Wp.val (droneOk_wp dr hd) (Wp.step ?_)) (fun hv => Wp.step ?_))
  · simp only [impl_BestPhase.j0]
    refine Wp.iteB (fun h => Wp.now ?_) (fun h => ?_)
    · rw [show dok dr = false by simpa using h, Bool.and_false]; rfl
    · have hd' : dok dr = true := by simpa using h
      have hd1 : vm dr = true := by unfold dok at hd'; rw [Bool.and_eq_true] at hd'; exact hd'.1
      have hl := dok_units hd'
      have hl2 := vm_units hd1
      rw [hv, hd']
      refine Wp.val (dur_wp hd1) (phase_l0 hv hd' _ (by omega) (by omega) (units dr).length 0 (-1) 0 (by omega) (by omega))
  · simp only [impl_BestPhase.j0]
    rw [hv]
    exact Wp.now rfl
theorem within_f (a b c : Int) : impl_within.f a b c = some (decide (b ≤ a ∧ a ≤ c)) := by
  unfold impl_within.f
  by_cases h : a ≥ b
  · simp only [if_pos h, Option.bind_some]; congr 1; exact decide_eq_decide.2 ⟨fun x => ⟨h, x⟩, fun x => x.2⟩
  · simp only [if_neg h, Option.bind_some]; congr 1; symm; exact decide_eq_false (fun x => h x.1)
theorem rough_l0 {l : List Int} (hb : ∀ x ∈ l, 0 ≤ x ∧ x ≤ 100) (hl : l.length ≤ 10000) : ∀ (d : Nat) (acc : List Int) (i : Int), 0 ≤ i → i + d = l.length → (acc.length : Int) = i →
    Wp (fun k => impl_RoughUnits.l0 k 101 acc l l.length i) (fun r => r.2 = 0 → r.1.length = l.length)
  | 0, acc, i, h0, h1, h2 => by
    refine Wp.step ?_
    simp only [impl_RoughUnits.l0]
    refine Wp.neg (by omega) (Wp.ite (fun _ => Wp.now (fun h => ?_)) (fun _ => Wp.now (fun _ => ?_)))
    · simp at h
    · dsimp only; omega
  | d + 1, acc, i, h0, h1, h2 => by
    have hn := hb _ (rd_mem (i := i) h0 (by omega))
    refine Wp.step ?_
    simp only [impl_RoughUnits.l0]
    refine Wp.pos (by omega) (Wp.pos h0 (Wp.pos (by omega) (Wp.pos (by omega) (Wp.pos (by omega) ?_))))
    rw [w64 (n := i + 1) (by omega) (by omega)]
    exact rough_l0 hb hl d _ (i + 1) (by omega) (by omega) (by simp; omega)
theorem rough_wp {m dr : List S40} (hm : vm m = true) (hd : dok dr = true) : Wp (fun k => impl_RoughUnits.f k m dr 101) (fun r => r.2 = 0 → r.1.length = (units m).length) := by
  have hd1 : vm dr = true := by unfold dok at hd; rw [Bool.and_eq_true] at hd; exact hd.1
  simp only [impl_RoughUnits.f]
  refine Wp.val (valid_wp m (by have := vm_len hm; omega)) (Wp.posB hm (Wp.val (droneOk_wp dr (by have := vm_len hd1; omega)) (Wp.step ?_)))
  simp only [impl_RoughUnits.j0, hd, within_f, Bool.not_true, Option.bind_some]
  refine Wp.neg (by decide) (Wp.posB rfl (Wp.val (con_wp hm hd (by omega) (by omega)) ?_))
  have h1 := vm_units hm
  have h2 := con_len m dr 0
  rw [← h2]
  exact rough_l0 (l := con m dr 0) (fun x hx => conL_bd _ _ _ _ _ x hx) (by omega) (con m dr 0).length [] 0 (by omega) (by omega) (by simp)
/-! the mean -/
theorem divRound_f {a b : Int} (ha : 0 ≤ a) (hb : 0 < b) (ha2 : a ≤ 1000000000) (hb2 : b ≤ 1000000) : ∃ q, impl_divRound.f a b = some q ∧ 2 * (q * b) - 2 * a ≤ b ∧ 2 * a - 2 * (q * b) ≤ b ∧ 0 ≤ q ∧ (a ≤ 100 * b → q ≤ 100) := by
  have e1 : Int.tmod a b = a % b := Int.tmod_eq_emod_of_nonneg ha
  have e2 : Int.tdiv a b = a / b := Int.tdiv_eq_ediv_of_nonneg ha
  have hr0 := Int.emod_nonneg a (show b ≠ 0 by omega)
  have hr1 := Int.emod_lt_of_pos a hb
  have hq0 : 0 ≤ a / b := Int.ediv_nonneg ha (by omega)
  have hq1 : a / b ≤ a := Int.ediv_le_self _ ha
  have hdm : b * (a / b) + a % b = a := Int.mul_ediv_add_emod a b
  have hmul : b * (a / b) = (a / b) * b := Int.mul_comm _ _
  have hq100 : a ≤ 100 * b → a / b ≤ 100 := fun h => Int.ediv_le_of_le_mul hb h
  have hq99 : a ≤ 100 * b → a / b = 100 → a % b = 0 := fun h e => by rw [e] at hdm; omega
  have ab : impl_abs.f b = some b := by unfold impl_abs.f; rw [w64 (by omega) (by omega)]; congr 1; unfold mx; omega
  have ar : impl_abs.f (a % b) = some (a % b) := by unfold impl_abs.f; rw [w64 (by omega) (by omega)]; congr 1; unfold mx; omega
  unfold impl_divRound.f
  rw [if_neg (by omega), e1, e2, ar, Option.bind_some, ab, Option.bind_some, w64 (n := b - a % b) (by omega) (by omega), w64 (n := a / b) (by omega) (by omega)]
  have h1 : decide (a < 0) = false := decide_eq_false (by omega)
  have h2 : decide (b < 0) = false := decide_eq_false (by omega)
  rw [h1, h2]
  simp only [BEq.rfl, if_true]
  rw [w64 (n := a / b + 1) (by omega) (by omega)]
  by_cases c : a % b ≥ b - a % b
  · rw [if_pos c]
    refine ⟨_, rfl, ?_, ?_, by omega, fun h => ?_⟩
    · rw [Int.add_mul]; omega
    · rw [Int.add_mul]; omega
    · have := hq100 h; have := hq99 h; omega
  · rw [if_neg c]
    exact ⟨_, rfl, by omega, by omega, by omega, hq100⟩
theorem mean_wp {m dr : List S40} (hm : vm m = true) (hd : dok dr = true) : Wp (fun k => impl_MeanConsonance.f k m dr) (fun r => r.2 = 0 → 0 ≤ r.1 ∧ r.1 ≤ 100 ∧ 2 * (r.1 * (units m).length) - 2 * S m dr 0 ≤ (units m).length ∧ 2 * S m dr 0 - 2 * (r.1 * (units m).length) ≤ (units m).length) := by
  have hd1 : vm dr = true := by unfold dok at hd; rw [Bool.and_eq_true] at hd; exact hd.1
  simp only [impl_MeanConsonance.f]
  refine Wp.val (valid_wp m (by have := vm_len hm; omega)) (Wp.posB hm (Wp.val (droneOk_wp dr (by have := vm_len hd1; omega)) (Wp.step ?_)))
  simp only [impl_MeanConsonance.j0, hd, Bool.not_true]
  refine Wp.neg (by decide) (Wp.ite (fun h => Wp.now (fun h => by simp at h)) (fun h => ?_))
  have hdm : dok m = true := by unfold dok; rw [hm]; simp; omega
  have h1 := vm_units hm
  have h3 := dok_units hdm
  have hb := S_bd m dr 0
  obtain ⟨q, e, q1, q2, q3, q4⟩ := divRound_f (a := S m dr 0) (b := (units m).length) hb.1 (by omega) (by omega) (by omega)
  refine Wp.val (con_wp hm hd (by omega) (by omega)) (Wp.val (sum_wp hm 0) (Wp.val (dur_wp hm) (Wp.calls e (Wp.now (fun _ => ?_)))))
  exact ⟨q3, q4 hb.2, q1, q2⟩
/-! the best drone -/
theorem any_wp {α : Type} {p : Nat → α → Option Bool} {q : α → Bool} : ∀ (l : List α), (∀ x ∈ l, Wp (fun k => p k x) (fun r => r = q x)) → Wp (fun k => anyO (p k) l) (fun r => r = l.any q)
  | [], _ => Wp.now rfl
  | x :: l, h => by
    simp only [anyO, List.any_cons]
    refine Wp.val (h x List.mem_cons_self) (Wp.iteB (fun e => Wp.now (by rw [e]; rfl)) (fun e => ?_))
    rw [e, Bool.false_or]
    exact any_wp l (fun y hy => h y (List.mem_cons_of_mem _ hy))
theorem drones_any {L : List (List S40)} (hL : ∀ x ∈ L, x.length ≤ 1000) : Wp (fun k => slices_ContainsFunc_at_impl_BestDrone_1.f k L) (fun r => r = L.any (fun x => !dok x)) := by
  simp only [slices_ContainsFunc_at_impl_BestDrone_1.f]
  refine any_wp L (fun x hx => ?_)
  simp only [impl_BestDrone_1.f]
  exact Wp.val (droneOk_wp x (by have := hL x hx; omega)) (Wp.now rfl)
theorem bestDrone_l0 {m : List S40} (hm : vm m = true) {L : List (List S40)} (hL : ∀ x ∈ L, dok x = true) (hl : L.length ≤ 100) : ∀ (d : Nat) (b w i : Int), 0 ≤ i → i + d = L.length → (i = 0 ∧ w = -1 ∨ 0 ≤ b ∧ b < i ∧ S m (rd_L3 L b) 0 = w ∧ ∀ j : Int, 0 ≤ j → j < i → S m (rd_L3 L j) 0 ≤ w) → 1 ≤ L.length →
    Wp (fun k => impl_BestDrone.l0 k m b w L L.length i) (fun r => r.2.2 = 0 ∧ 0 ≤ r.1 ∧ r.1 < L.length ∧ S m (rd_L3 L r.1) 0 = r.2.1 ∧ ∀ j : Int, 0 ≤ j → j < L.length → S m (rd_L3 L j) 0 ≤ r.2.1)
  | 0, b, w, i, h0, h1, h2, h3 => by
    refine Wp.step ?_
    simp only [impl_BestDrone.l0]
    rcases h2 with h2 | ⟨a1, a2, a3, a4⟩
    · omega
    · exact Wp.neg (by omega) (Wp.now ⟨rfl, a1, by dsimp only; omega, a3, fun j j0 j1 => a4 j j0 (by omega)⟩)
  | d + 1, b, w, i, h0, h1, h2, h3 => by
    have hd := hL _ (rd_L3_mem (i := i) h0 (by omega))
    refine Wp.step ?_
    simp only [impl_BestDrone.l0]
    refine Wp.pos (by omega) (Wp.pos h0 (Wp.pos (by omega) (Wp.val (con_wp hm hd (by omega) (by omega)) (Wp.val (sum_wp hm 0) ?_))))
    have hb := S_bd m (rd_L3 L i) 0
    rw [w64 (n := i + 1) (by omega) (by omega)]
    refine Wp.ite (fun h => ?_) (fun h => ?_)
    · refine bestDrone_l0 hm hL hl d i _ (i + 1) (by omega) (by omega) (.inr ⟨h0, by omega, rfl, fun j j0 j1 => ?_⟩) h3
      by_cases e : j = i
      · subst e; exact Int.le_refl _
      · rcases h2 with h2 | ⟨a1, a2, a3, a4⟩
        · omega
        · have := a4 j j0 (by omega); omega
    · refine bestDrone_l0 hm hL hl d b w (i + 1) (by omega) (by omega) (.inr ?_) h3
      rcases h2 with h2 | ⟨a1, a2, a3, a4⟩
      · omega
      · refine ⟨a1, by omega, a3, fun j j0 j1 => ?_⟩
        by_cases e : j = i
        · subst e; omega
        · exact a4 j j0 (by omega)
theorem bestDrone_wp (m : List S40) (L : List (List S40)) (hm : m.length ≤ 1000) (hL : ∀ x ∈ L, x.length ≤ 1000) (hl : L.length ≤ 100) :
    Wp (fun k => impl_BestDrone.f k m L) (fun r => r.2.2 = 0 → vm m = true ∧ (∀ x ∈ L, dok x = true) ∧ 0 ≤ r.1 ∧ r.1 < L.length ∧ S m (rd_L3 L r.1) 0 = r.2.1 ∧ ∀ j : Int, 0 ≤ j → j < L.length → S m (rd_L3 L j) 0 ≤ r.2.1) := by
  simp only [impl_BestDrone.f]
  refine Wp.val (valid_wp m (by omega)) (Wp.iteB (fun hv => Wp.val (drones_any hL) (Wp.step ?_)) (fun hv => Wp.step ?_))
  · simp only [impl_BestDrone.j0]
    refine Wp.iteB (fun h => Wp.now (fun h => by simp at h)) (fun h => ?_)
    have hd : ∀ x ∈ L, dok x = true := by simpa using h
    refine Wp.ite (fun _ => Wp.now (fun h => by simp at h)) (fun _ => Wp.ite (fun _ => Wp.now (fun h => by simp at h)) (fun h => ?_))
    exact (bestDrone_l0 hv hd hl L.length 0 (-1) 0 (by omega) (by omega) (.inl ⟨rfl, rfl⟩) (by omega)).mono (fun r hr _ => ⟨hv, hd, hr.2⟩)
  · simp only [impl_BestDrone.j0]
    exact Wp.now (fun h => by simp at h)
theorem consonanceOf_f (a b : Int) : impl_ConsonanceOf.f a b = some (if (decide (-12 ≤ a ∧ a ≤ 23) && decide (-12 ≤ b ∧ b ≤ 23)) = true then (cs a b, 0) else (0, 2)) := by
  simp only [impl_ConsonanceOf.f, pitchOk_f, Option.bind_some]
  by_cases h1 : -12 ≤ a ∧ a ≤ 23
  · by_cases h2 : -12 ≤ b ∧ b ≤ 23
    · rw [cons_f (by omega) (by omega)]; simp [h1, h2]
    · simp [h1, h2]
  · simp [h1]
end Go.Proofs.Ytomeeimjlagbbaa.Pure
