/- Plain facts: ranges, lengths and orders of notes. -/
import Derived.Test.YtomeeimjlagbbaaPuS0
import Derived.Test.YtomeeimjlagbbaaPSx2
import Derived.Test.YtomeeimjlagbbaaPSx3
import Derived.Test.YtomeeimjlagbbaaPSx4
import Derived.Test.YtomeeimjlagbbaaPSx6
import Derived.Test.YtomeeimjlagbbaaPSx8
import Derived.Test.YtomeeimjlagbbaaPSx9
namespace Go.Proofs.Ytomeeimjlagbbaa.Pure
open Go.RowKit Go.Proofs.Ytomeeimjlagbbaa.PS Go.Proofs.YtomeeimjlagbbaaW.PrintWords Go.Proofs.YtomeeimjlagbbaaW.PrintLast
set_option linter.unusedSimpArgs false
set_option linter.unusedVariables false
theorem rd_L2_get {c : List (List Int)} {i : Int} (h0 : 0 ≤ i) (h1 : i < c.length) : rd_L2 c i = c[i.toNat]'(by omega) := by
  simp [rd_L2, List.getD_eq_getElem?_getD, List.getElem?_eq_getElem (show i.toNat < c.length by omega)]
theorem rd_L2_mem {c : List (List Int)} {i : Int} (h0 : 0 ≤ i) (h1 : i < c.length) : rd_L2 c i ∈ c := by
  rw [rd_L2_get h0 h1]; exact List.getElem_mem _
theorem rd_L2_drop {c : List (List Int)} {i : Int} (h0 : 0 ≤ i) (h1 : i < c.length) : c.drop i.toNat = rd_L2 c i :: c.drop (i + 1).toNat := by
  rw [rd_L2_get h0 h1, show (i + 1).toNat = i.toNat + 1 by omega]
  exact List.drop_eq_getElem_cons (by omega)
theorem pitchOk_f (a : Int) : impl_pitchOk.f a = some (decide (-12 ≤ a ∧ a ≤ 23)) := by
  unfold impl_pitchOk.f impl_within.f
  by_cases h : a ≥ -12
  · simp only [if_pos h, Option.bind_some]; congr 1; exact decide_eq_decide.2 ⟨fun x => ⟨h, x⟩, fun x => x.2⟩
  · simp only [if_neg h, Option.bind_some]; congr 1; symm; exact decide_eq_false (fun x => h x.1)
theorem lengthOk_f (a : Int) : impl_lengthOk.f a = some (decide (1 ≤ a ∧ a ≤ 64)) := by
  unfold impl_lengthOk.f impl_within.f
  by_cases h : a ≥ 1
  · simp only [if_pos h, Option.bind_some]; congr 1; exact decide_eq_decide.2 ⟨fun x => ⟨h, x⟩, fun x => x.2⟩
  · simp only [if_neg h, Option.bind_some]; congr 1; symm; exact decide_eq_false (fun x => h x.1)
theorem valid_l0 (m : List S40) (hm : m.length ≤ 10000) : ∀ (d : Nat) (i : Int), 0 ≤ i → i + d = m.length → Wp (fun k => impl_ValidMelody.l0 k m m.length i) (fun r => r = (m.drop i.toNat).all vNote)
  | 0, i, h0, h1 => by
    refine Wp.step ?_
    simp only [impl_ValidMelody.l0]
    refine Wp.neg (by omega) (Wp.now ?_)
    rw [List.drop_eq_nil_of_le (by omega)]; simp only [List.all_nil]
  | d + 1, i, h0, h1 => by
    refine Wp.step ?_
    simp only [impl_ValidMelody.l0, pitchOk_f, lengthOk_f, Option.bind_some]
    refine Wp.pos (by omega) (Wp.pos h0 (Wp.pos (by omega) ?_))
    simp (disch := omega) only [w64]
    rw [rd_T40_drop h0 (by omega), List.all_cons]
    refine Wp.iteB (fun e => Wp.iteB (fun e' => ?_) (fun e' => ?_)) (fun e => ?_)
    · rw [decide_eq_true_eq] at e e'
      rw [show vNote (rd_T40 m i) = true from decide_eq_true ⟨e.1, e.2, e'.1, e'.2⟩, Bool.true_and]
      exact valid_l0 m hm d (i + 1) (by omega) (by omega)
    · rw [decide_eq_false_iff_not] at e'
      rw [show vNote (rd_T40 m i) = false from decide_eq_false (fun h => e' ⟨h.2.2.1, h.2.2.2⟩)]
      exact Wp.now rfl
    · rw [decide_eq_false_iff_not] at e
      rw [show vNote (rd_T40 m i) = false from decide_eq_false (fun h => e ⟨h.1, h.2.1⟩)]
      exact Wp.now rfl
theorem valid_wp (m : List S40) (hm : m.length ≤ 10000) : Wp (fun k => impl_ValidMelody.f k m) (fun r => r = vm m) := by
  simp only [impl_ValidMelody.f]
  refine Wp.ite (fun h => Wp.now ?_) (fun h => (valid_l0 m hm m.length 0 (by omega) (by omega)).mono ?_)
  · unfold vm; rw [decide_eq_false (by omega)]; rfl
  · rintro r rfl
    unfold vm; rw [decide_eq_true (by omega)]; simp
theorem vm_len {m : List S40} (h : vm m = true) : m.length ≤ 48 := by unfold vm at h; simp at h; exact h.1
theorem vm_note {m : List S40} (h : vm m = true) {x : S40} (hx : x ∈ m) : -12 ≤ x.f0 ∧ x.f0 ≤ 23 ∧ 1 ≤ x.f1 ∧ x.f1 ≤ 64 := by
  unfold vm at h
  rw [Bool.and_eq_true] at h
  have := List.all_eq_true.1 h.2 x hx
  unfold vNote at this
  simpa using this
theorem within_f (a b c : Int) : impl_within.f a b c = some (decide (b ≤ a ∧ a ≤ c)) := by
  unfold impl_within.f
  by_cases h : a ≥ b
  · simp only [if_pos h, Option.bind_some]; congr 1; exact decide_eq_decide.2 ⟨fun x => ⟨h, x⟩, fun x => x.2⟩
  · simp only [if_neg h, Option.bind_some]; congr 1; symm; exact decide_eq_false (fun x => h x.1)

theorem rd_L2_app (c : List (List Int)) (x : List Int) (i : Int) : rd_L2 (c ++ [x]) i = if i.toNat < c.length then rd_L2 c i else if i.toNat = c.length then x else [] := by
  unfold rd_L2
  rw [List.getD_eq_getElem?_getD, List.getElem?_append]
  split
  · rw [List.getD_eq_getElem?_getD]
  · rename_i h
    by_cases e : i.toNat = c.length
    · rw [if_pos e, e]; simp
    · rw [if_neg e, List.getElem?_eq_none (by simp; omega)]; rfl
theorem rangeOk_f (a b : Int) : impl_rangeOk.f a b = some (decide (-12 ≤ a ∧ a ≤ 23) && decide (a ≤ b ∧ b ≤ 23)) := by
  simp only [impl_rangeOk.f, pitchOk_f, within_f, Option.bind_some]
  by_cases h : (decide (-12 ≤ a ∧ a ≤ 23)) = true
  · rw [if_pos h, h]; rfl
  · rw [if_neg h]
    rw [Bool.not_eq_true] at h
    rw [h]; rfl
def rgA (lo c s j : Int) : Int := c - (c - lo) * (j + 1) / s
def rgB (hi c s j : Int) : Int := c + (hi - c) * (j + 1) / s
theorem step_bd {a s j : Int} (ha : 0 ≤ a) (ha2 : a ≤ 100) (hs : 1 ≤ s) (hs2 : s ≤ 8) (h0 : 0 ≤ j) (h1 : j < s) : 0 ≤ a * (j + 1) ∧ a * (j + 1) ≤ 800 ∧ 0 ≤ a * (j + 1) / s ∧ a * (j + 1) / s ≤ a := by
  have p0 : 0 ≤ a * (j + 1) := Int.mul_nonneg ha (by omega)
  have p1 : a * (j + 1) ≤ a * s := Int.mul_le_mul_of_nonneg_left (by omega) ha
  have p2 : a * s ≤ a * 8 := Int.mul_le_mul_of_nonneg_left hs2 ha
  refine ⟨p0, by omega, Int.ediv_nonneg p0 (by omega), ?_⟩
  have := Int.ediv_le_ediv (c := s) (by omega) p1
  rwa [Int.mul_ediv_cancel _ (by omega)] at this
theorem step_mono {a s j : Int} (ha : 0 ≤ a) (hs : 1 ≤ s) : a * j / s ≤ a * (j + 1) / s :=
  Int.ediv_le_ediv (by omega) (Int.mul_le_mul_of_nonneg_left (by omega) ha)
theorem ranges_l0 {lo hi c s : Int} (h1 : lo ≤ c) (h2 : c ≤ hi) (h3 : -100 ≤ lo) (h4 : hi ≤ 100) (h5 : c - lo ≤ 100) (h6 : hi - c ≤ 100) (hs : 1 ≤ s) (hs2 : s ≤ 8) : ∀ (d : Nat) (acc : List (List Int)), acc.length + d = s.toNat → (∀ j : Int, 0 ≤ j → j < acc.length → rd_L2 acc j = [rgA lo c s j, rgB hi c s j]) →
    Wp (fun k => impl_RangesOf.l0 k lo hi c s acc (acc.length + 1)) (fun r => r.2 = 0 ∧ (r.1.length : Int) = s ∧ ∀ j : Int, 0 ≤ j → j < s → rd_L2 r.1 j = [rgA lo c s j, rgB hi c s j])
  | 0, acc, hl, ha => by
    refine Wp.step ?_
    simp only [impl_RangesOf.l0]
    exact Wp.neg (by omega) (Wp.now ⟨rfl, by dsimp only; omega, fun j j0 j1 => ha j j0 (by omega)⟩)
  | d + 1, acc, hl, ha => by
    refine Wp.step ?_
    simp only [impl_RangesOf.l0]
    refine Wp.pos (by omega) (Wp.neg (by omega) (Wp.pos (by omega) ?_))
    have b1 := step_bd (a := c - lo) (s := s) (j := acc.length) (by omega) h5 hs hs2 (by omega) (by omega)
    have b2 := step_bd (a := hi - c) (s := s) (j := acc.length) (by omega) h6 hs hs2 (by omega) (by omega)
    rw [w64 (n := c - lo) (by omega) (by omega), w64 (n := hi - c) (by omega) (by omega), w64 (n := (c - lo) * ((acc.length : Int) + 1)) (by omega) (by omega), w64 (n := (hi - c) * ((acc.length : Int) + 1)) (by omega) (by omega), Int.tdiv_eq_ediv_of_nonneg b1.1, Int.tdiv_eq_ediv_of_nonneg b2.1]
    simp (disch := omega) only [w64]
    have e : ((acc.length : Int) + 1 + 1) = (((acc ++ [[rgA lo c s acc.length, rgB hi c s acc.length]]).length : Nat) : Int) + 1 := by simp
    rw [e]
    refine ranges_l0 h1 h2 h3 h4 h5 h6 hs hs2 d (acc ++ [[rgA lo c s acc.length, rgB hi c s acc.length]]) (by simp; omega) (fun j j0 j1 => ?_)
    rw [rd_L2_app]
    by_cases q : j.toNat < acc.length
    · rw [if_pos q]; exact ha j j0 (by omega)
    · rw [if_neg q]
      simp only [List.length_append, List.length_singleton] at j1
      rw [if_pos (by omega), show j = (acc.length : Int) by omega]
theorem ranges_wp {lo hi c s : Int} (h1 : lo ≤ c) (h2 : c ≤ hi) (h3 : -12 ≤ lo) (h4 : hi ≤ 23) (hs : 1 ≤ s) (hs2 : s ≤ 8) :
    Wp (fun k => impl_RangesOf.f k lo hi c s) (fun r => r.2 = 0 ∧ (r.1.length : Int) = s ∧ ∀ j : Int, 0 ≤ j → j < s → rd_L2 r.1 j = [rgA lo c s j, rgB hi c s j]) := by
  simp only [impl_RangesOf.f, rangeOk_f, within_f, Option.bind_some]
  rw [decide_eq_true (show -12 ≤ lo ∧ lo ≤ 23 by omega), decide_eq_true (show lo ≤ hi ∧ hi ≤ 23 by omega), decide_eq_true (show lo ≤ c ∧ c ≤ hi by omega), decide_eq_true (show 1 ≤ s ∧ s ≤ 8 by omega)]
  refine Wp.posB rfl (Wp.posB rfl (Wp.step ?_))
  simp only [impl_RangesOf.j0]
  exact Wp.neg (by decide) (ranges_l0 h1 h2 (by omega) (by omega) (by omega) (by omega) hs hs2 s.toNat [] (by simp) (by simp; omega))
/-! lengths: 48 pairs of numbers, each by sight -/
def denseB (t p : Nat) : Bool := match impl_DenseLengths.f 100 ((t : Int) + 1) ((p : Int) + 1) with
  | some (l, e) => decide (e = 0) && decide (l.sum = ((t : Int) + 1) * ((p : Int) + 1)) && l.all (fun x => decide (1 ≤ x) && decide (x ≤ (p : Int) + 1)) && decide (l.length ≤ 1000)
  | none => false
theorem denseB_all : (List.range 12).all (fun t => (List.range 4).all fun p => denseB t p) = true := by decide +kernel
theorem dense_wp {t p : Int} (h0 : 1 ≤ t) (h1 : t ≤ 12) (h2 : 1 ≤ p) (h3 : p ≤ 4) : Wp (fun k => impl_DenseLengths.f k t p) (fun r => r.2 = 0 ∧ r.1.sum = t * p ∧ (∀ x ∈ r.1, 1 ≤ x ∧ x ≤ p) ∧ r.1.length ≤ 1000) := by
  have h := List.all_eq_true.1 (List.all_eq_true.1 denseB_all (t - 1).toNat (List.mem_range.2 (by omega))) (p - 1).toNat (List.mem_range.2 (by omega))
  unfold denseB at h
  rw [show (((t - 1).toNat : Nat) : Int) + 1 = t by omega, show (((p - 1).toNat : Nat) : Int) + 1 = p by omega] at h
  cases e : impl_DenseLengths.f 100 t p with
  | none => rw [e] at h; simp at h
  | some r =>
    obtain ⟨l, x⟩ := r
    rw [e] at h
    simp only [Bool.and_eq_true, decide_eq_true_eq, List.all_eq_true] at h
    refine ⟨(l, x), ⟨h.1.1.1, h.1.1.2, h.1.2, h.2⟩, 100, up_fuel (fun k => impl_DenseLengths.mono _ _ k) e⟩
/-! orders -/
theorem pick_f {s n : Int} (h0 : 0 ≤ s) (h1 : s < 1000000) (h2 : 1 ≤ n) (h3 : n ≤ 1000000) : ∃ x y, impl_picker_pick.f s n = some (x, y) ∧ 0 ≤ x ∧ x < n ∧ 0 ≤ y ∧ y < 1000000 ∧ impl_nextSeed.f s = some y := by
  have a0 := Int.tmod_nonneg (a := s * 7141 + 54773) 1000000 (by omega)
  have a1 := Int.tmod_lt_of_pos (s * 7141 + 54773) (b := 1000000) (by omega)
  have e : impl_nextSeed.f s = some (Int.tmod (s * 7141 + 54773) 1000000) := by
    unfold impl_nextSeed.f
    rw [w64 (n := s * 7141) (by omega) (by omega), w64 (n := s * 7141 + 54773) (by omega) (by omega)]
  generalize Int.tmod (s * 7141 + 54773) 1000000 = y at *
  have b0 : 0 ≤ y * n := Int.mul_nonneg a0 (by omega)
  have b1 : y * n ≤ y * 1000000 := Int.mul_le_mul_of_nonneg_left h3 a0
  have b2 : y * n ≤ 999999 * n := Int.mul_le_mul_of_nonneg_right (by omega) (by omega)
  refine ⟨y * n / 1000000, y, ?_, Int.ediv_nonneg b0 (by omega), by omega, a0, a1, e⟩
  unfold impl_picker_pick.f
  rw [e, Option.bind_some, w64 (n := y * n) (by omega) (by omega), Int.tdiv_eq_ediv_of_nonneg b0, w64 (by omega) (by omega)]
theorem shuffle_l0 : ∀ (d : Nat) (x : List S40) (s : Int), d + 1 ≤ x.length ∨ d = 0 → x.length ≤ 1000 → 0 ≤ s → s < 1000000 →
    Wp (fun k => impl_ShuffleNotes.l0 k x (d : Int) s) (fun r => r.2 = 0 ∧ r.1.Perm x)
  | 0, x, s, h0, h1, h2, h3 => by
    refine Wp.step ?_
    simp only [impl_ShuffleNotes.l0]
    exact Wp.neg (by omega) (Wp.now ⟨rfl, List.Perm.refl _⟩)
  | d + 1, x, s, h0, h1, h2, h3 => by
    obtain ⟨j, y, e, j0, j1, y0, y1, _⟩ := pick_f (s := s) (n := ((d + 1 : Nat) : Int) + 1) h2 h3 (by omega) (by omega)
    refine Wp.step ?_
    simp only [impl_ShuffleNotes.l0]
    rw [w64 (n := ((d + 1 : Nat) : Int) + 1) (by omega) (by omega)]
    refine Wp.pos (by omega) (Wp.calls e ?_)
    dsimp only
    refine Wp.pos j0 (Wp.pos (by omega) (Wp.pos (by omega) (Wp.pos (by omega) ?_)))
    rw [w64 (n := ((d + 1 : Nat) : Int) - 1) (by omega) (by omega), show ((d + 1 : Nat) : Int) - 1 = d by omega]
    refine (shuffle_l0 d _ y (by simp; omega) (by simp; omega) y0 y1).mono (fun r hr => ⟨hr.1, hr.2.trans ?_⟩)
    have g1 : rd_T40 x j = x[j.toNat]'(by omega) := rd_T40_get j0 (by omega)
    have g2 : rd_T40 x ((d + 1 : Nat) : Int) = x[((d + 1 : Nat) : Int).toNat]'(by omega) := rd_T40_get (by omega) (by omega)
    rw [show (⟨(rd_T40 x j).f0, (rd_T40 x j).f1⟩ : S40) = rd_T40 x j from rfl, show (⟨(rd_T40 x ((d + 1 : Nat) : Int)).f0, (rd_T40 x ((d + 1 : Nat) : Int)).f1⟩ : S40) = rd_T40 x ((d + 1 : Nat) : Int) from rfl, g1, g2]
    exact List.set_set_perm _ _
theorem shuffle_wp {x : List S40} (hv : vm x = true) {s : Int} (h0 : 0 ≤ s) (h1 : s < 1000000) : Wp (fun k => impl_ShuffleNotes.f k x s) (fun r => r.2 = 0 ∧ r.1.Perm x) := by
  have hl := vm_len hv
  simp only [impl_ShuffleNotes.f, impl_seedOk.f, within_f, Option.bind_some, impl_Note.f, List.nil_append]
  refine Wp.val (valid_wp x (by omega)) (Wp.posB hv ?_)
  rw [decide_eq_true (show 0 ≤ s ∧ s ≤ 999999 by omega)]
  refine Wp.posB rfl ?_
  rw [if_pos (by simp; omega)]
  simp only [Option.bind_some]
  rw [w64 (n := (x.length : Int) - 1) (by omega) (by omega)]
  by_cases h : x.length = 0
  · rw [show (x.length : Int) - 1 = -1 by omega]
    refine Wp.step ?_
    simp only [impl_ShuffleNotes.l0]
    exact Wp.neg (by omega) (Wp.now ⟨rfl, List.Perm.refl _⟩)
  · rw [show (x.length : Int) - 1 = ((x.length - 1 : Nat) : Int) by omega]
    exact shuffle_l0 (x.length - 1) x s (.inl (by omega)) (by omega) h0 h1
end Go.Proofs.Ytomeeimjlagbbaa.Pure
