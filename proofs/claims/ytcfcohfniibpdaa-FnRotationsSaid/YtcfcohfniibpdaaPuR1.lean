/- Rotations of scales: what is computed. -/
import Derived.Test.YtcfcohfniibpdaaPuR0
import Derived.Test.YtcfcohfniibpdaaPRx2
import Derived.Test.YtcfcohfniibpdaaPRx4
import Derived.Test.YtcfcohfniibpdaaPRx5
import Derived.Test.YtcfcohfniibpdaaPRx6
import Derived.Test.YtcfcohfniibpdaaPRx7
import Derived.Test.YtcfcohfniibpdaaPRx8
import Derived.Test.YtcfcohfniibpdaaPRx9
import Derived.Test.YtcfcohfniibpdaaPRx10
import Derived.Test.YtcfcohfniibpdaaPRx11
import Derived.Test.YtcfcohfniibpdaaPRx12
import Derived.Test.YtcfcohfniibpdaaPRx13
namespace Go.Proofs.Ytcfcohfniibpdaa.Pure
open Go.RowKit Go.Proofs.Ytcfcohfniibpdaa.PR Go.Proofs.YtcfcohfniibpdaaW.PrintWords Go.Proofs.YtcfcohfniibpdaaW.PrintLast
set_option linter.unusedSimpArgs false
set_option linter.unusedVariables false
theorem within_f (a b c : Int) : impl_within.f a b c = some (decide (b ≤ a ∧ a ≤ c)) := by
  unfold impl_within.f
  by_cases h : a ≥ b
  · rw [if_pos h]; simp [show b ≤ a from h]
  · rw [if_neg h]; simp [show ¬ b ≤ a from h]
theorem l00In_f (n a b : Int) : spec_l00In.f n a b = some (decide (a ≤ n ∧ n ≤ b)) := by
  unfold spec_l00In.f
  by_cases h : n ≥ a
  · rw [if_pos h]; simp [show a ≤ n from h]
  · rw [if_neg h]; simp [show ¬ a ≤ n from h]
theorem r8At_f {c : List Int} (hb : Bytes c) {k n : Int} (hk : 0 ≤ k) (hn : 1 ≤ n) : ∃ x, laws_r8At.f c k n = some x ∧ 0 ≤ x ∧ x < n := by
  unfold laws_r8At.f
  by_cases h : n ≤ 1
  · rw [if_pos h]; exact ⟨0, rfl, by omega, by omega⟩
  · rw [if_neg h]
    by_cases g : k ≥ (c.length : Int)
    · rw [if_pos g]; exact ⟨0, rfl, by omega, by omega⟩
    · have := byte_bd hb hk (by omega)
      rw [if_neg g, if_pos hk, if_pos (by omega), if_neg (by omega), w64 (by omega) (by omega)]
      exact ⟨_, rfl, Int.tmod_nonneg _ (by omega), Int.tmod_lt_of_pos _ (by omega)⟩
theorem r8Has_wp {l : List Int} (hl : l.length ≤ 1000) (a : Int) : Wp (fun k => laws_r8Has.f k l a) (fun r => r = decide (a ∈ l)) := by
  have key : ∀ (d : Nat) (i : Int), 0 ≤ i → i + d = l.length → Wp (fun k => laws_r8Has.l0 k l a i) (fun r => r = decide (a ∈ l.drop i.toNat)) := by
    intro d
    induction d with
    | zero =>
      intro i i0 i1
      refine Wp.step ?_
      simp only [laws_r8Has.l0]
      exact Wp.neg (by omega) (Wp.now (by rw [List.drop_eq_nil_of_le (by omega)]; simp))
    | succ d ih =>
      intro i i0 i1
      refine Wp.step ?_
      simp only [laws_r8Has.l0]
      rw [w64 (n := i + 1) (by omega) (by omega), drop_cons i0 (by omega)]
      refine Wp.pos (by omega) (Wp.pos i0 (Wp.ite (fun e => Wp.now (by simp [e])) (fun e => (ih (i + 1) (by omega) (by omega)).mono ?_)))
      rintro r rfl
      apply decide_eq_decide.2
      rw [List.mem_cons]
      exact ⟨.inr, fun h => h.resolve_left (fun h => e h.symm)⟩
  have := key l.length 0 (by omega) (by omega)
  simpa [laws_r8Has.f] using this
theorem scale_len {l : List Int} (h : scaleP l) : l.length ≤ 1000 := by have := h.2.1; omega
theorem scale_0 {l : List Int} (h : scaleP l) : rd l 0 = 0 := by
  have := h.2.2.2.2
  cases l with
  | nil => cases this
  | cons x t => simpa [rd] using this
theorem scale_at {l : List Int} (h : scaleP l) {i : Int} (i0 : 0 ≤ i) (i1 : i < l.length) : 0 ≤ rd l i ∧ rd l i ≤ 11 := h.2.2.2.1 _ (rd_mem i0 i1)
theorem scale_lt {l : List Int} (h : scaleP l) {i : Int} (i0 : 1 ≤ i) (i1 : i < l.length) : rd l (i - 1) < rd l i := by
  rw [rd_get (by omega) (by omega), rd_get (by omega) (by omega)]
  exact List.pairwise_iff_getElem.1 h.2.2.1 _ _ _ _ (by omega)
theorem l03Scale_wp {l : List Int} (h : scaleP l) : Wp (fun k => spec_l03Scale.f k l) (fun r => r = true) := by
  have h1 := h.1
  have h2 := h.2.1
  have key : ∀ (d : Nat) (i : Int), 0 ≤ i → i + d = l.length → Wp (fun k => spec_l00Rises.l0 k l 0 11 i) (fun r => r = true) := by
    intro d
    induction d with
    | zero =>
      intro i i0 i1
      refine Wp.step ?_
      simp only [spec_l00Rises.l0]
      exact Wp.neg (by omega) (Wp.now rfl)
    | succ d ih =>
      intro i i0 i1
      refine Wp.step ?_
      simp only [spec_l00Rises.l0]
      have hx := scale_at h i0 (by omega)
      rw [w64 (n := i + 1) (by omega) (by omega), w64 (n := i - 1) (by omega) (by omega), l00In_f]
      refine Wp.pos (by omega) (Wp.pos i0 (Wp.calls rfl (Wp.posB (by simp; omega) (Wp.ite (fun hp => ?_) (fun _ => ih (i + 1) (by omega) (by omega))))))
      have := scale_lt h (i := i) (by omega) (by omega)
      exact Wp.pos (by omega) (Wp.pos (by omega) (Wp.neg (by omega) (ih (i + 1) (by omega) (by omega))))
  simp only [spec_l03Scale.f, spec_l00Rises.f]
  refine Wp.pos (by omega) (Wp.val (key l.length 0 (by omega) (by omega)) (Wp.posB rfl (Wp.pos (by omega) (Wp.now ?_))))
  rw [scale_0 h]; rfl
theorem vScale_wp {l : List Int} (h : scaleP l) : Wp (fun k => impl_ValidScale.f k l) (fun r => r = true) := by
  have h1 := h.1
  have h2 := h.2.1
  have key : ∀ (d : Nat) (i : Int), 1 ≤ i → i + d = l.length → Wp (fun k => impl_increasing.l0 k l i) (fun r => r = true) := by
    intro d
    induction d with
    | zero =>
      intro i i0 i1
      refine Wp.step ?_
      simp only [impl_increasing.l0]
      exact Wp.neg (by omega) (Wp.now rfl)
    | succ d ih =>
      intro i i0 i1
      refine Wp.step ?_
      simp only [impl_increasing.l0]
      have := scale_lt h i0 (by omega)
      rw [w64 (n := i + 1) (by omega) (by omega), w64 (n := i - 1) (by omega) (by omega)]
      exact Wp.pos (by omega) (Wp.pos (by omega) (Wp.pos (by omega) (Wp.pos (by omega) (Wp.neg (by omega) (ih (i + 1) (by omega) (by omega))))))
  simp only [impl_ValidScale.f, impl_increasing.f]
  have := scale_at h (i := (l.length : Int) - 1) (by omega) (by omega)
  rw [w64 (n := (l.length : Int) - 1) (by omega) (by omega)]
  exact Wp.pos (by omega) (Wp.pos (by omega) (Wp.pos (scale_0 h) (Wp.val (key (l.length - 1) 1 (by omega) (by omega)) (Wp.posB rfl (Wp.pos (by omega) (Wp.pos (by omega) (Wp.now (decide_eq_true (by omega)))))))))
def tn (p : Int) : Int := p % 12
theorem tn_0 (p : Int) : 0 ≤ tn p ∧ tn p ≤ 11 := by unfold tn; omega
theorem tn_eq {p : Int} (h : -12 ≤ p ∧ p ≤ 23) : Int.tmod (wrap64 ((Int.tmod p 12) + 12)) 12 = tn p := by
  have h1 : Int.tmod p 12 = if 0 ≤ p then p % 12 else -((-p) % 12) := by
    split
    · exact Int.tmod_eq_emod_of_nonneg (by omega)
    · rw [show p = -(-p) by omega, Int.neg_tmod, Int.tmod_eq_emod_of_nonneg (by omega)]; simp
  rw [h1, w64 (by split <;> omega) (by split <;> omega), Int.tmod_eq_emod_of_nonneg (by split <;> omega)]
  unfold tn
  split <;> omega
theorem same_wp {l : List Int} (hl : l.length ≤ 1000) : Wp (fun k => laws_r8Same.f k l l) (fun r => r = true) := by
  have key : ∀ (d : Nat) (i : Int), 0 ≤ i → i + d = l.length → Wp (fun k => laws_r8Same.l0 k l l i) (fun r => r = true) := by
    intro d
    induction d with
    | zero =>
      intro i i0 i1
      refine Wp.step ?_
      simp only [laws_r8Same.l0]
      exact Wp.neg (by omega) (Wp.now rfl)
    | succ d ih =>
      intro i i0 i1
      refine Wp.step ?_
      simp only [laws_r8Same.l0]
      rw [w64 (n := i + 1) (by omega) (by omega)]
      exact Wp.pos (by omega) (Wp.pos i0 (Wp.pos (by omega) (Wp.pos trivial (ih (i + 1) (by omega) (by omega)))))
  simp only [laws_r8Same.f]
  exact Wp.pos trivial (key l.length 0 (by omega) (by omega))
theorem scale_mono {l : List Int} (h : scaleP l) {i j : Int} (i0 : 0 ≤ i) (ij : i < j) (j1 : j < l.length) : rd l i < rd l j := by
  rw [rd_get (by omega) (by omega), rd_get (by omega) (by omega)]
  exact List.pairwise_iff_getElem.1 h.2.2.1 _ _ _ _ (by omega)
theorem eq_of_rd {a b : List Int} (h : a.length = b.length) (e : ∀ t : Int, 0 ≤ t → t < a.length → rd a t = rd b t) : a = b := by
  apply List.ext_getElem h
  intro k h1 h2
  have := e k (by omega) (by omega)
  rw [rd_get (by omega) (by omega), rd_get (by omega) (by omega)] at this
  exact this
theorem rd_set {l : List Int} {i j : Int} (i0 : 0 ≤ i) (i1 : i < l.length) (j0 : 0 ≤ j) (v : Int) : rd (l.set i.toNat v) j = if j = i then v else rd l j := by
  unfold rd
  rw [List.getD_eq_getElem?_getD, List.getD_eq_getElem?_getD, List.getElem?_set]
  by_cases e : j = i
  · subst e; rw [if_pos rfl, if_pos rfl, if_pos (by omega)]; rfl
  · rw [if_neg (by omega), if_neg e]
theorem rd_snoc {l : List Int} {j : Int} (j0 : 0 ≤ j) (v : Int) : rd (l ++ [v]) j = if j < l.length then rd l j else if j = l.length then v else 0 := by
  unfold rd
  rw [List.getD_eq_getElem?_getD, List.getD_eq_getElem?_getD, List.getElem?_append]
  by_cases e : j < l.length
  · rw [if_pos e, if_pos (by omega)]
  · rw [if_neg e, if_neg (by omega)]
    by_cases g : j = l.length
    · rw [if_pos g, show j.toNat - l.length = 0 by omega]; rfl
    · rw [if_neg g, List.getElem?_eq_none (by simp; omega)]; rfl
/-- The pitch of the t-th tone of a scale that goes on through all octaves. -/
def ff (s : List Int) (t : Int) : Int := rd s (t % s.length) + 12 * (t / s.length)
theorem ff_add {s : List Int} (h : 0 < (s.length : Int)) (t q : Int) : ff s (t + s.length * q) = ff s t + 12 * q := by
  unfold ff
  rw [Int.add_mul_emod_self_left, Int.add_mul_ediv_left _ _ (by omega)]
  omega
theorem ff_lo {s : List Int} {t : Int} (h0 : 0 ≤ t) (h1 : t < s.length) : ff s t = rd s t := by
  unfold ff
  rw [Int.emod_eq_of_lt h0 h1, Int.ediv_eq_zero_of_lt h0 h1]
  omega
theorem ff_hi {s : List Int} {t : Int} (h0 : s.length ≤ t) (h1 : t < 2 * (s.length : Int)) : ff s t = rd s (t - s.length) + 12 := by
  have := ff_add (s := s) (by omega) (t - s.length) 1
  rw [Int.mul_one, show t - (s.length : Int) + s.length = t by omega, ff_lo (t := t - s.length) (by omega) (by omega)] at this
  omega
theorem ff_lt {s : List Int} (h : scaleP s) {a b : Int} (ab : a < b) : ff s a < ff s b := by
  have h1 := h.1
  have n0 : 0 < (s.length : Int) := by omega
  have ea := Int.emod_add_mul_ediv a s.length
  have eb := Int.emod_add_mul_ediv b s.length
  have a0 := Int.emod_nonneg a (show (s.length : Int) ≠ 0 by omega)
  have b0 := Int.emod_nonneg b (show (s.length : Int) ≠ 0 by omega)
  have a1 := Int.emod_lt_of_pos a n0
  have b1 := Int.emod_lt_of_pos b n0
  have xa := scale_at h a0 a1
  have xb := scale_at h b0 b1
  have hq : a / (s.length : Int) ≤ b / s.length := Int.ediv_le_ediv n0 (by omega)
  unfold ff
  by_cases e : a / (s.length : Int) = b / s.length
  · rw [e] at ea
    have := scale_mono h a0 (show a % (s.length : Int) < b % s.length by omega) b1
    omega
  · omega
/-- The scale on its i-th tone. -/
def rot (s : List Int) (i : Int) : List Int := (List.range s.length).map fun (t : Nat) => ff s (i + t) - ff s i
theorem rot_len (s : List Int) (i : Int) : (rot s i).length = s.length := by simp [rot]
theorem rot_rd (s : List Int) (i : Int) {t : Int} (t0 : 0 ≤ t) (t1 : t < s.length) : rd (rot s i) t = ff s (i + t) - ff s i := by
  rw [rd_get t0 (by rw [rot_len]; exact t1)]
  simp only [rot, List.getElem_map, List.getElem_range]
  rw [show ((t.toNat : Nat) : Int) = t by omega]
theorem eq_rot {s x : List Int} {i : Int} (h : x.length = s.length) (e : ∀ t : Int, 0 ≤ t → t < s.length → rd x t = ff s (i + t) - ff s i) : x = rot s i :=
  eq_of_rd (by rw [rot_len, h]) (fun t t0 t1 => by rw [rot_rd s i t0 (by omega)]; exact e t t0 (by omega))
theorem rd0 {s : List Int} (h : scaleP s) : rd s 0 = 0 := by
  obtain ⟨h1, _, _, _, h5⟩ := h
  cases s with
  | nil => cases h5
  | cons x t => simp at h5; subst h5; rfl
theorem rot_scale {s : List Int} (h : scaleP s) (i : Int) : scaleP (rot s i) := by
  have h1 := h.1
  refine ⟨by rw [rot_len]; exact h.1, by rw [rot_len]; exact h.2.1, ?_, ?_, ?_⟩
  · refine List.pairwise_iff_getElem.2 (fun a b ha hb ab => ?_)
    simp only [rot, List.getElem_map, List.getElem_range]
    have := ff_lt h (a := i + a) (b := i + b) (by omega)
    omega
  · intro x hx
    obtain ⟨t, ht, rfl⟩ := List.mem_map.1 hx
    have ht := List.mem_range.1 ht
    have e := ff_add (s := s) (by omega) i 1
    rw [Int.mul_one] at e
    have u := ff_lt h (a := i + t) (b := i + s.length) (by omega)
    by_cases z : t = 0
    · subst z
      rw [show i + ((0 : Nat) : Int) = i by omega] at u ⊢
      omega
    · have := ff_lt h (a := i) (b := i + t) (by omega)
      omega
  · have e : (rot s i)[0]? = some 0 := by
      rw [List.getElem?_eq_getElem (by rw [rot_len]; omega)]
      simp only [rot, List.getElem_map, List.getElem_range]
      rw [show i + ((0 : Nat) : Int) = i by omega, Int.sub_self]
    rw [List.head?_eq_getElem?]
    exact e
theorem ff_rot {s : List Int} (h : scaleP s) (i t : Int) : ff (rot s i) t = ff s (i + t) - ff s i := by
  have h1 := h.1
  have n0 : 0 < (s.length : Int) := by omega
  have e : ff (rot s i) t = rd (rot s i) (t % s.length) + 12 * (t / s.length) := by unfold ff; rw [rot_len]
  rw [e, rot_rd s i (Int.emod_nonneg t (by omega)) (Int.emod_lt_of_pos t n0)]
  have := ff_add (s := s) n0 (i + t % s.length) (t / s.length)
  rw [show i + t % (s.length : Int) + s.length * (t / s.length) = i + t by have := Int.emod_add_mul_ediv t s.length; omega] at this
  omega
theorem rot_back {s : List Int} (h : scaleP s) {i : Int} (i0 : 0 ≤ i) (i1 : i < s.length) : rot (rot s i) (Int.tmod ((s.length : Int) - i) s.length) = s := by
  have h1 := h.1
  apply eq_of_rd (by rw [rot_len, rot_len])
  intro t t0 t1
  rw [rot_len, rot_len] at t1
  rw [rot_rd _ _ t0 (by rw [rot_len]; exact t1), ff_rot h, ff_rot h, Int.tmod_eq_emod_of_nonneg (by omega)]
  have z := rd0 h
  have f0 := ff_lo (s := s) (t := 0) (by omega) (by omega)
  have ft := ff_lo (s := s) t0 t1
  by_cases e : i = 0
  · subst e
    rw [show (s.length : Int) - 0 = s.length by omega, Int.emod_self, show 0 + (0 + t) = t by omega, show (0 : Int) + 0 = 0 by omega]
    omega
  · rw [Int.emod_eq_of_lt (by omega) (by omega)]
    have a := ff_add (s := s) (by omega) 0 1
    have b := ff_add (s := s) (by omega) t 1
    rw [Int.mul_one] at a b
    rw [show i + ((s.length : Int) - i + t) = t + s.length by omega, show i + ((s.length : Int) - i) = 0 + s.length by omega]
    omega
theorem val_eq {s : List Int} (h : scaleP s) {i t : Int} (i0 : 0 ≤ i) (i1 : i < s.length) (t0 : 0 ≤ t) (t1 : t < s.length) : tn (rd s (Int.tmod (i + t) s.length) - rd s i) = ff s (i + t) - ff s i := by
  rw [Int.tmod_eq_emod_of_nonneg (by omega), ff_lo i0 i1]
  have xi := scale_at h i0 i1
  by_cases e : i + t < s.length
  · rw [Int.emod_eq_of_lt (by omega) e, ff_lo (by omega) e]
    have xt := scale_at h (i := i + t) (by omega) e
    have : rd s i ≤ rd s (i + t) := by
      by_cases z : t = 0
      · subst z; rw [show i + 0 = i by omega]; exact Int.le_refl _
      · exact Int.le_of_lt (scale_mono h i0 (by omega) e)
    unfold tn; omega
  · have e' : (i + t) % (s.length : Int) = i + t - s.length := by
      rw [show i + t = (i + t - s.length) + s.length * 1 by omega, Int.add_mul_emod_self_left, Int.emod_eq_of_lt (by omega) (by omega)]
      omega
    rw [e', ff_hi (by omega) (by omega)]
    have xt := scale_at h (i := i + t - s.length) (by omega) (by omega)
    have := scale_mono h (i := i + t - s.length) (j := i) (by omega) (by omega) i1
    unfold tn; omega
theorem rotated_wp {s : List Int} (h : scaleP s) {i : Int} (i0 : 0 ≤ i) (i1 : i < s.length) : Wp (fun k => impl_rotated.f k s i) (fun r => r = rot s i) := by
  have h1 := h.1
  have h2 := h.2.1
  have key : ∀ (d : Nat) (t : Int) (x : List Int), 0 ≤ t → t + d = s.length → x.length = s.length → (∀ u : Int, 0 ≤ u → u < t → rd x u = ff s (i + u) - ff s i) → Wp (fun k => impl_rotated.l0 k s i x s.length t) (fun r => r = rot s i) := by
    intro d
    induction d with
    | zero =>
      intro t x t0 t1 hx hv
      refine Wp.step ?_
      simp only [impl_rotated.l0]
      exact Wp.neg (by omega) (Wp.now (eq_rot hx (fun u u0 u1 => hv u u0 (by omega))))
    | succ d ih =>
      intro t x t0 t1 hx hv
      refine Wp.step ?_
      simp only [impl_rotated.l0, impl_ToneOf.f, Option.bind_some]
      have hm0 : 0 ≤ Int.tmod (i + t) s.length := Int.tmod_nonneg _ (by omega)
      have hm1 : Int.tmod (i + t) s.length < s.length := Int.tmod_lt_of_pos _ (by omega)
      have hv' := val_eq h i0 i1 t0 (by omega)
      have xm := scale_at h hm0 hm1
      have xi := scale_at h i0 i1
      rw [w64 (n := i + t) (by omega) (by omega), w64 (n := t + 1) (by omega) (by omega), w64 (n := rd s (Int.tmod (i + t) s.length) - rd s i) (by omega) (by omega), tn_eq (by omega), hv']
      refine Wp.pos (by omega) (Wp.neg (by omega) (Wp.pos hm0 (Wp.pos hm1 (Wp.pos i0 (Wp.pos i1 (Wp.pos t0 (Wp.pos (by omega) (ih (t + 1) _ (by omega) (by omega) (by rw [List.length_set]; exact hx) ?_))))))))
      intro u u0 u1
      rw [rd_set t0 (by omega) u0]
      split
      · next e => rw [e]
      · exact hv u u0 (by omega)
  simp only [impl_rotated.f]
  exact Wp.pos (by omega) (Wp.pos (by omega) (key s.length 0 _ (by omega) (by omega) (by simp) (fun u u0 u1 => by omega)))
theorem l03Rotate_wp {s : List Int} (h : scaleP s) {i : Int} (i0 : 0 ≤ i) (i1 : i < s.length) : Wp (fun k => spec_l03Rotate.f k s i) (fun r => r = rot s i) := by
  have h1 := h.1
  have h2 := h.2.1
  have key : ∀ (d : Nat) (t : Int) (x : List Int), 0 ≤ t → t + d = s.length → (x.length : Int) = t → (∀ u : Int, 0 ≤ u → u < t → rd x u = ff s (i + u) - ff s i) → Wp (fun k => spec_l03Rotate.l0 k s i x s.length t) (fun r => r = rot s i) := by
    intro d
    induction d with
    | zero =>
      intro t x t0 t1 hx hv
      refine Wp.step ?_
      simp only [spec_l03Rotate.l0]
      exact Wp.neg (by omega) (Wp.now (eq_rot (by omega) (fun u u0 u1 => hv u u0 (by omega))))
    | succ d ih =>
      intro t x t0 t1 hx hv
      refine Wp.step ?_
      simp only [spec_l03Rotate.l0, spec_l03Tone.f, Option.bind_some]
      have hm0 : 0 ≤ Int.tmod (i + t) s.length := Int.tmod_nonneg _ (by omega)
      have hm1 : Int.tmod (i + t) s.length < s.length := Int.tmod_lt_of_pos _ (by omega)
      have hv' := val_eq h i0 i1 t0 (by omega)
      have xm := scale_at h hm0 hm1
      have xi := scale_at h i0 i1
      rw [w64 (n := i + t) (by omega) (by omega), w64 (n := t + 1) (by omega) (by omega), w64 (n := rd s (Int.tmod (i + t) s.length) - rd s i) (by omega) (by omega), tn_eq (by omega), hv']
      refine Wp.pos (by omega) (Wp.neg (by omega) (Wp.pos hm0 (Wp.pos hm1 (Wp.pos i0 (Wp.pos i1 (Wp.pos (by omega) (ih (t + 1) _ (by omega) (by omega) (by simp; omega) ?_)))))))
      intro u u0 u1
      rw [rd_snoc u0]
      by_cases e : u < x.length
      · rw [if_pos e]; exact hv u u0 (by omega)
      · rw [if_neg e, if_pos (by omega), show u = t by omega]
  simp only [spec_l03Rotate.f]
  exact key s.length 0 _ (by omega) (by omega) (by simp) (fun u u0 u1 => by omega)
theorem rotateScale_wp {s : List Int} (h : scaleP s) {i : Int} (i0 : 0 ≤ i) (i1 : i < s.length) : Wp (fun k => impl_RotateScale.f k s i) (fun r => r = (rot s i, 0)) := by
  have h1 := h.1
  have h2 := h.2.1
  simp only [impl_RotateScale.f, within_f, Option.bind_some]
  rw [w64 (n := (s.length : Int) - 1) (by omega) (by omega)]
  exact Wp.val (vScale_wp h) (Wp.posB rfl (Wp.posB (decide_eq_true (by omega)) (Wp.val (rotated_wp h i0 i1) (Wp.now rfl))))
theorem specRotate_wp {s : List Int} (h : scaleP s) {i : Int} (i0 : 0 ≤ i) (i1 : i < s.length) : Wp (fun k => spec_RotateScale.f k s i) (fun r => r = (rot s i, 0)) := by
  have h1 := h.1
  have h2 := h.2.1
  simp only [spec_RotateScale.f, l00In_f, Option.bind_some]
  rw [w64 (n := (s.length : Int) - 1) (by omega) (by omega)]
  exact Wp.val (l03Scale_wp h) (Wp.posB rfl (Wp.posB (decide_eq_true (by omega)) (Wp.val (l03Rotate_wp h i0 i1) (Wp.now rfl))))
/-- The steps of a scale. -/
theorem intervals_wp {s : List Int} (h : scaleP s) : Wp (fun k => impl_IntervalsOf.f k s) (fun r => r.2 = 0 ∧ r.1.length = s.length ∧ ∀ t : Int, 0 ≤ t → t < s.length → rd r.1 t = ff s (t + 1) - ff s t) := by
  have h1 := h.1
  have h2 := h.2.1
  have key : ∀ (d : Nat) (t : Int) (x : List Int), 0 ≤ t → t + d = s.length → x.length = s.length → (∀ u : Int, 0 ≤ u → u < t → rd x u = ff s (u + 1) - ff s u) → Wp (fun k => impl_IntervalsOf.l0 k s x s.length t) (fun r => r.2 = 0 ∧ r.1.length = s.length ∧ ∀ t : Int, 0 ≤ t → t < s.length → rd r.1 t = ff s (t + 1) - ff s t) := by
    intro d
    induction d with
    | zero =>
      intro t x t0 t1 hx hv
      refine Wp.step ?_
      simp only [impl_IntervalsOf.l0]
      exact Wp.neg (by omega) (Wp.now ⟨rfl, hx, fun u u0 u1 => hv u u0 (by omega)⟩)
    | succ d ih =>
      intro t x t0 t1 hx hv
      refine Wp.step ?_
      simp only [impl_IntervalsOf.l0]
      have xt := scale_at h t0 (by omega)
      rw [w64 (n := (s.length : Int) - 1) (by omega) (by omega), w64 (n := t + 1) (by omega) (by omega), w64 (n := 12 - rd s t) (by omega) (by omega)]
      refine Wp.pos (by omega) (Wp.ite (fun e => ?_) (fun e => ?_))
      · have xu := scale_at h (i := t + 1) (by omega) (by omega)
        rw [w64 (n := rd s (t + 1) - rd s t) (by omega) (by omega)]
        refine Wp.pos (by omega) (Wp.pos (by omega) (Wp.pos t0 (Wp.pos (by omega) (Wp.pos (by omega) (ih (t + 1) _ (by omega) (by omega) (by rw [List.length_set]; exact hx) ?_)))))
        intro u u0 u1
        rw [rd_set t0 (by omega) u0]
        split
        · next e => rw [e, ff_lo (t := t) t0 (by omega), ff_lo (t := t + 1) (by omega) (by omega)]
        · exact hv u u0 (by omega)
      · refine Wp.pos t0 (Wp.pos (by omega) (Wp.pos (by omega) (ih (t + 1) _ (by omega) (by omega) (by rw [List.length_set]; exact hx) ?_)))
        intro u u0 u1
        rw [rd_set t0 (by omega) u0]
        split
        · next e' =>
          have z := rd0 h
          rw [e', ff_lo (t := t) t0 (by omega), ff_hi (t := t + 1) (by omega) (by omega), show t + 1 - (s.length : Int) = 0 by omega, z]
          omega
        · exact hv u u0 (by omega)
  simp only [impl_IntervalsOf.f]
  exact Wp.val (vScale_wp h) (Wp.posB rfl (Wp.pos (by omega) (Wp.pos (by omega) (key s.length 0 _ (by omega) (by omega) (by simp) (fun u u0 u1 => by omega)))))
theorem equal_wp {a b : List Int} (hl : a.length ≤ 1000) : Wp (fun k => slices_Equal_int64_int64.f k a b) (fun r => r = decide (a = b)) := by
  simp only [slices_Equal_int64_int64.f]
  refine Wp.ite (fun e => ?_) (fun e => Wp.now (by symm; apply decide_eq_false; rintro rfl; exact e rfl))
  have key : ∀ (d : Nat) (t : Int), 0 ≤ t → t + d = a.length → (∀ u : Int, 0 ≤ u → u < t → rd a u = rd b u) → Wp (fun k => slices_Equal_int64_int64.l0 k a b a.length t) (fun r => r = decide (a = b)) := by
    intro d
    induction d with
    | zero =>
      intro t t0 t1 hv
      refine Wp.step ?_
      simp only [slices_Equal_int64_int64.l0]
      exact Wp.neg (by omega) (Wp.now (by symm; apply decide_eq_true; exact eq_of_rd (by omega) (fun u u0 u1 => hv u u0 (by omega))))
    | succ d ih =>
      intro t t0 t1 hv
      refine Wp.step ?_
      simp only [slices_Equal_int64_int64.l0]
      rw [w64 (n := t + 1) (by omega) (by omega)]
      refine Wp.pos (by omega) (Wp.pos t0 (Wp.pos (by omega) (Wp.pos (by omega) (Wp.ite (fun g => ih (t + 1) (by omega) (by omega) (fun u u0 u1 => ?_)) (fun g => Wp.now ?_)))))
      · by_cases z : u = t
        · rw [z]; exact g
        · exact hv u u0 (by omega)
      · symm; apply decide_eq_false; rintro rfl; exact g rfl
  exact key a.length 0 (by omega) (by omega) (fun u u0 u1 => by omega)
theorem least_wp {p : Nat → Int → Option Bool} {q : Int → Bool} : ∀ (d : Nat) (a : Int), (∀ x, a ≤ x → x < a + d → Wp (fun k => p k x) (fun r => r = q x)) → Wp (fun k => leastO (p k) d a) (fun r => (r.2 = true → a ≤ r.1 ∧ r.1 < a + d ∧ q r.1 = true ∧ ∀ x, a ≤ x → x < r.1 → q x = false) ∧ (r.2 = false → ∀ x, a ≤ x → x < a + d → q x = false))
  | 0, a, _ => Wp.now ⟨fun e => (by cases e), fun _ x x0 x1 => by omega⟩
  | d + 1, a, h => by
    simp only [leastO]
    refine Wp.val (h a (by omega) (by omega)) (Wp.iteB (fun e => Wp.now ⟨fun _ => ⟨by omega, by omega, e, fun x x0 x1 => by omega⟩, fun e' => by cases e'⟩) (fun e => (least_wp d (a + 1) (fun x x0 x1 => h x (by omega) (by omega))).mono ?_))
    rintro ⟨r, b⟩ ⟨h1, h2⟩
    dsimp only at h1 h2 ⊢
    refine ⟨fun hb => ?_, fun hb x x0 x1 => ?_⟩
    · obtain ⟨u1, u2, u3, u4⟩ := h1 hb
      refine ⟨by omega, by omega, u3, fun x x0 x1 => ?_⟩
      by_cases z : x = a
      · rw [z]; exact e
      · exact u4 x (by omega) x1
    · by_cases z : x = a
      · rw [z]; exact e
      · exact h2 hb x (by omega) (by omega)
theorem rotationTo_wp {s : List Int} (h : scaleP s) {i : Int} (i0 : 0 ≤ i) (i1 : i < s.length) : Wp (fun k => impl_RotationTo.f k s (rot s i)) (fun r => r.2 = 0 ∧ 0 ≤ r.1 ∧ r.1 ≤ i ∧ rot s r.1 = rot s i) := by
  have h1 := h.1
  have h2 := h.2.1
  simp only [impl_RotationTo.f]
  refine Wp.val (vScale_wp h) (Wp.posB rfl (Wp.val (vScale_wp (rot_scale h i)) (Wp.step ?_)))
  simp only [impl_RotationTo.j0, impl_least_at_impl_RotationTo_1.f]
  rw [w64 (n := (s.length : Int) - 1) (by omega) (by omega), show ((s.length : Int) - 1 - 0 + 1).toNat = s.length by omega]
  refine Wp.negB rfl (Wp.call (P := fun r => r.2 = true ∧ 0 ≤ r.1 ∧ r.1 ≤ i ∧ rot s r.1 = rot s i) (Wp.pos (by omega) ((least_wp (q := fun x => decide (rot s x = rot s i)) s.length 0 ?_).mono ?_)) ?_)
  · intro x x0 x1
    simp only [impl_RotationTo_1.f]
    refine Wp.val (rotated_wp (s := s) h x0 (by omega)) (Wp.val (a := decide (rot s x = rot s i)) ?_ (Wp.now rfl))
    exact equal_wp (by rw [rot_len]; omega)
  · rintro ⟨r, b⟩ ⟨u1, u2⟩
    dsimp only at u1 u2 ⊢
    cases b with
    | false => have := u2 rfl i (by omega) (by omega); simp at this
    | true =>
      obtain ⟨v1, v2, v3, v4⟩ := u1 rfl
      refine ⟨rfl, v1, ?_, of_decide_eq_true v3⟩
      by_cases z : i < r
      · have := v4 i i0 z; simp at this
      · omega
  · rintro ⟨r, b⟩ ⟨rfl, u⟩
    dsimp only at u ⊢
    simp only [impl_orNotFound.f]
    exact Wp.call (P := fun x => x = (r, 0)) (Wp.pos (by trivial) (Wp.now rfl)) (fun x e => by subst e; exact Wp.now ⟨rfl, u⟩)
theorem common_wp {s r : List Int} (h : scaleP s) (hr : scaleP r) : Wp (fun k => impl_CommonTones.f k s r) (fun x => x = (s.filter (fun x => r.contains x), 0)) := by
  have h1 := h.1
  have h2 := h.2.1
  have h3 := hr.2.1
  simp only [impl_CommonTones.f]
  exact Wp.val (vScale_wp h) (Wp.posB rfl (Wp.val (vScale_wp hr) (Wp.posB rfl (Wp.pos ⟨by omega, by omega, by omega⟩ (Wp.now rfl)))))
end Go.Proofs.Ytcfcohfniibpdaa.Pure
