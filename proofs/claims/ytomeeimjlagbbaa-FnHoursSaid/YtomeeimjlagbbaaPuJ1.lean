/- Plain facts: names, items, and when items fit. -/
import Derived.Test.YtomeeimjlagbbaaPuJ0
import Derived.Test.YtomeeimjlagbbaaPHx4
import Derived.Test.YtomeeimjlagbbaaPHx5
import Derived.Test.YtomeeimjlagbbaaPHx6
import Derived.Test.YtomeeimjlagbbaaPHx7
import Derived.Test.YtomeeimjlagbbaaPHx8
import Derived.Test.YtomeeimjlagbbaaPHx9
import Derived.Test.YtomeeimjlagbbaaPHx10
import Derived.Test.YtomeeimjlagbbaaPHx12
import Derived.Test.YtomeeimjlagbbaaPHx13
import Derived.Test.YtomeeimjlagbbaaPHx15
import Derived.Test.YtomeeimjlagbbaaPHx16
import Derived.Test.YtomeeimjlagbbaaPHx17
namespace Go.Proofs.Ytomeeimjlagbbaa.Pure
open Go.RowKit Go.Proofs.Ytomeeimjlagbbaa.PH Go.Proofs.YtomeeimjlagbbaaW.PrintWords Go.Proofs.YtomeeimjlagbbaaW.PrintLast
set_option linter.unusedSimpArgs false
set_option linter.unusedVariables false

def within_ (n a b : Int) : Bool := decide (a ≤ n) && decide (n ≤ b)
theorem within_f (n a b : Int) : impl_within.f n a b = some (within_ n a b) := by
  unfold impl_within.f within_
  by_cases h : n ≥ a
  · rw [if_pos h]; simp [show a ≤ n from h]
  · rw [if_neg h]; simp [show ¬ a ≤ n from h]
theorem within_iff (n a b : Int) : within_ n a b = true ↔ a ≤ n ∧ n ≤ b := by unfold within_; simp
def allI (p : Int → Bool) : Nat → Int → Bool
  | 0, _ => true
  | d + 1, i => p i && allI p d (i + 1)
theorem allI_true {p : Int → Bool} : ∀ {d : Nat} {i : Int}, allI p d i = true ↔ ∀ j, i ≤ j → j < i + d → p j = true
  | 0, i => ⟨fun _ j h1 h2 => by omega, fun _ => rfl⟩
  | d + 1, i => by
    simp only [allI, Bool.and_eq_true, allI_true (d := d)]
    refine ⟨fun ⟨h1, h2⟩ j a b => ?_, fun h => ⟨h i (by omega) (by omega), fun j a b => h j (by omega) (by omega)⟩⟩
    by_cases e : j = i
    · rw [e]; exact h1
    · exact h2 j (by omega) (by omega)
theorem allI_congr {p q : Int → Bool} : ∀ {d : Nat} {i : Int}, (∀ j, i ≤ j → j < i + d → p j = q j) → allI p d i = allI q d i
  | 0, _, _ => rfl
  | d + 1, i, h => by
    simp only [allI]
    rw [h i (by omega) (by omega), allI_congr (fun j a b => h j (by omega) (by omega))]

/-! ### names -/
theorem l00In_f (n a b : Int) : spec_l00In.f n a b = some (within_ n a b) := by
  unfold spec_l00In.f within_
  by_cases h : n ≥ a
  · rw [if_pos h]; simp [show a ≤ n from h]
  · rw [if_neg h]; simp [show ¬ a ≤ n from h]
def okb (c : Int) : Bool := (decide (97 ≤ c) && decide (c ≤ 122)) || (decide (48 ≤ c) && decide (c ≤ 57))
theorem onlyName_l0 (s : ByteArray) (hs : s.size ≤ maxLen) : ∀ (d : Nat) (i : Int), 0 ≤ i → i + d = s.size → ∀ k, d < k → impl_onlyNameBytes.l0 k s (s.size : Int) i = some (allI (fun j => okb (bt s j)) d i) := by
  unfold maxLen at hs
  intro d
  induction d with
  | zero =>
    intro i h0 h1 k hk
    obtain ⟨k, rfl⟩ : ∃ m, k = m + 1 := ⟨k - 1, by omega⟩
    simp only [impl_onlyNameBytes.l0]
    rw [if_neg (by omega)]; rfl
  | succ d ih =>
    intro i h0 h1 k hk
    obtain ⟨k, rfl⟩ : ∃ m, k = m + 1 := ⟨k - 1, by omega⟩
    simp only [impl_onlyNameBytes.l0, allI]
    rw [if_pos (by omega), if_pos h0, if_pos (by omega), w64 (by omega) (by omega), ih (i + 1) (by omega) (by omega) k (by omega)]
    generalize bt s i = c
    generalize allI (fun j => okb (bt s j)) d (i + 1) = A
    unfold okb
    by_cases a : c < 97 <;> by_cases b : c < 48 <;> by_cases e : c > 57 <;> by_cases f : c > 122 <;> first | (exfalso; omega) | (simp [a, b, e, f] <;> (try (intros; omega)) <;> done) | (rw [show decide (97 ≤ c) = !decide (c < 97) from by simp, show decide (48 ≤ c) = !decide (c < 48) from by simp, show decide (c ≤ 122) = !decide (c > 122) from by simp, show decide (c ≤ 57) = !decide (c > 57) from by simp]; simp [a, b, e, f])
def nameB (s : ByteArray) : Bool :=
  if (s.size : Int) < 1 then false else if (s.size : Int) > 10 then false else if bt s 0 < 97 then false else if bt s 0 > 122 then false else allI (fun j => okb (bt s j)) s.size 0
theorem isName_ev (s : ByteArray) (hs : s.size ≤ maxLen) : ∃ K, ∀ k, K ≤ k → impl_IsName.f k s = some (nameB s) := by
  refine ⟨s.size + 1, fun k hk => ?_⟩
  simp only [impl_IsName.f, impl_onlyNameBytes.f]
  rw [onlyName_l0 s hs s.size 0 (by omega) (by omega) k (by omega)]
  unfold nameB
  by_cases h1 : (s.size : Int) < 1
  · rw [if_pos h1, if_pos h1]
  · rw [if_neg h1, if_neg h1]
    by_cases h2 : (s.size : Int) > 10
    · rw [if_pos h2, if_pos h2]
    · rw [if_neg h2, if_neg h2, if_pos (by omega)]
      by_cases h3 : bt s 0 < 97
      · rw [if_pos h3, if_pos h3]
      · rw [if_neg h3, if_neg h3]
        by_cases h4 : bt s 0 > 122
        · rw [if_pos h4, if_pos h4]
        · rw [if_neg h4, if_neg h4]; rfl
theorem l01Small_f (c : Int) : spec_l01Small.f c = some (decide (97 ≤ c) && decide (c ≤ 122)) := by
  unfold spec_l01Small.f
  by_cases h : c ≥ 97
  · rw [if_pos h]; simp [show 97 ≤ c from h]
  · rw [if_neg h]; simp [show ¬ 97 ≤ c from h]
theorem l01Digit_f (c : Int) : spec_l01Digit.f c = some (decide (48 ≤ c) && decide (c ≤ 57)) := by
  unfold spec_l01Digit.f
  by_cases h : c ≥ 48
  · rw [if_pos h]; simp [show 48 ≤ c from h]
  · rw [if_neg h]; simp [show ¬ 48 ≤ c from h]
theorem l01Name_l0 (s : ByteArray) (hs : s.size ≤ maxLen) : ∀ (d : Nat) (i : Int), 0 ≤ i → i + d = s.size → ∀ k, d < k → spec_l01Name.l0 k s i = some (allI (fun j => okb (bt s j)) d i) := by
  unfold maxLen at hs
  intro d
  induction d with
  | zero =>
    intro i h0 h1 k hk
    obtain ⟨k, rfl⟩ : ∃ m, k = m + 1 := ⟨k - 1, by omega⟩
    simp only [spec_l01Name.l0]
    rw [if_neg (by omega)]; rfl
  | succ d ih =>
    intro i h0 h1 k hk
    obtain ⟨k, rfl⟩ : ∃ m, k = m + 1 := ⟨k - 1, by omega⟩
    simp only [spec_l01Name.l0, allI, l01Small_f, l01Digit_f, Option.bind_some]
    rw [if_pos (by omega), if_pos h0, w64 (by omega) (by omega), ih (i + 1) (by omega) (by omega) k (by omega)]
    generalize bt s i = c
    unfold okb
    cases (decide (97 ≤ c) && decide (c ≤ 122)) <;> cases (decide (48 ≤ c) && decide (c ≤ 57)) <;> simp
theorem l01Name_ev (s : ByteArray) (hs : s.size ≤ maxLen) : ∃ K, ∀ k, K ≤ k → spec_l01Name.f k s = some (nameB s) := by
  refine ⟨s.size + 2, fun k hk => ?_⟩
  obtain ⟨k, rfl⟩ : ∃ m, k = m + 1 := ⟨k - 1, by omega⟩
  have h0 := l01Name_l0 s hs s.size 0 (by omega) (by omega) k (by omega)
  unfold nameB
  by_cases h1 : (s.size : Int) < 1
  · have e : s.toList = [] := (toList_nil_iff_emptyBytes s).2 (by
      have h : s.size = 0 := by omega
      cases s with | mk d => have hd : d.size = 0 := h; cases d with | mk l => have : l = [] := List.eq_nil_of_length_eq_zero hd; subst this; rfl)
    simp only [spec_l01Name.f, spec_l01Name.j0]
    rw [if_pos e, if_pos h1]; rfl
  · have e : ¬ s.toList = [] := fun e => h1 (by rw [(toList_nil_iff_emptyBytes s).1 e]; decide)
    simp only [spec_l01Name.f, spec_l01Name.j0, l01Small_f, Option.bind_some]
    rw [if_neg e, if_neg h1]
    by_cases h2 : (s.size : Int) > 10
    · rw [if_pos h2, if_pos h2]; rfl
    · rw [if_neg h2, if_neg h2, if_pos (by omega), h0]
      by_cases h3 : bt s 0 < 97
      · rw [if_pos h3]; simp [show ¬ 97 ≤ bt s 0 by omega]
      · rw [if_neg h3]
        by_cases h4 : bt s 0 > 122
        · rw [if_pos h4]; simp [show ¬ bt s 0 ≤ 122 by omega]
        · rw [if_neg h4]; simp [show 97 ≤ bt s 0 by omega, show bt s 0 ≤ 122 by omega]


def filR (e : Int → Bool) : Nat → Int → List Int
  | 0, _ => []
  | d + 1, i => if e i = true then i :: filR e d (i + 1) else filR e d (i + 1)
theorem filR_mem {e : Int → Bool} : ∀ {d : Nat} {i j : Int}, j ∈ filR e d i ↔ i ≤ j ∧ j < i + d ∧ e j = true
  | 0, i, j => by simp only [filR]; constructor; · intro h; cases h
                  · intro h; omega
  | d + 1, i, j => by
    simp only [filR]
    by_cases c : e i = true
    · rw [if_pos c, List.mem_cons, filR_mem]
      constructor
      · rintro (rfl | h)
        · exact ⟨by omega, by omega, c⟩
        · exact ⟨by omega, by omega, h.2.2⟩
      · rintro ⟨h1, h2, h3⟩
        by_cases z : j = i
        · exact .inl z
        · exact .inr ⟨by omega, by omega, h3⟩
    · rw [if_neg c, filR_mem]
      constructor
      · rintro ⟨h1, h2, h3⟩; exact ⟨by omega, by omega, h3⟩
      · rintro ⟨h1, h2, h3⟩
        by_cases z : j = i
        · subst z; exact absurd h3 c
        · exact ⟨by omega, by omega, h3⟩
theorem filR_length (e : Int → Bool) : ∀ (d : Nat) (i : Int), (filR e d i).length ≤ d
  | 0, _ => by simp [filR]
  | d + 1, i => by
    have := filR_length e d (i + 1)
    simp only [filR]
    split
    · simp; omega
    · omega
theorem filR_pw (e : Int → Bool) : ∀ (d : Nat) (i : Int), (filR e d i).Pairwise (· < ·)
  | 0, _ => by simp [filR]
  | d + 1, i => by
    have ih := filR_pw e d (i + 1)
    simp only [filR]
    split
    · refine List.Pairwise.cons (fun j hj => ?_) ih
      have := filR_mem.1 hj
      omega
    · exact ih
theorem rises_ev (L : List Int) (n : Int) (hb : ∀ j ∈ L, 0 ≤ j ∧ j < n) (hp : L.Pairwise (· < ·)) (hl : L.length ≤ 1000) : ∀ k, L.length + 1 < k → laws_b10Rises.f k L n = some true := by
  have L0 : ∀ (d : Nat) (i : Int), 0 ≤ i → i + d = L.length → ∀ k, d < k → laws_b10Rises.l0 k L n i = some true := by
    intro d
    induction d with
    | zero =>
      intro i h0 h1 k hk
      obtain ⟨k, rfl⟩ : ∃ m, k = m + 1 := ⟨k - 1, by omega⟩
      simp only [laws_b10Rises.l0]
      rw [if_neg (by omega)]
    | succ d ih =>
      intro i h0 h1 k hk
      obtain ⟨k, rfl⟩ : ∃ m, k = m + 1 := ⟨k - 1, by omega⟩
      have hm := hb (rd L i) (by rw [rd_get h0 (by omega)]; exact List.getElem_mem _)
      simp only [laws_b10Rises.l0]
      rw [if_pos (by omega), if_pos h0, if_neg (by omega), if_neg (by omega), w64 (n := i + 1) (by omega) (by omega), ih (i + 1) (by omega) (by omega) k (by omega)]
      by_cases c : i > 0
      · have hlt : rd L (i - 1) < rd L i := by
          rw [rd_get (c := L) (i := i - 1) (by omega) (by omega), rd_get (c := L) h0 (by omega)]
          exact List.pairwise_iff_getElem.1 hp _ _ _ _ (by omega)
        rw [if_pos c, w64 (n := i - 1) (by omega) (by omega), if_pos (by omega), if_pos (by omega), if_neg (by omega)]
      · rw [if_neg c]
  intro k hk
  exact L0 L.length 0 (by omega) (by omega) k (by omega)
theorem has_ev (L : List Int) (a : Int) (hl : L.length ≤ 1000) : ∀ k, L.length + 1 < k → laws_b10Has.f k L a = some (decide (a ∈ L)) := by
  have L0 : ∀ (d : Nat) (i : Int), 0 ≤ i → i + d = L.length → ∀ k, d < k → laws_b10Has.l0 k L a i = some (decide (a ∈ L.drop i.toNat)) := by
    intro d
    induction d with
    | zero =>
      intro i h0 h1 k hk
      obtain ⟨k, rfl⟩ : ∃ m, k = m + 1 := ⟨k - 1, by omega⟩
      simp only [laws_b10Has.l0]
      rw [if_neg (by omega), List.drop_eq_nil_of_le (by omega)]; simp
    | succ d ih =>
      intro i h0 h1 k hk
      obtain ⟨k, rfl⟩ : ∃ m, k = m + 1 := ⟨k - 1, by omega⟩
      simp only [laws_b10Has.l0]
      rw [if_pos (by omega), if_pos h0, w64 (n := i + 1) (by omega) (by omega), ih (i + 1) (by omega) (by omega) k (by omega), drop_cons (c := L) h0 (by omega)]
      by_cases c : rd L i = a
      · rw [if_pos c]; simp [c]
      · rw [if_neg c]
        have : ¬ a = rd L i := fun h => c h.symm
        simp [this]
  intro k hk
  have := L0 L.length 0 (by omega) (by omega) k (by omega)
  simpa [laws_b10Has.f] using this

theorem name_wp (s : ByteArray) (hs : s.size ≤ 100) : Wp (fun k => impl_IsName.f k s) (fun r => r = nameB s) := ⟨_, rfl, isName_ev s (Nat.le_trans hs (by decide))⟩
theorem l01_wp (s : ByteArray) (hs : s.size ≤ 100) : Wp (fun k => spec_l01Name.f k s) (fun r => r = nameB s) := ⟨_, rfl, l01Name_ev s (Nat.le_trans hs (by decide))⟩
/-- A valid item. -/
def itP (n : ByteArray) (a b s m w : Int) : Prop := nameB n = true ∧ (0 ≤ a ∧ a ≤ 1439) ∧ (0 ≤ b ∧ b ≤ 1439) ∧ a ≠ b ∧ (-1 ≤ s ∧ s ≤ 5) ∧ (1 ≤ m ∧ m ≤ 240) ∧ (0 ≤ w ∧ w ≤ 1000)
instance (n : ByteArray) (a b s m w : Int) : Decidable (itP n a b s m w) := by unfold itP; exact inferInstance
theorem validItem_wp (n : ByteArray) (hn : n.size ≤ 100) (a b s m w : Int) : Wp (fun k => impl_ValidItem.f k n a b s m w) (fun r => r = decide (itP n a b s m w)) := by
  simp only [impl_ValidItem.f, impl_minuteOk.f, within_f, Option.bind_some]
  have bad : ∀ {r : Bool}, ¬ itP n a b s m w → r = false → r = decide (itP n a b s m w) := fun h e => by rw [e]; exact (decide_eq_false h).symm
  refine Wp.val (name_wp n hn) (Wp.iteB (fun h1 => Wp.iteB (fun h2 => Wp.iteB (fun h3 => Wp.ite (fun h4 => Wp.now (bad (fun z => z.2.2.2.1 h4) rfl)) (fun h4 => Wp.iteB (fun h5 => Wp.iteB (fun h6 => Wp.now ?_) (fun h6 => Wp.now (bad ?_ rfl))) (fun h5 => Wp.now (bad ?_ rfl)))) (fun h3 => Wp.now (bad ?_ rfl))) (fun h2 => Wp.now (bad ?_ rfl))) (fun h1 => Wp.now (bad ?_ rfl)))
  · rw [within_iff] at h2 h3 h5 h6
    by_cases h7 : within_ w 0 1000 = true
    · rw [h7]; rw [within_iff] at h7; exact (decide_eq_true ⟨h1, h2, h3, h4, h5, h6, h7⟩).symm
    · have h8 : within_ w 0 1000 = false := by simpa using h7
      rw [h8]; exact (decide_eq_false (fun z => h7 ((within_iff _ _ _).2 z.2.2.2.2.2.2))).symm
  · intro z; rw [(within_iff _ _ _).2 z.2.2.2.2.2.1] at h6; cases h6
  · intro z; rw [(within_iff _ _ _).2 z.2.2.2.2.1] at h5; cases h5
  · intro z; rw [(within_iff _ _ _).2 z.2.2.1] at h3; cases h3
  · intro z; rw [(within_iff _ _ _).2 z.2.1] at h2; cases h2
  · intro z; rw [z.1] at h1; cases h1
theorem one_wp8 (n : ByteArray) (hn : n.size ≤ 100) (a b s m w : Int) : Wp (fun k => spec_l08One.f k [(⟨n, a, b, s, m, w⟩ : S43)]) (fun r => r = decide (itP n a b s m w)) := by
  have e : rd_T43 [(⟨n, a, b, s, m, w⟩ : S43)] 0 = ⟨n, a, b, s, m, w⟩ := rfl
  simp only [spec_l08One.f, spec_l08Minute.f, l00In_f, Option.bind_some, e]
  have bad : ∀ {r : Bool}, ¬ itP n a b s m w → r = false → r = decide (itP n a b s m w) := fun h e => by rw [e]; exact (decide_eq_false h).symm
  refine Wp.val (l01_wp n hn) (Wp.iteB (fun h1 => Wp.iteB (fun h2 => Wp.iteB (fun h3 => Wp.ite (fun h4 => Wp.now (bad (fun z => z.2.2.2.1 h4) rfl)) (fun h4 => Wp.iteB (fun h5 => Wp.iteB (fun h6 => Wp.now ?_) (fun h6 => Wp.now (bad ?_ rfl))) (fun h5 => Wp.now (bad ?_ rfl)))) (fun h3 => Wp.now (bad ?_ rfl))) (fun h2 => Wp.now (bad ?_ rfl))) (fun h1 => Wp.now (bad ?_ rfl)))
  · rw [within_iff] at h2 h3 h5 h6
    by_cases h7 : within_ w 0 1000 = true
    · rw [h7]; rw [within_iff] at h7; exact (decide_eq_true ⟨h1, h2, h3, h4, h5, h6, h7⟩).symm
    · have h8 : within_ w 0 1000 = false := by simpa using h7
      rw [h8]; exact (decide_eq_false (fun z => h7 ((within_iff _ _ _).2 z.2.2.2.2.2.2))).symm
  · intro z; rw [(within_iff _ _ _).2 z.2.2.2.2.2.1] at h6; cases h6
  · intro z; rw [(within_iff _ _ _).2 z.2.2.2.2.1] at h5; cases h5
  · intro z; rw [(within_iff _ _ _).2 z.2.2.1] at h3; cases h3
  · intro z; rw [(within_iff _ _ _).2 z.2.1] at h2; cases h2
  · intro z; rw [z.1] at h1; cases h1
/-- When an item fits. -/
def fitP (a b s t se : Int) : Prop := (s = -1 ∨ s = se) ∧ (a < b ∧ a ≤ t ∧ t < b ∨ ¬ a < b ∧ (a ≤ t ∨ t < b))
instance (a b s t se : Int) : Decidable (fitP a b s t se) := by unfold fitP; exact inferInstance
theorem fits_wp (n : ByteArray) (a b s m w t se : Int) : Wp (fun k => impl_Item_fits.f k n a b s m w t se) (fun r => r = decide (fitP a b s t se)) := by
  have tail : ∀ z : Bool, (z = false ↔ (s = -1 ∨ s = se)) → Wp (fun k => impl_Item_fits.j0 k t z n a b s m w) (fun r => r = decide (fitP a b s t se)) := by
    intro z hz
    refine Wp.step ?_
    simp only [impl_Item_fits.j0]
    refine Wp.iteB (fun h => Wp.now ?_) (fun h => Wp.ite (fun h1 => Wp.ite (fun h2 => Wp.now ?_) (fun h2 => Wp.now ?_)) (fun h1 => Wp.ite (fun h2 => Wp.now ?_) (fun h2 => Wp.now ?_)))
    · symm; apply decide_eq_false; intro f; rw [hz.2 f.1] at h; cases h
    · apply decide_eq_decide.2; have := hz.1 h; unfold fitP; omega
    · symm; apply decide_eq_false; intro f; have := f.2; omega
    · symm; apply decide_eq_true; exact ⟨hz.1 h, .inr ⟨h1, .inl h2⟩⟩
    · apply decide_eq_decide.2; have := hz.1 h; unfold fitP; omega
  simp only [impl_Item_fits.f]
  refine Wp.ite (fun h => tail false ⟨fun _ => .inl h, fun _ => rfl⟩) (fun h => tail _ ?_)
  simp
  omega
theorem sfits_wp {n : ByteArray} {a b s m w t se : Int} (ht : 0 ≤ t ∧ t ≤ 1439) (hs : -1 ≤ s) : Wp (fun k => spec_l08Fits.f k [(⟨n, a, b, s, m, w⟩ : S43)] t se) (fun r => r = decide (fitP a b s t se)) := by
  have e : rd_T43 [(⟨n, a, b, s, m, w⟩ : S43)] 0 = ⟨n, a, b, s, m, w⟩ := rfl
  have et : Int.tmod t 1440 = t := by rw [Int.tmod_eq_emod_of_nonneg ht.1]; omega
  have tail : ∀ z : Bool, (z = false ↔ (s = -1 ∨ s = se)) → Wp (fun k => spec_l08Fits.j0 k [(⟨n, a, b, s, m, w⟩ : S43)] t z) (fun r => r = decide (fitP a b s t se)) := by
    intro z hz
    refine Wp.step ?_
    simp only [spec_l08Fits.j0, e]
    refine Wp.iteB (fun h => Wp.now ?_) (fun h => Wp.ite (fun h1 => Wp.ite (fun h2 => Wp.now ?_) (fun h2 => Wp.now ?_)) (fun h1 => Wp.ite (fun h2 => Wp.now ?_) (fun h2 => Wp.now ?_)))
    · symm; apply decide_eq_false; intro f; rw [hz.2 f.1] at h; cases h
    · apply decide_eq_decide.2; have := hz.1 h; unfold fitP; omega
    · symm; apply decide_eq_false; intro f; have := f.2; omega
    · symm; apply decide_eq_true; exact ⟨hz.1 h, .inr ⟨h1, .inl h2⟩⟩
    · apply decide_eq_decide.2; have := hz.1 h; unfold fitP; omega
  simp only [spec_l08Fits.f, e, et]
  refine Wp.ite (fun h => tail _ ?_) (fun h => tail false ⟨fun _ => .inl (by omega), fun _ => rfl⟩)
  simp
  omega
def okT (n : ByteArray) (a b s m w t se : Int) : Prop := itP n a b s m w ∧ (0 ≤ t ∧ t ≤ 1439) ∧ (0 ≤ se ∧ se ≤ 5) ∧ fitP a b s t se
instance (n : ByteArray) (a b s m w t se : Int) : Decidable (okT n a b s m w t se) := by unfold okT; exact inferInstance
theorem fitsTime_wp (n : ByteArray) (hn : n.size ≤ 100) (a b s m w t se : Int) : Wp (fun k => impl_FitsTime.f k n a b s m w t se) (fun r => r = decide (okT n a b s m w t se)) := by
  simp only [impl_FitsTime.f, impl_minuteOk.f, impl_seasonOk.f, within_f, Option.bind_some]
  have bad : ∀ {r : Bool}, ¬ okT n a b s m w t se → r = false → r = decide (okT n a b s m w t se) := fun h e => by rw [e]; exact (decide_eq_false h).symm
  refine Wp.val (validItem_wp n hn a b s m w) (Wp.iteB (fun h1 => Wp.iteB (fun h2 => Wp.iteB (fun h3 => Wp.val (fits_wp n a b s m w t se) (Wp.now ?_)) (fun h3 => Wp.now (bad ?_ rfl))) (fun h2 => Wp.now (bad ?_ rfl))) (fun h1 => Wp.now (bad ?_ rfl)))
  · rw [decide_eq_true_eq] at h1; rw [within_iff] at h2 h3
    exact decide_eq_decide.2 ⟨fun f => ⟨h1, h2, h3, f⟩, fun f => f.2.2.2⟩
  · intro z; rw [(within_iff _ _ _).2 z.2.2.1] at h3; cases h3
  · intro z; rw [(within_iff _ _ _).2 z.2.1] at h2; cases h2
  · intro z; rw [decide_eq_true z.1] at h1; cases h1
theorem sfitsTime_wp (n : ByteArray) (hn : n.size ≤ 100) (a b s m w t se : Int) : Wp (fun k => spec_FitsTime.f k n a b s m w t se) (fun r => r = decide (okT n a b s m w t se)) := by
  simp only [spec_FitsTime.f, spec_l08Minute.f, spec_l08Season.f, l00In_f, Option.bind_some]
  have bad : ∀ {r : Bool}, ¬ okT n a b s m w t se → r = false → r = decide (okT n a b s m w t se) := fun h e => by rw [e]; exact (decide_eq_false h).symm
  refine Wp.val (one_wp8 n hn a b s m w) (Wp.iteB (fun h1 => Wp.iteB (fun h2 => Wp.iteB (fun h3 => ?_) (fun h3 => Wp.now (bad ?_ rfl))) (fun h2 => Wp.now (bad ?_ rfl))) (fun h1 => Wp.now (bad ?_ rfl)))
  · rw [decide_eq_true_eq] at h1; rw [within_iff] at h2 h3
    refine Wp.val (sfits_wp h2 h1.2.2.2.2.1.1) (Wp.now ?_)
    exact decide_eq_decide.2 ⟨fun f => ⟨h1, h2, h3, f⟩, fun f => f.2.2.2⟩
  · intro z; rw [(within_iff _ _ _).2 z.2.2.1] at h3; cases h3
  · intro z; rw [(within_iff _ _ _).2 z.2.1] at h2; cases h2
  · intro z; rw [decide_eq_true z.1] at h1; cases h1
theorem next_wp (n : ByteArray) (hn : n.size ≤ 100) (a b s m w t se : Int) : Wp (fun k => impl_NextStart.f k n a b s m w t se) (fun r => r.2 = 0 → itP n a b s m w ∧ (0 ≤ t ∧ t ≤ 1439) ∧ (0 ≤ se ∧ se ≤ 5) ∧ (s = -1 ∨ s = se) ∧ (fitP a b s t se ∧ r.1 = t ∨ ¬ fitP a b s t se ∧ r.1 = a)) := by
  have bad : Wp (fun k => impl_NextStart.j0 k t se true n a b s m w) (fun r => r.2 = 0 → itP n a b s m w ∧ (0 ≤ t ∧ t ≤ 1439) ∧ (0 ≤ se ∧ se ≤ 5) ∧ (s = -1 ∨ s = se) ∧ (fitP a b s t se ∧ r.1 = t ∨ ¬ fitP a b s t se ∧ r.1 = a)) :=
    Wp.step (by simp only [impl_NextStart.j0]; exact Wp.now (fun h => by simp at h))
  simp only [impl_NextStart.f, impl_minuteOk.f, impl_seasonOk.f, within_f, Option.bind_some]
  refine Wp.val (validItem_wp n hn a b s m w) (Wp.iteB (fun h1 => Wp.iteB (fun h2 => ?_) (fun _ => bad)) (fun _ => Wp.now (fun h => by simp at h)))
  by_cases h3 : within_ se 0 5 = true
  · rw [decide_eq_true_eq] at h1; rw [within_iff] at h2
    have tail : ∀ z : Bool, (z = false → (s = -1 ∨ s = se)) → Wp (fun k => impl_NextStart.j1 k t se z n a b s m w) (fun r => r.2 = 0 → itP n a b s m w ∧ (0 ≤ t ∧ t ≤ 1439) ∧ (0 ≤ se ∧ se ≤ 5) ∧ (s = -1 ∨ s = se) ∧ (fitP a b s t se ∧ r.1 = t ∨ ¬ fitP a b s t se ∧ r.1 = a)) := by
      intro z hz
      refine Wp.step ?_
      simp only [impl_NextStart.j1]
      refine Wp.iteB (fun _ => Wp.now (fun h => by simp at h)) (fun h => Wp.val (fits_wp n a b s m w t se) (Wp.iteB (fun hf => Wp.now (fun _ => ?_)) (fun hf => Wp.now (fun _ => ?_))))
      · exact ⟨h1, h2, (within_iff _ _ _).1 h3, hz h, .inl ⟨of_decide_eq_true hf, rfl⟩⟩
      · exact ⟨h1, h2, (within_iff _ _ _).1 h3, hz h, .inr ⟨of_decide_eq_false hf, rfl⟩⟩
    rw [h3]
    refine Wp.step ?_
    simp only [impl_NextStart.j0]
    refine Wp.neg (by decide) (Wp.ite (fun h => tail false (fun _ => .inl h)) (fun h => tail _ (fun hz => .inr ?_)))
    simpa using hz
  · rw [show within_ se 0 5 = false by simpa using h3]
    exact bad
/-- All of a list's items. -/
def itX (x : S43) : Prop := itP x.f0 x.f1 x.f2 x.f3 x.f4 x.f5
theorem validItems_l0 {l : List S43} (hl : l.length ≤ 100) (hs : Small l) : ∀ (d : Nat) (i : Int), 0 ≤ i → i + d = l.length → Wp (fun k => impl_ValidItems.l0 k l l l.length i) (fun r => r = true → ∀ x ∈ l.drop i.toNat, itX x)
  | 0, i, i0, i1 => by
    refine Wp.step ?_
    simp only [impl_ValidItems.l0]
    refine Wp.neg (by omega) (Wp.now (fun _ x hx => ?_))
    rw [List.drop_eq_nil_of_le (by omega)] at hx; simp at hx
  | d + 1, i, i0, i1 => by
    refine Wp.step ?_
    simp only [impl_ValidItems.l0]
    refine Wp.pos (by omega) (Wp.pos i0 (Wp.pos (by omega) (Wp.val (validItem_wp _ (hs _ (rd_T43_mem i0 (by omega))) _ _ _ _ _) (Wp.iteB (fun h => ?_) (fun _ => Wp.now (fun h => by cases h))))))
    rw [w64 (n := i + 1) (by omega) (by omega)]
    have ih : Wp (fun k => impl_ValidItems.l0 k l l l.length (i + 1)) (fun r => r = true → ∀ x ∈ l.drop i.toNat, itX x) := (validItems_l0 hl hs d (i + 1) (by omega) (by omega)).mono (fun r hr e x hx => by
      rw [rd_T43_drop i0 (by omega)] at hx
      rcases List.mem_cons.1 hx with rfl | hx
      · show itP _ _ _ _ _ _; exact of_decide_eq_true h
      · exact hr e x hx)
    refine Wp.ite (fun hp => ?_) (fun _ => ih)
    rw [w64 (n := i - 1) (by omega) (by omega)]
    exact Wp.pos (by omega) (Wp.pos (by omega) (Wp.ite (fun _ => ih) (fun _ => Wp.now (fun h => by cases h))))
theorem validItems_wp {l : List S43} (hl : l.length ≤ 100) (hs : Small l) : Wp (fun k => impl_ValidItems.f k l) (fun r => r = true → (∀ x ∈ l, itX x) ∧ l.length ≤ 12) := by
  simp only [impl_ValidItems.f]
  refine Wp.ite (fun _ => Wp.now (fun h => by cases h)) (fun h12 => (validItems_l0 hl hs l.length 0 (by omega) (by omega)).mono (fun r hr e => ⟨by simpa using hr e, by omega⟩))
def fitX (l : List S43) (t se : Int) (i : Int) : Bool := decide (fitP (rd_T43 l i).f1 (rd_T43 l i).f2 (rd_T43 l i).f3 t se)
theorem fitting_l0 {l : List S43} (hl : l.length ≤ 100) (t se : Int) : ∀ (d : Nat) (acc : List Int) (i : Int), 0 ≤ i → i + d = l.length → (acc.length : Int) ≤ i → Wp (fun k => impl_FittingAt.l0 k t se acc l l.length i) (fun r => r = (acc ++ filR (fitX l t se) d i, 0))
  | 0, acc, i, i0, i1, i2 => by
    refine Wp.step ?_
    simp only [impl_FittingAt.l0, filR]
    exact Wp.neg (by omega) (Wp.now (by simp))
  | d + 1, acc, i, i0, i1, i2 => by
    refine Wp.step ?_
    simp only [impl_FittingAt.l0, filR]
    rw [w64 (n := i + 1) (by omega) (by omega)]
    refine Wp.pos (by omega) (Wp.pos i0 (Wp.pos (by omega) (Wp.val (fits_wp _ _ _ _ _ _ t se) ?_)))
    have e : decide (fitP (rd_T43 l i).f1 (rd_T43 l i).f2 (rd_T43 l i).f3 t se) = fitX l t se i := rfl
    rw [e]
    refine Wp.iteB (fun h => Wp.pos (by omega) ?_) (fun h => ?_)
    · rw [if_pos h]
      refine (fitting_l0 hl t se d (acc ++ [i]) (i + 1) (by omega) (by omega) (by simp; omega)).mono ?_
      rintro r rfl; simp
    · rw [if_neg (by rw [h]; decide)]
      exact fitting_l0 hl t se d acc (i + 1) (by omega) (by omega) (by omega)
theorem fitting_wp {l : List S43} (hl : l.length ≤ 100) (hs : Small l) (t se : Int) : Wp (fun k => impl_FittingAt.f k l t se) (fun r => r.2 ≠ 0 ∧ r.1 = [] ∨ r.2 = 0 ∧ (∀ x ∈ l, itX x) ∧ (0 ≤ t ∧ t ≤ 1439) ∧ (0 ≤ se ∧ se ≤ 5) ∧ r.1 = filR (fitX l t se) l.length 0) := by
  simp only [impl_FittingAt.f, impl_minuteOk.f, impl_seasonOk.f, within_f, Option.bind_some]
  refine Wp.call (validItems_wp hl hs) (fun b hb => Wp.iteB (fun h => Wp.iteB (fun h2 => Wp.iteB (fun h3 => ?_) (fun _ => Wp.now (.inl ⟨by decide, rfl⟩))) (fun _ => Wp.now (.inl ⟨by decide, rfl⟩))) (fun _ => Wp.now (.inl ⟨by decide, rfl⟩)))
  refine (fitting_l0 hl t se l.length [] 0 (by omega) (by omega) (by simp)).mono ?_
  rintro r rfl
  exact .inr ⟨rfl, (hb h).1, (within_iff _ _ _).1 h2, (within_iff _ _ _).1 h3, by simp⟩
end Go.Proofs.Ytomeeimjlagbbaa.Pure
