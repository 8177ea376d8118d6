/- Plain facts: lists, occurrences, borders. -/
import Derived.Test.YtomeeimjlagbbaaPuT0
import Derived.Test.YtomeeimjlagbbaaPTx1
import Derived.Test.YtomeeimjlagbbaaPTx5
import Derived.Test.YtomeeimjlagbbaaPTx6
import Derived.Test.YtomeeimjlagbbaaPTx7
import Derived.Test.YtomeeimjlagbbaaPTx8
import Derived.Test.YtomeeimjlagbbaaPTx11
import Derived.Test.YtomeeimjlagbbaaPTx12
namespace Go.Proofs.Ytomeeimjlagbbaa.Pure
open Go.RowKit Go.Proofs.Ytomeeimjlagbbaa.PT Go.Proofs.YtomeeimjlagbbaaW.PrintWords Go.Proofs.YtomeeimjlagbbaaW.PrintLast
set_option linter.unusedSimpArgs false
theorem rd_get {c : List Int} {i : Int} (h0 : 0 ≤ i) (h1 : i < c.length) : rd c i = c[i.toNat]'(by omega) := by
  simp [rd, List.getD_eq_getElem?_getD, List.getElem?_eq_getElem (show i.toNat < c.length by omega)]
theorem drop_cons {c : List Int} {i : Int} (h0 : 0 ≤ i) (h1 : i < c.length) : c.drop i.toNat = rd c i :: c.drop (i + 1).toNat := by
  rw [rd_get h0 h1, show (i + 1).toNat = i.toNat + 1 by omega]
  exact List.drop_eq_getElem_cons (by omega)
theorem nums_ev (a b : List Int) (ha : a.length ≤ 1000) : ∀ k, a.length + 1 < k → laws_b10Nums.f k a b = some (decide (a = b)) := by
  intro k hk
  unfold laws_b10Nums.f
  by_cases hl : (a.length : Int) = (b.length : Int)
  · rw [if_pos hl]
    have L : ∀ (d : Nat) (i : Int), 0 ≤ i → i + d = a.length → ∀ k, d < k → laws_b10Nums.l0 k a b i = some (decide (a.drop i.toNat = b.drop i.toNat)) := by
      intro d
      induction d with
      | zero =>
        intro i h0 h1 k hk
        obtain ⟨k, rfl⟩ : ∃ m, k = m + 1 := ⟨k - 1, by omega⟩
        simp only [laws_b10Nums.l0]
        rw [if_neg (by omega), List.drop_eq_nil_of_le (by omega), List.drop_eq_nil_of_le (by omega)]; simp
      | succ d ih =>
        intro i h0 h1 k hk
        obtain ⟨k, rfl⟩ : ∃ m, k = m + 1 := ⟨k - 1, by omega⟩
        simp only [laws_b10Nums.l0]
        rw [if_pos (by omega), if_pos h0, if_pos (by omega), w64 (n := i + 1) (by omega) (by omega), ih (i + 1) (by omega) (by omega) k (by omega), drop_cons (c := a) h0 (by omega), drop_cons (c := b) h0 (by omega)]
        by_cases e : rd a i = rd b i
        · rw [if_pos e, e]; simp
        · rw [if_neg e]; simp [e]
    have := L a.length 0 (by omega) (by omega) k (by omega)
    simpa using this
  · rw [if_neg hl]
    have : ¬ a = b := fun e => hl (by rw [e])
    simp [this]
theorem equal_ev (a b : List Int) (ha : a.length ≤ 1000) : ∀ k, a.length + 1 < k → slices_Equal_int64_int64.f k a b = some (decide (a = b)) := by
  intro k hk
  unfold slices_Equal_int64_int64.f
  by_cases hl : (a.length : Int) = (b.length : Int)
  · rw [if_pos hl]
    have L : ∀ (d : Nat) (i : Int), 0 ≤ i → i + d = a.length → ∀ k, d < k → slices_Equal_int64_int64.l0 k a b (a.length : Int) i = some (decide (a.drop i.toNat = b.drop i.toNat)) := by
      intro d
      induction d with
      | zero =>
        intro i h0 h1 k hk
        obtain ⟨k, rfl⟩ : ∃ m, k = m + 1 := ⟨k - 1, by omega⟩
        simp only [slices_Equal_int64_int64.l0]
        rw [if_neg (by omega), List.drop_eq_nil_of_le (by omega), List.drop_eq_nil_of_le (by omega)]; simp
      | succ d ih =>
        intro i h0 h1 k hk
        obtain ⟨k, rfl⟩ : ∃ m, k = m + 1 := ⟨k - 1, by omega⟩
        simp only [slices_Equal_int64_int64.l0]
        rw [if_pos (by omega), if_pos h0, if_pos (by omega), if_pos (by omega), w64 (n := i + 1) (by omega) (by omega), ih (i + 1) (by omega) (by omega) k (by omega), drop_cons (c := a) h0 (by omega), drop_cons (c := b) h0 (by omega)]
        by_cases e : rd a i = rd b i
        · rw [if_pos e, e]; simp
        · rw [if_neg e]; simp [e]
    have := L a.length 0 (by omega) (by omega) k (by omega)
    simpa using this
  · rw [if_neg hl]
    have : ¬ a = b := fun e => hl (by rw [e])
    simp [this]
/-! ### the places of a list that a test lets in -/
def filR (e : Int → Bool) : Nat → Int → List Int
  | 0, _ => []
  | d + 1, i => if e i = true then i :: filR e d (i + 1) else filR e d (i + 1)
theorem filR_mem {e : Int → Bool} : ∀ {d : Nat} {i j : Int}, j ∈ filR e d i ↔ i ≤ j ∧ j < i + d ∧ e j = true
  | 0, i, j => by simp only [filR]; constructor; · intro h; cases h
                  · intro h; omega
  | d + 1, i, j => by
    simp only [filR]
    by_cases c : e i = true
    · rw [if_pos c, List.mem_cons, filR_mem]
      constructor
      · rintro (rfl | h)
        · exact ⟨by omega, by omega, c⟩
        · exact ⟨by omega, by omega, h.2.2⟩
      · rintro ⟨h1, h2, h3⟩
        by_cases z : j = i
        · exact .inl z
        · exact .inr ⟨by omega, by omega, h3⟩
    · rw [if_neg c, filR_mem]
      constructor
      · rintro ⟨h1, h2, h3⟩; exact ⟨by omega, by omega, h3⟩
      · rintro ⟨h1, h2, h3⟩
        by_cases z : j = i
        · subst z; exact absurd h3 c
        · exact ⟨by omega, by omega, h3⟩
theorem filR_length (e : Int → Bool) : ∀ (d : Nat) (i : Int), (filR e d i).length ≤ d
  | 0, _ => by simp [filR]
  | d + 1, i => by
    have := filR_length e d (i + 1)
    simp only [filR]
    split
    · simp; omega
    · omega
theorem filR_pw (e : Int → Bool) : ∀ (d : Nat) (i : Int), (filR e d i).Pairwise (· < ·)
  | 0, _ => by simp [filR]
  | d + 1, i => by
    have ih := filR_pw e d (i + 1)
    simp only [filR]
    split
    · refine List.Pairwise.cons (fun j hj => ?_) ih
      have := filR_mem.1 hj
      omega
    · exact ih
def occE (x p : List Int) (i : Int) : Bool := decide ((x.take (i + p.length).toNat).drop i.toNat = p)
def occR (x p : List Int) : List Int := filR (occE x p) (x.length + 1 - p.length) 0
theorem occ_ev (x p : List Int) (hx : x.length ≤ 100) (hp : p.length ≤ 100) : ∀ k, 400 < k → impl_occurrences.f k x p = some (occR x p) := by
  have L : ∀ (d : Nat) (i : Int) (acc : List Int), 0 ≤ i → i + d = (x.length + 1 - p.length : Nat) → acc.length ≤ i → ∀ k, d + 110 < k → impl_occurrences.l0 k x p acc i = some (acc ++ filR (occE x p) d i) := by
    intro d
    induction d with
    | zero =>
      intro i acc h0 h1 h2 k hk
      obtain ⟨k, rfl⟩ : ∃ m, k = m + 1 := ⟨k - 1, by omega⟩
      simp only [impl_occurrences.l0, filR]
      rw [w64 (n := i + p.length) (by omega) (by omega), if_neg (by omega)]; simp
    | succ d ih =>
      intro i acc h0 h1 h2 k hk
      obtain ⟨k, rfl⟩ : ∃ m, k = m + 1 := ⟨k - 1, by omega⟩
      simp only [impl_occurrences.l0, filR]
      rw [w64 (n := i + p.length) (by omega) (by omega), if_pos (by omega), if_pos h0, if_pos (by omega), equal_ev _ _ (by simp; omega) k (by simp; omega), w64 (n := i + 1) (by omega) (by omega)]
      simp only [Option.bind_some]
      have ed : decide ((x.take (i + p.length).toNat).drop i.toNat = p) = occE x p i := rfl
      rw [ed]
      by_cases c : occE x p i = true
      · rw [if_pos c, if_pos (by omega), if_pos c, ih (i + 1) _ (by omega) (by omega) (by simp; omega) k (by omega)]
        simp
      · rw [if_neg c, if_neg c, ih (i + 1) _ (by omega) (by omega) (by omega) k (by omega)]
  intro k hk
  have := L (x.length + 1 - p.length) 0 [] (by omega) (by omega) (by simp) k (by omega)
  simpa [impl_occurrences.f, occR] using this
theorem occR_bd {x p : List Int} {j : Int} (h : j ∈ occR x p) : 0 ≤ j ∧ j + p.length ≤ x.length ∧ occE x p j = true := by
  have := filR_mem.1 h
  exact ⟨by omega, by omega, this.2.2⟩
theorem rises_ev (L : List Int) (n : Int) (hb : ∀ j ∈ L, 0 ≤ j ∧ j < n) (hp : L.Pairwise (· < ·)) (hl : L.length ≤ 1000) : ∀ k, L.length + 1 < k → laws_b10Rises.f k L n = some true := by
  have L0 : ∀ (d : Nat) (i : Int), 0 ≤ i → i + d = L.length → ∀ k, d < k → laws_b10Rises.l0 k L n i = some true := by
    intro d
    induction d with
    | zero =>
      intro i h0 h1 k hk
      obtain ⟨k, rfl⟩ : ∃ m, k = m + 1 := ⟨k - 1, by omega⟩
      simp only [laws_b10Rises.l0]
      rw [if_neg (by omega)]
    | succ d ih =>
      intro i h0 h1 k hk
      obtain ⟨k, rfl⟩ : ∃ m, k = m + 1 := ⟨k - 1, by omega⟩
      have hm := hb (rd L i) (by rw [rd_get h0 (by omega)]; exact List.getElem_mem _)
      simp only [laws_b10Rises.l0]
      rw [if_pos (by omega), if_pos h0, if_neg (by omega), if_neg (by omega), w64 (n := i + 1) (by omega) (by omega), ih (i + 1) (by omega) (by omega) k (by omega)]
      by_cases c : i > 0
      · have hlt : rd L (i - 1) < rd L i := by
          rw [rd_get (c := L) (i := i - 1) (by omega) (by omega), rd_get (c := L) h0 (by omega)]
          exact List.pairwise_iff_getElem.1 hp _ _ _ _ (by omega)
        rw [if_pos c, w64 (n := i - 1) (by omega) (by omega), if_pos (by omega), if_pos (by omega), if_neg (by omega)]
      · rw [if_neg c]
  intro k hk
  exact L0 L.length 0 (by omega) (by omega) k (by omega)
theorem has_ev (L : List Int) (a : Int) (hl : L.length ≤ 1000) : ∀ k, L.length + 1 < k → laws_b10Has.f k L a = some (decide (a ∈ L)) := by
  have L0 : ∀ (d : Nat) (i : Int), 0 ≤ i → i + d = L.length → ∀ k, d < k → laws_b10Has.l0 k L a i = some (decide (a ∈ L.drop i.toNat)) := by
    intro d
    induction d with
    | zero =>
      intro i h0 h1 k hk
      obtain ⟨k, rfl⟩ : ∃ m, k = m + 1 := ⟨k - 1, by omega⟩
      simp only [laws_b10Has.l0]
      rw [if_neg (by omega), List.drop_eq_nil_of_le (by omega)]; simp
    | succ d ih =>
      intro i h0 h1 k hk
      obtain ⟨k, rfl⟩ : ∃ m, k = m + 1 := ⟨k - 1, by omega⟩
      simp only [laws_b10Has.l0]
      rw [if_pos (by omega), if_pos h0, w64 (n := i + 1) (by omega) (by omega), ih (i + 1) (by omega) (by omega) k (by omega), drop_cons (c := L) h0 (by omega)]
      by_cases c : rd L i = a
      · rw [if_pos c]; simp [c]
      · rw [if_neg c]
        have : ¬ a = rd L i := fun h => c h.symm
        simp [this]
  intro k hk
  have := L0 L.length 0 (by omega) (by omega) k (by omega)
  simpa [laws_b10Has.f] using this
theorem apart_ev (p L : List Int) (hl : L.length ≤ 100) (hb : ∀ j ∈ L, 0 ≤ j) : ∃ r : Int, 0 ≤ r ∧ r ≤ L.length ∧ (r = 0 ↔ L.length = 0) ∧ ∀ k, L.length + 1 < k → impl_CountApart.l0 k p 0 0 L (L.length : Int) 0 = some (r, 0) := by
  have L0 : ∀ (d : Nat) (i n b : Int), 0 ≤ i → i + d = L.length → 0 ≤ n → n + d ≤ 1000 → ∃ r, n ≤ r ∧ r ≤ n + d ∧ (0 < d → b ≤ rd L i → n + 1 ≤ r) ∧ ∀ k, d < k → impl_CountApart.l0 k p n b L (L.length : Int) i = some (r, 0) := by
    intro d
    induction d with
    | zero =>
      intro i n b h0 h1 h2 h3
      refine ⟨n, by omega, by omega, fun h => by omega, fun k hk => ?_⟩
      obtain ⟨k, rfl⟩ : ∃ m, k = m + 1 := ⟨k - 1, by omega⟩
      simp only [impl_CountApart.l0]
      rw [if_neg (by omega)]
    | succ d ih =>
      intro i n b h0 h1 h2 h3
      by_cases c : rd L i ≥ b
      · obtain ⟨r, r1, r2, _, hr⟩ := ih (i + 1) (n + 1) (wrap64 (rd L i + p.length)) (by omega) (by omega) (by omega) (by omega)
        refine ⟨r, by omega, by omega, fun _ _ => by omega, fun k hk => ?_⟩
        obtain ⟨k, rfl⟩ : ∃ m, k = m + 1 := ⟨k - 1, by omega⟩
        simp only [impl_CountApart.l0]
        rw [if_pos (by omega), if_pos h0, if_pos (by omega), if_pos c, w64 (n := n + 1) (by omega) (by omega), w64 (n := i + 1) (by omega) (by omega)]
        exact hr k (by omega)
      · obtain ⟨r, r1, r2, _, hr⟩ := ih (i + 1) n b (by omega) (by omega) (by omega) (by omega)
        refine ⟨r, by omega, by omega, fun _ h => by omega, fun k hk => ?_⟩
        obtain ⟨k, rfl⟩ : ∃ m, k = m + 1 := ⟨k - 1, by omega⟩
        simp only [impl_CountApart.l0]
        rw [if_pos (by omega), if_pos h0, if_pos (by omega), if_neg c, w64 (n := i + 1) (by omega) (by omega)]
        exact hr k (by omega)
  obtain ⟨r, r1, r2, r3, hr⟩ := L0 L.length 0 0 0 (by omega) (by omega) (by omega) (by omega)
  refine ⟨r, by omega, by omega, ⟨fun e => ?_, fun e => by omega⟩, fun k hk => hr k (by omega)⟩
  by_cases z : L.length = 0
  · exact z
  · have := r3 (by omega) (hb _ (by rw [rd_get (by omega) (by omega)]; exact List.getElem_mem _))
    omega
theorem border_ev (x : List Int) (hx : x.length ≤ 100) : ∀ (b : Nat), b ≤ x.length → ∃ r : Nat, r ≤ b ∧ x.take r = x.drop (x.length - r) ∧ ∀ k, b + 110 < k → impl_BorderOf.l0 k x (b : Int) = some ((r : Int), 0)
  | 0, _ => ⟨0, by omega, by simp, fun k hk => by
      obtain ⟨k, rfl⟩ : ∃ m, k = m + 1 := ⟨k - 1, by omega⟩
      simp only [impl_BorderOf.l0]
      rw [if_pos (by omega), if_pos (by omega), w64 (by omega) (by omega), if_pos (by omega), if_pos (by omega), equal_ev _ _ (by simp) k (by simp; omega)]
      simp⟩
  | b + 1, hb => by
    obtain ⟨r, r1, r2, hr⟩ := border_ev x hx b (by omega)
    have hcut : (wrap64 ((x.length : Int) - ((b + 1 : Nat) : Int))).toNat = x.length - (b + 1) := by rw [w64 (by omega) (by omega)]; omega
    by_cases e : x.take (b + 1) = x.drop (x.length - (b + 1))
    · refine ⟨b + 1, by omega, e, fun k hk => ?_⟩
      obtain ⟨k, rfl⟩ : ∃ m, k = m + 1 := ⟨k - 1, by omega⟩
      simp only [impl_BorderOf.l0]
      rw [hcut, w64 (n := (x.length : Int) - ((b + 1 : Nat) : Int)) (by omega) (by omega), if_pos (by omega), if_pos (by omega), if_pos (by omega), if_pos (by omega), show (((b + 1 : Nat) : Int)).toNat = b + 1 by omega, equal_ev _ _ (by simp; omega) k (by simp; omega)]
      simp [e]
    · refine ⟨r, by omega, r2, fun k hk => ?_⟩
      obtain ⟨k, rfl⟩ : ∃ m, k = m + 1 := ⟨k - 1, by omega⟩
      simp only [impl_BorderOf.l0]
      rw [hcut, w64 (n := (x.length : Int) - ((b + 1 : Nat) : Int)) (by omega) (by omega), if_pos (by omega), if_pos (by omega), if_pos (by omega), if_pos (by omega), show (((b + 1 : Nat) : Int)).toNat = b + 1 by omega, equal_ev _ _ (by simp; omega) k (by simp; omega), w64 (n := ((b + 1 : Nat) : Int) - 1) (by omega) (by omega), show ((b + 1 : Nat) : Int) - 1 = (b : Int) by omega]
      simp only [Option.bind_some, e, decide_false, Bool.false_eq_true, if_false]
      exact hr k (by omega)
/-! ### what may be asked -/
def pinB (x : List Int) : Bool := x.all fun n => within_ n (-12) 23
def piB (x : List Int) : Bool := decide ((x.length : Int) ≤ 64) && pinB x
def phB (p : List Int) : Bool := decide ((p.length : Int) ≥ 2) && decide ((p.length : Int) ≤ 8) && pinB p
theorem pitchesOk_f (x : List Int) : impl_pitchesOk.f x = some (piB x) := by
  unfold impl_pitchesOk.f impl_allWithin.f piB pinB
  by_cases c : (x.length : Int) ≤ 64
  · rw [if_pos c]; simp [c]
  · rw [if_neg c]; simp [c]
theorem phraseOk_f (x : List Int) : impl_phraseOk.f x = some (phB x) := by
  unfold impl_phraseOk.f impl_allWithin.f phB pinB
  by_cases c : (x.length : Int) ≥ 2
  · rw [if_pos c]
    by_cases d : (x.length : Int) ≤ 8
    · rw [if_pos d]; simp [c, d]
    · rw [if_neg d]; simp [d]
  · rw [if_neg c]; simp [c]
def codeP (p x : List Int) : Int := if phB p = true then (if piB x = true then 0 else 7) else 1
theorem phraseCode_f (p x : List Int) : impl_phraseCode.f p x = some (codeP p x) := by
  unfold impl_phraseCode.f codeP
  rw [phraseOk_f, pitchesOk_f]
  cases phB p <;> cases piB x <;> rfl
theorem l00In_f (n a b : Int) : spec_l00In.f n a b = some (within_ n a b) := by
  unfold spec_l00In.f within_
  by_cases h : n ≥ a
  · rw [if_pos h]; simp [show a ≤ n from h]
  · rw [if_neg h]; simp [show ¬ a ≤ n from h]
theorem l05Pitches_ev (x : List Int) (hx : x.length ≤ 1000) : ∀ k, x.length + 1 < k → spec_l05Pitches.f k x = some (piB x) := by
  have L0 : ∀ (d : Nat) (i : Int), 0 ≤ i → i + d = x.length → ∀ k, d < k → spec_l05Pitches.l0 k x i = some (decide ((x.length : Int) ≤ 64) && (x.drop i.toNat).all fun n => within_ n (-12) 23) := by
    intro d
    induction d with
    | zero =>
      intro i h0 h1 k hk
      obtain ⟨k, rfl⟩ : ∃ m, k = m + 1 := ⟨k - 1, by omega⟩
      simp only [spec_l05Pitches.l0]
      rw [if_neg (by omega), List.drop_eq_nil_of_le (by omega)]; simp
    | succ d ih =>
      intro i h0 h1 k hk
      obtain ⟨k, rfl⟩ : ∃ m, k = m + 1 := ⟨k - 1, by omega⟩
      simp only [spec_l05Pitches.l0, spec_l03Pitch.f, l00In_f, Option.bind_some]
      rw [if_pos (by omega), if_pos h0, w64 (n := i + 1) (by omega) (by omega), ih (i + 1) (by omega) (by omega) k (by omega), drop_cons (c := x) h0 (by omega), List.all_cons]
      cases within_ (rd x i) (-12) 23 <;> simp
  intro k hk
  have := L0 x.length 0 (by omega) (by omega) k (by omega)
  simpa [spec_l05Pitches.f, piB, pinB] using this
theorem l06Ask_ev (x p : List Int) (hx : x.length ≤ 1000) (hp : p.length ≤ 1000) : ∀ k, 1100 < k → spec_l06Ask.f k x p = some (codeP p x) := by
  intro k hk
  unfold codeP phB
  simp only [spec_l06Ask.f, spec_l06Phrase.f]
  rw [l05Pitches_ev x hx k (by omega), l05Pitches_ev p hp k (by omega)]
  unfold piB
  simp only [Option.bind_some]
  by_cases a : (p.length : Int) ≥ 2
  · by_cases b : (p.length : Int) ≤ 8
    · simp only [show (p.length : Int) ≤ 64 by omega, a, b]
      cases pinB p <;> cases pinB x <;> by_cases c : (x.length : Int) ≤ 64 <;> simp [c]
    · by_cases e : (p.length : Int) ≤ 64
      · simp only [a, b, e]; cases pinB p <;> simp
      · simp only [a, b, e]; cases pinB p <;> simp
  · by_cases e : (p.length : Int) ≤ 64
    · simp only [a, e]; cases pinB p <;> simp
    · simp only [a, e]; cases pinB p <;> simp
theorem occurs_ev (x p : List Int) (a : Int) (hx : x.length ≤ 100) (hp : p.length ≤ 100) (ha : 0 ≤ a) (ha2 : a ≤ 1000) : ∀ k, 110 < k → spec_l06Occurs.f k x p a = some (decide (a + p.length ≤ x.length) && occE x p a) := by
  intro k hk
  unfold spec_l06Occurs.f
  rw [w64 (n := a + p.length) (by omega) (by omega)]
  by_cases c : a + (p.length : Int) ≤ x.length
  · rw [if_neg (by omega)]
    have hy : (x.take (a + p.length).toNat).length = (a + p.length).toNat := by simp; omega
    have hrd : ∀ j, 0 ≤ j → j < a + p.length → rd (x.take (a + p.length).toNat) j = rd x j := fun j j0 j1 => by
      rw [rd_get j0 (by omega), rd_get j0 (by omega)]; simp
    have L0 : ∀ (d : Nat) (i : Int), 0 ≤ i → i + d = p.length → ∀ k, d < k → spec_l06Occurs.l0 k x p a i = some (decide ((x.take (a + p.length).toNat).drop (a + i).toNat = p.drop i.toNat)) := by
      intro d
      induction d with
      | zero =>
        intro i h0 h1 k hk
        obtain ⟨k, rfl⟩ : ∃ m, k = m + 1 := ⟨k - 1, by omega⟩
        simp only [spec_l06Occurs.l0]
        rw [if_neg (by omega), List.drop_eq_nil_of_le (by omega), List.drop_eq_nil_of_le (by omega)]; simp
      | succ d ih =>
        intro i h0 h1 k hk
        obtain ⟨k, rfl⟩ : ∃ m, k = m + 1 := ⟨k - 1, by omega⟩
        simp only [spec_l06Occurs.l0]
        rw [if_pos (by omega), w64 (n := a + i) (by omega) (by omega), if_pos (by omega), if_pos (by omega), if_pos h0, w64 (n := i + 1) (by omega) (by omega), ih (i + 1) (by omega) (by omega) k (by omega), drop_cons (c := x.take (a + p.length).toNat) (i := a + i) (by omega) (by omega), drop_cons (c := p) h0 (by omega), hrd (a + i) (by omega) (by omega), show a + i + 1 = a + (i + 1) by omega]
        by_cases e : rd x (a + i) = rd p i
        · rw [if_pos e, e]; simp
        · rw [if_neg e]; simp [e]
    have := L0 p.length 0 (by omega) (by omega) k (by omega)
    rw [this]
    simp [c, occE]
  · rw [if_pos (by omega)]; simp [c]
theorem find_ev (x p : List Int) (hx : x.length ≤ 100) (hp : p.length ≤ 100) : ∀ k, 300 < k → spec_l06Find.f k x p = some (filR (fun i => decide (i + p.length ≤ x.length) && occE x p i) x.length 0) := by
  have L0 : ∀ (d : Nat) (i : Int) (acc : List Int), 0 ≤ i → i + d = x.length → acc.length ≤ i → ∀ k, d + 120 < k → spec_l06Find.l0 k x p acc i = some (acc ++ filR (fun i => decide (i + p.length ≤ x.length) && occE x p i) d i) := by
    intro d
    induction d with
    | zero =>
      intro i acc h0 h1 h2 k hk
      obtain ⟨k, rfl⟩ : ∃ m, k = m + 1 := ⟨k - 1, by omega⟩
      simp only [spec_l06Find.l0, filR]
      rw [if_neg (by omega)]; simp
    | succ d ih =>
      intro i acc h0 h1 h2 k hk
      obtain ⟨k, rfl⟩ : ∃ m, k = m + 1 := ⟨k - 1, by omega⟩
      simp only [spec_l06Find.l0, filR]
      rw [if_pos (by omega), occurs_ev x p i hx hp h0 (by omega) k (by omega), w64 (n := i + 1) (by omega) (by omega)]
      simp only [Option.bind_some]
      by_cases c : (decide (i + p.length ≤ x.length) && occE x p i) = true
      · rw [if_pos c, if_pos (by omega), if_pos c, ih (i + 1) _ (by omega) (by omega) (by simp; omega) k (by omega)]
        simp
      · rw [if_neg c, if_neg c, ih (i + 1) _ (by omega) (by omega) (by omega) k (by omega)]
  intro k hk
  have := L0 x.length 0 [] (by omega) (by omega) (by simp) k (by omega)
  simpa [spec_l06Find.f] using this
end Go.Proofs.Ytomeeimjlagbbaa.Pure
