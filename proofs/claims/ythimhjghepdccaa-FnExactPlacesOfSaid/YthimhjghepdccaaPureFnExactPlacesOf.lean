/- PlacesOf of the program returns what the reference's returns, for all arguments. -/
import Derived.Test.YthimhjghepdccaaPu1
import Derived.Test.YthimhjghepdccaaPx28
namespace Go.Proofs.Ythimhjghepdccaa.Pure
open Go.RowKit Go.Proofs.Ythimhjghepdccaa.P Go.Proofs.YthimhjghepdccaaW.PrintWords Go.Proofs.YthimhjghepdccaaW.PrintLast
namespace PlacesOf
/-- c, c + 1, ..: n numbers. -/
def upL : Nat → Int → List Int
  | 0, _ => []
  | n + 1, c => c :: upL n (c + 1)
theorem upL_length : ∀ (n : Nat) (c : Int), (upL n c).length = n
  | 0, _ => rfl
  | n + 1, c => by simp [upL, upL_length n]
theorem upL_get : ∀ (n : Nat) (c : Int) (i : Nat), i < n → (upL n c)[i]? = some (c + i)
  | 0, _, i, h => by omega
  | n + 1, c, 0, _ => by simp [upL]
  | n + 1, c, i + 1, h => by
    simp only [upL, List.getElem?_cons_succ]
    rw [upL_get n (c + 1) i (by omega)]
    congr 1; omega
theorem mark_l0 (N : Nat) (c0 : Int) (h1 : 0 ≤ c0) (h2 : c0 ≤ 10000000) (hN : N ≤ 2000000) : ∀ (d : Nat) (l : List Int) (i : Int), 0 ≤ i → i + d = N → l.length = N → (∀ j : Nat, j < i.toNat → l[j]? = some (c0 + j)) → ∀ k, d < k → laws_markInt64S.l0 k l (c0 + i) i = some (c0 + N, upL N c0) := by
  intro d
  induction d with
  | zero =>
    intro l i h0 hi hl hp k hk
    obtain ⟨k, rfl⟩ : ∃ m, k = m + 1 := ⟨k - 1, by omega⟩
    simp only [laws_markInt64S.l0]
    rw [if_neg (by omega)]
    congr 1
    refine Prod.ext (by show c0 + i = c0 + N; omega) (List.ext_getElem? fun j => ?_)
    show l[j]? = (upL N c0)[j]?
    by_cases hj : j < N
    · rw [upL_get N c0 j hj]; exact hp j (by omega)
    · rw [List.getElem?_eq_none (by omega), List.getElem?_eq_none (by rw [upL_length]; omega)]
  | succ d ih =>
    intro l i h0 hi hl hp k hk
    obtain ⟨k, rfl⟩ : ∃ m, k = m + 1 := ⟨k - 1, by omega⟩
    simp only [laws_markInt64S.l0]
    rw [if_pos (by omega), if_pos h0, w64 (n := c0 + i + 1) (by omega) (by omega), w64 (n := i + 1) (by omega) (by omega), show c0 + i + 1 = c0 + (i + 1) by omega]
    refine ih _ (i + 1) (by omega) (by omega) (by simpa using hl) (fun j hj => ?_) k (by omega)
    by_cases e : j = i.toNat
    · subst e; rw [List.getElem?_set_self (by omega)]; congr 1; omega
    · rw [List.getElem?_set_ne (Ne.symm e)]; exact hp j (by omega)
theorem mark_ev (l : List Int) (c : Int) (h1 : 0 ≤ c) (h2 : c ≤ 10000000) (hN : l.length ≤ 2000000) : ∃ K, ∀ k, K ≤ k → laws_markInt64S.f k l c = some (c + l.length, upL l.length c) :=
  ⟨l.length + 1, fun k hk => by
    have := mark_l0 l.length c h1 h2 hN l.length l 0 (by omega) (by omega) rfl (fun j hj => by simp at hj) k (by omega)
    simpa [laws_markInt64S.f] using this⟩
theorem held_l0 (N : Nat) (c0 : Int) (h1 : 0 ≤ c0) (h2 : c0 ≤ 10000000) (hN : N ≤ 2000000) : ∀ (d : Nat) (i : Int), 0 ≤ i → i + d = N → ∀ k, d < k → laws_heldInt64S.l0 k (upL N c0) (c0 + i) i = some (c0 + N) := by
  intro d
  induction d with
  | zero =>
    intro i h0 hi k hk
    obtain ⟨k, rfl⟩ : ∃ m, k = m + 1 := ⟨k - 1, by omega⟩
    simp only [laws_heldInt64S.l0]
    rw [if_neg (by rw [upL_length]; omega)]
    congr 1; omega
  | succ d ih =>
    intro i h0 hi k hk
    obtain ⟨k, rfl⟩ : ∃ m, k = m + 1 := ⟨k - 1, by omega⟩
    simp only [laws_heldInt64S.l0]
    rw [if_pos (by rw [upL_length]; omega), if_pos h0, if_pos (by simp only [rd, List.getD_eq_getElem?_getD]; rw [upL_get N c0 i.toNat (by omega)]; simp; omega), w64 (n := c0 + i + 1) (by omega) (by omega), w64 (n := i + 1) (by omega) (by omega), show c0 + i + 1 = c0 + (i + 1) by omega]
    exact ih (i + 1) (by omega) (by omega) k (by omega)
theorem held_ev (N : Nat) (c : Int) (h1 : 0 ≤ c) (h2 : c ≤ 10000000) (hN : N ≤ 2000000) : ∃ K, ∀ k, K ≤ k → laws_heldInt64S.f k (upL N c) c = some (c + N) :=
  ⟨N + 1, fun k hk => by
    have := held_l0 N c h1 h2 hN N 0 (by omega) (by omega) k (by omega)
    simpa [laws_heldInt64S.f] using this⟩
theorem markTala_ev (a : ByteArray) (l m : List Int) (hl : l.length ≤ 1048576) (hm : m.length ≤ 1048576) : ∃ K, ∀ k, K ≤ k → laws_markTala.f k a l m 1 = some ((1 + l.length + m.length : Int), upL l.length 1, upL m.length (1 + l.length)) := by
  obtain ⟨K1, h1⟩ := mark_ev l 1 (by omega) (by omega) (by omega)
  obtain ⟨K2, h2⟩ := mark_ev m (1 + l.length) (by omega) (by omega) (by omega)
  exact ⟨K1 + K2, fun k hk => by simp only [laws_markTala.f]; rw [h1 k (by omega)]; simp only [Option.bind_some]; rw [h2 k (by omega)]; rfl⟩
theorem both (a : ByteArray) (l m : List Int) (speed start p g : Int) (ha : a.size ≤ maxLen) (hl : l.length ≤ maxLen) :
    ∃ v : List Int × Int, v.1.length ≤ 4 ∧ (∃ K, ∀ k, K ≤ k → spec_PlacesOf.f k a l m speed start p g = some v) ∧ ∃ K, ∀ k, K ≤ k → impl_PlacesOf.f k a l m speed start p g = some v := by
  obtain ⟨K1, h1⟩ := l19Start_ev a l m speed start ha hl
  obtain ⟨K2, h2⟩ := cadenceCode_ev a l m speed start p g 0 ha hl
  rw [codeB_start] at h2
  by_cases h : startB a l m speed start = 0
  · obtain ⟨z1, z2, z3⟩ := startB_zero h
    have hu := units_pos z1 z2
    rw [w64 (by omega) (by omega), within_iff] at z3
    obtain ⟨K3, h3⟩ := l19Ends_ev start (totalB p g) hl z1 z2
    obtain ⟨K4, h4⟩ := endsOnSam_ev start (totalB p g) hl z1 z2
    by_cases ok : within_ p 1 64 = true ∧ within_ g 0 32 = true
    · have hp := within_iff.1 ok.1
      have hg := within_iff.1 ok.2
      refine ⟨if endsB l speed start (totalB p g) = true then ([start, start + p + g, start + 2 * p + 2 * g, start + (3 * p + 2 * g) - 1], 0) else ([], 6), by split <;> simp, ⟨K1 + K3 + 1, fun k hk => ?_⟩, K2 + K4, fun k hk => ?_⟩
      · obtain ⟨k, rfl⟩ : ∃ m, k = m + 1 := ⟨k - 1, by omega⟩
        simp only [spec_PlacesOf.f, spec_l19Is.f, spec_l19Is.j0, l19Phrase_f, l19Gap_f, l19Total_f]
        rw [h1 (k + 1) (by omega)]
        simp only [Option.bind_some]
        rw [if_pos h, h3 k (by omega)]
        simp only [ok.1, ok.2]
        rw [totalB_eq ok.1 ok.2, w64 (n := start + p) (by omega) (by omega), w64 (n := start + p + g) (by omega) (by omega), w64 (n := 2 * p) (by omega) (by omega), w64 (n := 2 * g) (by omega) (by omega), w64 (n := start + 2 * p) (by omega) (by omega), w64 (n := start + 2 * p + 2 * g) (by omega) (by omega), w64 (n := start + (3 * p + 2 * g)) (by omega) (by omega), w64 (n := start + (3 * p + 2 * g) - 1) (by omega) (by omega)]
        cases endsB l speed start (3 * p + 2 * g) <;> simp
      · simp only [impl_PlacesOf.f]
        have h4' := h4 k (by omega)
        have ht : wrap64 (wrap64 (3 * p) + wrap64 (2 * g)) = totalB p g := rfl
        rw [h2 k (by omega), if_pos h]
        simp only [ok.1, ok.2, Bool.and_self, if_true, Option.bind_some]
        rw [ht, h4']
        simp only [Option.bind_some]
        rw [totalB_eq ok.1 ok.2, w64 (n := start + p) (by omega) (by omega), w64 (n := start + p + g) (by omega) (by omega), w64 (n := p + g) (by omega) (by omega), w64 (n := 2 * (p + g)) (by omega) (by omega), w64 (n := start + 2 * (p + g)) (by omega) (by omega), w64 (n := start + (3 * p + 2 * g)) (by omega) (by omega), w64 (n := start + (3 * p + 2 * g) - 1) (by omega) (by omega), show start + 2 * (p + g) = start + 2 * p + 2 * g by omega]
        cases endsB l speed start (3 * p + 2 * g) <;> simp
    · refine ⟨([], 2), by simp, ⟨K1 + 1, fun k hk => ?_⟩, K2, fun k hk => ?_⟩
      · obtain ⟨k, rfl⟩ : ∃ m, k = m + 1 := ⟨k - 1, by omega⟩
        simp only [spec_PlacesOf.f, spec_l19Is.f, spec_l19Is.j0, l19Phrase_f, l19Gap_f, l19Total_f]
        rw [h1 (k + 1) (by omega)]
        simp only [Option.bind_some]
        rw [if_pos h]
        revert ok
        cases within_ p 1 64 <;> cases within_ g 0 32 <;> simp
      · simp only [impl_PlacesOf.f]
        rw [h2 k (by omega), if_pos h]
        revert ok
        cases within_ p 1 64 <;> cases within_ g 0 32 <;> simp
  · refine ⟨([], startB a l m speed start), by simp, ⟨K1, fun k hk => ?_⟩, K2, fun k hk => ?_⟩
    · simp only [spec_PlacesOf.f, spec_l19Is.f]
      rw [h1 k (by omega)]
      simp only [Option.bind_some]
      rw [if_neg h]
      simp [h]
    · simp only [impl_PlacesOf.f]
      rw [h2 k (by omega), if_neg h]
      simp [h]
end PlacesOf
open PlacesOf
theorem FnExactPlacesOf : laws_FnExactPlacesOf.Pure := by
  intro a l m speed start p g ha hl hm _ _ _ _
  obtain ⟨r, hr, hb⟩ := szTala_f a l m ha hl.1 hm.1
  by_cases h : r < 0
  · refine ⟨0, ?_⟩
    simp only [laws_FnExactPlacesOf.f]
    rw [hr]
    simp only [Option.bind_some]
    rw [if_pos h]
  · obtain ⟨b1, b2⟩ := hb (by omega)
    obtain ⟨K1, h1⟩ := toTala_ev a l m b1 b2
    obtain ⟨v, hv, ⟨K2, h2⟩, K3, h3⟩ := both a l m speed start p g ha hl.1
    obtain ⟨K4, h4⟩ := eqTala_ev a l m hl.1 hm.1
    obtain ⟨K5, h5⟩ := eqInt64S_ev v.1 (by unfold maxLen; omega)
    obtain ⟨K6, h6⟩ := markTala_ev a l m b1 b2
    obtain ⟨K7, h7⟩ := mark_ev v.1 1 (by omega) (by omega) (by omega)
    obtain ⟨K8, h8⟩ := held_ev v.1.length 1 (by omega) (by omega) (by omega)
    generalize hN : K1 + K2 + K3 + K4 + K5 + K6 + K7 + K8 = N
    refine ⟨N + 3, ?_⟩
    simp only [laws_FnExactPlacesOf.f, laws_FnExactPlacesOf.j0, laws_FnExactPlacesOf.j1, laws_FnExactPlacesOf.j2]
    rw [hr]
    simp only [Option.bind_some]
    rw [if_neg h, h1 (N + 3) (by omega)]
    simp only [Option.bind_some]
    rw [h2 (N + 3) (by omega), h3 (N + 3) (by omega)]
    simp only [Option.bind_some]
    rw [h5 (N + 3) (by omega)]
    simp only [Option.bind_some, if_true]
    rw [if_neg (by simp), h1 (N + 2) (by omega)]
    simp only [Option.bind_some]
    rw [h4 (N + 2) (by omega), h6 (N + 2) (by omega)]
    simp only [Option.bind_some, if_true]
    rw [if_neg (by omega), h5 (N + 2) (by omega)]
    simp only [Option.bind_some, if_true]
    rw [if_neg (by simp), h7 (N + 1) (by omega)]
    simp only [Option.bind_some]
    rw [h8 (N + 1) (by omega), h1 (N + 1) (by omega)]
    simp only [Option.bind_some]
    rw [if_neg (by omega), if_pos trivial, h3 (N + 1) (by omega)]
    simp only [Option.bind_some]
    rw [h5 (N + 1) (by omega)]
    simp only [Option.bind_some, if_true]
    rw [if_neg (by simp), h8 N (by omega)]
    simp only [Option.bind_some]
    rw [if_neg (by omega), if_pos trivial]
end Go.Proofs.Ythimhjghepdccaa.Pure
