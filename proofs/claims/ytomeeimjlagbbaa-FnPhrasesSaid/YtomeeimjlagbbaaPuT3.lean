/- Plain facts: what the search for a common phrase finds, and that it is the same both ways. -/
import Derived.Test.YtomeeimjlagbbaaPuT2
namespace Go.Proofs.Ytomeeimjlagbbaa.Pure
open Go.RowKit Go.Proofs.Ytomeeimjlagbbaa.PT Go.Proofs.YtomeeimjlagbbaaW.PrintWords Go.Proofs.YtomeeimjlagbbaaW.PrintLast
set_option linter.unusedSimpArgs false

theorem best_congr {x y b : List Int} {s t : Int → Int → Prop} (h : Best x y s b) (e : ∀ f u, t f u ↔ s f u) : Best x y t b := by
  have : t = s := funext fun f => funext fun u => propext (e f u)
  rw [this]; exact h
def S (n f u g v : Int) : Prop := 0 ≤ g ∧ g + 1 ≤ v ∧ v ≤ mn (g + 8) n ∧ (g < f ∨ (g = f ∧ v < u))
theorem mn_le (a b : Int) : mn a b ≤ a ∧ mn a b ≤ b ∧ (mn a b = a ∨ mn a b = b) := by
  unfold mn; split <;> omega
theorem part_length (x : List Int) (f u : Int) : (part x f u).length ≤ x.length := by unfold part; simp; omega
theorem inner_ev (x y : List Int) (hx : x.length ≤ 100) (hy : y.length ≤ 100) (f : Int) (h0 : 0 ≤ f) (h1 : f < x.length) : ∀ (d : Nat) (u : Int) (b : List Int), f + 1 ≤ u → u + d = mn (f + 8) x.length + 1 → b.length ≤ x.length → Best x y (S x.length f u) b →
    ∃ b', b'.length ≤ x.length ∧ Best x y (S x.length (f + 1) (f + 1 + 1)) b' ∧ ∀ k, 500 ≤ k → impl_CommonPhrase.l1 (k + d + 1) x y b f u (x.length : Int) f = impl_CommonPhrase.l0 k x y b' (x.length : Int) (f + 1) := by
  have hm := mn_le (f + 8) x.length
  intro d
  induction d with
  | zero =>
    intro u b hu hd hb hB
    refine ⟨b, hb, best_congr hB (fun g v => ?_), fun k hk => ?_⟩
    · unfold S
      constructor
      · rintro ⟨a1, a2, a3, a4⟩
        refine ⟨a1, a2, a3, ?_⟩
        rcases a4 with a4 | ⟨a4, a5⟩
        · by_cases e : g = f
          · subst e; exact .inr ⟨rfl, by omega⟩
          · exact .inl (by omega)
        · omega
      · rintro ⟨a1, a2, a3, a4⟩
        exact ⟨a1, a2, a3, by omega⟩
    · simp only [impl_CommonPhrase.l1]
      rw [w64 (n := f + 8) (by omega) (by omega), if_neg (by omega), w64 (n := f + 1) (by omega) (by omega)]
  | succ d ih =>
    intro u b hu hd hb hB
    have hst := best_step hB f u (S x.length f (u + 1)) (fun g v => by
      unfold S
      constructor
      · rintro ⟨a1, a2, a3, a4⟩
        by_cases e : g = f ∧ v = u
        · exact .inr e
        · exact .inl ⟨a1, a2, a3, by omega⟩
      · rintro (⟨a1, a2, a3, a4⟩ | ⟨rfl, rfl⟩)
        · exact ⟨a1, a2, a3, by omega⟩
        · exact ⟨h0, hu, by omega, by omega⟩)
    have hpl := part_length x f u
    obtain ⟨b', l', B', e'⟩ := ih (u + 1) _ (by omega) (by omega) (by split <;> (try split) <;> omega) hst
    refine ⟨b', l', B', fun k hk => ?_⟩
    rw [← e' k hk, show k + (d + 1) + 1 = (k + d + 1) + 1 by omega]
    have hoc := occ_ev y (part x f u) hy (by omega) (k + d + 1) (by omega)
    generalize hK : k + d + 1 = K at hoc ⊢
    simp only [impl_CommonPhrase.l1, Option.bind_some]
    rw [w64 (n := f + 8) (by omega) (by omega), if_pos (by omega), if_pos h0, if_pos (by omega), if_pos (by omega), w64 (n := u + 1) (by omega) (by omega)]
    have ep : (x.take u.toNat).drop f.toNat = part x f u := rfl
    rw [ep, hoc]
    simp only [Option.bind_some]
    have ho : ∀ (p q : Option (List Int × Int)), (if ((occR y (part x f u)).length : Int) > 0 then p else q) = if hasB y (part x f u) = true then p else q := fun p q => by
      by_cases z : (occR y (part x f u)).length = 0
      · rw [if_neg (by omega), if_neg (by unfold hasB; simp [z])]
      · rw [if_pos (by omega), if_pos (by unfold hasB; simpa using z)]
    simp only [ho]
    by_cases c1 : ((part x f u).length : Int) > (b.length : Int)
    · have hbt : bt (part x f u) b = true := bt_iff.2 (.inl (by omega))
      rw [if_pos c1, hbt, if_pos rfl]
      by_cases c2 : hasB y (part x f u) = true
      · rw [if_pos c2, if_pos c2]
      · rw [if_neg c2, if_neg c2]
    · rw [if_neg c1]
      by_cases c2 : ((part x f u).length : Int) = (b.length : Int)
      · obtain ⟨r, r1, hr⟩ := compare_ev (part x f u) b (by omega) (by omega)
        have hbt : bt (part x f u) b = decide (r < 0) := by
          unfold bt
          rw [r1, show decide ((part x f u).length > b.length) = false by simp; omega, show decide ((part x f u).length = b.length) = true by simp; omega]
          simp
        rw [if_pos c2, hr _ (by omega), hbt]
        simp only [Option.bind_some]
        by_cases c3 : r < 0
        · rw [if_pos c3, decide_eq_true c3, if_pos rfl]
          by_cases c4 : hasB y (part x f u) = true
          · rw [if_pos c4, if_pos c4]
          · rw [if_neg c4, if_neg c4]
        · rw [if_neg c3, decide_eq_false c3, if_neg (by decide)]
      · have hbt : ¬ bt (part x f u) b = true := fun h => by rw [bt_iff] at h; omega
        rw [if_neg c2, if_neg hbt]
theorem outer_ev (x y : List Int) (hx : x.length ≤ 100) (hy : y.length ≤ 100) : ∀ (D : Nat) (f : Int) (b : List Int), 0 ≤ f → f + D = x.length → b.length ≤ x.length → Best x y (S x.length f (f + 1)) b →
    ∃ r, r.length ≤ x.length ∧ Best x y (fun g v => 0 ≤ g ∧ g + 1 ≤ v ∧ v ≤ mn (g + 8) x.length) r ∧ ∀ k, 600 + D * 10 < k → impl_CommonPhrase.l0 k x y b (x.length : Int) f = some (r, 0) := by
  intro D
  induction D with
  | zero =>
    intro f b h0 h1 hb hB
    refine ⟨b, hb, best_congr hB (fun g v => ?_), fun k hk => ?_⟩
    · have hm := mn_le (g + 8) x.length
      unfold S
      constructor
      · rintro ⟨a1, a2, a3⟩; exact ⟨a1, a2, a3, by omega⟩
      · rintro ⟨a1, a2, a3, _⟩; exact ⟨a1, a2, a3⟩
    · obtain ⟨k, rfl⟩ : ∃ m, k = m + 1 := ⟨k - 1, by omega⟩
      simp only [impl_CommonPhrase.l0, slices_Clone_int64_int64.f, Option.bind_some]
      rw [if_neg (by omega), if_pos (by simp; omega)]
      simp
  | succ D ih =>
    intro f b h0 h1 hb hB
    have hm := mn_le (f + 8) x.length
    obtain ⟨b', l', B', e'⟩ := inner_ev x y hx hy f h0 (by omega) (mn (f + 8) x.length - f).toNat (f + 1) b (by omega) (by omega) hb hB
    obtain ⟨r, lr, Br, er⟩ := ih (f + 1) b' (by omega) (by omega) l' B'
    refine ⟨r, lr, Br, fun k hk => ?_⟩
    obtain ⟨k, rfl⟩ : ∃ m, k = m + 1 := ⟨k - 1, by omega⟩
    simp only [impl_CommonPhrase.l0]
    rw [if_pos (by omega), w64 (n := f + 1) (by omega) (by omega)]
    have := e' (k - (mn (f + 8) x.length - f).toNat - 1) (by omega)
    rw [show k - (mn (f + 8) x.length - f).toNat - 1 + (mn (f + 8) x.length - f).toNat + 1 = k by omega] at this
    rw [this]
    exact er _ (by omega)
def All (n g v : Int) : Prop := 0 ≤ g ∧ g + 1 ≤ v ∧ v ≤ mn (g + 8) n
theorem common_ev (x y : List Int) (hx : x.length ≤ 65) (hy : y.length ≤ 65) : ∃ r, r.length ≤ x.length ∧ Best x y (All x.length) r ∧ ∀ k, 2000 < k → impl_CommonPhrase.f k x y = some (if (piB x && piB y) = true then (r, 0) else ([], 7)) := by
  obtain ⟨r, lr, Br, er⟩ := outer_ev x y (by omega) (by omega) x.length 0 [] (by omega) (by omega) (by simp) ⟨.inl rfl, fun f u h => by unfold S at h; omega⟩
  refine ⟨r, lr, Br, fun k hk => ?_⟩
  obtain ⟨k, rfl⟩ : ∃ m, k = m + 1 := ⟨k - 1, by omega⟩
  simp only [impl_CommonPhrase.f, impl_CommonPhrase.j0, pitchesOk_f]
  rw [er k (by omega)]
  cases piB x <;> cases piB y <;> simp
/-- A part of x that y has is a part of y. -/
theorem part_swap {x y : List Int} {f u : Int} (h : All x.length f u) (ho : hasB y (part x f u) = true) : ∃ g v, All y.length g v ∧ part y g v = part x f u ∧ hasB x (part y g v) = true := by
  obtain ⟨a1, a2, a3⟩ := h
  have hm := mn_le (f + 8) x.length
  have hpl : (part x f u).length = (u - f).toNat := by unfold part; simp; omega
  have hne : (occR y (part x f u)) ≠ [] := fun e => by unfold hasB at ho; rw [e] at ho; simp at ho
  obtain ⟨j, hj⟩ := List.exists_mem_of_ne_nil _ hne
  have hjb := occR_bd hj
  have hE : (y.take (j + (part x f u).length).toNat).drop j.toNat = part x f u := by
    have := hjb.2.2; unfold occE at this; simpa using this
  have hpy : part y j (j + (part x f u).length) = part x f u := hE
  have hm2 := mn_le (j + 8) y.length
  refine ⟨j, j + (part x f u).length, ⟨by omega, by omega, by omega⟩, hpy, ?_⟩
  rw [hpy]
  unfold hasB
  have : f ∈ occR x (part x f u) := filR_mem.2 ⟨a1, by omega, by
    unfold occE
    rw [decide_eq_true_eq, show (f + ((part x f u).length : Int)) = u by omega]; rfl⟩
  have h2 := List.length_pos_of_mem this
  rw [decide_eq_true_eq]; omega
theorem common_same {x y r s : List Int} (hr : Best x y (All x.length) r) (hs : Best y x (All y.length) s) : r = s := by
  have one : ∀ {x y r s : List Int}, Best x y (All x.length) r → Best y x (All y.length) s → r = [] ∨ r = s ∨ bt s r = true := fun {x y r s} hr hs => by
    rcases hr.1 with e | ⟨f, u, a, e, o⟩
    · exact .inl e
    · obtain ⟨g, v, b, e2, o2⟩ := part_swap a (e ▸ o)
      have := hs.2 g v b o2
      rw [e2, ← e] at this
      exact .inr this
  have nb : ∀ p : List Int, bt [] p = true → False := fun p h => by
    rw [bt_iff] at h
    rcases h with h | ⟨_, h⟩
    · simp at h
    · simp [lx] at h
  rcases one hr hs with e1 | e1 | e1
  · rcases one hs hr with e2 | e2 | e2
    · rw [e1, e2]
    · exact e2.symm
    · rw [e1] at e2; exact absurd e2 (fun h => nb _ h)
  · exact e1
  · rcases one hs hr with e2 | e2 | e2
    · rw [e2] at e1; exact absurd e1 (fun h => nb _ h)
    · exact e2.symm
    · exact absurd e2 (fun h => bt_asymm e1 h)
/-- What is found is found in both. -/
theorem best_in {x y r : List Int} (h : Best x y (All x.length) r) (hr : r ≠ []) : (∃ f, f ∈ occR x r) ∧ (∃ f, f ∈ occR y r) ∧ r.length ≤ 8 ∧ ∀ z ∈ r, z ∈ x := by
  rcases h.1 with e | ⟨f, u, a, e, o⟩
  · exact absurd e hr
  · have o' : hasB y (part x f u) = true := e ▸ o
    obtain ⟨a1, a2, a3⟩ := a
    have hm := mn_le (f + 8) x.length
    have hpl : (part x f u).length = (u - f).toNat := by unfold part; simp; omega
    have hne : (occR y (part x f u)) ≠ [] := fun e => by unfold hasB at o'; rw [e] at o'; simp at o'
    obtain ⟨j, hj⟩ := List.exists_mem_of_ne_nil _ hne
    subst e
    refine ⟨⟨f, filR_mem.2 ⟨a1, by omega, ?_⟩⟩, ⟨j, hj⟩, by omega, fun z hz => ?_⟩
    · unfold occE
      rw [decide_eq_true_eq, show (f + ((part x f u).length : Int)) = u by omega]; rfl
    · unfold part at hz
      exact List.mem_of_mem_take (List.mem_of_mem_drop hz)
end Go.Proofs.Ytomeeimjlagbbaa.Pure
