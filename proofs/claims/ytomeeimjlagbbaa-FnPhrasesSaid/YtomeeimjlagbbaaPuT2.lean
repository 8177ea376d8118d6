/- Plain facts: the best phrase that two lists have in common. -/
import Derived.Test.YtomeeimjlagbbaaPuT1
import Derived.Test.YtomeeimjlagbbaaPTx8
import Derived.Test.YtomeeimjlagbbaaPTx9
import Derived.Test.YtomeeimjlagbbaaPTx10
namespace Go.Proofs.Ytomeeimjlagbbaa.Pure
open Go.RowKit Go.Proofs.Ytomeeimjlagbbaa.PT Go.Proofs.YtomeeimjlagbbaaW.PrintWords Go.Proofs.YtomeeimjlagbbaaW.PrintLast
set_option linter.unusedSimpArgs false

def lx : List Int → List Int → Bool
  | x :: xs, y :: ys => decide (x < y) || (decide (x = y) && lx xs ys)
  | _, _ => false
theorem lx_asymm : ∀ p q, lx p q = true → lx q p = true → False
  | [], _, h, _ => by simp [lx] at h
  | _ :: _, [], h, _ => by simp [lx] at h
  | x :: xs, y :: ys, h1, h2 => by
    simp only [lx, Bool.or_eq_true, Bool.and_eq_true, decide_eq_true_eq] at h1 h2
    rcases h1 with h1 | ⟨e1, h1⟩
    · rcases h2 with h2 | ⟨e2, h2⟩ <;> omega
    · rcases h2 with h2 | ⟨e2, h2⟩
      · omega
      · exact lx_asymm xs ys h1 h2
theorem lx_tri : ∀ p q, p.length = q.length → lx p q = false → p = q ∨ lx q p = true
  | [], [], _, _ => .inl rfl
  | [], _ :: _, h, _ => by simp at h
  | _ :: _, [], h, _ => by simp at h
  | x :: xs, y :: ys, h, h1 => by
    simp only [lx, Bool.or_eq_false_iff, Bool.and_eq_false_iff, decide_eq_false_iff_not] at h1
    simp only [lx, Bool.or_eq_true, Bool.and_eq_true, decide_eq_true_eq]
    by_cases e : x = y
    · subst e
      rcases h1.2 with h2 | h2
      · exact absurd rfl h2
      · rcases lx_tri xs ys (by simpa using h) h2 with h3 | h3
        · exact .inl (by rw [h3])
        · exact .inr (.inr ⟨rfl, h3⟩)
    · exact .inr (.inl (by omega))
theorem lx_trans : ∀ p q r, lx p q = true → lx q r = true → lx p r = true
  | [], _, _, h, _ => by simp [lx] at h
  | _ :: _, [], _, h, _ => by simp [lx] at h
  | _ :: _, _ :: _, [], _, h => by simp [lx] at h
  | x :: xs, y :: ys, z :: zs, h1, h2 => by
    simp only [lx, Bool.or_eq_true, Bool.and_eq_true, decide_eq_true_eq] at h1 h2 ⊢
    rcases h1 with h1 | ⟨e1, h1⟩
    · rcases h2 with h2 | ⟨e2, h2⟩
      · exact .inl (by omega)
      · exact .inl (by omega)
    · rcases h2 with h2 | ⟨e2, h2⟩
      · exact .inl (by omega)
      · exact .inr ⟨by omega, lx_trans xs ys zs h1 h2⟩
theorem cmp_f (a b : Int) : cmp_Compare_int64.f a b = some (if a < b then -1 else if a > b then 1 else 0) := by
  unfold cmp_Compare_int64.f cmp_isNaN_int64.f
  simp only [Option.bind_some, bne_self_eq_false, Bool.false_eq_true, if_false]
  by_cases c : a < b
  · rw [if_pos c, if_pos c]
  · rw [if_neg c, if_neg c]
    by_cases d : a > b
    · rw [if_pos d, if_pos d]
    · rw [if_neg d, if_neg d]
theorem compare_ev (p q : List Int) (hp : p.length ≤ 100) (hpq : p.length = q.length) : ∃ r : Int, (decide (r < 0) = lx p q) ∧ ∀ k, p.length + 1 < k → slices_Compare_int64_int64.f k p q = some r := by
  have L0 : ∀ (d : Nat) (i : Int), 0 ≤ i → i + d = p.length → ∃ r : Int, (decide (r < 0) = lx (p.drop i.toNat) (q.drop i.toNat)) ∧ ∀ k, d < k → slices_Compare_int64_int64.l0 k p q p (p.length : Int) i = some r := by
    intro d
    induction d with
    | zero =>
      intro i h0 h1
      refine ⟨0, by rw [List.drop_eq_nil_of_le (by omega)]; rfl, fun k hk => ?_⟩
      obtain ⟨k, rfl⟩ : ∃ m, k = m + 1 := ⟨k - 1, by omega⟩
      simp only [slices_Compare_int64_int64.l0]
      rw [if_neg (by omega), if_neg (by omega)]
    | succ d ih =>
      intro i h0 h1
      rw [drop_cons (c := p) h0 (by omega), drop_cons (c := q) h0 (by omega)]
      by_cases c : rd p i = rd q i
      · obtain ⟨r, r1, hr⟩ := ih (i + 1) (by omega) (by omega)
        refine ⟨r, by rw [r1]; simp [lx, c], fun k hk => ?_⟩
        obtain ⟨k, rfl⟩ : ∃ m, k = m + 1 := ⟨k - 1, by omega⟩
        simp only [slices_Compare_int64_int64.l0, cmp_f, Option.bind_some]
        rw [if_pos (by omega), if_pos h0, if_pos (by omega), if_neg (by omega), if_pos (by omega), if_neg (show ¬ rd p i < rd q i by omega), if_neg (show ¬ rd p i > rd q i by omega), if_pos rfl, w64 (n := i + 1) (by omega) (by omega)]
        exact hr k (by omega)
      · refine ⟨if rd p i < rd q i then -1 else if rd p i > rd q i then 1 else 0, ?_, fun k hk => ?_⟩
        · by_cases d : rd p i < rd q i
          · rw [if_pos d]; simp [lx, d]
          · rw [if_neg d, if_pos (by omega)]; simp [lx, d, c]
        · obtain ⟨k, rfl⟩ : ∃ m, k = m + 1 := ⟨k - 1, by omega⟩
          simp only [slices_Compare_int64_int64.l0, cmp_f, Option.bind_some]
          rw [if_pos (by omega), if_pos h0, if_pos (by omega), if_neg (by omega), if_pos (by omega), if_neg (by split <;> (try split) <;> omega)]
  obtain ⟨r, r1, hr⟩ := L0 p.length 0 (by omega) (by omega)
  exact ⟨r, by simpa using r1, fun k hk => hr k (by omega)⟩
/-- p is longer than q, or as long and ahead of it. -/
def bt (p q : List Int) : Bool := decide (p.length > q.length) || (decide (p.length = q.length) && lx p q)
theorem bt_iff {p q : List Int} : bt p q = true ↔ p.length > q.length ∨ (p.length = q.length ∧ lx p q = true) := by unfold bt; simp
theorem bt_asymm {p q : List Int} (h1 : bt p q = true) (h2 : bt q p = true) : False := by
  rw [bt_iff] at h1 h2
  rcases h1 with h1 | ⟨e1, h1⟩
  · rcases h2 with h2 | ⟨e2, h2⟩ <;> omega
  · rcases h2 with h2 | ⟨e2, h2⟩
    · omega
    · exact lx_asymm p q h1 h2
theorem bt_tri {p q : List Int} (h : bt p q = false) : p = q ∨ bt q p = true := by
  by_cases e : p.length = q.length
  · have h1 : lx p q = false := by unfold bt at h; simpa [e] using h
    rcases lx_tri p q e h1 with h2 | h2
    · exact .inl h2
    · exact .inr (bt_iff.2 (.inr ⟨e.symm, h2⟩))
  · refine .inr (bt_iff.2 (.inl ?_))
    have : ¬ p.length > q.length := fun c => by unfold bt at h; simp [c] at h
    omega
theorem bt_trans {p q r : List Int} (h1 : bt p q = true) (h2 : bt q r = true) : bt p r = true := by
  rw [bt_iff] at h1 h2 ⊢
  rcases h1 with h1 | ⟨e1, h1⟩
  · rcases h2 with h2 | ⟨e2, h2⟩ <;> exact .inl (by omega)
  · rcases h2 with h2 | ⟨e2, h2⟩
    · exact .inl (by omega)
    · exact .inr ⟨by omega, lx_trans p q r h1 h2⟩
def part (x : List Int) (f u : Int) : List Int := (x.take u.toNat).drop f.toNat
def hasB (y p : List Int) : Bool := decide ((occR y p).length ≠ 0)
/-- What stands best among the parts of x that have been seen. -/
def Best (x y : List Int) (seen : Int → Int → Prop) (b : List Int) : Prop :=
  (b = [] ∨ ∃ f u, seen f u ∧ b = part x f u ∧ hasB y b = true) ∧ ∀ f u, seen f u → hasB y (part x f u) = true → part x f u = b ∨ bt b (part x f u) = true
theorem best_step {x y b : List Int} {seen : Int → Int → Prop} (h : Best x y seen b) (f u : Int) (seen' : Int → Int → Prop) (hs : ∀ g v, seen' g v ↔ seen g v ∨ (g = f ∧ v = u)) :
    Best x y seen' (if bt (part x f u) b = true then (if hasB y (part x f u) = true then part x f u else b) else b) := by
  have keep : ∀ {c : List Int}, Best x y seen c → (hasB y (part x f u) = true → part x f u = c ∨ bt c (part x f u) = true) → Best x y seen' c := fun {c} hc hn => by
    refine ⟨?_, fun g v hg ho => ?_⟩
    · rcases hc.1 with e | ⟨g, v, a, b', c'⟩
      · exact .inl e
      · exact .inr ⟨g, v, (hs g v).2 (.inl a), b', c'⟩
    · rcases (hs g v).1 hg with hg | ⟨rfl, rfl⟩
      · exact hc.2 g v hg ho
      · exact hn ho
  by_cases c1 : bt (part x f u) b = true
  · rw [if_pos c1]
    by_cases c2 : hasB y (part x f u) = true
    · rw [if_pos c2]
      refine ⟨.inr ⟨f, u, (hs f u).2 (.inr ⟨rfl, rfl⟩), rfl, c2⟩, fun g v hg ho => ?_⟩
      rcases (hs g v).1 hg with hg | ⟨rfl, rfl⟩
      · rcases h.2 g v hg ho with e | e
        · exact .inr (by rw [e]; exact c1)
        · exact .inr (bt_trans c1 e)
      · exact .inl rfl
    · rw [if_neg c2]
      exact keep h (fun e => absurd e c2)
  · rw [if_neg c1]
    exact keep h (fun _ => bt_tri (by simpa using c1))
end Go.Proofs.Ytomeeimjlagbbaa.Pure
