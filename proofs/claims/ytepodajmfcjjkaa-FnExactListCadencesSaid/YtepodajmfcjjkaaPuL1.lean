/- Plain facts: lists of rows that are marked, held and compared. -/
import Derived.Test.YtepodajmfcjjkaaPuL0
import Derived.Test.YtepodajmfcjjkaaPLx11
import Derived.Test.YtepodajmfcjjkaaPLx12
import Derived.Test.YtepodajmfcjjkaaPLx13
namespace Go.Proofs.Ytepodajmfcjjkaa.Pure
open Go.RowKit Go.Proofs.Ytepodajmfcjjkaa.PL Go.Proofs.YtepodajmfcjjkaaW.PrintWords Go.Proofs.YtepodajmfcjjkaaW.PrintLast
set_option linter.unusedSimpArgs false
set_option linter.unusedVariables false
/-- Rows whose numbers go on from row to row. -/
def upLL : List (List Int) → Int → List (List Int)
  | [], _ => []
  | x :: xs, c => upL x.length c :: upLL xs (c + x.length)
def lenLL : List (List Int) → Nat
  | [] => 0
  | x :: xs => x.length + lenLL xs
theorem rd_at (done : List (List Int)) (x : List Int) (xs : List (List Int)) : rd_L2 (done ++ x :: xs) (done.length : Int) = x := by
  unfold rd_L2
  rw [show ((done.length : Int)).toNat = done.length by omega, List.getD_eq_getElem?_getD, List.getElem?_append_right (Nat.le_refl _), Nat.sub_self]
  rfl
theorem set_at (done : List (List Int)) (x y : List Int) (xs : List (List Int)) : (done ++ x :: xs).set ((done.length : Int)).toNat y = done ++ y :: xs := by
  rw [show ((done.length : Int)).toNat = done.length by omega, List.set_append_right _ _ (Nat.le_refl _), Nat.sub_self]
  rfl
theorem mark_k (l : List Int) (c : Int) (h1 : 0 ≤ c) (h2 : c ≤ 10000000) (hN : l.length ≤ 2000000) (k : Nat) (hk : l.length < k) : laws_markInt64S.f k l c = some (c + l.length, upL l.length c) := by
  have := mark_l0 l.length c h1 h2 hN l.length l 0 (by omega) (by omega) rfl (fun j hj => by simp at hj) k hk
  rw [Int.add_zero] at this
  exact this
theorem held_k (N : Nat) (c : Int) (h1 : 0 ≤ c) (h2 : c ≤ 10000000) (hN : N ≤ 2000000) (k : Nat) (hk : N < k) : laws_heldInt64S.f k (upL N c) c = some (c + N) := by
  have := held_l0 N c h1 h2 hN N 0 (by omega) (by omega) k hk
  rw [Int.add_zero] at this
  exact this
theorem markSS_l0 : ∀ (rest done : List (List Int)) (c : Int) (k : Nat), 0 ≤ c → c + lenLL rest ≤ 1000000 → (done ++ rest).length ≤ 1000000 → (∀ x ∈ rest, x.length ≤ 1000) → rest.length + 1001 < k → laws_markInt64SS.l0 k (done ++ rest) c done.length = some (c + lenLL rest, done ++ upLL rest c)
  | [], done, c, k, _, _, _, _, hk => by
    obtain ⟨k, rfl⟩ : ∃ m, k = m + 1 := ⟨k - 1, by omega⟩
    simp only [laws_markInt64SS.l0]
    rw [if_neg (by simp)]
    simp [lenLL, upLL]
  | x :: xs, done, c, k, h0, h1, h2, h3, hk => by
    obtain ⟨k, rfl⟩ : ∃ m, k = m + 1 := ⟨k - 1, by omega⟩
    have hx := h3 x (by simp)
    simp only [lenLL] at h1
    simp only [List.length_append, List.length_cons] at h2 hk
    simp only [laws_markInt64SS.l0]
    rw [if_pos (by simp; omega), if_pos (by omega), rd_at, mark_k x c h0 (by omega) (by omega) k (by omega)]
    simp only [Option.bind_some]
    rw [set_at, w64 (n := (done.length : Int) + 1) (by omega) (by omega)]
    have := markSS_l0 xs (done ++ [upL x.length c]) (c + x.length) k (by omega) (by omega) (by simp; omega) (fun y hy => h3 y (List.mem_cons_of_mem _ hy)) (by omega)
    rw [show ((done ++ [upL x.length c]).length : Int) = done.length + 1 by simp, List.append_assoc, List.append_assoc] at this
    simp only [List.singleton_append] at this
    rw [this]
    simp only [lenLL, upLL]
    rw [show c + (x.length : Int) + (lenLL xs : Nat) = c + ((x.length + lenLL xs : Nat) : Int) by omega]
theorem heldSS_l0 : ∀ (rest done : List (List Int)) (c : Int) (k : Nat), 0 ≤ c → c + lenLL rest ≤ 1000000 → (done ++ rest).length ≤ 1000000 → (∀ x ∈ rest, x.length ≤ 1000) → rest.length + 1001 < k → laws_heldInt64SS.l0 k (done ++ upLL rest c) c done.length = some (c + lenLL rest)
  | [], done, c, k, _, _, _, _, hk => by
    obtain ⟨k, rfl⟩ : ∃ m, k = m + 1 := ⟨k - 1, by omega⟩
    rw [show upLL [] c = [] from rfl]
    simp only [laws_heldInt64SS.l0]
    rw [if_neg (by simp)]
    simp [lenLL]
  | x :: xs, done, c, k, h0, h1, h2, h3, hk => by
    obtain ⟨k, rfl⟩ : ∃ m, k = m + 1 := ⟨k - 1, by omega⟩
    have hx := h3 x (by simp)
    simp only [lenLL] at h1
    simp only [List.length_append, List.length_cons] at h2 hk
    rw [show upLL (x :: xs) c = upL x.length c :: upLL xs (c + x.length) from rfl]
    simp only [laws_heldInt64SS.l0]
    rw [if_pos (by simp; omega), if_pos (by omega), rd_at, held_k x.length c h0 (by omega) (by omega) k (by omega)]
    simp only [Option.bind_some]
    rw [if_neg (by omega), w64 (n := (done.length : Int) + 1) (by omega) (by omega)]
    have := heldSS_l0 xs (done ++ [upL x.length c]) (c + x.length) k (by omega) (by omega) (by simp; omega) (fun y hy => h3 y (List.mem_cons_of_mem _ hy)) (by omega)
    rw [show ((done ++ [upL x.length c]).length : Int) = done.length + 1 by simp, List.append_assoc] at this
    simp only [List.singleton_append] at this
    rw [this]
    simp only [lenLL]
    rw [show c + (x.length : Int) + (lenLL xs : Nat) = c + ((x.length + lenLL xs : Nat) : Int) by omega]
theorem eqSS_l0 (l : List (List Int)) (hl : l.length ≤ 1000000) (hr : ∀ x ∈ l, x.length ≤ 1000) : ∀ (d : Nat) (i : Int), 0 ≤ i → i + d = l.length → ∀ k, d + 1001 < k → laws_eqInt64SS.l0 k l l i = some true := by
  intro d
  induction d with
  | zero =>
    intro i h0 h1 k hk
    obtain ⟨k, rfl⟩ : ∃ m, k = m + 1 := ⟨k - 1, by omega⟩
    simp only [laws_eqInt64SS.l0]
    rw [if_neg (by omega)]
  | succ d ih =>
    intro i h0 h1 k hk
    obtain ⟨k, rfl⟩ : ∃ m, k = m + 1 := ⟨k - 1, by omega⟩
    simp only [laws_eqInt64SS.l0]
    have hx : (rd_L2 l i).length ≤ 1000 := by
      have e : rd_L2 l i = l[i.toNat]'(by omega) := by simp [rd_L2, List.getD_eq_getElem?_getD, List.getElem?_eq_getElem (show i.toNat < l.length by omega)]
      rw [e]; exact hr _ (List.getElem_mem _)
    have he : laws_eqInt64S.f k (rd_L2 l i) (rd_L2 l i) = some true := by
      simp only [laws_eqInt64S.f]
      rw [if_pos trivial]
      exact eqInt64S_l0 (rd_L2 l i) (by unfold maxLen; omega) (rd_L2 l i).length 0 (by omega) (by omega) k (by omega)
    rw [if_pos (by omega), if_pos h0, if_pos (by omega), he]
    simp only [Option.bind_some, if_true]
    rw [w64 (n := i + 1) (by omega) (by omega)]
    exact ih (i + 1) (by omega) (by omega) k (by omega)
theorem eqSS_k (l : List (List Int)) (hl : l.length ≤ 1000000) (hr : ∀ x ∈ l, x.length ≤ 1000) (k : Nat) (hk : l.length + 1001 < k) : laws_eqInt64SS.f k l l = some true := by
  simp only [laws_eqInt64SS.f]
  rw [if_pos trivial]
  exact eqSS_l0 l hl hr l.length 0 (by omega) (by omega) k hk
theorem inL_rows (e : Int → Int → Bool) (p : Int) : ∀ (d : Nat) (g : Int) (acc : List (List Int)), (∀ x ∈ acc, x.length ≤ 2) → ∀ x ∈ inL e p d g acc, x.length ≤ 2
  | 0, _, _, h => h
  | d + 1, g, acc, h => by
    simp only [inL]
    refine inL_rows e p d (g + 1) _ (fun x hx => ?_)
    split at hx
    · rcases List.mem_append.1 hx with hx | hx
      · exact h x hx
      · rw [List.mem_singleton.1 hx]; exact Nat.le_refl _
    · exact h x hx
theorem outL_rows (e : Int → Int → Bool) (G : Nat) : ∀ (d : Nat) (p : Int) (acc : List (List Int)), (∀ x ∈ acc, x.length ≤ 2) → ∀ x ∈ outL e G d p acc, x.length ≤ 2
  | 0, _, _, h => h
  | d + 1, p, acc, h => by
    simp only [outL]
    exact outL_rows e G d (p + 1) _ (inL_rows e p G 0 acc h)
theorem lenLL_le : ∀ (l : List (List Int)), (∀ x ∈ l, x.length ≤ 2) → lenLL l ≤ 2 * l.length
  | [], _ => Nat.le_refl _
  | x :: xs, h => by
    have := lenLL_le xs (fun y hy => h y (List.mem_cons_of_mem _ hy))
    have := h x (by simp)
    simp only [lenLL, List.length_cons]
    omega
end Go.Proofs.Ytepodajmfcjjkaa.Pure
