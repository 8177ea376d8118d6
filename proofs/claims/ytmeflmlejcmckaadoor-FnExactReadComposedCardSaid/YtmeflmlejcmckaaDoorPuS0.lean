/- Plain facts: valid syllables, as the program and the reference say it. -/
import Derived.Test.YtmeflmlejcmckaaDoorPuSn
import Derived.Test.YtmeflmlejcmckaaDoorPSx4
import Derived.Test.YtmeflmlejcmckaaDoorPSx5
import Derived.Test.YtmeflmlejcmckaaDoorPSx6
import Derived.Test.YtmeflmlejcmckaaDoorPSx9
import Derived.Test.YtmeflmlejcmckaaDoorPSx10
import Derived.Test.YtmeflmlejcmckaaDoorPSx11
import Derived.Test.YtmeflmlejcmckaaDoorPSx12
import Derived.Test.YtmeflmlejcmckaaDoorPSx16
namespace Go.Proofs.YtmeflmlejcmckaaDoor.Pure
open Go.RowKit Go.Proofs.YtmeflmlejcmckaaDoor.PS Go.Proofs.YtmeflmlejcmckaaDoorW.PrintWords Go.Proofs.YtmeflmlejcmckaaDoorW.PrintLast
set_option linter.unusedSimpArgs false
set_option linter.unusedVariables false
theorem ev_list {α : Type} {P : Nat → α → Prop} : ∀ l : List α, (∀ x ∈ l, ∃ K, ∀ k, K ≤ k → P k x) → ∃ K, ∀ k, K ≤ k → ∀ x ∈ l, P k x
  | [], _ => ⟨0, fun _ _ _ h => by cases h⟩
  | x :: xs, h => by
    obtain ⟨K1, h1⟩ := h x List.mem_cons_self
    obtain ⟨K2, h2⟩ := ev_list xs (fun y hy => h y (List.mem_cons_of_mem _ hy))
    refine ⟨K1 + K2, fun k hk y hy => ?_⟩
    rcases List.mem_cons.1 hy with rfl | hy
    · exact h1 k (by omega)
    · exact h2 k (by omega) y hy
theorem rd118_mem {l : List S118} {i : Int} (h0 : 0 ≤ i) (h1 : i < l.length) : rd_T118 l i ∈ l := by
  unfold rd_T118
  rw [List.getD_eq_getElem?_getD, List.getElem?_eq_getElem (show i.toNat < l.length by omega)]
  exact List.getElem_mem _
theorem rd116_mem {l : List S116} {i : Int} (h0 : 0 ≤ i) (h1 : i < l.length) : rd_T116 l i ∈ l := by
  unfold rd_T116
  rw [List.getD_eq_getElem?_getD, List.getElem?_eq_getElem (show i.toNat < l.length by omega)]
  exact List.getElem_mem _
def oneB (x : S118) : Bool := nameB x.f0 && decide ((x.f0.size : Int) ≤ 6) && within_ x.f1 1 3 && within_ x.f2 1 8
theorem l18One_ev (x : S118) (h : x.f0.size ≤ maxLen) : ∃ K, ∀ k, K ≤ k → spec_l18One.f k [x] = some (oneB x) := by
  obtain ⟨K, hK⟩ := l01Name_ev x.f0 h
  refine ⟨K, fun k hk => ?_⟩
  simp only [spec_l18One.f, show rd_T118 [x] 0 = x from rfl, l00In_f]
  rw [hK k hk]
  unfold oneB
  simp only [Option.bind_some]
  cases nameB x.f0 <;> cases within_ x.f1 1 3 <;> cases within_ x.f2 1 8 <;> by_cases e : (x.f0.size : Int) ≤ 6 <;> simp [e]
theorem validSyllable_ev (x : S118) (h : x.f0.size ≤ maxLen) : ∃ K, ∀ k, K ≤ k → impl_ValidSyllable.f k x.f0 x.f1 x.f2 = some (oneB x) := by
  obtain ⟨K, hK⟩ := isName_ev x.f0 h
  refine ⟨K, fun k hk => ?_⟩
  simp only [impl_ValidSyllable.f, within_f]
  rw [hK k hk]
  unfold oneB
  simp only [Option.bind_some]
  cases nameB x.f0 <;> cases within_ x.f1 1 3 <;> cases within_ x.f2 1 8 <;> by_cases e : (x.f0.size : Int) ≤ 6 <;> simp [e]
/-- What is asked of the i-th syllable. -/
def atB (l : List S118) (i : Int) : Bool := oneB (rd_T118 l i) && (decide (i = 0) || Op.bytesLess (rd_T118 l (i - 1)).f0.toList (rd_T118 l i).f0.toList)
def validB (l : List S118) : Bool := decide ((l.length : Int) ≤ 16) && allI (atB l) l.length 0
theorem l18Ok_ev (l : List S118) (hl : l.length ≤ maxLen) (h : ∀ x ∈ l, x.f0.size ≤ maxLen) : ∃ K, ∀ k, K ≤ k → spec_l18Ok.f k l = some (validB l) := by
  obtain ⟨K, hK⟩ := ev_list (P := fun k x => spec_l18One.f k [x] = some (oneB x)) l (fun x hx => l18One_ev x (h x hx))
  unfold maxLen at hl
  have L : ∀ (d : Nat) (i : Int), 0 ≤ i → i + d = l.length → ∀ k, K + d < k → spec_l18Ok.l0 k l i = some (allI (atB l) d i && decide ((l.length : Int) ≤ 16)) := by
    intro d
    induction d with
    | zero =>
      intro i h0 h1 k hk
      obtain ⟨k, rfl⟩ : ∃ m, k = m + 1 := ⟨k - 1, by omega⟩
      simp only [spec_l18Ok.l0]
      rw [if_neg (by omega)]; simp [allI]
    | succ d ih =>
      intro i h0 h1 k hk
      obtain ⟨k, rfl⟩ : ∃ m, k = m + 1 := ⟨k - 1, by omega⟩
      simp only [spec_l18Ok.l0, allI]
      rw [if_pos (by omega), if_pos h0, hK k (by omega) _ (rd118_mem h0 (by omega)), w64 (n := i + 1) (by omega) (by omega), w64 (n := i - 1) (by omega) (by omega), ih (i + 1) (by omega) (by omega) k (by omega), Bool.and_assoc]
      generalize (allI (atB l) d (i + 1) && decide ((l.length : Int) ≤ 16)) = A
      unfold atB
      simp only [Option.bind_some]
      cases oneB (rd_T118 l i) with
      | false => simp
      | true =>
        by_cases e : i > 0
        · rw [if_pos rfl, if_pos e, if_pos (by omega), if_pos (by omega)]
          cases Op.bytesLess (rd_T118 l (i - 1)).f0.toList (rd_T118 l i).f0.toList <;> simp [show ¬ i = 0 by omega]
        · rw [if_pos rfl, if_neg e]; simp [show i = 0 by omega]
  exact ⟨K + l.length + 1, fun k hk => by simp only [spec_l18Ok.f]; rw [L l.length 0 (by omega) (by omega) k (by omega)]; unfold validB; rw [Bool.and_comm]⟩
theorem validSyllables_ev (l : List S118) (hl : l.length ≤ maxLen) (h : ∀ x ∈ l, x.f0.size ≤ maxLen) : ∃ K, ∀ k, K ≤ k → impl_ValidSyllables.f k l = some (validB l) := by
  obtain ⟨K, hK⟩ := ev_list (P := fun k x => impl_ValidSyllable.f k x.f0 x.f1 x.f2 = some (oneB x)) l (fun x hx => validSyllable_ev x (h x hx))
  unfold maxLen at hl
  have L : ∀ (d : Nat) (i : Int), 0 ≤ i → i + d = l.length → ∀ k, K + d < k → impl_ValidSyllables.l0 k l l (l.length : Int) i = some (allI (atB l) d i) := by
    intro d
    induction d with
    | zero =>
      intro i h0 h1 k hk
      obtain ⟨k, rfl⟩ : ∃ m, k = m + 1 := ⟨k - 1, by omega⟩
      simp only [impl_ValidSyllables.l0]
      rw [if_neg (by omega)]; simp [allI]
    | succ d ih =>
      intro i h0 h1 k hk
      obtain ⟨k, rfl⟩ : ∃ m, k = m + 1 := ⟨k - 1, by omega⟩
      simp only [impl_ValidSyllables.l0, allI]
      rw [if_pos (by omega), if_pos h0, if_pos (by omega), hK k (by omega) _ (rd118_mem h0 (by omega)), w64 (n := i + 1) (by omega) (by omega), w64 (n := i - 1) (by omega) (by omega), ih (i + 1) (by omega) (by omega) k (by omega)]
      generalize allI (atB l) d (i + 1) = A
      unfold atB
      simp only [Option.bind_some]
      cases oneB (rd_T118 l i) with
      | false => simp
      | true =>
        by_cases e : i > 0
        · rw [if_pos rfl, if_pos e, if_pos (by omega), if_pos (by omega)]
          cases Op.bytesLess (rd_T118 l (i - 1)).f0.toList (rd_T118 l i).f0.toList <;> simp [show ¬ i = 0 by omega]
        · rw [if_pos rfl, if_neg e]; simp [show i = 0 by omega]
  refine ⟨K + l.length + 1, fun k hk => ?_⟩
  simp only [impl_ValidSyllables.f]
  rw [L l.length 0 (by omega) (by omega) k (by omega)]
  unfold validB
  by_cases e : (l.length : Int) > 16
  · rw [if_pos e]; simp [show ¬ (l.length : Int) ≤ 16 by omega]
  · rw [if_neg e]; simp [show (l.length : Int) ≤ 16 by omega]

/-! ### what the laws do with their arguments -/
def conv (x : S116) : S118 := ⟨x.f0, x.f1, x.f2⟩
theorem szSyllable_f (x : S116) (n : Int) (h : x.f0.size ≤ maxLen) (h0 : 0 ≤ n) (h1 : n ≤ 1048576) : laws_szSyllable.f x.f0 x.f1 x.f2 n = some (if n < x.f0.size then -1 else n - x.f0.size) := by
  unfold maxLen at h
  unfold laws_szSyllable.f
  rw [w64 (by omega) (by omega)]
  by_cases e : n < x.f0.size
  · rw [if_pos (by omega), if_pos e]
  · rw [if_neg (by omega), if_neg e]
theorem szSyllableS_ev (l : List S116) (hl : l.length ≤ maxLen) (h : ∀ x ∈ l, x.f0.size ≤ maxLen) : ∃ r K, (0 ≤ r → l.length ≤ 1048576) ∧ ∀ k, K ≤ k → laws_szSyllableS.f k l 1048576 = some r := by
  unfold maxLen at hl
  have L : ∀ (d : Nat) (i n : Int), 0 ≤ i → i + d = l.length → 0 ≤ n → n ≤ 1048576 → ∃ r, ∀ k, d < k → laws_szSyllableS.l0 k l n i = some r := by
    intro d
    induction d with
    | zero =>
      intro i n h0 h1 _ _
      refine ⟨n, fun k hk => ?_⟩
      obtain ⟨k, rfl⟩ : ∃ m, k = m + 1 := ⟨k - 1, by omega⟩
      simp only [laws_szSyllableS.l0]
      rw [if_neg (by omega)]
    | succ d ih =>
      intro i n h0 h1 hn hn2
      by_cases e : n < (rd_T116 l i).f0.size
      · refine ⟨-1, fun k hk => ?_⟩
        obtain ⟨k, rfl⟩ : ∃ m, k = m + 1 := ⟨k - 1, by omega⟩
        simp only [laws_szSyllableS.l0]
        rw [if_pos (by omega), if_pos h0, szSyllable_f _ _ (h _ (rd116_mem h0 (by omega))) hn hn2, if_pos e]
        rfl
      · obtain ⟨r, hr⟩ := ih (i + 1) (n - (rd_T116 l i).f0.size) (by omega) (by omega) (by omega) (by omega)
        refine ⟨r, fun k hk => ?_⟩
        obtain ⟨k, rfl⟩ : ∃ m, k = m + 1 := ⟨k - 1, by omega⟩
        simp only [laws_szSyllableS.l0]
        rw [if_pos (by omega), if_pos h0, szSyllable_f _ _ (h _ (rd116_mem h0 (by omega))) hn hn2, if_neg e]
        simp only [Option.bind_some]
        rw [if_neg (by omega), w64 (n := i + 1) (by omega) (by omega)]
        exact hr k (by omega)
  by_cases e : (1048576 : Int) < l.length
  · exact ⟨-1, 0, fun h => by omega, fun k _ => by simp only [laws_szSyllableS.f]; rw [w64 (by omega) (by omega), if_pos (by omega)]⟩
  · obtain ⟨r, hr⟩ := L l.length 0 (1048576 - l.length) (by omega) (by omega) (by omega) (by omega)
    exact ⟨r, l.length + 1, fun _ => by omega, fun k hk => by simp only [laws_szSyllableS.f]; rw [w64 (by omega) (by omega), if_neg (by omega)]; exact hr k (by omega)⟩
theorem toSyllableS_l0 (l : List S116) (hl : l.length ≤ 1048576) : ∀ (d : Nat) (i : Int), 0 ≤ i → i + d = l.length → ∀ k, d < k → laws_toSyllableS.l0 k l ((l.take i.toNat).map conv ++ List.replicate d z118) i = some (l.map conv) := by
  intro d
  induction d with
  | zero =>
    intro i h0 h1 k hk
    obtain ⟨k, rfl⟩ : ∃ m, k = m + 1 := ⟨k - 1, by omega⟩
    simp only [laws_toSyllableS.l0]
    rw [if_neg (by omega), List.take_of_length_le (by omega)]
    simp
  | succ d ih =>
    intro i h0 h1 k hk
    obtain ⟨k, rfl⟩ : ∃ m, k = m + 1 := ⟨k - 1, by omega⟩
    simp only [laws_toSyllableS.l0, laws_toSyllable.f, Option.bind_some]
    have hlen : ((l.take i.toNat).map conv).length = i.toNat := by rw [List.length_map, List.length_take]; omega
    rw [if_pos (by omega), if_pos h0, if_pos (by rw [List.length_append, hlen, List.length_replicate]; omega), w64 (n := i + 1) (by omega) (by omega)]
    have e : ((l.take i.toNat).map conv ++ List.replicate (d + 1) z118).set i.toNat (⟨(rd_T116 l i).f0, (rd_T116 l i).f1, (rd_T116 l i).f2⟩ : S118) = (l.take (i + 1).toNat).map conv ++ List.replicate d z118 := by
      rw [List.set_append_right _ _ (by omega), hlen, Nat.sub_self, List.replicate_succ, List.set_cons_zero, show (i + 1).toNat = i.toNat + 1 by omega, List.take_succ_eq_append_getElem (show i.toNat < l.length by omega), List.map_append, List.append_assoc]
      simp [conv, rd_T116, List.getD_eq_getElem?_getD, List.getElem?_eq_getElem (show i.toNat < l.length by omega)]
    rw [e]
    exact ih (i + 1) (by omega) (by omega) k (by omega)
theorem toSyllableS_ev (l : List S116) (hl : l.length ≤ 1048576) : ∃ K, ∀ k, K ≤ k → laws_toSyllableS.f k l = some (l.map conv) := by
  refine ⟨l.length + 1, fun k hk => ?_⟩
  simp only [laws_toSyllableS.f]
  rw [if_pos (by omega), if_pos (by omega)]
  have := toSyllableS_l0 l hl l.length 0 (by omega) (by omega) k (by omega)
  simpa using this
theorem eqSyllableS_ev (l : List S118) (hl : l.length ≤ maxLen) : ∃ K, ∀ k, K ≤ k → laws_eqSyllableS.f k l l = some true := by
  unfold maxLen at hl
  have L : ∀ (d : Nat) (i : Int), 0 ≤ i → i + d = l.length → ∀ k, d < k → laws_eqSyllableS.l0 k l l i = some true := by
    intro d
    induction d with
    | zero =>
      intro i h0 h1 k hk
      obtain ⟨k, rfl⟩ : ∃ m, k = m + 1 := ⟨k - 1, by omega⟩
      simp only [laws_eqSyllableS.l0]
      rw [if_neg (by omega)]
    | succ d ih =>
      intro i h0 h1 k hk
      obtain ⟨k, rfl⟩ : ∃ m, k = m + 1 := ⟨k - 1, by omega⟩
      simp only [laws_eqSyllableS.l0, laws_eqSyllable.f]
      rw [if_pos (by omega), if_pos h0, if_pos (by omega), if_pos trivial, if_pos trivial, if_pos trivial]
      simp only [Option.bind_some, if_true]
      rw [w64 (n := i + 1) (by omega) (by omega)]
      exact ih (i + 1) (by omega) (by omega) k (by omega)
  exact ⟨l.length + 1, fun k hk => by simp only [laws_eqSyllableS.f]; rw [if_pos trivial]; exact L l.length 0 (by omega) (by omega) k (by omega)⟩
theorem conv_size {l : List S116} (h : ∀ x ∈ l, x.f0.size ≤ maxLen) : ∀ x ∈ l.map conv, x.f0.size ≤ maxLen := fun x hx => by
  obtain ⟨y, hy, rfl⟩ := List.mem_map.1 hx
  exact h y hy
end Go.Proofs.YtmeflmlejcmckaaDoor.Pure
