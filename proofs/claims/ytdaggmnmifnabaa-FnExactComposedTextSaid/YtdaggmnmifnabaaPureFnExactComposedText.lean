/- ComposedText of the program returns what the reference's returns, for all arguments. -/
import Derived.Test.YtdaggmnmifnabaaPuX1
import Derived.Test.YtdaggmnmifnabaaPXx5
import Derived.Test.YtdaggmnmifnabaaPXx9
import Derived.Test.YtdaggmnmifnabaaPXx10
import Derived.Test.YtdaggmnmifnabaaPXx13
namespace Go.Proofs.Ytdaggmnmifnabaa.Pure
open Go.RowKit Go.Proofs.Ytdaggmnmifnabaa.PX Go.Proofs.YtdaggmnmifnabaaW.PrintWords Go.Proofs.YtdaggmnmifnabaaW.PrintLast
set_option linter.unusedSimpArgs false
set_option linter.unusedVariables false
def Wp {α : Type} (g : Nat → Option α) (Q : α → Prop) : Prop := ∃ r, Q r ∧ ∃ K, ∀ k, K ≤ k → g k = some r
theorem Wp.now {α : Type} {Q : α → Prop} {r : α} (h : Q r) : Wp (fun _ => some r) Q := ⟨r, h, 0, fun _ _ => rfl⟩
theorem Wp.eq {α : Type} {Q : α → Prop} {g : Option α} {r : α} (e : g = some r) (h : Q r) : Wp (fun _ => g) Q := ⟨r, h, 0, fun _ _ => e⟩
theorem Wp.bind {α β : Type} {g : Nat → Option α} {f : Nat → α → Option β} {Q : β → Prop} (h : Wp g (fun a => Wp (fun k => f k a) Q)) : Wp (fun k => (g k).bind (f k)) Q := by
  obtain ⟨a, ⟨r, hr, K', hf⟩, K, hg⟩ := h
  refine ⟨r, hr, max K K', fun k hk => ?_⟩
  simp only [hg k (by omega), Option.bind_some]
  exact hf k (by omega)
theorem Wp.ite {α : Type} {c : Prop} [Decidable c] {g h : Nat → Option α} {Q : α → Prop} (h1 : c → Wp g Q) (h2 : ¬ c → Wp h Q) : Wp (fun k => if c then g k else h k) Q := by
  by_cases e : c
  · simp only [if_pos e]; exact h1 e
  · simp only [if_neg e]; exact h2 e
theorem Wp.step {α : Type} {g : Nat → Option α} {Q : α → Prop} (h : Wp (fun k => g (k + 1)) Q) : Wp g Q := by
  obtain ⟨r, hr, K, hg⟩ := h
  refine ⟨r, hr, K + 1, fun k hk => ?_⟩
  obtain ⟨m, rfl⟩ : ∃ m, k = m + 1 := ⟨k - 1, by omega⟩
  exact hg m (by omega)
theorem Wp.mono {α : Type} {g : Nat → Option α} {P Q : α → Prop} (h : Wp g P) (k : ∀ r, P r → Q r) : Wp g Q := by
  obtain ⟨r, hr, hg⟩ := h
  exact ⟨r, k r hr, hg⟩
theorem Wp.rounds {α : Type} {g : Nat → Option α} {r : α} (h : Wp g (fun x => x = r)) : ∃ k, g k = some r := by
  obtain ⟨_, rfl, K, hg⟩ := h
  exact ⟨K, hg K (Nat.le_refl _)⟩
theorem Wp.same {α : Type} {g : Nat → Option α} {P Q : α → Prop} (h : Wp g P) (k : Wp g Q) : Wp g (fun r => P r ∧ Q r) := by
  obtain ⟨r, hr, K, hg⟩ := h
  obtain ⟨s, hs, K', hg'⟩ := k
  have e : some r = some s := (hg (max K K') (by omega)).symm.trans (hg' _ (by omega))
  injection e with e
  subst e
  exact ⟨r, ⟨hr, hs⟩, K, hg⟩
theorem Wp.pos {α : Type} {c : Prop} [Decidable c] {g h : Nat → Option α} {Q : α → Prop} (e : c) (h1 : Wp g Q) : Wp (fun k => if c then g k else h k) Q := Wp.ite (fun _ => h1) (fun n => absurd e n)
theorem Wp.neg {α : Type} {c : Prop} [Decidable c] {g h : Nat → Option α} {Q : α → Prop} (e : ¬ c) (h1 : Wp h Q) : Wp (fun k => if c then g k else h k) Q := Wp.ite (fun n => absurd n e) (fun _ => h1)
theorem Wp.iteB {α : Type} {b : Bool} {g h : Nat → Option α} {Q : α → Prop} (h1 : b = true → Wp g Q) (h2 : b = false → Wp h Q) : Wp (fun k => if b = true then g k else h k) Q := Wp.ite h1 (fun n => h2 (by simpa using n))
theorem Wp.posB {α : Type} {b : Bool} {g h : Nat → Option α} {Q : α → Prop} (e : b = true) (h1 : Wp g Q) : Wp (fun k => if b = true then g k else h k) Q := Wp.pos e h1
theorem Wp.negB {α : Type} {b : Bool} {g h : Nat → Option α} {Q : α → Prop} (e : b = false) (h1 : Wp h Q) : Wp (fun k => if b = true then g k else h k) Q := Wp.neg (by rw [e]; decide) h1
theorem Wp.call {α β : Type} {g : Nat → Option α} {f : Nat → α → Option β} {P : α → Prop} {Q : β → Prop} (h : Wp g P) (k : ∀ a, P a → Wp (fun n => f n a) Q) : Wp (fun n => (g n).bind (f n)) Q := Wp.bind (h.mono k)
theorem Wp.calls {α β : Type} {g : Option α} {f : Nat → α → Option β} {a : α} {Q : β → Prop} (h : g = some a) (k : Wp (fun n => f n a) Q) : Wp (fun n => g.bind (f n)) Q := Wp.bind (Wp.eq h k)
theorem Wp.val {α β : Type} {g : Nat → Option α} {f : Nat → α → Option β} {a : α} {Q : β → Prop} (h : Wp g (fun x => x = a)) (k : Wp (fun n => f n a) Q) : Wp (fun n => (g n).bind (f n)) Q := Wp.call h (fun _ e => by subst e; exact k)
def nm (l : List S38) (j : Int) : ByteArray := (rd_T38 l j).f0
def sp : ByteArray := ⟨#[32]⟩
theorem joinL (s : List UInt8) : ∀ (xs : List (List UInt8)) (x : List UInt8), xs ≠ [] → s.intercalate (xs ++ [x]) = s.intercalate xs ++ (s ++ x)
  | [], _, h => absurd rfl h
  | [a], x, _ => by simp [List.intercalate, List.intersperse]
  | a :: b :: t, x, _ => by
    have ih := joinL s (b :: t) x (by simp)
    simp only [List.intercalate, List.cons_append, List.intersperse, List.flatten_cons] at ih ⊢
    rw [ih]
    simp
theorem joinLen (s : List UInt8) (hs : s.length = 1) : ∀ xs : List (List UInt8), (∀ x ∈ xs, x.length ≤ 6) → (s.intercalate xs).length ≤ 7 * xs.length
  | [], _ => by simp [List.intercalate, List.intersperse]
  | [a], h => by
    have := h a (by simp)
    simp [List.intercalate, List.intersperse]; omega
  | a :: b :: t, h => by
    have ih := joinLen s hs (b :: t) (fun x hx => h x (List.mem_cons_of_mem _ hx))
    have := h a (by simp)
    simp only [List.intercalate, List.intersperse, List.flatten_cons, List.length_append, List.length_cons] at ih ⊢
    omega
theorem joinT_nil : joinT [] sp = ⟨#[]⟩ := rfl
theorem joinT_one (x : ByteArray) : joinT [x] sp = x := by
  unfold joinT Go.Lib.join
  simp [List.intercalate, List.intersperse]
theorem joinT_snoc {xs : List ByteArray} (h : xs ≠ []) (x : ByteArray) : joinT (xs ++ [x]) sp = (joinT xs sp ++ sp) ++ x := by
  apply ByteArray.ext
  unfold joinT Go.Lib.join
  rw [List.map_append, List.map_cons, List.map_nil, joinL _ _ _ (by simpa using h)]
  simp [sp]
theorem joinT_size {xs : List ByteArray} (h : ∀ x ∈ xs, x.size ≤ 6) : (joinT xs sp).size ≤ 7 * xs.length := by
  have := joinLen sp.data.toList rfl (xs.map (·.data.toList)) (fun x hx => by
    obtain ⟨y, hy, rfl⟩ := List.mem_map.1 hx
    have := h y hy
    simpa using this)
  simp only [List.length_map] at this
  simpa [joinT, Go.Lib.join, ByteArray.size] using this
theorem drop_cons' {c : List Int} {i : Int} (h0 : 0 ≤ i) (h1 : i < c.length) : c.drop i.toNat = rd c i :: c.drop (i + 1).toNat := by
  rw [show (i + 1).toNat = i.toNat + 1 by omega, show rd c i = c[i.toNat]'(by omega) by simp [rd, List.getD_eq_getElem?_getD, List.getElem?_eq_getElem (show i.toNat < c.length by omega)]]
  exact List.drop_eq_getElem_cons (by omega)
theorem join_f {xs : List ByteArray} (hl : xs.length ≤ 64) (h : ∀ x ∈ xs, x.size ≤ 6) : strings_Join.f xs (⟨#[32]⟩ : ByteArray) = some (joinT xs sp) := by
  have h0 := joinLen sp.data.toList rfl (xs.map (·.data.toList)) (fun x hx => by
    obtain ⟨y, hy, rfl⟩ := List.mem_map.1 hx
    have := h y hy
    simpa using this)
  rw [List.length_map] at h0
  have hb : (Go.Lib.join (xs.map (·.data.toList)) (⟨#[32]⟩ : ByteArray).data.toList).length ≤ 140737488355328 := Nat.le_trans (show _ ≤ 7 * xs.length from h0) (by omega)
  unfold strings_Join.f
  exact if_pos ⟨by omega, hb⟩
theorem text_l0 {l : List S38} {c : List Int} (hc : c.length ≤ 64) (hi : ∀ i : Int, 0 ≤ i → i < c.length → 0 ≤ rd c i ∧ rd c i < l.length) (hn : ∀ j : Int, 0 ≤ j → j < l.length → (nm l j).size ≤ 6) : ∀ (d : Nat) (acc : List ByteArray) (i : Int), 0 ≤ i → i + d = c.length → acc.length + d ≤ 64 → (∀ x ∈ acc, x.size ≤ 6) →
    Wp (fun k => impl_ComposedText.l0 k l acc c c.length i) (fun r => r = (joinT (acc ++ (c.drop i.toNat).map (nm l)) sp, 0))
  | 0, acc, i, i0, i1, h1, h2 => by
    refine Wp.step ?_
    simp only [impl_ComposedText.l0]
    rw [List.drop_eq_nil_of_le (show c.length ≤ i.toNat by omega)]
    exact Wp.neg (by omega) (Wp.calls (join_f (by omega) h2) (Wp.now (by simp)))
  | d + 1, acc, i, i0, i1, h1, h2 => by
    have hx := hi i i0 (by omega)
    refine Wp.step ?_
    simp only [impl_ComposedText.l0]
    rw [w64 (n := i + 1) (by omega) (by omega)]
    refine Wp.pos (by omega) (Wp.pos i0 (Wp.pos (by omega) (Wp.pos hx.1 (Wp.pos hx.2 (Wp.pos (by omega) ?_)))))
    refine (text_l0 hc hi hn d (acc ++ [nm l (rd c i)]) (i + 1) (by omega) (by omega) (by simp; omega) (fun x hm => ?_)).mono ?_
    · rcases List.mem_append.1 hm with g | g
      · exact h2 x g
      · rw [List.mem_singleton.1 g]; exact hn _ hx.1 hx.2
    · rintro r rfl
      rw [drop_cons' i0 (by omega)]
      simp
theorem write_l0 {l : List S38} {c : List Int} (hc : c.length ≤ 64) (hi : ∀ i : Int, 0 ≤ i → i < c.length → 0 ≤ rd c i ∧ rd c i < l.length) (hn : ∀ j : Int, 0 ≤ j → j < l.length → (nm l j).size ≤ 6) : ∀ (d : Nat) (acc : List ByteArray) (i : Int), 0 ≤ i → i + d = c.length → (acc.length : Int) = i → (∀ x ∈ acc, x.size ≤ 6) →
    Wp (fun k => spec_l18Write.l0 k l c (joinT acc sp) i) (fun r => r = joinT (acc ++ (c.drop i.toNat).map (nm l)) sp)
  | 0, acc, i, i0, i1, h1, h2 => by
    refine Wp.step ?_
    simp only [spec_l18Write.l0]
    rw [List.drop_eq_nil_of_le (show c.length ≤ i.toNat by omega)]
    exact Wp.neg (by omega) (Wp.now (by simp))
  | d + 1, acc, i, i0, i1, h1, h2 => by
    have hx := hi i i0 (by omega)
    have hz := joinT_size h2
    have hy := hn _ hx.1 hx.2
    have next : Wp (fun k => spec_l18Write.l0 k l c (joinT (acc ++ [nm l (rd c i)]) sp) (i + 1)) (fun r => r = joinT (acc ++ (c.drop i.toNat).map (nm l)) sp) := by
      refine (write_l0 hc hi hn d (acc ++ [nm l (rd c i)]) (i + 1) (by omega) (by omega) (by simp; omega) (fun x hm => ?_)).mono ?_
      · rcases List.mem_append.1 hm with g | g
        · exact h2 x g
        · rw [List.mem_singleton.1 g]; exact hy
      · rintro r rfl
        rw [drop_cons' i0 (by omega)]
        simp
    refine Wp.step ?_
    simp only [spec_l18Write.l0]
    rw [w64 (n := i + 1) (by omega) (by omega)]
    have hs : (joinT acc sp ++ (⟨#[32]⟩ : ByteArray)).size = (joinT acc sp).size + 1 := by simp; rfl
    have hy' : ((rd_T38 l (rd c i)).f0).size ≤ 6 := hy
    refine Wp.pos (by omega) (Wp.ite (fun hp => Wp.pos (by omega) (Wp.pos i0 (Wp.pos hx.1 (Wp.pos hx.2 (Wp.pos (by rw [hs]; omega) ?_))))) (fun hp => Wp.pos i0 (Wp.pos hx.1 (Wp.pos hx.2 (Wp.pos (by omega) ?_)))))
    · rw [joinT_snoc (by intro e; rw [e] at h1; simp at h1; omega)] at next
      exact next
    · have e : acc = [] := List.length_eq_zero_iff.1 (by omega)
      subst e
      rw [List.nil_append, joinT_one] at next
      rw [joinT_nil]
      have e2 : (⟨#[]⟩ : ByteArray) ++ (rd_T38 l (rd c i)).f0 = nm l (rd c i) := by apply ByteArray.ext; simp [nm]
      rw [e2]
      simpa using next
theorem names_small {l : List S38} {c : List Int} (h : askN l c = 0) : ∀ j : Int, 0 ≤ j → j < l.length → (nm l j).size ≤ 6 := by
  intro j j0 j1
  unfold askN at h
  split at h
  · rename_i hv
    unfold validB at hv
    rw [Bool.and_eq_true] at hv
    have := allI_true.1 hv.2 j j0 (by omega)
    unfold atB oneB at this
    simp only [Bool.and_eq_true, decide_eq_true_eq] at this
    have := this.1.1.1.2
    unfold nm
    omega
  · cases h
theorem both (l : List S38) (c : List Int) (hl : l.length ≤ maxLen) (h : ∀ x ∈ l, x.f0.size ≤ maxLen) (hc : c.length ≤ maxLen) : ∃ v : ByteArray × Int, (∃ K, ∀ k, K ≤ k → spec_ComposedText.f k l c = some v) ∧ ∃ K, ∀ k, K ≤ k → impl_ComposedText.f k l c = some v := by
  obtain ⟨K1, h1⟩ := l18Ask_ev l c hl h hc
  obtain ⟨K2, h2⟩ := composedCode_ev l c hl h
  by_cases e : askN l c = 0
  · obtain ⟨e1, _, e3⟩ := askN_zero e
    have hn := names_small e
    obtain ⟨_, rfl, K3, h3⟩ := write_l0 e1 e3 hn c.length [] 0 (by omega) (by omega) (by simp) (by simp)
    obtain ⟨_, rfl, K4, h4⟩ := text_l0 e1 e3 hn c.length [] 0 (by omega) (by omega) (by simp; omega) (by simp)
    refine ⟨(joinT ([] ++ (c.drop (0 : Int).toNat).map (nm l)) sp, 0), ⟨K1 + K3, fun k hk => ?_⟩, K2 + K4, fun k hk => ?_⟩
    · have := h3 k (by omega)
      simp only [spec_ComposedText.f, spec_l18Write.f]
      rw [h1 k (by omega)]
      simp only [Option.bind_some]
      rw [joinT_nil] at this
      dsimp only at this
      rw [if_pos e, this]
      rfl
    · simp only [impl_ComposedText.f]
      rw [h2 k (by omega)]
      simp only [Option.bind_some]
      rw [if_pos e]
      exact h4 k (by omega)
  · refine ⟨(⟨#[]⟩, askN l c), ⟨K1, fun k hk => ?_⟩, K2, fun k hk => ?_⟩
    · simp only [spec_ComposedText.f]
      rw [h1 k (by omega)]
      simp only [Option.bind_some]
      rw [if_neg e]
    · simp only [impl_ComposedText.f]
      rw [h2 k (by omega)]
      simp only [Option.bind_some]
      rw [if_neg e]
theorem FnExactComposedText : laws_FnExactComposedText.Pure := by
  intro l c hl hc
  have hs : ∀ x ∈ l, x.f0.size ≤ maxLen := fun x hx => (hl.2 x hx).1
  obtain ⟨r, K0, hb, h0⟩ := szSyllableS_ev l hl.1 hs
  by_cases hcz : (c.length : Int) > 1048576
  · refine ⟨0, ?_⟩
    simp only [laws_FnExactComposedText.f]
    rw [if_pos hcz]
  by_cases h : r < 0
  · refine ⟨K0, ?_⟩
    simp only [laws_FnExactComposedText.f]
    rw [if_neg hcz, h0 K0 (by omega)]
    simp only [Option.bind_some]
    rw [if_pos h]
  · have hb1 := hb (by omega)
    have hm : (l.map conv).length ≤ maxLen := by rw [List.length_map]; exact hl.1
    obtain ⟨K1, h1⟩ := toSyllableS_ev l hb1
    obtain ⟨K2, h2⟩ := eqSyllableS_ev (l.map conv) hm
    obtain ⟨K5, h5⟩ := toInt64S_ev c (by omega)
    obtain ⟨K6, h6⟩ := eqInt64S_ev c hc.1
    obtain ⟨v, ⟨K3, h3⟩, K4, h4⟩ := both (l.map conv) c hm (conv_size hs) hc.1
    refine ⟨K0 + K1 + K2 + K3 + K4 + K5 + K6 + 1, ?_⟩
    simp only [laws_FnExactComposedText.f, laws_FnExactComposedText.j0]
    rw [if_neg hcz, h0 _ (by omega)]
    simp only [Option.bind_some]
    rw [if_neg h, h1 (K0 + K1 + K2 + K3 + K4 + K5 + K6 + 1) (by omega)]
    simp only [Option.bind_some]
    rw [h5 (K0 + K1 + K2 + K3 + K4 + K5 + K6 + 1) (by omega)]
    simp only [Option.bind_some]
    rw [h3 _ (by omega), h4 _ (by omega)]
    simp only [Option.bind_some]
    simp only [if_true, bne_self_eq_false, Bool.false_eq_true, if_false]
    rw [h1 (K0 + K1 + K2 + K3 + K4 + K5 + K6) (by omega)]
    simp only [Option.bind_some]
    rw [h2 _ (by omega), h5 (K0 + K1 + K2 + K3 + K4 + K5 + K6) (by omega)]
    simp only [Option.bind_some, if_true]
    rw [h6 _ (by omega)]
    simp
end Go.Proofs.Ytdaggmnmifnabaa.Pure
