/- SyllablesText of the program returns what the reference's returns, for all arguments. -/
import Derived.Test.YtmeflmlejcmckaaDoorPuS0
import Derived.Test.YtmeflmlejcmckaaDoorPuS3
import Derived.Test.YtmeflmlejcmckaaDoorPSx6
import Derived.Test.YtmeflmlejcmckaaDoorPSx8
import Derived.Test.YtmeflmlejcmckaaDoorPSx9
import Derived.Test.YtmeflmlejcmckaaDoorPSx13
import Derived.Test.YtmeflmlejcmckaaDoorPSx14
import Derived.Test.YtmeflmlejcmckaaDoorPSx17
namespace Go.Proofs.YtmeflmlejcmckaaDoor.Pure
open Go.RowKit Go.Proofs.YtmeflmlejcmckaaDoor.PS Go.Proofs.YtmeflmlejcmckaaDoorW.PrintWords Go.Proofs.YtmeflmlejcmckaaDoorW.PrintLast
set_option linter.unusedSimpArgs false
set_option linter.unusedVariables false
def sp : ByteArray := ⟨#[32]⟩
theorem joinL (s : List UInt8) : ∀ (xs : List (List UInt8)) (x : List UInt8), xs ≠ [] → s.intercalate (xs ++ [x]) = s.intercalate xs ++ (s ++ x)
  | [], _, h => absurd rfl h
  | [a], x, _ => by simp [List.intercalate, List.intersperse]
  | a :: b :: t, x, _ => by
    have ih := joinL s (b :: t) x (by simp)
    simp only [List.intercalate, List.cons_append, List.intersperse, List.flatten_cons] at ih ⊢
    rw [ih]
    simp
theorem joinLen (s : List UInt8) (hs : s.length = 1) : ∀ xs : List (List UInt8), (∀ x ∈ xs, x.length ≤ 12) → (s.intercalate xs).length ≤ 13 * xs.length
  | [], _ => by simp [List.intercalate, List.intersperse]
  | [a], h => by
    have := h a (by simp)
    simp [List.intercalate, List.intersperse]; omega
  | a :: b :: t, h => by
    have ih := joinLen s hs (b :: t) (fun x hx => h x (List.mem_cons_of_mem _ hx))
    have := h a (by simp)
    simp only [List.intercalate, List.intersperse, List.flatten_cons, List.length_append, List.length_cons] at ih ⊢
    omega
theorem joinT_nil : joinT [] sp = ⟨#[]⟩ := rfl
theorem joinT_one (x : ByteArray) : joinT [x] sp = x := by
  unfold joinT Go.Lib.join
  simp [List.intercalate, List.intersperse]
theorem joinT_snoc {xs : List ByteArray} (h : xs ≠ []) (x : ByteArray) : joinT (xs ++ [x]) sp = (joinT xs sp ++ sp) ++ x := by
  apply ByteArray.ext
  unfold joinT Go.Lib.join
  rw [List.map_append, List.map_cons, List.map_nil, joinL _ _ _ (by simpa using h)]
  simp [sp]
theorem joinT_size {xs : List ByteArray} (h : ∀ x ∈ xs, x.size ≤ 12) : (joinT xs sp).size ≤ 13 * xs.length := by
  have := joinLen sp.data.toList rfl (xs.map (·.data.toList)) (fun x hx => by
    obtain ⟨y, hy, rfl⟩ := List.mem_map.1 hx
    have := h y hy
    simpa using this)
  simp only [List.length_map] at this
  simpa [joinT, Go.Lib.join, ByteArray.size] using this
theorem join_f {xs : List ByteArray} (hl : xs.length ≤ 64) (h : ∀ x ∈ xs, x.size ≤ 12) : strings_Join.f xs (⟨#[32]⟩ : ByteArray) = some (joinT xs sp) := by
  have h0 := joinLen sp.data.toList rfl (xs.map (·.data.toList)) (fun x hx => by
    obtain ⟨y, hy, rfl⟩ := List.mem_map.1 hx
    have := h y hy
    simpa using this)
  rw [List.length_map] at h0
  have hb : (Go.Lib.join (xs.map (·.data.toList)) (⟨#[32]⟩ : ByteArray).data.toList).length ≤ 140737488355328 := Nat.le_trans (show _ ≤ 13 * xs.length from h0) (by omega)
  unfold strings_Join.f
  exact if_pos ⟨by omega, hb⟩
theorem rdX_get {c : List S118} {i : Int} (h0 : 0 ≤ i) (h1 : i < c.length) : rd_T118 c i = c[i.toNat]'(by omega) := by
  simp [rd_T118, List.getD_eq_getElem?_getD, List.getElem?_eq_getElem (show i.toNat < c.length by omega)]
theorem rdX_drop {c : List S118} {i : Int} (h0 : 0 ≤ i) (h1 : i < c.length) : c.drop i.toNat = rd_T118 c i :: c.drop (i + 1).toNat := by
  rw [rdX_get h0 h1, show (i + 1).toNat = i.toNat + 1 by omega]
  exact List.drop_eq_getElem_cons (by omega)
def lt (n : Int) : ByteArray := if n = 1 then ⟨#[108]⟩ else if n = 2 then ⟨#[114]⟩ else ⟨#[98]⟩
theorem lt_size {n : Int} : (lt n).size = 1 := by unfold lt; split <;> (try split) <;> rfl
theorem letter_f (n : Int) : spec_l18Letter.f n = some (lt n) := by
  unfold spec_l18Letter.f lt
  split
  · rfl
  · split <;> rfl
theorem hand_f {n : Int} (h0 : 1 ≤ n) (h1 : n ≤ 3) : impl_handText.f n = some (lt n) := by
  unfold impl_handText.f lt
  split
  · rfl
  · split
    · rfl
    · rw [if_pos (by omega)]
/-- A syllable as text. -/
def tx (x : S118) : ByteArray := ((x.f0 ++ (⟨#[58]⟩ : ByteArray)) ++ lt x.f1) ++ dec x.f2.toNat
def OkX (x : S118) : Prop := x.f0.size ≤ 6 ∧ (1 ≤ x.f1 ∧ x.f1 ≤ 3) ∧ 1 ≤ x.f2 ∧ x.f2 ≤ 8
theorem sz1 (x : ByteArray) (b : UInt8) : (x ++ (⟨#[b]⟩ : ByteArray)).size = x.size + 1 := by rw [ByteArray.size_append]; rfl
theorem tx_size {x : S118} (h : OkX x) : (tx x).size ≤ 10 := by
  unfold tx
  rw [ByteArray.size_append, ByteArray.size_append, sz1, lt_size]
  have := dec_size (n := x.f2.toNat)
  have := h.1
  omega
theorem text_l0 {l : List S118} (hc : l.length ≤ 16) (ho : ∀ i : Int, 0 ≤ i → i < l.length → OkX (rd_T118 l i)) : ∀ (d : Nat) (acc : List ByteArray) (i : Int), 0 ≤ i → i + d = l.length → acc.length + d ≤ 64 → (∀ x ∈ acc, x.size ≤ 12) →
    Wp (fun k => impl_SyllablesText.l0 k acc l l.length i) (fun r => r = joinT (acc ++ (l.drop i.toNat).map tx) sp)
  | 0, acc, i, i0, i1, h1, h2 => by
    refine Wp.step ?_
    simp only [impl_SyllablesText.l0]
    rw [List.drop_eq_nil_of_le (show l.length ≤ i.toNat by omega)]
    exact Wp.neg (by omega) (Wp.calls (join_f (by omega) h2) (Wp.now (by simp)))
  | d + 1, acc, i, i0, i1, h1, h2 => by
    have hx := ho i i0 (by omega)
    have hs := hx.1
    have hd := dec_size (n := (rd_T118 l i).f2.toNat)
    have hl := lt_size (n := (rd_T118 l i).f1)
    refine Wp.step ?_
    simp only [impl_SyllablesText.l0]
    rw [w64 (n := i + 1) (by omega) (by omega)]
    refine Wp.pos (by omega) (Wp.pos i0 (Wp.pos (by omega) (Wp.pos (by omega) (Wp.calls (hand_f hx.2.1.1 hx.2.1.2) (Wp.pos (by rw [sz1]; omega) (Wp.calls (decI_f (by have := hx.2.2; omega) (by have := hx.2.2; omega)) (Wp.pos (by rw [ByteArray.size_append, sz1]; omega) (Wp.pos (by omega) ?_))))))))
    refine (text_l0 hc ho d (acc ++ [tx (rd_T118 l i)]) (i + 1) (by omega) (by omega) (by simp; omega) (fun x hm => ?_)).mono ?_
    · rcases List.mem_append.1 hm with g | g
      · exact h2 x g
      · rw [List.mem_singleton.1 g]; exact Nat.le_trans (tx_size hx) (by decide)
    · rintro r rfl
      rw [rdX_drop i0 (by omega)]
      simp
theorem write_l0 {l : List S118} (hc : l.length ≤ 16) (ho : ∀ i : Int, 0 ≤ i → i < l.length → OkX (rd_T118 l i)) : ∀ (d : Nat) (acc : List ByteArray) (i : Int), 0 ≤ i → i + d = l.length → (acc.length : Int) = i → (∀ x ∈ acc, x.size ≤ 12) →
    Wp (fun k => spec_l18Text.l0 k l (joinT acc sp) i) (fun r => r = joinT (acc ++ (l.drop i.toNat).map tx) sp)
  | 0, acc, i, i0, i1, h1, h2 => by
    refine Wp.step ?_
    simp only [spec_l18Text.l0]
    rw [List.drop_eq_nil_of_le (show l.length ≤ i.toNat by omega)]
    exact Wp.neg (by omega) (Wp.now (by simp))
  | d + 1, acc, i, i0, i1, h1, h2 => by
    have hx := ho i i0 (by omega)
    have hs := hx.1
    have hd := dec_size (n := (rd_T118 l i).f2.toNat)
    have hl := lt_size (n := (rd_T118 l i).f1)
    have hz := joinT_size h2
    have ht := tx_size hx
    have e3 : (((((rd_T118 l i).f0) ++ (⟨#[58]⟩ : ByteArray)) ++ lt (rd_T118 l i).f1) ++ dec (rd_T118 l i).f2.toNat) = tx (rd_T118 l i) := rfl
    have next : Wp (fun k => spec_l18Text.l0 k l (joinT (acc ++ [tx (rd_T118 l i)]) sp) (i + 1)) (fun r => r = joinT (acc ++ (l.drop i.toNat).map tx) sp) := by
      refine (write_l0 hc ho d (acc ++ [tx (rd_T118 l i)]) (i + 1) (by omega) (by omega) (by simp; omega) (fun x hm => ?_)).mono ?_
      · rcases List.mem_append.1 hm with g | g
        · exact h2 x g
        · rw [List.mem_singleton.1 g]; omega
      · rintro r rfl
        rw [rdX_drop i0 (by omega)]
        simp
    refine Wp.step ?_
    simp only [spec_l18Text.l0]
    rw [w64 (n := i + 1) (by omega) (by omega)]
    have hd8 := decS_wp (n := (rd_T118 l i).f2) (by have := hx.2.2; omega) (by have := hx.2.2; omega)
    refine Wp.pos (by omega) (Wp.ite (fun hp => Wp.pos (by omega) (Wp.pos i0 (Wp.pos (by omega) (Wp.calls (letter_f _) (Wp.pos (by rw [sz1]; omega) (Wp.val hd8 (Wp.pos (by rw [ByteArray.size_append, sz1]; omega) (Wp.pos (by rw [e3, sz1]; omega) ?_)))))))) (fun hp => Wp.pos i0 (Wp.pos (by omega) (Wp.calls (letter_f _) (Wp.pos (by rw [sz1]; omega) (Wp.val hd8 (Wp.pos (by rw [ByteArray.size_append, sz1]; omega) (Wp.pos (by rw [e3]; omega) ?_))))))))
    · rw [joinT_snoc (by intro e; rw [e] at h1; simp at h1; omega)] at next
      rw [e3]
      exact next
    · have e : acc = [] := List.length_eq_zero_iff.1 (by omega)
      subst e
      rw [List.nil_append, joinT_one] at next
      rw [joinT_nil, e3]
      have e2 : (⟨#[]⟩ : ByteArray) ++ tx (rd_T118 l i) = tx (rd_T118 l i) := by apply ByteArray.ext; simp
      rw [e2]
      simpa using next
theorem within_iff {n a b : Int} : within_ n a b = true ↔ a ≤ n ∧ n ≤ b := by
  unfold within_; simp
theorem okX_all {l : List S118} (h : validB l = true) : l.length ≤ 16 ∧ ∀ i : Int, 0 ≤ i → i < l.length → OkX (rd_T118 l i) := by
  unfold validB at h
  rw [Bool.and_eq_true, decide_eq_true_eq] at h
  refine ⟨by omega, fun i h0 h1 => ?_⟩
  have := allI_true.1 h.2 i h0 (by omega)
  unfold atB oneB at this
  simp only [Bool.and_eq_true, decide_eq_true_eq, within_iff] at this
  exact ⟨by have := this.1.1.1.2; omega, this.1.1.2, this.1.2⟩
theorem both (l : List S118) (hl : l.length ≤ maxLen) (h : ∀ x ∈ l, x.f0.size ≤ maxLen) : ∃ v : ByteArray, Wp (fun k => spec_SyllablesText.f k l) (fun r => r = v) ∧ Wp (fun k => impl_SyllablesText.f k l) (fun r => r = v) := by
  obtain ⟨K1, h1⟩ := l18Ok_ev l hl h
  obtain ⟨K2, h2⟩ := validSyllables_ev l hl h
  have w1 : Wp (fun k => spec_l18Ok.f k l) (fun r => r = validB l) := ⟨_, rfl, K1, h1⟩
  have w2 : Wp (fun k => impl_ValidSyllables.f k l) (fun r => r = validB l) := ⟨_, rfl, K2, h2⟩
  by_cases e : validB l = true
  · obtain ⟨hc, ho⟩ := okX_all e
    refine ⟨joinT ([] ++ (l.drop (0 : Int).toNat).map tx) sp, ?_, ?_⟩
    · simp only [spec_SyllablesText.f]
      refine Wp.val w1 (Wp.pos e ?_)
      simp only [spec_l18Text.f]
      have := write_l0 hc ho l.length [] 0 (by omega) (by omega) (by simp) (by simp)
      rw [joinT_nil] at this
      exact Wp.call this (fun a ha => Wp.now ha)
    · simp only [impl_SyllablesText.f]
      refine Wp.val w2 (Wp.pos e ?_)
      exact text_l0 hc ho l.length [] 0 (by omega) (by omega) (by simp; omega) (by simp)
  · refine ⟨⟨#[]⟩, ?_, ?_⟩
    · simp only [spec_SyllablesText.f]
      exact Wp.val w1 (Wp.neg e (Wp.now rfl))
    · simp only [impl_SyllablesText.f]
      exact Wp.val w2 (Wp.neg e (Wp.now rfl))
theorem FnExactSyllablesText : laws_FnExactSyllablesText.Pure := by
  intro l hl
  have hs : ∀ x ∈ l, x.f0.size ≤ maxLen := fun x hx => (hl.2 x hx).1
  obtain ⟨r, K0, hb, h0⟩ := szSyllableS_ev l hl.1 hs
  refine Wp.rounds ?_
  simp only [laws_FnExactSyllablesText.f]
  refine Wp.val (a := r) ⟨r, rfl, K0, h0⟩ (Wp.ite (fun _ => Wp.now rfl) (fun hr => ?_))
  have hb1 := hb (by omega)
  have hm : (l.map conv).length ≤ maxLen := by rw [List.length_map]; exact hl.1
  obtain ⟨K1, h1⟩ := toSyllableS_ev l hb1
  obtain ⟨K2, h2⟩ := eqSyllableS_ev (l.map conv) hm
  obtain ⟨v, h3, h4⟩ := both (l.map conv) hm (conv_size hs)
  have t1 : Wp (fun k => laws_toSyllableS.f k l) (fun r => r = l.map conv) := ⟨_, rfl, K1, h1⟩
  have t2 : Wp (fun k => laws_eqSyllableS.f k (l.map conv) (l.map conv)) (fun r => r = true) := ⟨_, rfl, K2, h2⟩
  exact Wp.val t1 (Wp.val h3 (Wp.val t1 (Wp.val h4 (Wp.pos (by trivial) (Wp.val t1 (Wp.val t2 (Wp.posB rfl (Wp.now rfl))))))))
end Go.Proofs.YtmeflmlejcmckaaDoor.Pure
