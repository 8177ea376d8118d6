/- Plain facts: a text cut at a byte. -/
import Derived.Test.YtmeflmlejcmckaaDoorPuSn
import Derived.Test.YtmeflmlejcmckaaDoorPSx1
namespace Go.Proofs.YtmeflmlejcmckaaDoor.Pure
open Go.RowKit Go.Proofs.YtmeflmlejcmckaaDoor.PS Go.Proofs.YtmeflmlejcmckaaDoorW.PrintWords Go.Proofs.YtmeflmlejcmckaaDoorW.PrintLast
set_option linter.unusedSimpArgs false
set_option linter.unusedVariables false
def Wp {α : Type} (g : Nat → Option α) (Q : α → Prop) : Prop := ∃ r, Q r ∧ ∃ K, ∀ k, K ≤ k → g k = some r
theorem Wp.now {α : Type} {Q : α → Prop} {r : α} (h : Q r) : Wp (fun _ => some r) Q := ⟨r, h, 0, fun _ _ => rfl⟩
theorem Wp.eq {α : Type} {Q : α → Prop} {g : Option α} {r : α} (e : g = some r) (h : Q r) : Wp (fun _ => g) Q := ⟨r, h, 0, fun _ _ => e⟩
theorem Wp.bind {α β : Type} {g : Nat → Option α} {f : Nat → α → Option β} {Q : β → Prop} (h : Wp g (fun a => Wp (fun k => f k a) Q)) : Wp (fun k => (g k).bind (f k)) Q := by
  obtain ⟨a, ⟨r, hr, K', hf⟩, K, hg⟩ := h
  refine ⟨r, hr, max K K', fun k hk => ?_⟩
  simp only [hg k (by omega), Option.bind_some]
  exact hf k (by omega)
theorem Wp.ite {α : Type} {c : Prop} [Decidable c] {g h : Nat → Option α} {Q : α → Prop} (h1 : c → Wp g Q) (h2 : ¬ c → Wp h Q) : Wp (fun k => if c then g k else h k) Q := by
  by_cases e : c
  · simp only [if_pos e]; exact h1 e
  · simp only [if_neg e]; exact h2 e
theorem Wp.step {α : Type} {g : Nat → Option α} {Q : α → Prop} (h : Wp (fun k => g (k + 1)) Q) : Wp g Q := by
  obtain ⟨r, hr, K, hg⟩ := h
  refine ⟨r, hr, K + 1, fun k hk => ?_⟩
  obtain ⟨m, rfl⟩ : ∃ m, k = m + 1 := ⟨k - 1, by omega⟩
  exact hg m (by omega)
theorem Wp.mono {α : Type} {g : Nat → Option α} {P Q : α → Prop} (h : Wp g P) (k : ∀ r, P r → Q r) : Wp g Q := by
  obtain ⟨r, hr, hg⟩ := h
  exact ⟨r, k r hr, hg⟩
theorem Wp.rounds {α : Type} {g : Nat → Option α} {r : α} (h : Wp g (fun x => x = r)) : ∃ k, g k = some r := by
  obtain ⟨_, rfl, K, hg⟩ := h
  exact ⟨K, hg K (Nat.le_refl _)⟩
theorem Wp.same {α : Type} {g : Nat → Option α} {P Q : α → Prop} (h : Wp g P) (k : Wp g Q) : Wp g (fun r => P r ∧ Q r) := by
  obtain ⟨r, hr, K, hg⟩ := h
  obtain ⟨s, hs, K', hg'⟩ := k
  have e : some r = some s := (hg (max K K') (by omega)).symm.trans (hg' _ (by omega))
  injection e with e
  subst e
  exact ⟨r, ⟨hr, hs⟩, K, hg⟩
theorem Wp.pos {α : Type} {c : Prop} [Decidable c] {g h : Nat → Option α} {Q : α → Prop} (e : c) (h1 : Wp g Q) : Wp (fun k => if c then g k else h k) Q := Wp.ite (fun _ => h1) (fun n => absurd e n)
theorem Wp.neg {α : Type} {c : Prop} [Decidable c] {g h : Nat → Option α} {Q : α → Prop} (e : ¬ c) (h1 : Wp h Q) : Wp (fun k => if c then g k else h k) Q := Wp.ite (fun n => absurd n e) (fun _ => h1)
theorem Wp.iteB {α : Type} {b : Bool} {g h : Nat → Option α} {Q : α → Prop} (h1 : b = true → Wp g Q) (h2 : b = false → Wp h Q) : Wp (fun k => if b = true then g k else h k) Q := Wp.ite h1 (fun n => h2 (by simpa using n))
theorem Wp.posB {α : Type} {b : Bool} {g h : Nat → Option α} {Q : α → Prop} (e : b = true) (h1 : Wp g Q) : Wp (fun k => if b = true then g k else h k) Q := Wp.pos e h1
theorem Wp.negB {α : Type} {b : Bool} {g h : Nat → Option α} {Q : α → Prop} (e : b = false) (h1 : Wp h Q) : Wp (fun k => if b = true then g k else h k) Q := Wp.neg (by rw [e]; decide) h1
theorem Wp.call {α β : Type} {g : Nat → Option α} {f : Nat → α → Option β} {P : α → Prop} {Q : β → Prop} (h : Wp g P) (k : ∀ a, P a → Wp (fun n => f n a) Q) : Wp (fun n => (g n).bind (f n)) Q := Wp.bind (h.mono k)
theorem Wp.calls {α β : Type} {g : Option α} {f : Nat → α → Option β} {a : α} {Q : β → Prop} (h : g = some a) (k : Wp (fun n => f n a) Q) : Wp (fun n => g.bind (f n)) Q := Wp.bind (Wp.eq h k)
theorem Wp.val {α β : Type} {g : Nat → Option α} {f : Nat → α → Option β} {a : α} {Q : β → Prop} (h : Wp g (fun x => x = a)) (k : Wp (fun n => f n a) Q) : Wp (fun n => (g n).bind (f n)) Q := Wp.call h (fun _ e => by subst e; exact k)
/-- Bytes as a text. -/
def BA (l : List UInt8) : ByteArray := ⟨l.toArray⟩
theorem BA_data (s : ByteArray) : BA s.data.toList = s := rfl
/-- Cut at the byte c, at most k times. -/
def spK (c : UInt8) : Nat → List UInt8 → List UInt8 → List (List UInt8)
  | 0, cur, l => [cur ++ l]
  | _ + 1, cur, [] => [cur]
  | k + 1, cur, b :: l => if b = c then cur :: spK c k [] l else spK c (k + 1) (cur ++ [b]) l
/-- Cut at each byte c. -/
def spU (c : UInt8) : List UInt8 → List UInt8 → List (List UInt8)
  | cur, [] => [cur]
  | cur, b :: l => if b = c then cur :: spU c [] l else spU c (cur ++ [b]) l
theorem ixB_cons (b c : UInt8) (l : List UInt8) : Go.Lib.indexByte (b :: l) c = if b = c then 0 else if Go.Lib.indexByte l c = -1 then -1 else Go.Lib.indexByte l c + 1 := by
  rw [Go.Lib.indexByte]
  simp only [beq_iff_eq]
theorem spK_succ (c : UInt8) (k : Nat) : ∀ (l cur : List UInt8), spK c (k + 1) cur l = if Go.Lib.indexByte l c = -1 then [cur ++ l] else (cur ++ l.take (Go.Lib.indexByte l c).toNat) :: spK c k [] (l.drop ((Go.Lib.indexByte l c).toNat + 1))
  | [], cur => by simp [spK, Go.Lib.indexByte]
  | b :: l, cur => by
    rw [spK, ixB_cons]
    by_cases e : b = c
    · rw [if_pos e, if_pos e, if_neg (by decide)]; simp
    · rw [if_neg e, if_neg e, spK_succ c k l (cur ++ [b])]
      have := Go.Lib.indexByte_ge l c
      by_cases h : Go.Lib.indexByte l c = -1
      · rw [if_pos h, if_pos h, if_pos rfl]; simp
      · rw [if_neg h, if_neg h, if_neg (by omega), show (Go.Lib.indexByte l c + 1).toNat = (Go.Lib.indexByte l c).toNat + 1 by omega]
        simp
theorem splitK_eq (c : UInt8) : ∀ (k : Nat) (l : List UInt8), Go.Lib.splitK [c] 0 k l = spK c k [] l
  | 0, l => by simp [Go.Lib.splitK, spK]
  | k + 1, l => by
    rw [Go.Lib.splitK, spK_succ, Go.Lib.index_one]
    by_cases h : Go.Lib.indexByte l c = -1
    · simp [h]
    · simp [h, splitK_eq c k]
theorem spK_enough (c : UInt8) : ∀ (l cur : List UInt8) (k : Nat), l.count c ≤ k → spK c k cur l = spU c cur l
  | [], cur, 0, _ => by simp [spK, spU]
  | [], cur, k + 1, _ => by simp [spK, spU]
  | b :: l, cur, 0, h => by
    have e : ¬ b = c := fun e => by subst e; simp at h
    rw [List.count_cons_of_ne (by simpa using e)] at h
    have ih := spK_enough c l (cur ++ [b]) 0 h
    rw [spU, if_neg e, ← ih]; simp [spK]
  | b :: l, cur, k + 1, h => by
    rw [spK, spU]
    by_cases e : b = c
    · subst e
      rw [if_pos rfl, if_pos rfl, spK_enough b l [] k (by simpa using h)]
    · rw [if_neg e, if_neg e, spK_enough c l (cur ++ [b]) (k + 1) (by rwa [List.count_cons_of_ne (by simpa using e)] at h)]
theorem spU_length (c : UInt8) : ∀ (l cur : List UInt8), (spU c cur l).length = l.count c + 1
  | [], _ => rfl
  | b :: l, cur => by
    rw [spU]
    by_cases e : b = c
    · subst e; rw [if_pos rfl, List.length_cons, spU_length b l []]; simp
    · rw [if_neg e, spU_length c l (cur ++ [b]), List.count_cons_of_ne (by simpa using e)]
theorem spK_length (c : UInt8) : ∀ (l cur : List UInt8) (k : Nat), (spK c k cur l).length = min k (l.count c) + 1
  | l, cur, 0 => by simp [spK]
  | [], cur, k + 1 => by simp [spK]
  | b :: l, cur, k + 1 => by
    rw [spK]
    by_cases e : b = c
    · subst e; rw [if_pos rfl, List.length_cons, spK_length b l [] k]; simp; try omega
    · rw [if_neg e, spK_length c l (cur ++ [b]) (k + 1), List.count_cons_of_ne (by simpa using e)]
theorem map_BA : ∀ {l : List ByteArray} {m : List (List UInt8)}, l.map (·.data.toList) = m → l = m.map BA
  | [], m, h => by subst h; rfl
  | x :: l, m, h => by
    subst h
    rw [List.map_cons, List.map_cons, ← map_BA (l := l) rfl]
    rfl
theorem splitB_eq (c : UInt8) (k : Nat) (s : ByteArray) : Go.Lib.splitB ⟨#[c]⟩ 0 k s = (spK c k [] s.data.toList).map BA :=
  map_BA (by rw [Go.Lib.splitB_data]; exact splitK_eq c k _)
theorem countB_eq (c : UInt8) (s : ByteArray) : Go.Lib.countB s ⟨#[c]⟩ = s.data.toList.count c := Go.Lib.count_one c s.data.toList
theorem len_data (s : ByteArray) : s.data.toList.length = s.size := rfl
theorem ext_BA (s : ByteArray) (a b : Nat) : s.extract a b = BA ((s.data.toList.drop a).take (b - a)) := by
  apply ByteArray.ext
  rw [ByteArray.data_extract]
  apply Array.toList_inj.1
  simp [BA, List.extract_eq_take_drop]
theorem bt_get (s : ByteArray) {i : Int} (h0 : 0 ≤ i) (h1 : i < s.size) : bt s i = ((s.data.toList[i.toNat]'(by rw [len_data]; omega)).toNat : Int) := by
  unfold bt
  rw [dif_pos (show i.toNat < s.size by omega)]
  rfl
/-- The reference's way of cutting. -/
theorem l01Split_l0 (s : ByteArray) (c : UInt8) (hs : s.size ≤ 1048576) : ∀ (d : Nat) (i from_ : Int) (acc : List ByteArray), 0 ≤ from_ → from_ ≤ i → i + d = s.size → (acc.length : Int) ≤ i →
    Wp (fun k => spec_l01Split.l0 k s (c.toNat : Int) acc from_ i) (fun r => r = acc ++ (spU c ((s.data.toList.drop from_.toNat).take (i.toNat - from_.toNat)) (s.data.toList.drop i.toNat)).map BA)
  | 0, i, from_, acc, h0, h1, h2, h3 => by
    refine Wp.step ?_
    simp only [spec_l01Split.l0]
    refine Wp.neg (by omega) (Wp.pos h0 (Wp.pos (by omega) (Wp.pos (by omega) (Wp.now ?_))))
    rw [List.drop_eq_nil_of_le (show s.data.toList.length ≤ i.toNat by rw [len_data]; omega), spU, ext_BA, show s.size = i.toNat by omega]
    rfl
  | d + 1, i, from_, acc, h0, h1, h2, h3 => by
    have hi : i.toNat < s.data.toList.length := by rw [len_data]; omega
    refine Wp.step ?_
    simp only [spec_l01Split.l0]
    rw [w64 (n := i + 1) (by omega) (by omega)]
    refine Wp.pos (by omega) (Wp.pos (by omega) ?_)
    rw [bt_get s (by omega) (by omega), List.drop_eq_getElem_cons hi, spU]
    generalize hb : s.data.toList[i.toNat] = b
    refine Wp.ite (fun e => Wp.pos h0 (Wp.pos h1 (Wp.pos (by omega) (Wp.pos (by omega) ?_)))) (fun e => ?_)
    · have e' : b = c := UInt8.toNat_inj.1 (by omega)
      rw [if_pos e']
      refine (l01Split_l0 s c hs d (i + 1) (i + 1) (acc ++ [s.extract from_.toNat i.toNat]) (by omega) (by omega) (by omega) (by simp; omega)).mono ?_
      rintro r rfl
      rw [ext_BA, show (i + 1).toNat = i.toNat + 1 by omega]
      simp
    · have e' : ¬ b = c := fun h => e (by rw [h])
      rw [if_neg e']
      refine (l01Split_l0 s c hs d (i + 1) from_ acc h0 (by omega) (by omega) (by omega)).mono ?_
      rintro r rfl
      have e3 : (s.data.toList.drop from_.toNat).take ((i + 1).toNat - from_.toNat) = (s.data.toList.drop from_.toNat).take (i.toNat - from_.toNat) ++ [b] := by
        rw [show (i + 1).toNat - from_.toNat = (i.toNat - from_.toNat) + 1 by omega, List.take_succ_eq_append_getElem (by rw [List.length_drop]; omega)]
        congr 2
        rw [List.getElem_drop]
        subst hb
        congr 1
        omega
      rw [e3, show (i + 1).toNat = i.toNat + 1 by omega]
theorem l01Split_wp (s : ByteArray) (c : UInt8) (hs : s.size ≤ 1048576) : Wp (fun k => spec_l01Split.f k s (c.toNat : Int)) (fun r => r = (spU c [] s.data.toList).map BA) := by
  simp only [spec_l01Split.f]
  refine (l01Split_l0 s c hs s.size 0 0 [] (by omega) (by omega) (by omega) (by simp)).mono ?_
  rintro r rfl
  simp
end Go.Proofs.YtmeflmlejcmckaaDoor.Pure
