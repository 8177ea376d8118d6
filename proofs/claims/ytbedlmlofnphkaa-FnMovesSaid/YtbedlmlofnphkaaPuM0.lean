/- Plain facts: scales and ragas that are drawn of bytes. -/
import Derived.Laws.Closers25b
import Derived.Laws.Bits64b
import Derived.Test.YtbedlmlofnphkaaPZx1
import Derived.Test.YtbedlmlofnphkaaPZx3
import Derived.Test.YtbedlmlofnphkaaPZx5
import Derived.Test.YtbedlmlofnphkaaPZx12
import Derived.Test.YtbedlmlofnphkaaPZx13
import Derived.Test.YtbedlmlofnphkaaPZx16
import Derived.Test.YtbedlmlofnphkaaPZx20
namespace Go.Proofs.Ytbedlmlofnphkaa.Pure
open Go.RowKit Go.Proofs.Ytbedlmlofnphkaa.PZ Go.Proofs.YtbedlmlofnphkaaW.PrintWords Go.Proofs.YtbedlmlofnphkaaW.PrintLast
set_option linter.unusedSimpArgs false
set_option linter.unusedVariables false
/-! ### what a printed function comes to, rounds aside -/
theorem w64 {n : Int} (h0 : -9223372036854775808 ≤ n) (h1 : n ≤ 9223372036854775807) : wrap64 n = n := by unfold wrap64; omega
def Wp {α : Type} (g : Nat → Option α) (Q : α → Prop) : Prop := ∃ r, Q r ∧ ∃ K, ∀ k, K ≤ k → g k = some r
theorem Wp.now {α : Type} {Q : α → Prop} {r : α} (h : Q r) : Wp (fun _ => some r) Q := ⟨r, h, 0, fun _ _ => rfl⟩
theorem Wp.eq {α : Type} {Q : α → Prop} {g : Option α} {r : α} (e : g = some r) (h : Q r) : Wp (fun _ => g) Q := ⟨r, h, 0, fun _ _ => e⟩
theorem Wp.bind {α β : Type} {g : Nat → Option α} {f : Nat → α → Option β} {Q : β → Prop} (h : Wp g (fun a => Wp (fun k => f k a) Q)) : Wp (fun k => (g k).bind (f k)) Q := by
  obtain ⟨a, ⟨r, hr, K', hf⟩, K, hg⟩ := h
  refine ⟨r, hr, max K K', fun k hk => ?_⟩
  simp only [hg k (by omega), Option.bind_some]
  exact hf k (by omega)
theorem Wp.ite {α : Type} {c : Prop} [Decidable c] {g h : Nat → Option α} {Q : α → Prop} (h1 : c → Wp g Q) (h2 : ¬ c → Wp h Q) : Wp (fun k => if c then g k else h k) Q := by
  by_cases e : c
  · simp only [if_pos e]; exact h1 e
  · simp only [if_neg e]; exact h2 e
theorem Wp.step {α : Type} {g : Nat → Option α} {Q : α → Prop} (h : Wp (fun k => g (k + 1)) Q) : Wp g Q := by
  obtain ⟨r, hr, K, hg⟩ := h
  refine ⟨r, hr, K + 1, fun k hk => ?_⟩
  obtain ⟨m, rfl⟩ : ∃ m, k = m + 1 := ⟨k - 1, by omega⟩
  exact hg m (by omega)
theorem Wp.mono {α : Type} {g : Nat → Option α} {P Q : α → Prop} (h : Wp g P) (k : ∀ r, P r → Q r) : Wp g Q := by
  obtain ⟨r, hr, hg⟩ := h
  exact ⟨r, k r hr, hg⟩
theorem Wp.rounds {α : Type} {g : Nat → Option α} {r : α} (h : Wp g (fun x => x = r)) : ∃ k, g k = some r := by
  obtain ⟨_, rfl, K, hg⟩ := h
  exact ⟨K, hg K (Nat.le_refl _)⟩
theorem Wp.same {α : Type} {g : Nat → Option α} {P Q : α → Prop} (h : Wp g P) (k : Wp g Q) : Wp g (fun r => P r ∧ Q r) := by
  obtain ⟨r, hr, K, hg⟩ := h
  obtain ⟨s, hs, K', hg'⟩ := k
  have e : some r = some s := (hg (max K K') (by omega)).symm.trans (hg' _ (by omega))
  injection e with e
  subst e
  exact ⟨r, ⟨hr, hs⟩, K, hg⟩
theorem Wp.pos {α : Type} {c : Prop} [Decidable c] {g h : Nat → Option α} {Q : α → Prop} (e : c) (h1 : Wp g Q) : Wp (fun k => if c then g k else h k) Q := Wp.ite (fun _ => h1) (fun n => absurd e n)
theorem Wp.neg {α : Type} {c : Prop} [Decidable c] {g h : Nat → Option α} {Q : α → Prop} (e : ¬ c) (h1 : Wp h Q) : Wp (fun k => if c then g k else h k) Q := Wp.ite (fun n => absurd n e) (fun _ => h1)
theorem Wp.iteB {α : Type} {b : Bool} {g h : Nat → Option α} {Q : α → Prop} (h1 : b = true → Wp g Q) (h2 : b = false → Wp h Q) : Wp (fun k => if b = true then g k else h k) Q := Wp.ite h1 (fun n => h2 (by simpa using n))
theorem Wp.posB {α : Type} {b : Bool} {g h : Nat → Option α} {Q : α → Prop} (e : b = true) (h1 : Wp g Q) : Wp (fun k => if b = true then g k else h k) Q := Wp.pos e h1
theorem Wp.negB {α : Type} {b : Bool} {g h : Nat → Option α} {Q : α → Prop} (e : b = false) (h1 : Wp h Q) : Wp (fun k => if b = true then g k else h k) Q := Wp.neg (by rw [e]; decide) h1
theorem Wp.call {α β : Type} {g : Nat → Option α} {f : Nat → α → Option β} {P : α → Prop} {Q : β → Prop} (h : Wp g P) (k : ∀ a, P a → Wp (fun n => f n a) Q) : Wp (fun n => (g n).bind (f n)) Q := Wp.bind (h.mono k)
theorem Wp.calls {α β : Type} {g : Option α} {f : Nat → α → Option β} {a : α} {Q : β → Prop} (h : g = some a) (k : Wp (fun n => f n a) Q) : Wp (fun n => g.bind (f n)) Q := Wp.bind (Wp.eq h k)
theorem Wp.val {α β : Type} {g : Nat → Option α} {f : Nat → α → Option β} {a : α} {Q : β → Prop} (h : Wp g (fun x => x = a)) (k : Wp (fun n => f n a) Q) : Wp (fun n => (g n).bind (f n)) Q := Wp.call h (fun _ e => by subst e; exact k)
theorem up_fuel {α : Type} {f : Nat → Option α} (hm : ∀ k, LeO (f k) (f (k + 1))) {K : Nat} {r : α} (h : f K = some r) : ∀ k, K ≤ k → f k = some r := by
  intro k hk
  obtain ⟨d, rfl⟩ : ∃ d, k = K + d := ⟨k - K, by omega⟩
  induction d with
  | zero => exact h
  | succ d ih => exact hm _ _ (ih (by omega))
def Bytes (l : List Int) : Prop := ∀ y ∈ l, (Lit.int .u8 y).wf = true
theorem byte_bd {l : List Int} (h : Bytes l) {i : Int} (h0 : 0 ≤ i) (h1 : i < l.length) : 0 ≤ rd l i ∧ rd l i ≤ 255 := by
  have e : rd l i ∈ l := by
    rw [show rd l i = l[i.toNat]'(by omega) from by simp [rd, List.getD_eq_getElem?_getD, List.getElem?_eq_getElem (show i.toNat < l.length by omega)]]
    exact List.getElem_mem _
  have := h _ e
  simp only [Lit.wf, Bool.and_eq_true, decide_eq_true_eq] at this
  have h2 : IntKind.min .u8 = 0 := by rfl
  have h3 : IntKind.max .u8 = 255 := by rfl
  omega
theorem and255 (x : Int) : 0 ≤ Go.bits .and .u64 (IntKind.u64.wrap x / 1099511627776) 255 ∧ Go.bits .and .u64 (IntKind.u64.wrap x / 1099511627776) 255 ≤ 255 := by
  have hw : 0 ≤ IntKind.u64.wrap x ∧ IntKind.u64.wrap x < 18446744073709551616 := by rw [IntKind.wrap_u64]; omega
  generalize IntKind.u64.wrap x = y at hw
  obtain ⟨n, hn⟩ : ∃ n : Nat, y / 1099511627776 = n := ⟨(y / 1099511627776).toNat, by omega⟩
  rw [hn, show (255 : Int) = ((255 : Nat) : Int) from rfl, bits_and_u64_nat n 255 (by omega) (by decide)]
  have := Nat.and_le_right (n := n) (m := 255)
  omega
theorem next_ev {l : List Int} (_ : l.length ≤ maxLen) (hb : Bytes l) (s1 s2 : Int) (h0 : 0 ≤ s1) (h1 : s1 ≤ 1000000000) :
    ∃ x s2', spec_l00Src_next.f l s1 s2 = some (x, s1 + 1, s2') ∧ 0 ≤ x ∧ x ≤ 255 := by
  have hm : wrap64 (s1 + 1) = s1 + 1 := w64 (by omega) (by omega)
  unfold spec_l00Src_next.f
  rw [hm]
  by_cases c : s1 < (l.length : Int)
  · have hr := byte_bd hb h0 c
    rw [if_pos c, if_pos h0, if_pos (by omega), w64 (n := rd l s1) (by omega) (by omega)]
    exact ⟨_, _, rfl, hr⟩
  · rw [if_neg c]
    by_cases d : s1 + 1 ≤ (l.length : Int)
    · omega
    · rw [if_neg d]
      refine ⟨_, _, rfl, ?_⟩
      have ha := and255 ((IntKind.u64.wrap ((IntKind.u64.wrap (s2 * 6364136223846793005)))) + 1442695040888963407)
      rw [w64 (by omega) (by omega)]
      exact ha
theorem pick_ev {l : List Int} (hl : l.length ≤ maxLen) (hb : Bytes l) (s1 s2 n : Int) (h0 : 0 ≤ s1) (h1 : s1 ≤ 100000000) (hn : 1 ≤ n) :
    ∃ x s1' s2', spec_l00Src_pick.f l s1 s2 n = some (x, s1', s2') ∧ 0 ≤ x ∧ x < n ∧ s1 ≤ s1' ∧ s1' ≤ s1 + 2 := by
  unfold spec_l00Src_pick.f
  by_cases c : n ≤ 1
  · rw [if_pos c]; exact ⟨0, s1, s2, rfl, by omega, by omega, by omega, by omega⟩
  · rw [if_neg c]
    obtain ⟨x, t2, e1, hx1, hx2⟩ := next_ev hl hb s1 s2 h0 (by omega)
    rw [e1]
    simp only [Option.bind_some]
    by_cases d : n > 200
    · rw [if_pos d]
      obtain ⟨y, t3, e2, hy1, hy2⟩ := next_ev hl hb (s1 + 1) t2 (by omega) (by omega)
      rw [e2]
      simp only [Option.bind_some]
      rw [if_neg (by omega), w64 (n := x * 256) (by omega) (by omega), w64 (n := x * 256 + y) (by omega) (by omega)]
      exact ⟨_, _, _, rfl, Int.tmod_nonneg _ (by omega), Int.tmod_lt_of_pos _ (by omega), by omega, by omega⟩
    · rw [if_neg d, if_neg (by omega)]
      exact ⟨_, _, _, rfl, Int.tmod_nonneg _ (by omega), Int.tmod_lt_of_pos _ (by omega), by omega, by omega⟩
theorem rd_get {c : List Int} {i : Int} (h0 : 0 ≤ i) (h1 : i < c.length) : rd c i = c[i.toNat]'(by omega) := by
  simp [rd, List.getD_eq_getElem?_getD, List.getElem?_eq_getElem (show i.toNat < c.length by omega)]
theorem rd_mem {c : List Int} {i : Int} (h0 : 0 ≤ i) (h1 : i < c.length) : rd c i ∈ c := by
  rw [rd_get h0 h1]; exact List.getElem_mem _
theorem drop_cons {c : List Int} {i : Int} (h0 : 0 ≤ i) (h1 : i < c.length) : c.drop i.toNat = rd c i :: c.drop (i + 1).toNat := by
  rw [rd_get h0 h1, show (i + 1).toNat = i.toNat + 1 by omega]
  exact List.drop_eq_getElem_cons (by omega)
theorem rdB_get {c : List ByteArray} {i : Int} (h0 : 0 ≤ i) (h1 : i < c.length) : rdOf ByteArray.empty c i = c[i.toNat]'(by omega) := by
  simp [rdOf, List.getD_eq_getElem?_getD, List.getElem?_eq_getElem (show i.toNat < c.length by omega)]
theorem rdB_mem {c : List ByteArray} {i : Int} (h0 : 0 ≤ i) (h1 : i < c.length) : rdOf ByteArray.empty c i ∈ c := by
  rw [rdB_get h0 h1]; exact List.getElem_mem _
theorem rdB_drop {c : List ByteArray} {i : Int} (h0 : 0 ≤ i) (h1 : i < c.length) : c.drop i.toNat = rdOf ByteArray.empty c i :: c.drop (i + 1).toNat := by
  rw [rdB_get h0 h1, show (i + 1).toNat = i.toNat + 1 by omega]
  exact List.drop_eq_getElem_cons (by omega)
theorem pick_wp {l : List Int} (hl : l.length ≤ maxLen) (hb : Bytes l) {s1 s2 n : Int} (h0 : 0 ≤ s1) (h1 : s1 ≤ 100000000) (hn : 1 ≤ n) :
    Wp (fun _ => spec_l00Src_pick.f l s1 s2 n) (fun r => 0 ≤ r.1 ∧ r.1 < n ∧ s1 ≤ r.2.1 ∧ r.2.1 ≤ s1 + 2) := by
  obtain ⟨x, t1, t2, e, x0, x1, p0, p1⟩ := pick_ev hl hb s1 s2 n h0 h1 hn
  exact Wp.eq e ⟨x0, x1, p0, p1⟩
theorem one_wp {l : List Int} (hl : l.length ≤ maxLen) (hb : Bytes l) {s1 s2 n : Int} (h0 : 0 ≤ s1) (h1 : s1 ≤ 100000000) (hn : 1 ≤ n) :
    Wp (fun _ => spec_l00Src_one.f l s1 s2 n) (fun r => s1 ≤ r.2.1 ∧ r.2.1 ≤ s1 + 2) := by
  obtain ⟨x, t1, t2, e, x0, x1, p0, p1⟩ := pick_ev hl hb s1 s2 n h0 h1 hn
  exact Wp.eq (r := ((x == 0), t1, t2)) (by simp only [spec_l00Src_one.f]; rw [e]; rfl) ⟨p0, p1⟩
def allI (p : Int → Bool) : Nat → Int → Bool
  | 0, _ => true
  | d + 1, i => p i && allI p d (i + 1)
theorem allI_true {p : Int → Bool} : ∀ {d : Nat} {i : Int}, allI p d i = true ↔ ∀ j, i ≤ j → j < i + d → p j = true
  | 0, i => ⟨fun _ j h1 h2 => by omega, fun _ => rfl⟩
  | d + 1, i => by
    simp only [allI, Bool.and_eq_true, allI_true (d := d)]
    refine ⟨fun ⟨h1, h2⟩ j a b => ?_, fun h => ⟨h i (by omega) (by omega), fun j a b => h j (by omega) (by omega)⟩⟩
    by_cases e : j = i
    · rw [e]; exact h1
    · exact h2 j (by omega) (by omega)
theorem allI_congr {p q : Int → Bool} : ∀ {d : Nat} {i : Int}, (∀ j, i ≤ j → j < i + d → p j = q j) → allI p d i = allI q d i
  | 0, _, _ => rfl
  | d + 1, i, h => by
    simp only [allI]
    rw [h i (by omega) (by omega), allI_congr (fun j a b => h j (by omega) (by omega))]

/-! ### names -/
theorem l00In_f (n a b : Int) : spec_l00In.f n a b = some (within_ n a b) := by
  unfold spec_l00In.f within_
  by_cases h : n ≥ a
  · rw [if_pos h]; simp [show a ≤ n from h]
  · rw [if_neg h]; simp [show ¬ a ≤ n from h]
def okb (c : Int) : Bool := (decide (97 ≤ c) && decide (c ≤ 122)) || (decide (48 ≤ c) && decide (c ≤ 57))
theorem onlyName_l0 (s : ByteArray) (hs : s.size ≤ maxLen) : ∀ (d : Nat) (i : Int), 0 ≤ i → i + d = s.size → ∀ k, d < k → impl_onlyNameBytes.l0 k s (s.size : Int) i = some (allI (fun j => okb (bt s j)) d i) := by
  unfold maxLen at hs
  intro d
  induction d with
  | zero =>
    intro i h0 h1 k hk
    obtain ⟨k, rfl⟩ : ∃ m, k = m + 1 := ⟨k - 1, by omega⟩
    simp only [impl_onlyNameBytes.l0]
    rw [if_neg (by omega)]; rfl
  | succ d ih =>
    intro i h0 h1 k hk
    obtain ⟨k, rfl⟩ : ∃ m, k = m + 1 := ⟨k - 1, by omega⟩
    simp only [impl_onlyNameBytes.l0, allI]
    rw [if_pos (by omega), if_pos h0, if_pos (by omega), w64 (by omega) (by omega), ih (i + 1) (by omega) (by omega) k (by omega)]
    generalize bt s i = c
    generalize allI (fun j => okb (bt s j)) d (i + 1) = A
    unfold okb
    by_cases a : c < 97 <;> by_cases b : c < 48 <;> by_cases e : c > 57 <;> by_cases f : c > 122 <;> first | (exfalso; omega) | (simp [a, b, e, f] <;> (try (intros; omega)) <;> done) | (rw [show decide (97 ≤ c) = !decide (c < 97) from by simp, show decide (48 ≤ c) = !decide (c < 48) from by simp, show decide (c ≤ 122) = !decide (c > 122) from by simp, show decide (c ≤ 57) = !decide (c > 57) from by simp]; simp [a, b, e, f])
def nameB (s : ByteArray) : Bool :=
  if (s.size : Int) < 1 then false else if (s.size : Int) > 10 then false else if bt s 0 < 97 then false else if bt s 0 > 122 then false else allI (fun j => okb (bt s j)) s.size 0
theorem isName_ev (s : ByteArray) (hs : s.size ≤ maxLen) : ∃ K, ∀ k, K ≤ k → impl_IsName.f k s = some (nameB s) := by
  refine ⟨s.size + 1, fun k hk => ?_⟩
  simp only [impl_IsName.f, impl_onlyNameBytes.f]
  rw [onlyName_l0 s hs s.size 0 (by omega) (by omega) k (by omega)]
  unfold nameB
  by_cases h1 : (s.size : Int) < 1
  · rw [if_pos h1, if_pos h1]
  · rw [if_neg h1, if_neg h1]
    by_cases h2 : (s.size : Int) > 10
    · rw [if_pos h2, if_pos h2]
    · rw [if_neg h2, if_neg h2, if_pos (by omega)]
      by_cases h3 : bt s 0 < 97
      · rw [if_pos h3, if_pos h3]
      · rw [if_neg h3, if_neg h3]
        by_cases h4 : bt s 0 > 122
        · rw [if_pos h4, if_pos h4]
        · rw [if_neg h4, if_neg h4]; rfl
theorem l01Small_f (c : Int) : spec_l01Small.f c = some (decide (97 ≤ c) && decide (c ≤ 122)) := by
  unfold spec_l01Small.f
  by_cases h : c ≥ 97
  · rw [if_pos h]; simp [show 97 ≤ c from h]
  · rw [if_neg h]; simp [show ¬ 97 ≤ c from h]
theorem l01Digit_f (c : Int) : spec_l01Digit.f c = some (decide (48 ≤ c) && decide (c ≤ 57)) := by
  unfold spec_l01Digit.f
  by_cases h : c ≥ 48
  · rw [if_pos h]; simp [show 48 ≤ c from h]
  · rw [if_neg h]; simp [show ¬ 48 ≤ c from h]
theorem l01Name_l0 (s : ByteArray) (hs : s.size ≤ maxLen) : ∀ (d : Nat) (i : Int), 0 ≤ i → i + d = s.size → ∀ k, d < k → spec_l01Name.l0 k s i = some (allI (fun j => okb (bt s j)) d i) := by
  unfold maxLen at hs
  intro d
  induction d with
  | zero =>
    intro i h0 h1 k hk
    obtain ⟨k, rfl⟩ : ∃ m, k = m + 1 := ⟨k - 1, by omega⟩
    simp only [spec_l01Name.l0]
    rw [if_neg (by omega)]; rfl
  | succ d ih =>
    intro i h0 h1 k hk
    obtain ⟨k, rfl⟩ : ∃ m, k = m + 1 := ⟨k - 1, by omega⟩
    simp only [spec_l01Name.l0, allI, l01Small_f, l01Digit_f, Option.bind_some]
    rw [if_pos (by omega), if_pos h0, w64 (by omega) (by omega), ih (i + 1) (by omega) (by omega) k (by omega)]
    generalize bt s i = c
    unfold okb
    cases (decide (97 ≤ c) && decide (c ≤ 122)) <;> cases (decide (48 ≤ c) && decide (c ≤ 57)) <;> simp
theorem l01Name_ev (s : ByteArray) (hs : s.size ≤ maxLen) : ∃ K, ∀ k, K ≤ k → spec_l01Name.f k s = some (nameB s) := by
  refine ⟨s.size + 2, fun k hk => ?_⟩
  obtain ⟨k, rfl⟩ : ∃ m, k = m + 1 := ⟨k - 1, by omega⟩
  have h0 := l01Name_l0 s hs s.size 0 (by omega) (by omega) k (by omega)
  unfold nameB
  by_cases h1 : (s.size : Int) < 1
  · have e : s.toList = [] := (toList_nil_iff_emptyBytes s).2 (by
      have h : s.size = 0 := by omega
      cases s with | mk d => have hd : d.size = 0 := h; cases d with | mk l => have : l = [] := List.eq_nil_of_length_eq_zero hd; subst this; rfl)
    simp only [spec_l01Name.f, spec_l01Name.j0]
    rw [if_pos e, if_pos h1]; rfl
  · have e : ¬ s.toList = [] := fun e => h1 (by rw [(toList_nil_iff_emptyBytes s).1 e]; decide)
    simp only [spec_l01Name.f, spec_l01Name.j0, l01Small_f, Option.bind_some]
    rw [if_neg e, if_neg h1]
    by_cases h2 : (s.size : Int) > 10
    · rw [if_pos h2, if_pos h2]; rfl
    · rw [if_neg h2, if_neg h2, if_pos (by omega), h0]
      by_cases h3 : bt s 0 < 97
      · rw [if_pos h3]; simp [show ¬ 97 ≤ bt s 0 by omega]
      · rw [if_neg h3]
        by_cases h4 : bt s 0 > 122
        · rw [if_pos h4]; simp [show ¬ bt s 0 ≤ 122 by omega]
        · rw [if_neg h4]; simp [show 97 ≤ bt s 0 by omega, show bt s 0 ≤ 122 by omega]


/-- A scale: at least five tones from 0 to 11 that rise, the first 0. -/
def scaleP (l : List Int) : Prop := 5 ≤ l.length ∧ l.length ≤ 12 ∧ l.Pairwise (· < ·) ∧ (∀ x ∈ l, 0 ≤ x ∧ x ≤ 11) ∧ l.head? = some 0
instance (l : List Int) : Decidable (scaleP l) := by unfold scaleP; infer_instance
/-- At most one forbidden pair, of two different tones. -/
def pairsP (fb : List (List Int)) : Prop := fb = [] ∨ ∃ a b : Int, fb = [[a, b]] ∧ 0 ≤ a ∧ a ≤ 11 ∧ 0 ≤ b ∧ b ≤ 11 ∧ a ≠ b
def ragaP (n : ByteArray) (u d : List Int) (s w : Int) (fb : List (List Int)) : Prop := nameB n = true ∧ n.size ≤ 10 ∧ scaleP u ∧ scaleP d ∧ (s ∈ u ∨ s ∈ d) ∧ (w ∈ u ∨ w ∈ d) ∧ s ≠ w ∧ pairsP fb
theorem text_wp {c : List Int} (hc : c.length ≤ maxLen) (hb : Bytes c) {s1 s2 : Int} {L : List ByteArray} (h0 : 0 ≤ s1) (h1 : s1 ≤ 100000000) (hL : 1 ≤ L.length) :
    Wp (fun _ => spec_l00Src_text.f c s1 s2 L) (fun r => r.1 ∈ L ∧ s1 ≤ r.2.1 ∧ r.2.1 ≤ s1 + 2) := by
  obtain ⟨x, t1, t2, e, x0, x1, p0, p1⟩ := pick_ev hc hb s1 s2 (L.length : Int) h0 h1 (by omega)
  refine Wp.eq (r := (rdOf ByteArray.empty L x, t1, t2)) ?_ ⟨?_, p0, p1⟩
  · simp only [spec_l00Src_text.f]
    rw [e]
    simp only [Option.bind_some]
    rw [if_pos x0, if_pos x1]
  · simp only [rdOf, List.getD_eq_getElem?_getD, List.getElem?_eq_getElem (show x.toNat < L.length by omega), Option.getD_some]
    exact List.getElem_mem _
/-- What is drawn while a scale grows. -/
theorem sdraw_l0 {c : List Int} (hc : c.length ≤ maxLen) (hb : Bytes c) : ∀ (d : Nat) (l : List Int) (x s1 s2 : Int), x + d = 12 → 1 ≤ x → 0 ≤ s1 → s1 + 2 * d ≤ 1000000 → l.length ≤ x → 5 ≤ l.length + d → l.Pairwise (· < ·) → (∀ y ∈ l, 0 ≤ y ∧ y < x) → l.head? = some 0 →
    Wp (fun k => spec_l03Draw.l0 k l x c s1 s2) (fun r => scaleP r.1 ∧ s1 ≤ r.2.1 ∧ r.2.1 ≤ s1 + 2 * d)
  | 0, l, x, s1, s2, e, h1, h2, h3, h4, h5, h6, h7, h8 => by
    refine Wp.step ?_
    simp only [spec_l03Draw.l0]
    exact Wp.neg (by omega) (Wp.now ⟨⟨by dsimp only; omega, by dsimp only; omega, h6, fun y hy => ⟨(h7 y hy).1, by have := (h7 y hy).2; omega⟩, h8⟩, by dsimp only; omega, by dsimp only; omega⟩)
  | d + 1, l, x, s1, s2, e, h1, h2, h3, h4, h5, h6, h7, h8 => by
    refine Wp.step ?_
    simp only [spec_l03Draw.l0]
    refine Wp.pos (by omega) (Wp.call (one_wp hc hb h2 (by omega) (by omega)) ?_)
    rintro ⟨y, t1, t2⟩ ⟨p0, p1⟩
    dsimp only at *
    rw [w64 (n := x + 1) (by omega) (by omega), w64 (n := 12 - x) (by omega) (by omega), w64 (n := 5 - (l.length : Int)) (by omega) (by omega)]
    have more := (sdraw_l0 hc hb d (l ++ [x]) (x + 1) t1 t2 (by omega) (by omega) (by omega) (by omega) (by simp; omega) (by simp; omega) (List.pairwise_append.2 ⟨h6, by simp, fun a ha b hb => by rw [List.mem_singleton.1 hb]; exact (h7 a ha).2⟩) (fun y hy => by
      rcases List.mem_append.1 hy with h | h
      · have := h7 y h; omega
      · rw [List.mem_singleton.1 h]; omega) (by rw [List.head?_append, h8]; rfl)).mono (Q := fun r => scaleP r.1 ∧ s1 ≤ r.2.1 ∧ r.2.1 ≤ s1 + 2 * (d + 1 : Nat)) (fun r hr => ⟨hr.1, by have := hr.2; omega, by have := hr.2; omega⟩)
    refine Wp.iteB (fun _ => Wp.pos (by omega) more) (fun _ => Wp.ite (fun _ => Wp.pos (by omega) more) (fun hn => ?_))
    exact (sdraw_l0 hc hb d l (x + 1) t1 t2 (by omega) (by omega) (by omega) (by omega) (by omega) (by omega) h6 (fun y hy => by have := h7 y hy; omega) h8).mono (fun r hr => ⟨hr.1, by have := hr.2; omega, by have := hr.2; omega⟩)
def scaleTexts : List ByteArray := [(⟨#[83, 82, 71, 109, 80, 68, 78]⟩ : ByteArray), (⟨#[83, 82, 71, 80, 68]⟩ : ByteArray), (⟨#[83, 114, 71, 109, 80, 100, 78]⟩ : ByteArray), (⟨#[83, 82, 103, 109, 80, 68, 110]⟩ : ByteArray), (⟨#[83, 71, 109, 68, 78]⟩ : ByteArray), (⟨#[83, 82, 71, 77, 80, 68, 78]⟩ : ByteArray), (⟨#[83, 114, 82, 103, 71, 109, 77, 80, 100, 68, 110, 78]⟩ : ByteArray)]
theorem sread_wp : ∀ t ∈ scaleTexts, Wp (fun k => spec_l03Read.f k t) (fun r => scaleP r.1) := by
  have key : ∀ t ∈ scaleTexts, (match spec_l03Read.f 30 t with | some r => decide (scaleP r.1) | none => false) = true := by decide +kernel
  intro t ht
  have := key t ht
  match e : spec_l03Read.f 30 t, this with
  | some r, h => exact ⟨r, of_decide_eq_true h, 30, up_fuel (spec_l03Read.mono t) e⟩
theorem sdraw_wp {c : List Int} (hc : c.length ≤ maxLen) (hb : Bytes c) {s1 s2 : Int} (h0 : 0 ≤ s1) (h1 : s1 ≤ 900000) : Wp (fun k => spec_l03Draw.f k c s1 s2) (fun r => scaleP r.1 ∧ s1 ≤ r.2.1 ∧ r.2.1 ≤ s1 + 40) := by
  simp only [spec_l03Draw.f]
  refine Wp.call (text_wp hc hb h0 (by omega) (by decide)) ?_
  rintro ⟨t, t1, t2⟩ ⟨p, p0, p1⟩
  refine Wp.call (one_wp hc hb (by dsimp only at *; omega) (by dsimp only at *; omega) (by omega)) ?_
  rintro ⟨y, u1, u2⟩ ⟨q0, q1⟩
  dsimp only at *
  refine Wp.iteB (fun _ => ?_) (fun _ => Wp.call (sread_wp t p) (fun r hr => Wp.now ⟨hr, by dsimp only; omega, by dsimp only; omega⟩))
  exact (sdraw_l0 hc hb 11 [0] 1 u1 u2 (by omega) (by omega) (by omega) (by omega) (by simp) (by simp) (by simp) (by simp) rfl).mono (fun r hr => ⟨hr.1, by have := hr.2; omega, by have := hr.2; omega⟩)
def ragaTexts : List ByteArray := [(⟨#[98, 104, 117, 112, 97, 108, 105, 32, 83, 82, 71, 80, 68, 32, 83, 82, 71, 80, 68, 32, 71, 68]⟩ : ByteArray), (⟨#[121, 97, 109, 97, 110, 32, 83, 82, 71, 77, 80, 68, 78, 32, 83, 82, 71, 77, 80, 68, 78, 32, 71, 78, 32, 83, 82]⟩ : ByteArray), (⟨#[98, 104, 97, 105, 114, 97, 118, 32, 83, 114, 71, 109, 80, 100, 78, 32, 83, 114, 71, 109, 80, 100, 78, 32, 100, 114]⟩ : ByteArray), (⟨#[100, 101, 115, 104, 32, 83, 82, 109, 80, 78, 32, 83, 82, 71, 109, 80, 68, 110, 32, 82, 80, 32, 71, 82]⟩ : ByteArray), (⟨#[107, 97, 102, 105, 32, 83, 82, 103, 109, 80, 68, 110, 32, 83, 82, 103, 109, 80, 68, 110, 32, 80, 82]⟩ : ByteArray), (⟨#[109, 97, 108, 107, 97, 117, 110, 115, 32, 83, 103, 109, 100, 78, 32, 83, 103, 109, 100, 78, 32, 109, 83]⟩ : ByteArray)]
def pairsB : List (List Int) → Bool
  | [] => true
  | [[a, b]] => decide (0 ≤ a ∧ a ≤ 11 ∧ 0 ≤ b ∧ b ≤ 11 ∧ a ≠ b)
  | _ => false
theorem pairsB_P {fb : List (List Int)} (h : pairsB fb = true) : pairsP fb := by
  unfold pairsB at h
  split at h
  · exact .inl rfl
  · rename_i a b
    exact .inr ⟨a, b, rfl, of_decide_eq_true h⟩
  · cases h
def ragaB (r : ByteArray × List Int × List Int × Int × Int × List (List Int) × Bool) : Bool := nameB r.1 && decide (r.1.size ≤ 10) && decide (scaleP r.2.1) && decide (scaleP r.2.2.1) && decide (r.2.2.2.1 ∈ r.2.1 ∨ r.2.2.2.1 ∈ r.2.2.1) && decide (r.2.2.2.2.1 ∈ r.2.1 ∨ r.2.2.2.2.1 ∈ r.2.2.1) && decide (r.2.2.2.1 ≠ r.2.2.2.2.1) && pairsB r.2.2.2.2.2.1
theorem ragaB_P {r : ByteArray × List Int × List Int × Int × Int × List (List Int) × Bool} (h : ragaB r = true) : ragaP r.1 r.2.1 r.2.2.1 r.2.2.2.1 r.2.2.2.2.1 r.2.2.2.2.2.1 := by
  unfold ragaB at h
  simp only [Bool.and_eq_true, decide_eq_true_eq] at h
  obtain ⟨⟨⟨⟨⟨⟨⟨h1, h2⟩, h3⟩, h4⟩, h5⟩, h6⟩, h7⟩, h8⟩ := h
  exact ⟨h1, h2, h3, h4, h5, h6, h7, pairsB_P h8⟩
theorem rread_wp : ∀ t ∈ ragaTexts, Wp (fun k => spec_l05Read.f k t) (fun r => ragaP r.1 r.2.1 r.2.2.1 r.2.2.2.1 r.2.2.2.2.1 r.2.2.2.2.2.1 ∧ r.2.2.2.2.2.2 = true) := by
  have key : ∀ t ∈ ragaTexts, (match spec_l05Read.f 60 t with | some r => ragaB r && r.2.2.2.2.2.2 | none => false) = true := by decide +kernel
  intro t ht
  have := key t ht
  match e : spec_l05Read.f 60 t, this with
  | some r, h =>
    rw [Bool.and_eq_true] at h
    exact ⟨r, ⟨ragaB_P h.1, h.2⟩, 60, up_fuel (spec_l05Read.mono t) e⟩
theorem rdraw_j1 {c : List Int} (hc : c.length ≤ maxLen) (hb : Bytes c) {n : ByteArray} {u d : List Int} {s w : Int} {fb : List (List Int)} (hr : ragaP n u d s w fb) {s1 s2 : Int} (h0 : 0 ≤ s1) (h1 : s1 ≤ 950000) :
    Wp (fun k => spec_l05Draw.j1 k c s1 s2 n u d s w fb) (fun r => ragaP r.1 r.2.1 r.2.2.1 r.2.2.2.1 r.2.2.2.2.1 r.2.2.2.2.2.1 ∧ s1 ≤ r.2.2.2.2.2.2.1 ∧ r.2.2.2.2.2.2.1 ≤ s1 + 10) := by
  refine Wp.step ?_
  simp only [spec_l05Draw.j1]
  refine Wp.call (one_wp hc hb h0 (by omega) (by omega)) ?_
  rintro ⟨y, t1, t2⟩ ⟨p0, p1⟩
  dsimp only at *
  refine Wp.iteB (fun _ => ?_) (fun _ => Wp.now ⟨hr, by dsimp only; omega, by dsimp only; omega⟩)
  refine Wp.call (pick_wp hc hb (by omega) (by omega) (by omega)) ?_
  rintro ⟨a, u1, u2⟩ ⟨q0, q1, q2, q3⟩
  dsimp only at *
  refine Wp.call (pick_wp hc hb (by omega) (by omega) (by omega)) ?_
  rintro ⟨b, v1, v2⟩ ⟨r0, r1, r2, r3⟩
  dsimp only at *
  rw [w64 (n := a + 1) (by omega) (by omega), w64 (n := a + 1 + b) (by omega) (by omega), Int.tmod_eq_emod_of_nonneg (by omega)]
  obtain ⟨g1, g2, g3, g4, g5, g6, g7, _⟩ := hr
  exact Wp.now ⟨⟨g1, g2, g3, g4, g5, g6, g7, .inr ⟨a, (a + 1 + b) % 12, rfl, q0, by omega, by omega, by omega, by omega⟩⟩, by dsimp only; omega, by dsimp only; omega⟩
theorem head_mem {l : List Int} {a : Int} (h : l.head? = some a) : a ∈ l := by
  cases l with
  | nil => cases h
  | cons x t => simp at h; simp [h]
theorem rdraw_j0 {c : List Int} (hc : c.length ≤ maxLen) (hb : Bytes c) {n : ByteArray} {u d : List Int} {s w : Int} {fb : List (List Int)} (hr : ragaP n u d s w fb) {s1 s2 : Int} (h0 : 0 ≤ s1) (h1 : s1 ≤ 850000) (x : Bool) :
    Wp (fun k => spec_l05Draw.j0 k x c s1 s2 n u d s w fb) (fun r => ragaP r.1 r.2.1 r.2.2.1 r.2.2.2.1 r.2.2.2.2.1 r.2.2.2.2.2.1 ∧ s1 ≤ r.2.2.2.2.2.2.1 ∧ r.2.2.2.2.2.2.1 ≤ s1 + 200) := by
  refine Wp.step ?_
  simp only [spec_l05Draw.j0]
  refine Wp.iteB (fun _ => ?_) (fun _ => (rdraw_j1 hc hb hr h0 (by omega)).mono (fun r h => ⟨h.1, by omega, by omega⟩))
  refine Wp.call (sdraw_wp hc hb h0 (by omega)) ?_
  rintro ⟨u', t1, t2⟩ ⟨hu, p0, p1⟩
  dsimp only at *
  refine Wp.call (sdraw_wp hc hb (by omega) (by omega)) ?_
  rintro ⟨d', u1, u2⟩ ⟨hd, q0, q1⟩
  dsimp only at *
  have lu := hu.1
  have ld := hd.1
  refine Wp.call (pick_wp hc hb (by omega) (by omega) (by omega)) ?_
  rintro ⟨i, v1, v2⟩ ⟨r0, r1, r2, r3⟩
  dsimp only at *
  refine Wp.pos r0 (Wp.pos r1 (Wp.call (pick_wp hc hb (by omega) (by omega) (by omega)) ?_))
  rintro ⟨j, z1, z2⟩ ⟨a0, a1, a2, a3⟩
  dsimp only at *
  have hn : nameB (⟨#[110, 101, 119]⟩ : ByteArray) = true := by decide
  refine Wp.pos a0 (Wp.pos a1 (Wp.ite (fun _ => Wp.pos (by omega) ?_) (fun hne => ?_)))
  · have hm : rd u' 1 ∈ u' := rd_mem (by omega) (by omega)
    have h00 : rd u' 0 = 0 := by
      have := hu.2.2.2.2
      cases u' with
      | nil => cases this
      | cons x t => simpa [rd] using this
    have hlt : rd u' 0 < rd u' 1 := by
      rw [rd_get (by omega) (by omega), rd_get (by omega) (by omega)]
      exact List.pairwise_iff_getElem.1 hu.2.2.1 _ _ _ _ (by decide)
    exact (rdraw_j1 hc hb (n := ⟨#[110, 101, 119]⟩) (fb := []) ⟨hn, by decide, hu, hd, .inl hm, .inl (head_mem hu.2.2.2.2), by omega, .inl rfl⟩ (by omega) (by omega)).mono (fun r h => ⟨h.1, by omega, by omega⟩)
  · exact (rdraw_j1 hc hb (n := ⟨#[110, 101, 119]⟩) (fb := []) ⟨hn, by decide, hu, hd, .inl (rd_mem r0 r1), .inr (rd_mem a0 a1), hne, .inl rfl⟩ (by omega) (by omega)).mono (fun r h => ⟨h.1, by omega, by omega⟩)
theorem rdraw_wp {c : List Int} (hc : c.length ≤ maxLen) (hb : Bytes c) {s1 s2 : Int} (h0 : 0 ≤ s1) (h1 : s1 ≤ 800000) :
    Wp (fun k => spec_l05Draw.f k c s1 s2) (fun r => ragaP r.1 r.2.1 r.2.2.1 r.2.2.2.1 r.2.2.2.2.1 r.2.2.2.2.2.1 ∧ s1 ≤ r.2.2.2.2.2.2.1 ∧ r.2.2.2.2.2.2.1 ≤ s1 + 300) := by
  simp only [spec_l05Draw.f]
  refine Wp.call (text_wp hc hb h0 (by omega) (by decide)) ?_
  rintro ⟨t, t1, t2⟩ ⟨p, p0, p1⟩
  dsimp only at *
  refine Wp.call (rread_wp t p) ?_
  rintro ⟨n, u, d, s, w, fb, ok⟩ ⟨hr, rfl⟩
  dsimp only at *
  refine Wp.posB rfl (Wp.call (one_wp hc hb (by omega) (by omega) (by omega)) ?_)
  rintro ⟨y, u1, u2⟩ ⟨q0, q1⟩
  dsimp only at *
  exact (rdraw_j0 hc hb hr (by omega) (by omega) y).mono (fun r h => ⟨h.1, by omega, by omega⟩)
theorem r8raga_wp {c : List Int} (hc : c.length ≤ maxLen) (hb : Bytes c) : Wp (fun k => spec_R8Raga.f k c) (fun r => ragaP r.1 r.2.1 r.2.2.1 r.2.2.2.1 r.2.2.2.2.1 r.2.2.2.2.2) := by
  simp only [spec_R8Raga.f, spec_l00From.f, Option.bind_some]
  exact Wp.call (rdraw_wp hc hb (by omega) (by omega)) (fun r h => Wp.now h.1)
end Go.Proofs.Ytbedlmlofnphkaa.Pure
