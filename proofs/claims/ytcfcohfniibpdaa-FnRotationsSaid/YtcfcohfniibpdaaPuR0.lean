/- Plain facts: scales that are drawn of bytes, and all scales. -/
import Derived.Laws.Closers25b
import Derived.Laws.Bits64b
import Derived.Test.YtcfcohfniibpdaaPRx1
import Derived.Test.YtcfcohfniibpdaaPRx2
import Derived.Test.YtcfcohfniibpdaaPRx3
import Derived.Test.YtcfcohfniibpdaaPRx4
namespace Go.Proofs.Ytcfcohfniibpdaa.Pure
open Go.RowKit Go.Proofs.Ytcfcohfniibpdaa.PR Go.Proofs.YtcfcohfniibpdaaW.PrintWords Go.Proofs.YtcfcohfniibpdaaW.PrintLast
set_option linter.unusedSimpArgs false
set_option linter.unusedVariables false
/-! ### what a printed function comes to, rounds aside -/
theorem w64 {n : Int} (h0 : -9223372036854775808 ≤ n) (h1 : n ≤ 9223372036854775807) : wrap64 n = n := by unfold wrap64; omega
def Wp {α : Type} (g : Nat → Option α) (Q : α → Prop) : Prop := ∃ r, Q r ∧ ∃ K, ∀ k, K ≤ k → g k = some r
theorem Wp.now {α : Type} {Q : α → Prop} {r : α} (h : Q r) : Wp (fun _ => some r) Q := ⟨r, h, 0, fun _ _ => rfl⟩
theorem Wp.eq {α : Type} {Q : α → Prop} {g : Option α} {r : α} (e : g = some r) (h : Q r) : Wp (fun _ => g) Q := ⟨r, h, 0, fun _ _ => e⟩
theorem Wp.bind {α β : Type} {g : Nat → Option α} {f : Nat → α → Option β} {Q : β → Prop} (h : Wp g (fun a => Wp (fun k => f k a) Q)) : Wp (fun k => (g k).bind (f k)) Q := by
  obtain ⟨a, ⟨r, hr, K', hf⟩, K, hg⟩ := h
  refine ⟨r, hr, max K K', fun k hk => ?_⟩
  simp only [hg k (by omega), Option.bind_some]
  exact hf k (by omega)
theorem Wp.ite {α : Type} {c : Prop} [Decidable c] {g h : Nat → Option α} {Q : α → Prop} (h1 : c → Wp g Q) (h2 : ¬ c → Wp h Q) : Wp (fun k => if c then g k else h k) Q := by
  by_cases e : c
  · simp only [if_pos e]; exact h1 e
  · simp only [if_neg e]; exact h2 e
theorem Wp.step {α : Type} {g : Nat → Option α} {Q : α → Prop} (h : Wp (fun k => g (k + 1)) Q) : Wp g Q := by
  obtain ⟨r, hr, K, hg⟩ := h
  refine ⟨r, hr, K + 1, fun k hk => ?_⟩
  obtain ⟨m, rfl⟩ : ∃ m, k = m + 1 := ⟨k - 1, by omega⟩
  exact hg m (by omega)
theorem Wp.mono {α : Type} {g : Nat → Option α} {P Q : α → Prop} (h : Wp g P) (k : ∀ r, P r → Q r) : Wp g Q := by
  obtain ⟨r, hr, hg⟩ := h
  exact ⟨r, k r hr, hg⟩
theorem Wp.rounds {α : Type} {g : Nat → Option α} {r : α} (h : Wp g (fun x => x = r)) : ∃ k, g k = some r := by
  obtain ⟨_, rfl, K, hg⟩ := h
  exact ⟨K, hg K (Nat.le_refl _)⟩
theorem Wp.same {α : Type} {g : Nat → Option α} {P Q : α → Prop} (h : Wp g P) (k : Wp g Q) : Wp g (fun r => P r ∧ Q r) := by
  obtain ⟨r, hr, K, hg⟩ := h
  obtain ⟨s, hs, K', hg'⟩ := k
  have e : some r = some s := (hg (max K K') (by omega)).symm.trans (hg' _ (by omega))
  injection e with e
  subst e
  exact ⟨r, ⟨hr, hs⟩, K, hg⟩
theorem Wp.pos {α : Type} {c : Prop} [Decidable c] {g h : Nat → Option α} {Q : α → Prop} (e : c) (h1 : Wp g Q) : Wp (fun k => if c then g k else h k) Q := Wp.ite (fun _ => h1) (fun n => absurd e n)
theorem Wp.neg {α : Type} {c : Prop} [Decidable c] {g h : Nat → Option α} {Q : α → Prop} (e : ¬ c) (h1 : Wp h Q) : Wp (fun k => if c then g k else h k) Q := Wp.ite (fun n => absurd n e) (fun _ => h1)
theorem Wp.iteB {α : Type} {b : Bool} {g h : Nat → Option α} {Q : α → Prop} (h1 : b = true → Wp g Q) (h2 : b = false → Wp h Q) : Wp (fun k => if b = true then g k else h k) Q := Wp.ite h1 (fun n => h2 (by simpa using n))
theorem Wp.posB {α : Type} {b : Bool} {g h : Nat → Option α} {Q : α → Prop} (e : b = true) (h1 : Wp g Q) : Wp (fun k => if b = true then g k else h k) Q := Wp.pos e h1
theorem Wp.negB {α : Type} {b : Bool} {g h : Nat → Option α} {Q : α → Prop} (e : b = false) (h1 : Wp h Q) : Wp (fun k => if b = true then g k else h k) Q := Wp.neg (by rw [e]; decide) h1
theorem Wp.call {α β : Type} {g : Nat → Option α} {f : Nat → α → Option β} {P : α → Prop} {Q : β → Prop} (h : Wp g P) (k : ∀ a, P a → Wp (fun n => f n a) Q) : Wp (fun n => (g n).bind (f n)) Q := Wp.bind (h.mono k)
theorem Wp.calls {α β : Type} {g : Option α} {f : Nat → α → Option β} {a : α} {Q : β → Prop} (h : g = some a) (k : Wp (fun n => f n a) Q) : Wp (fun n => g.bind (f n)) Q := Wp.bind (Wp.eq h k)
theorem Wp.val {α β : Type} {g : Nat → Option α} {f : Nat → α → Option β} {a : α} {Q : β → Prop} (h : Wp g (fun x => x = a)) (k : Wp (fun n => f n a) Q) : Wp (fun n => (g n).bind (f n)) Q := Wp.call h (fun _ e => by subst e; exact k)
theorem up_fuel {α : Type} {f : Nat → Option α} (hm : ∀ k, LeO (f k) (f (k + 1))) {K : Nat} {r : α} (h : f K = some r) : ∀ k, K ≤ k → f k = some r := by
  intro k hk
  obtain ⟨d, rfl⟩ : ∃ d, k = K + d := ⟨k - K, by omega⟩
  induction d with
  | zero => exact h
  | succ d ih => exact hm _ _ (ih (by omega))
def Bytes (l : List Int) : Prop := ∀ y ∈ l, (Lit.int .u8 y).wf = true
theorem byte_bd {l : List Int} (h : Bytes l) {i : Int} (h0 : 0 ≤ i) (h1 : i < l.length) : 0 ≤ rd l i ∧ rd l i ≤ 255 := by
  have e : rd l i ∈ l := by
    rw [show rd l i = l[i.toNat]'(by omega) from by simp [rd, List.getD_eq_getElem?_getD, List.getElem?_eq_getElem (show i.toNat < l.length by omega)]]
    exact List.getElem_mem _
  have := h _ e
  simp only [Lit.wf, Bool.and_eq_true, decide_eq_true_eq] at this
  have h2 : IntKind.min .u8 = 0 := by rfl
  have h3 : IntKind.max .u8 = 255 := by rfl
  omega
theorem and255 (x : Int) : 0 ≤ Go.bits .and .u64 (IntKind.u64.wrap x / 1099511627776) 255 ∧ Go.bits .and .u64 (IntKind.u64.wrap x / 1099511627776) 255 ≤ 255 := by
  have hw : 0 ≤ IntKind.u64.wrap x ∧ IntKind.u64.wrap x < 18446744073709551616 := by rw [IntKind.wrap_u64]; omega
  generalize IntKind.u64.wrap x = y at hw
  obtain ⟨n, hn⟩ : ∃ n : Nat, y / 1099511627776 = n := ⟨(y / 1099511627776).toNat, by omega⟩
  rw [hn, show (255 : Int) = ((255 : Nat) : Int) from rfl, bits_and_u64_nat n 255 (by omega) (by decide)]
  have := Nat.and_le_right (n := n) (m := 255)
  omega
theorem next_ev {l : List Int} (_ : l.length ≤ maxLen) (hb : Bytes l) (s1 s2 : Int) (h0 : 0 ≤ s1) (h1 : s1 ≤ 1000000000) :
    ∃ x s2', spec_l00Src_next.f l s1 s2 = some (x, s1 + 1, s2') ∧ 0 ≤ x ∧ x ≤ 255 := by
  have hm : wrap64 (s1 + 1) = s1 + 1 := w64 (by omega) (by omega)
  unfold spec_l00Src_next.f
  rw [hm]
  by_cases c : s1 < (l.length : Int)
  · have hr := byte_bd hb h0 c
    rw [if_pos c, if_pos h0, if_pos (by omega), w64 (n := rd l s1) (by omega) (by omega)]
    exact ⟨_, _, rfl, hr⟩
  · rw [if_neg c]
    by_cases d : s1 + 1 ≤ (l.length : Int)
    · omega
    · rw [if_neg d]
      refine ⟨_, _, rfl, ?_⟩
      have ha := and255 ((IntKind.u64.wrap ((IntKind.u64.wrap (s2 * 6364136223846793005)))) + 1442695040888963407)
      rw [w64 (by omega) (by omega)]
      exact ha
theorem pick_ev {l : List Int} (hl : l.length ≤ maxLen) (hb : Bytes l) (s1 s2 n : Int) (h0 : 0 ≤ s1) (h1 : s1 ≤ 100000000) (hn : 1 ≤ n) :
    ∃ x s1' s2', spec_l00Src_pick.f l s1 s2 n = some (x, s1', s2') ∧ 0 ≤ x ∧ x < n ∧ s1 ≤ s1' ∧ s1' ≤ s1 + 2 := by
  unfold spec_l00Src_pick.f
  by_cases c : n ≤ 1
  · rw [if_pos c]; exact ⟨0, s1, s2, rfl, by omega, by omega, by omega, by omega⟩
  · rw [if_neg c]
    obtain ⟨x, t2, e1, hx1, hx2⟩ := next_ev hl hb s1 s2 h0 (by omega)
    rw [e1]
    simp only [Option.bind_some]
    by_cases d : n > 200
    · rw [if_pos d]
      obtain ⟨y, t3, e2, hy1, hy2⟩ := next_ev hl hb (s1 + 1) t2 (by omega) (by omega)
      rw [e2]
      simp only [Option.bind_some]
      rw [if_neg (by omega), w64 (n := x * 256) (by omega) (by omega), w64 (n := x * 256 + y) (by omega) (by omega)]
      exact ⟨_, _, _, rfl, Int.tmod_nonneg _ (by omega), Int.tmod_lt_of_pos _ (by omega), by omega, by omega⟩
    · rw [if_neg d, if_neg (by omega)]
      exact ⟨_, _, _, rfl, Int.tmod_nonneg _ (by omega), Int.tmod_lt_of_pos _ (by omega), by omega, by omega⟩
theorem rd_get {c : List Int} {i : Int} (h0 : 0 ≤ i) (h1 : i < c.length) : rd c i = c[i.toNat]'(by omega) := by
  simp [rd, List.getD_eq_getElem?_getD, List.getElem?_eq_getElem (show i.toNat < c.length by omega)]
theorem rd_mem {c : List Int} {i : Int} (h0 : 0 ≤ i) (h1 : i < c.length) : rd c i ∈ c := by
  rw [rd_get h0 h1]; exact List.getElem_mem _
theorem drop_cons {c : List Int} {i : Int} (h0 : 0 ≤ i) (h1 : i < c.length) : c.drop i.toNat = rd c i :: c.drop (i + 1).toNat := by
  rw [rd_get h0 h1, show (i + 1).toNat = i.toNat + 1 by omega]
  exact List.drop_eq_getElem_cons (by omega)
theorem pick_wp {l : List Int} (hl : l.length ≤ maxLen) (hb : Bytes l) {s1 s2 n : Int} (h0 : 0 ≤ s1) (h1 : s1 ≤ 100000000) (hn : 1 ≤ n) :
    Wp (fun _ => spec_l00Src_pick.f l s1 s2 n) (fun r => 0 ≤ r.1 ∧ r.1 < n ∧ s1 ≤ r.2.1 ∧ r.2.1 ≤ s1 + 2) := by
  obtain ⟨x, t1, t2, e, x0, x1, p0, p1⟩ := pick_ev hl hb s1 s2 n h0 h1 hn
  exact Wp.eq e ⟨x0, x1, p0, p1⟩
theorem one_wp {l : List Int} (hl : l.length ≤ maxLen) (hb : Bytes l) {s1 s2 n : Int} (h0 : 0 ≤ s1) (h1 : s1 ≤ 100000000) (hn : 1 ≤ n) :
    Wp (fun _ => spec_l00Src_one.f l s1 s2 n) (fun r => s1 ≤ r.2.1 ∧ r.2.1 ≤ s1 + 2) := by
  obtain ⟨x, t1, t2, e, x0, x1, p0, p1⟩ := pick_ev hl hb s1 s2 n h0 h1 hn
  exact Wp.eq (r := ((x == 0), t1, t2)) (by simp only [spec_l00Src_one.f]; rw [e]; rfl) ⟨p0, p1⟩
/-- A scale: at least five tones from 0 to 11 that rise, the first 0. -/
def scaleP (l : List Int) : Prop := 5 ≤ l.length ∧ l.length ≤ 12 ∧ l.Pairwise (· < ·) ∧ (∀ x ∈ l, 0 ≤ x ∧ x ≤ 11) ∧ l.head? = some 0
instance (l : List Int) : Decidable (scaleP l) := by unfold scaleP; infer_instance
theorem text_wp {c : List Int} (hc : c.length ≤ maxLen) (hb : Bytes c) {s1 s2 : Int} {L : List ByteArray} (h0 : 0 ≤ s1) (h1 : s1 ≤ 100000000) (hL : 1 ≤ L.length) :
    Wp (fun _ => spec_l00Src_text.f c s1 s2 L) (fun r => r.1 ∈ L ∧ s1 ≤ r.2.1 ∧ r.2.1 ≤ s1 + 2) := by
  obtain ⟨x, t1, t2, e, x0, x1, p0, p1⟩ := pick_ev hc hb s1 s2 (L.length : Int) h0 h1 (by omega)
  refine Wp.eq (r := (rdOf ByteArray.empty L x, t1, t2)) ?_ ⟨?_, p0, p1⟩
  · simp only [spec_l00Src_text.f]
    rw [e]
    simp only [Option.bind_some]
    rw [if_pos x0, if_pos x1]
  · simp only [rdOf, List.getD_eq_getElem?_getD, List.getElem?_eq_getElem (show x.toNat < L.length by omega), Option.getD_some]
    exact List.getElem_mem _
/-- What is drawn while a scale grows. -/
theorem sdraw_l0 {c : List Int} (hc : c.length ≤ maxLen) (hb : Bytes c) : ∀ (d : Nat) (l : List Int) (x s1 s2 : Int), x + d = 12 → 1 ≤ x → 0 ≤ s1 → s1 + 2 * d ≤ 1000000 → l.length ≤ x → 5 ≤ l.length + d → l.Pairwise (· < ·) → (∀ y ∈ l, 0 ≤ y ∧ y < x) → l.head? = some 0 →
    Wp (fun k => spec_l03Draw.l0 k l x c s1 s2) (fun r => scaleP r.1 ∧ s1 ≤ r.2.1 ∧ r.2.1 ≤ s1 + 2 * d)
  | 0, l, x, s1, s2, e, h1, h2, h3, h4, h5, h6, h7, h8 => by
    refine Wp.step ?_
    simp only [spec_l03Draw.l0]
    exact Wp.neg (by omega) (Wp.now ⟨⟨by dsimp only; omega, by dsimp only; omega, h6, fun y hy => ⟨(h7 y hy).1, by have := (h7 y hy).2; omega⟩, h8⟩, by dsimp only; omega, by dsimp only; omega⟩)
  | d + 1, l, x, s1, s2, e, h1, h2, h3, h4, h5, h6, h7, h8 => by
    refine Wp.step ?_
    simp only [spec_l03Draw.l0]
    refine Wp.pos (by omega) (Wp.call (one_wp hc hb h2 (by omega) (by omega)) ?_)
    rintro ⟨y, t1, t2⟩ ⟨p0, p1⟩
    dsimp only at *
    rw [w64 (n := x + 1) (by omega) (by omega), w64 (n := 12 - x) (by omega) (by omega), w64 (n := 5 - (l.length : Int)) (by omega) (by omega)]
    have more := (sdraw_l0 hc hb d (l ++ [x]) (x + 1) t1 t2 (by omega) (by omega) (by omega) (by omega) (by simp; omega) (by simp; omega) (List.pairwise_append.2 ⟨h6, by simp, fun a ha b hb => by rw [List.mem_singleton.1 hb]; exact (h7 a ha).2⟩) (fun y hy => by
      rcases List.mem_append.1 hy with h | h
      · have := h7 y h; omega
      · rw [List.mem_singleton.1 h]; omega) (by rw [List.head?_append, h8]; rfl)).mono (Q := fun r => scaleP r.1 ∧ s1 ≤ r.2.1 ∧ r.2.1 ≤ s1 + 2 * (d + 1 : Nat)) (fun r hr => ⟨hr.1, by have := hr.2; omega, by have := hr.2; omega⟩)
    refine Wp.iteB (fun _ => Wp.pos (by omega) more) (fun _ => Wp.ite (fun _ => Wp.pos (by omega) more) (fun hn => ?_))
    exact (sdraw_l0 hc hb d l (x + 1) t1 t2 (by omega) (by omega) (by omega) (by omega) (by omega) (by omega) h6 (fun y hy => by have := h7 y hy; omega) h8).mono (fun r hr => ⟨hr.1, by have := hr.2; omega, by have := hr.2; omega⟩)
def scaleTexts : List ByteArray := [(⟨#[83, 82, 71, 109, 80, 68, 78]⟩ : ByteArray), (⟨#[83, 82, 71, 80, 68]⟩ : ByteArray), (⟨#[83, 114, 71, 109, 80, 100, 78]⟩ : ByteArray), (⟨#[83, 82, 103, 109, 80, 68, 110]⟩ : ByteArray), (⟨#[83, 71, 109, 68, 78]⟩ : ByteArray), (⟨#[83, 82, 71, 77, 80, 68, 78]⟩ : ByteArray), (⟨#[83, 114, 82, 103, 71, 109, 77, 80, 100, 68, 110, 78]⟩ : ByteArray)]
theorem sread_wp : ∀ t ∈ scaleTexts, Wp (fun k => spec_l03Read.f k t) (fun r => scaleP r.1) := by
  have key : ∀ t ∈ scaleTexts, (match spec_l03Read.f 30 t with | some r => decide (scaleP r.1) | none => false) = true := by decide +kernel
  intro t ht
  have := key t ht
  match e : spec_l03Read.f 30 t, this with
  | some r, h => exact ⟨r, of_decide_eq_true h, 30, up_fuel (spec_l03Read.mono t) e⟩
theorem sdraw_wp {c : List Int} (hc : c.length ≤ maxLen) (hb : Bytes c) {s1 s2 : Int} (h0 : 0 ≤ s1) (h1 : s1 ≤ 900000) : Wp (fun k => spec_l03Draw.f k c s1 s2) (fun r => scaleP r.1 ∧ s1 ≤ r.2.1 ∧ r.2.1 ≤ s1 + 40) := by
  simp only [spec_l03Draw.f]
  refine Wp.call (text_wp hc hb h0 (by omega) (by decide)) ?_
  rintro ⟨t, t1, t2⟩ ⟨p, p0, p1⟩
  refine Wp.call (one_wp hc hb (by dsimp only at *; omega) (by dsimp only at *; omega) (by omega)) ?_
  rintro ⟨y, u1, u2⟩ ⟨q0, q1⟩
  dsimp only at *
  refine Wp.iteB (fun _ => ?_) (fun _ => Wp.call (sread_wp t p) (fun r hr => Wp.now ⟨hr, by dsimp only; omega, by dsimp only; omega⟩))
  exact (sdraw_l0 hc hb 11 [0] 1 u1 u2 (by omega) (by omega) (by omega) (by omega) (by simp) (by simp) (by simp) (by simp) rfl).mono (fun r hr => ⟨hr.1, by have := hr.2; omega, by have := hr.2; omega⟩)
theorem r8scale_wp {c : List Int} (hc : c.length ≤ maxLen) (hb : Bytes c) : Wp (fun k => spec_R8Scale.f k c) (fun r => scaleP r) := by
  simp only [spec_R8Scale.f, spec_l00From.f, Option.bind_some]
  exact Wp.call (sdraw_wp hc hb (by omega) (by omega)) (fun r h => Wp.now h.1)
/-! ### all scales -/
def subs : List Int → List (List Int)
  | [] => [[]]
  | x :: l => subs l ++ (subs l).map (x :: ·)
def rng : Nat → Int → List Int
  | 0, _ => []
  | n + 1, a => a :: rng n (a + 1)
theorem subs_mem : ∀ (n : Nat) (a : Int) (l : List Int), l.Pairwise (· < ·) → (∀ x ∈ l, a ≤ x ∧ x < a + n) → l ∈ subs (rng n a)
  | 0, a, l, hp, hx => by
    cases l with
    | nil => simp [rng, subs]
    | cons x t => have := hx x (by simp); omega
  | n + 1, a, l, hp, hx => by
    simp only [rng, subs, List.mem_append, List.mem_map]
    cases l with
    | nil => exact .inl (subs_mem n (a + 1) [] List.Pairwise.nil (by simp))
    | cons x t =>
      have hp' := List.pairwise_cons.1 hp
      by_cases e : x = a
      · subst e
        exact .inr ⟨t, subs_mem n (x + 1) t hp'.2 (fun y hy => by have := hp'.1 y hy; have := hx y (List.mem_cons_of_mem _ hy); omega), rfl⟩
      · have h0 := hx x (by simp)
        refine .inl (subs_mem n (a + 1) (x :: t) hp (fun y hy => ?_))
        rcases List.mem_cons.1 hy with rfl | hy
        · omega
        · have := hp'.1 y hy; have := hx y (List.mem_cons_of_mem _ hy); omega
def SC : List (List Int) := ((subs (rng 11 1)).map (0 :: ·)).filter fun s => decide (5 ≤ s.length)
theorem scale_SC {l : List Int} (h : scaleP l) : l ∈ SC := by
  obtain ⟨h1, h2, h3, h4, h5⟩ := h
  cases l with
  | nil => cases h5
  | cons x t =>
    simp at h5
    subst h5
    have hp := List.pairwise_cons.1 h3
    refine List.mem_filter.2 ⟨List.mem_map.2 ⟨t, subs_mem 11 1 t hp.2 (fun y hy => ?_), rfl⟩, decide_eq_true h1⟩
    have := hp.1 y hy; have := h4 y (List.mem_cons_of_mem _ hy); omega
end Go.Proofs.Ytcfcohfniibpdaa.Pure
