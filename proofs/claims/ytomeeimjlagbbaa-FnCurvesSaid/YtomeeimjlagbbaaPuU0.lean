/- Plain facts: what is drawn of bytes: curves, glides, melodies and notes. -/
import Derived.Laws.Closers25b
import Derived.Laws.Bits64b
import Derived.Test.YtomeeimjlagbbaaPUx1
import Derived.Test.YtomeeimjlagbbaaPUx2
import Derived.Test.YtomeeimjlagbbaaPUx3
import Derived.Test.YtomeeimjlagbbaaPUx5
import Derived.Test.YtomeeimjlagbbaaPUx9
import Derived.Test.YtomeeimjlagbbaaPUx10
import Derived.Test.YtomeeimjlagbbaaPUx15
namespace Go.Proofs.Ytomeeimjlagbbaa.Pure
open Go.RowKit Go.Proofs.Ytomeeimjlagbbaa.PU Go.Proofs.YtomeeimjlagbbaaW.PrintWords Go.Proofs.YtomeeimjlagbbaaW.PrintLast
set_option linter.unusedSimpArgs false
set_option linter.unusedVariables false
/-! ### what a printed function comes to, rounds aside -/
theorem w64 {n : Int} (h0 : -9223372036854775808 ≤ n) (h1 : n ≤ 9223372036854775807) : wrap64 n = n := by unfold wrap64; omega
def Wp {α : Type} (g : Nat → Option α) (Q : α → Prop) : Prop := ∃ r, Q r ∧ ∃ K, ∀ k, K ≤ k → g k = some r
theorem Wp.now {α : Type} {Q : α → Prop} {r : α} (h : Q r) : Wp (fun _ => some r) Q := ⟨r, h, 0, fun _ _ => rfl⟩
theorem Wp.eq {α : Type} {Q : α → Prop} {g : Option α} {r : α} (e : g = some r) (h : Q r) : Wp (fun _ => g) Q := ⟨r, h, 0, fun _ _ => e⟩
theorem Wp.bind {α β : Type} {g : Nat → Option α} {f : Nat → α → Option β} {Q : β → Prop} (h : Wp g (fun a => Wp (fun k => f k a) Q)) : Wp (fun k => (g k).bind (f k)) Q := by
  obtain ⟨a, ⟨r, hr, K', hf⟩, K, hg⟩ := h
  refine ⟨r, hr, max K K', fun k hk => ?_⟩
  simp only [hg k (by omega), Option.bind_some]
  exact hf k (by omega)
theorem Wp.ite {α : Type} {c : Prop} [Decidable c] {g h : Nat → Option α} {Q : α → Prop} (h1 : c → Wp g Q) (h2 : ¬ c → Wp h Q) : Wp (fun k => if c then g k else h k) Q := by
  by_cases e : c
  · simp only [if_pos e]; exact h1 e
  · simp only [if_neg e]; exact h2 e
theorem Wp.step {α : Type} {g : Nat → Option α} {Q : α → Prop} (h : Wp (fun k => g (k + 1)) Q) : Wp g Q := by
  obtain ⟨r, hr, K, hg⟩ := h
  refine ⟨r, hr, K + 1, fun k hk => ?_⟩
  obtain ⟨m, rfl⟩ : ∃ m, k = m + 1 := ⟨k - 1, by omega⟩
  exact hg m (by omega)
theorem Wp.mono {α : Type} {g : Nat → Option α} {P Q : α → Prop} (h : Wp g P) (k : ∀ r, P r → Q r) : Wp g Q := by
  obtain ⟨r, hr, hg⟩ := h
  exact ⟨r, k r hr, hg⟩
theorem Wp.rounds {α : Type} {g : Nat → Option α} {r : α} (h : Wp g (fun x => x = r)) : ∃ k, g k = some r := by
  obtain ⟨_, rfl, K, hg⟩ := h
  exact ⟨K, hg K (Nat.le_refl _)⟩
theorem Wp.same {α : Type} {g : Nat → Option α} {P Q : α → Prop} (h : Wp g P) (k : Wp g Q) : Wp g (fun r => P r ∧ Q r) := by
  obtain ⟨r, hr, K, hg⟩ := h
  obtain ⟨s, hs, K', hg'⟩ := k
  have e : some r = some s := (hg (max K K') (by omega)).symm.trans (hg' _ (by omega))
  injection e with e
  subst e
  exact ⟨r, ⟨hr, hs⟩, K, hg⟩
theorem Wp.pos {α : Type} {c : Prop} [Decidable c] {g h : Nat → Option α} {Q : α → Prop} (e : c) (h1 : Wp g Q) : Wp (fun k => if c then g k else h k) Q := Wp.ite (fun _ => h1) (fun n => absurd e n)
theorem Wp.neg {α : Type} {c : Prop} [Decidable c] {g h : Nat → Option α} {Q : α → Prop} (e : ¬ c) (h1 : Wp h Q) : Wp (fun k => if c then g k else h k) Q := Wp.ite (fun n => absurd n e) (fun _ => h1)
theorem Wp.iteB {α : Type} {b : Bool} {g h : Nat → Option α} {Q : α → Prop} (h1 : b = true → Wp g Q) (h2 : b = false → Wp h Q) : Wp (fun k => if b = true then g k else h k) Q := Wp.ite h1 (fun n => h2 (by simpa using n))
theorem Wp.posB {α : Type} {b : Bool} {g h : Nat → Option α} {Q : α → Prop} (e : b = true) (h1 : Wp g Q) : Wp (fun k => if b = true then g k else h k) Q := Wp.pos e h1
theorem Wp.negB {α : Type} {b : Bool} {g h : Nat → Option α} {Q : α → Prop} (e : b = false) (h1 : Wp h Q) : Wp (fun k => if b = true then g k else h k) Q := Wp.neg (by rw [e]; decide) h1
theorem Wp.call {α β : Type} {g : Nat → Option α} {f : Nat → α → Option β} {P : α → Prop} {Q : β → Prop} (h : Wp g P) (k : ∀ a, P a → Wp (fun n => f n a) Q) : Wp (fun n => (g n).bind (f n)) Q := Wp.bind (h.mono k)
theorem Wp.calls {α β : Type} {g : Option α} {f : Nat → α → Option β} {a : α} {Q : β → Prop} (h : g = some a) (k : Wp (fun n => f n a) Q) : Wp (fun n => g.bind (f n)) Q := Wp.bind (Wp.eq h k)
theorem Wp.val {α β : Type} {g : Nat → Option α} {f : Nat → α → Option β} {a : α} {Q : β → Prop} (h : Wp g (fun x => x = a)) (k : Wp (fun n => f n a) Q) : Wp (fun n => (g n).bind (f n)) Q := Wp.call h (fun _ e => by subst e; exact k)
theorem up_fuel {α : Type} {f : Nat → Option α} (hm : ∀ k, LeO (f k) (f (k + 1))) {K : Nat} {r : α} (h : f K = some r) : ∀ k, K ≤ k → f k = some r := by
  intro k hk
  obtain ⟨d, rfl⟩ : ∃ d, k = K + d := ⟨k - K, by omega⟩
  induction d with
  | zero => exact h
  | succ d ih => exact hm _ _ (ih (by omega))
def Bytes (l : List Int) : Prop := ∀ y ∈ l, (Lit.int .u8 y).wf = true
theorem byte_bd {l : List Int} (h : Bytes l) {i : Int} (h0 : 0 ≤ i) (h1 : i < l.length) : 0 ≤ rd l i ∧ rd l i ≤ 255 := by
  have e : rd l i ∈ l := by
    rw [show rd l i = l[i.toNat]'(by omega) from by simp [rd, List.getD_eq_getElem?_getD, List.getElem?_eq_getElem (show i.toNat < l.length by omega)]]
    exact List.getElem_mem _
  have := h _ e
  simp only [Lit.wf, Bool.and_eq_true, decide_eq_true_eq] at this
  have h2 : IntKind.min .u8 = 0 := by rfl
  have h3 : IntKind.max .u8 = 255 := by rfl
  omega
theorem and255 (x : Int) : 0 ≤ Go.bits .and .u64 (IntKind.u64.wrap x / 1099511627776) 255 ∧ Go.bits .and .u64 (IntKind.u64.wrap x / 1099511627776) 255 ≤ 255 := by
  have hw : 0 ≤ IntKind.u64.wrap x ∧ IntKind.u64.wrap x < 18446744073709551616 := by rw [IntKind.wrap_u64]; omega
  generalize IntKind.u64.wrap x = y at hw
  obtain ⟨n, hn⟩ : ∃ n : Nat, y / 1099511627776 = n := ⟨(y / 1099511627776).toNat, by omega⟩
  rw [hn, show (255 : Int) = ((255 : Nat) : Int) from rfl, bits_and_u64_nat n 255 (by omega) (by decide)]
  have := Nat.and_le_right (n := n) (m := 255)
  omega
theorem next_ev {l : List Int} (_ : l.length ≤ maxLen) (hb : Bytes l) (s1 s2 : Int) (h0 : 0 ≤ s1) (h1 : s1 ≤ 1000000000) :
    ∃ x s2', spec_l00Src_next.f l s1 s2 = some (x, s1 + 1, s2') ∧ 0 ≤ x ∧ x ≤ 255 := by
  have hm : wrap64 (s1 + 1) = s1 + 1 := w64 (by omega) (by omega)
  unfold spec_l00Src_next.f
  rw [hm]
  by_cases c : s1 < (l.length : Int)
  · have hr := byte_bd hb h0 c
    rw [if_pos c, if_pos h0, if_pos (by omega), w64 (n := rd l s1) (by omega) (by omega)]
    exact ⟨_, _, rfl, hr⟩
  · rw [if_neg c]
    by_cases d : s1 + 1 ≤ (l.length : Int)
    · omega
    · rw [if_neg d]
      refine ⟨_, _, rfl, ?_⟩
      have ha := and255 ((IntKind.u64.wrap ((IntKind.u64.wrap (s2 * 6364136223846793005)))) + 1442695040888963407)
      rw [w64 (by omega) (by omega)]
      exact ha
theorem pick_ev {l : List Int} (hl : l.length ≤ maxLen) (hb : Bytes l) (s1 s2 n : Int) (h0 : 0 ≤ s1) (h1 : s1 ≤ 100000000) (hn : 1 ≤ n) :
    ∃ x s1' s2', spec_l00Src_pick.f l s1 s2 n = some (x, s1', s2') ∧ 0 ≤ x ∧ x < n ∧ s1 ≤ s1' ∧ s1' ≤ s1 + 2 := by
  unfold spec_l00Src_pick.f
  by_cases c : n ≤ 1
  · rw [if_pos c]; exact ⟨0, s1, s2, rfl, by omega, by omega, by omega, by omega⟩
  · rw [if_neg c]
    obtain ⟨x, t2, e1, hx1, hx2⟩ := next_ev hl hb s1 s2 h0 (by omega)
    rw [e1]
    simp only [Option.bind_some]
    by_cases d : n > 200
    · rw [if_pos d]
      obtain ⟨y, t3, e2, hy1, hy2⟩ := next_ev hl hb (s1 + 1) t2 (by omega) (by omega)
      rw [e2]
      simp only [Option.bind_some]
      rw [if_neg (by omega), w64 (n := x * 256) (by omega) (by omega), w64 (n := x * 256 + y) (by omega) (by omega)]
      exact ⟨_, _, _, rfl, Int.tmod_nonneg _ (by omega), Int.tmod_lt_of_pos _ (by omega), by omega, by omega⟩
    · rw [if_neg d, if_neg (by omega)]
      exact ⟨_, _, _, rfl, Int.tmod_nonneg _ (by omega), Int.tmod_lt_of_pos _ (by omega), by omega, by omega⟩
theorem rd_get {c : List Int} {i : Int} (h0 : 0 ≤ i) (h1 : i < c.length) : rd c i = c[i.toNat]'(by omega) := by
  simp [rd, List.getD_eq_getElem?_getD, List.getElem?_eq_getElem (show i.toNat < c.length by omega)]
theorem rd_mem {c : List Int} {i : Int} (h0 : 0 ≤ i) (h1 : i < c.length) : rd c i ∈ c := by
  rw [rd_get h0 h1]; exact List.getElem_mem _
theorem drop_cons {c : List Int} {i : Int} (h0 : 0 ≤ i) (h1 : i < c.length) : c.drop i.toNat = rd c i :: c.drop (i + 1).toNat := by
  rw [rd_get h0 h1, show (i + 1).toNat = i.toNat + 1 by omega]
  exact List.drop_eq_getElem_cons (by omega)
theorem rd_T40_get {c : List S40} {i : Int} (h0 : 0 ≤ i) (h1 : i < c.length) : rd_T40 c i = c[i.toNat]'(by omega) := by
  simp [rd_T40, List.getD_eq_getElem?_getD, List.getElem?_eq_getElem (show i.toNat < c.length by omega)]
theorem rd_T40_mem {c : List S40} {i : Int} (h0 : 0 ≤ i) (h1 : i < c.length) : rd_T40 c i ∈ c := by
  rw [rd_T40_get h0 h1]; exact List.getElem_mem _
theorem rd_T40_drop {c : List S40} {i : Int} (h0 : 0 ≤ i) (h1 : i < c.length) : c.drop i.toNat = rd_T40 c i :: c.drop (i + 1).toNat := by
  rw [rd_T40_get h0 h1, show (i + 1).toNat = i.toNat + 1 by omega]
  exact List.drop_eq_getElem_cons (by omega)
theorem pick_wp {l : List Int} (hl : l.length ≤ maxLen) (hb : Bytes l) {s1 s2 n : Int} (h0 : 0 ≤ s1) (h1 : s1 ≤ 100000000) (hn : 1 ≤ n) :
    Wp (fun _ => spec_l00Src_pick.f l s1 s2 n) (fun r => 0 ≤ r.1 ∧ r.1 < n ∧ s1 ≤ r.2.1 ∧ r.2.1 ≤ s1 + 2) := by
  obtain ⟨x, t1, t2, e, x0, x1, p0, p1⟩ := pick_ev hl hb s1 s2 n h0 h1 hn
  exact Wp.eq e ⟨x0, x1, p0, p1⟩
theorem one_wp {l : List Int} (hl : l.length ≤ maxLen) (hb : Bytes l) {s1 s2 n : Int} (h0 : 0 ≤ s1) (h1 : s1 ≤ 100000000) (hn : 1 ≤ n) :
    Wp (fun _ => spec_l00Src_one.f l s1 s2 n) (fun r => s1 ≤ r.2.1 ∧ r.2.1 ≤ s1 + 2) := by
  obtain ⟨x, t1, t2, e, x0, x1, p0, p1⟩ := pick_ev hl hb s1 s2 n h0 h1 hn
  exact Wp.eq (r := ((x == 0), t1, t2)) (by simp only [spec_l00Src_one.f]; rw [e]; rfl) ⟨p0, p1⟩
theorem among_wp {l : List Int} (hl : l.length ≤ maxLen) (hb : Bytes l) {s1 s2 : Int} {L : List Int} (h0 : 0 ≤ s1) (h1 : s1 ≤ 100000000) (hL : 1 ≤ L.length) :
    Wp (fun _ => spec_l00Src_among.f l s1 s2 L) (fun r => r.1 ∈ L ∧ s1 ≤ r.2.1 ∧ r.2.1 ≤ s1 + 2) := by
  obtain ⟨x, t1, t2, e, x0, x1, p0, p1⟩ := pick_ev hl hb s1 s2 (L.length : Int) h0 h1 (by omega)
  refine Wp.eq (r := (rd L x, t1, t2)) ?_ ⟨rd_mem x0 x1, p0, p1⟩
  simp only [spec_l00Src_among.f]
  rw [e]
  simp only [Option.bind_some]
  rw [if_pos x0, if_pos x1]
def vNote (x : S40) : Bool := decide (-12 ≤ x.f0 ∧ x.f0 ≤ 23 ∧ 1 ≤ x.f1 ∧ x.f1 ≤ 64)
def vm (m : List S40) : Bool := decide (m.length ≤ 48) && m.all vNote
theorem l03Pitch_f (a : Int) : spec_l03Pitch.f a = some (decide (-12 ≤ a ∧ a ≤ 23)) := by
  unfold spec_l03Pitch.f spec_l00In.f
  by_cases h : a ≥ -12
  · simp only [if_pos h, Option.bind_some]; congr 1; exact decide_eq_decide.2 ⟨fun x => ⟨h, x⟩, fun x => x.2⟩
  · simp only [if_neg h, Option.bind_some]; congr 1; symm; exact decide_eq_false (fun x => h x.1)
theorem l09Length_f (a : Int) : spec_l09Length.f a = some (decide (1 ≤ a ∧ a ≤ 64)) := by
  unfold spec_l09Length.f spec_l00In.f
  by_cases h : a ≥ 1
  · simp only [if_pos h, Option.bind_some]; congr 1; exact decide_eq_decide.2 ⟨fun x => ⟨h, x⟩, fun x => x.2⟩
  · simp only [if_neg h, Option.bind_some]; congr 1; symm; exact decide_eq_false (fun x => h x.1)
theorem l09Ok_l0 (m : List S40) (hm : m.length ≤ 10000) : ∀ (d : Nat) (i : Int), 0 ≤ i → i + d = m.length → Wp (fun k => spec_l09Ok.l0 k m i) (fun r => r = ((m.drop i.toNat).all vNote && decide (m.length ≤ 48)))
  | 0, i, h0, h1 => by
    refine Wp.step ?_
    simp only [spec_l09Ok.l0]
    refine Wp.neg (by omega) (Wp.now ?_)
    rw [List.drop_eq_nil_of_le (by omega)]; simp only [List.all_nil, Bool.true_and]; exact decide_eq_decide.2 (by omega)
  | d + 1, i, h0, h1 => by
    refine Wp.step ?_
    simp only [spec_l09Ok.l0, l03Pitch_f, l09Length_f, Option.bind_some]
    refine Wp.pos (by omega) (Wp.pos h0 ?_)
    simp (disch := omega) only [w64]
    rw [rd_T40_drop h0 (by omega), List.all_cons]
    refine Wp.iteB (fun e => Wp.iteB (fun e' => ?_) (fun e' => ?_)) (fun e => ?_)
    · rw [decide_eq_true_eq] at e e'
      rw [show vNote (rd_T40 m i) = true from decide_eq_true ⟨e.1, e.2, e'.1, e'.2⟩, Bool.true_and]
      exact l09Ok_l0 m hm d (i + 1) (by omega) (by omega)
    · rw [decide_eq_false_iff_not] at e'
      rw [show vNote (rd_T40 m i) = false from decide_eq_false (fun h => e' ⟨h.2.2.1, h.2.2.2⟩)]
      exact Wp.now rfl
    · rw [decide_eq_false_iff_not] at e
      rw [show vNote (rd_T40 m i) = false from decide_eq_false (fun h => e ⟨h.1, h.2.1⟩)]
      exact Wp.now rfl
theorem l09Ok_wp (m : List S40) (hm : m.length ≤ 10000) : Wp (fun k => spec_l09Ok.f k m) (fun r => r = vm m) := by
  simp only [spec_l09Ok.f]
  refine (l09Ok_l0 m hm m.length 0 (by omega) (by omega)).mono ?_
  rintro r rfl
  simp [vm, Bool.and_comm]
theorem ldraw_l0 {c : List Int} (hc : c.length ≤ maxLen) (hb : Bytes c) : ∀ (d : Nat) (x3 : List S40) (x4 s1 s2 : Int), 0 ≤ s1 → s1 + 4 * d ≤ 1000000 → x3.length + d ≤ 1000 → -12 ≤ x4 → x4 ≤ 23 → (∀ x ∈ x3, vNote x = true) →
    Wp (fun k => spec_l09Draw.l0 k x3 x4 (d : Int) c s1 s2) (fun r => r.1.length = x3.length + d ∧ s1 ≤ r.2.1 ∧ r.2.1 ≤ s1 + 4 * d ∧ ∀ x ∈ r.1, vNote x = true)
  | 0, x3, x4, s1, s2, h0, h1, h2, h3, h4, h5 => by
    refine Wp.step ?_
    simp only [spec_l09Draw.l0]
    refine Wp.neg (by omega) (Wp.now ⟨by simp, by simp, by simp, h5⟩)
  | d + 1, x3, x4, s1, s2, h0, h1, h2, h3, h4, h5 => by
    refine Wp.step ?_
    simp only [spec_l09Draw.l0]
    refine Wp.pos (by omega) (Wp.call (pick_wp hc hb h0 (by omega) (by omega)) ?_)
    rintro ⟨x, t1, t2⟩ ⟨p0, p1, p2, p3⟩
    dsimp only at *
    simp (disch := omega) only [w64]
    refine Wp.calls (a := if 23 < x4 + x - 4 then 23 else x4 + x - 4) (by unfold spec_l00Min.f; split <;> rfl) ?_
    generalize hy : (if 23 < x4 + x - 4 then 23 else x4 + x - 4) = y
    refine Wp.calls (a := if -12 > y then -12 else y) (by unfold spec_l00Max.f; split <;> rfl) ?_
    generalize hz : (if -12 > y then -12 else y) = z
    refine Wp.call (among_wp hc hb (by omega) (by omega) (by decide)) ?_
    rintro ⟨x', t1', t2'⟩ ⟨q0, q1, q2⟩
    dsimp only at *
    refine Wp.pos (by omega) ?_
    rw [show ((d + 1 : Nat) : Int) - 1 = d by omega]
    refine (ldraw_l0 hc hb d _ _ _ _ (by omega) (by omega) (by simp; omega) (by omega) (by omega) ?_).mono ?_
    · intro u hu
      rcases List.mem_append.1 hu with h | h
      · exact h5 u h
      · rw [List.mem_singleton.1 h]
        have hq : x' = 1 ∨ x' = 2 ∨ x' = 3 ∨ x' = 4 ∨ x' = 6 := by simp at q0; omega
        exact decide_eq_true ⟨by dsimp only; omega, by dsimp only; omega, by dsimp only; omega, by dsimp only; omega⟩
    · rintro ⟨m, u1, u2⟩ ⟨r0, r1, r2, r3⟩
      dsimp only at *
      exact ⟨by rw [r0]; simp; omega, by omega, by omega, r3⟩
theorem ldraw_wp {c : List Int} (hc : c.length ≤ maxLen) (hb : Bytes c) {s1 s2 : Int} (h0 : 0 ≤ s1) (h1 : s1 ≤ 900000) :
    Wp (fun k => spec_l09Draw.f k c s1 s2) (fun r => r.1.length ≤ 9 ∧ vm r.1 = true ∧ s1 ≤ r.2.1 ∧ r.2.1 ≤ s1 + 50) := by
  simp only [spec_l09Draw.f]
  refine Wp.call (pick_wp hc hb h0 (by omega) (by omega)) ?_
  rintro ⟨x, t1, t2⟩ ⟨p0, p1, p2, p3⟩
  refine Wp.call (pick_wp hc hb (by omega) (by omega) (by omega)) ?_
  rintro ⟨y, u1, u2⟩ ⟨q0, q1, q2, q3⟩
  dsimp only at *
  rw [show y = ((y.toNat : Nat) : Int) by omega]
  refine (ldraw_l0 hc hb y.toNat _ _ _ _ (by omega) (by omega) (by simp; omega) (by omega) (by omega) (by simp)).mono ?_
  rintro ⟨m, u1, u2⟩ ⟨r0, r1, r2, r3⟩
  dsimp only at *
  simp only [List.length_nil] at r0
  refine ⟨by omega, ?_, by omega, by omega⟩
  unfold vm
  rw [Bool.and_eq_true]
  exact ⟨decide_eq_true (by omega), List.all_eq_true.2 r3⟩
theorem vm_len {m : List S40} (h : vm m = true) : m.length ≤ 48 := by unfold vm at h; simp at h; exact h.1
theorem vm_note {m : List S40} (h : vm m = true) {x : S40} (hx : x ∈ m) : -12 ≤ x.f0 ∧ x.f0 ≤ 23 ∧ 1 ≤ x.f1 ∧ x.f1 ≤ 64 := by
  unfold vm at h
  rw [Bool.and_eq_true] at h
  have := List.all_eq_true.1 h.2 x hx
  unfold vNote at this
  simpa using this
theorem lbent_l0 {c : List Int} (s1 s2 n : Int) (hn : n ≤ 100) : ∀ (d : Nat) (x : List S40), x.length + d = n.toNat → x.length ≤ 100 →
    Wp (fun k => spec_l09Bent.l0 k x n c s1 s2) (fun r => r.1.length ≤ 100 ∧ r.2.1 = s1)
  | 0, x, h, hl => by
    refine Wp.step ?_
    simp only [spec_l09Bent.l0]
    exact Wp.neg (by omega) (Wp.now ⟨hl, rfl⟩)
  | d + 1, x, h, hl => by
    refine Wp.step ?_
    simp only [spec_l09Bent.l0]
    exact Wp.pos (by omega) (Wp.pos (by omega) (lbent_l0 s1 s2 n hn d _ (by simp; omega) (by simp; omega)))
theorem lbent_wp {c : List Int} (hc : c.length ≤ maxLen) (hb : Bytes c) {s1 s2 : Int} (h0 : 0 ≤ s1) (h1 : s1 ≤ 900000) :
    Wp (fun k => spec_l09Bent.f k c s1 s2) (fun r => r.1.length ≤ 100 ∧ s1 ≤ r.2.1 ∧ r.2.1 ≤ s1 + 60) := by
  simp only [spec_l09Bent.f]
  refine Wp.call (ldraw_wp hc hb h0 (by omega)) ?_
  rintro ⟨m, t1, t2⟩ ⟨p0, _, p1, p2⟩
  refine Wp.call (pick_wp hc hb (by omega) (by omega) (by omega)) ?_
  rintro ⟨y, u1, u2⟩ ⟨q0, q1, q2, q3⟩
  dsimp only at *
  refine Wp.ite (fun _ => ?_) (fun _ => Wp.ite (fun _ => ?_) (fun _ => Wp.ite (fun _ => ?_) (fun _ => ?_)))
  · refine Wp.call (among_wp hc hb (by omega) (by omega) (by decide)) ?_
    rintro ⟨x', t1', t2'⟩ ⟨q0, q1, q2⟩
    dsimp only at *
    exact Wp.pos (by omega) (Wp.now ⟨by simp; omega, by simp; omega, by simp; omega⟩)
  · refine Wp.call (among_wp hc hb (by omega) (by omega) (by decide)) ?_
    rintro ⟨x', t1', t2'⟩ ⟨q0, q1, q2⟩
    dsimp only at *
    exact Wp.pos (by omega) (Wp.now ⟨by simp; omega, by simp; omega, by simp; omega⟩)
  · refine Wp.call (pick_wp hc hb (by omega) (by omega) (by omega)) ?_
    rintro ⟨x', t1', t2'⟩ ⟨q0, q1, q2, q3⟩
    dsimp only at *
    simp (disch := omega) only [w64]
    refine (lbent_l0 t1' t2' (47 + x') (by omega) ((47 + x').toNat - m.length) m (by omega) (by omega)).mono ?_
    rintro ⟨m', w1, w2⟩ ⟨r0, r1⟩
    dsimp only at *
    exact ⟨r0, by omega, by omega⟩
  · exact Wp.now ⟨by dsimp only; omega, by dsimp only; omega, by dsimp only; omega⟩
theorem dpitch_wp {c : List Int} (hc : c.length ≤ maxLen) (hb : Bytes c) {s1 s2 : Int} (h0 : 0 ≤ s1) (h1 : s1 ≤ 900000) :
    Wp (fun k => spec_l03DrawPitch.f c s1 s2) (fun r => s1 ≤ r.2.1 ∧ r.2.1 ≤ s1 + 10) := by
  simp only [spec_l03DrawPitch.f]
  refine Wp.call (pick_wp hc hb (by omega) (by omega) (by omega)) ?_
  rintro ⟨y, u1, u2⟩ ⟨q0, q1, q2, q3⟩
  dsimp only at *
  refine Wp.call (one_wp hc hb (by omega) (by omega) (by omega)) ?_
  rintro ⟨z, v1, v2⟩ ⟨r1, r2⟩
  dsimp only at *
  refine Wp.iteB (fun _ => ?_) (fun _ => ?_)
  · refine Wp.call (among_wp hc hb (by omega) (by omega) (by decide)) ?_
    rintro ⟨x', t1', t2'⟩ ⟨h9, q1, q2⟩
    dsimp only at *
    exact Wp.now ⟨by simp; omega, by simp; omega⟩
  · exact Wp.now ⟨by simp; omega, by simp; omega⟩

theorem mcurve_l1 {m : List S40} {i : Int} (h0 : 0 ≤ i) (h1 : i < m.length) (hb : (rd_T40 m i).f1 ≤ 64) {Q : List Int × Int → Prop} : ∀ (d : Nat) (acc : List Int) (u : Int), (rd_T40 m i).f1 - u ≤ d → 0 ≤ u → acc.length + d ≤ 100000 →
    (∀ acc' : List Int, acc'.length ≤ acc.length + d → Wp (fun k => spec_MelodyCurve.l0 k m acc' (wrap64 (i + 1))) Q) → Wp (fun k => spec_MelodyCurve.l1 k m acc i u) Q
  | 0, acc, u, hu, u0, ha, H => by
    refine Wp.step ?_
    simp only [spec_MelodyCurve.l1]
    exact Wp.pos h0 (Wp.pos h1 (Wp.neg (by omega) (H acc (by omega))))
  | d + 1, acc, u, hu, u0, ha, H => by
    refine Wp.step ?_
    simp only [spec_MelodyCurve.l1]
    refine Wp.pos h0 (Wp.pos h1 (Wp.ite (fun hlt => Wp.pos (by omega) ?_) (fun _ => H acc (by omega))))
    rw [w64 (n := u + 1) (by omega) (by omega)]
    exact mcurve_l1 h0 h1 hb d _ (u + 1) (by omega) (by omega) (by simp; omega) (fun acc' h => H acc' (by simp at h; omega))
theorem mcurve_l0 {m : List S40} (hv : vm m = true) : ∀ (d : Nat) (acc : List Int) (i : Int), 0 ≤ i → i + d = m.length → acc.length + 64 * d ≤ 10000 → Wp (fun k => spec_MelodyCurve.l0 k m acc i) (fun r => r.1.length ≤ 10000)
  | 0, acc, i, h0, h1, h2 => by
    refine Wp.step ?_
    simp only [spec_MelodyCurve.l0]
    exact Wp.neg (by omega) (Wp.now (by dsimp only; omega))
  | d + 1, acc, i, h0, h1, h2 => by
    have hn := vm_note hv (rd_T40_mem (i := i) h0 (by omega))
    have hl := vm_len hv
    refine Wp.step ?_
    simp only [spec_MelodyCurve.l0]
    refine Wp.pos (by omega) (mcurve_l1 h0 (by omega) hn.2.2.2 64 acc 0 (by omega) (by omega) (by omega) (fun acc' h => ?_))
    rw [w64 (n := i + 1) (by omega) (by omega)]
    exact mcurve_l0 hv d acc' (i + 1) (by omega) (by omega) (by omega)
theorem mcurve_wp (m : List S40) (hm : m.length ≤ 1000) : Wp (fun k => spec_MelodyCurve.f k m) (fun r => r.1.length ≤ 10000) := by
  simp only [spec_MelodyCurve.f]
  refine Wp.val (l09Ok_wp m (by omega)) (Wp.iteB (fun hv => mcurve_l0 hv m.length [] 0 (by omega) (by omega) (by have := vm_len hv; simp; omega)) (fun _ => Wp.now (by simp)))
theorem dcurve_l1 {c : List Int} (s1 s2 : Int) : ∀ (d : Nat) (x : List Int) (i : Int), 0 ≤ i → i + d = 49 → x.length + d ≤ 20000 → Wp (fun k => spec_l10DrawCurve.l1 k x i c s1 s2) (fun r => r.1.length ≤ x.length + d ∧ r.2.1 = s1)
  | 0, x, i, h0, h1, h2 => by
    refine Wp.step ?_
    simp only [spec_l10DrawCurve.l1]
    exact Wp.neg (by omega) (Wp.now ⟨by simp, rfl⟩)
  | d + 1, x, i, h0, h1, h2 => by
    refine Wp.step ?_
    simp only [spec_l10DrawCurve.l1]
    rw [w64 (n := i + 1) (by omega) (by omega)]
    exact Wp.pos (by omega) (Wp.pos (by omega) ((dcurve_l1 s1 s2 d _ (i + 1) (by omega) (by omega) (by simp; omega)).mono (fun r hr => ⟨by have := hr.1; simp at this; omega, hr.2⟩)))
theorem dcurve_l0 {c : List Int} (hc : c.length ≤ maxLen) (hb : Bytes c) : ∀ (d : Nat) (x : List Int) (i s1 s2 : Int), 0 ≤ i → i + d = x.length → x.length ≤ 10000 → 0 ≤ s1 → s1 + 4 * d ≤ 1000000 →
    Wp (fun k => spec_l10DrawCurve.l0 k x i c s1 s2) (fun r => r.1.length ≤ 20000 ∧ s1 ≤ r.2.1 ∧ r.2.1 ≤ s1 + 4 * d + 10)
  | 0, x, i, s1, s2, h0, h1, h2, h3, h4 => by
    refine Wp.step ?_
    simp only [spec_l10DrawCurve.l0]
    refine Wp.neg (by omega) (Wp.call (pick_wp hc hb (by omega) (by omega) (by omega)) ?_)
    rintro ⟨y, u1, u2⟩ ⟨q0, q1, q2, q3⟩
    dsimp only at *
    refine Wp.ite (fun _ => ?_) (fun _ => Wp.ite (fun _ => ?_) (fun _ => Wp.ite (fun _ => ?_) (fun _ => ?_)))
    · refine Wp.call (among_wp hc hb (by omega) (by omega) (by decide)) ?_
      rintro ⟨z, v1, v2⟩ ⟨r0, r1, r2⟩
      dsimp only at *
      exact Wp.pos (by omega) (Wp.now ⟨by simp; omega, by dsimp only; omega, by dsimp only; omega⟩)
    · refine Wp.call (among_wp hc hb (by omega) (by omega) (by decide)) ?_
      rintro ⟨z, v1, v2⟩ ⟨r0, r1, r2⟩
      have hz : z = 3072 ∨ z = 3073 := by simpa using r0
      dsimp only at *
      exact Wp.pos (by omega) (Wp.pos (by omega) (Wp.now ⟨by simp; omega, by dsimp only; omega, by dsimp only; omega⟩))
    · refine (dcurve_l1 u1 u2 49 x 0 (by omega) (by omega) (by omega)).mono ?_
      rintro ⟨z, v1, v2⟩ ⟨r0, r1⟩
      dsimp only at *
      exact ⟨by omega, by omega, by omega⟩
    · exact Wp.now ⟨by dsimp only; omega, by dsimp only; omega, by dsimp only; omega⟩
  | d + 1, x, i, s1, s2, h0, h1, h2, h3, h4 => by
    refine Wp.step ?_
    simp only [spec_l10DrawCurve.l0]
    rw [w64 (n := i + 1) (by omega) (by omega)]
    refine Wp.pos (by omega) (Wp.call (one_wp hc hb (by omega) (by omega) (by omega)) ?_)
    rintro ⟨y, u1, u2⟩ ⟨q0, q1⟩
    dsimp only at *
    refine Wp.iteB (fun _ => Wp.pos h0 (Wp.call (among_wp hc hb (by omega) (by omega) (by decide)) ?_)) (fun _ => ?_)
    · rintro ⟨z, v1, v2⟩ ⟨r0, r1, r2⟩
      dsimp only at *
      refine (dcurve_l0 hc hb d _ (i + 1) v1 v2 (by omega) (by simp; omega) (by simp; omega) (by omega) (by omega)).mono ?_
      rintro ⟨w, a1, a2⟩ ⟨e0, e1, e2⟩
      dsimp only at *
      exact ⟨e0, by omega, by omega⟩
    · refine (dcurve_l0 hc hb d _ (i + 1) u1 u2 (by omega) (by omega) (by omega) (by omega) (by omega)).mono ?_
      rintro ⟨w, a1, a2⟩ ⟨e0, e1, e2⟩
      dsimp only at *
      exact ⟨e0, by omega, by omega⟩
theorem drawSmooth_wp {c : List Int} (hc : c.length ≤ maxLen) (hb : Bytes c) : Wp (fun k => spec_DrawSmoothCurve.f k c) (fun r => r.1.length ≤ 20000) := by
  simp only [spec_DrawSmoothCurve.f, spec_l00From.f, Option.bind_some, spec_l10DrawCurve.f]
  refine Wp.call (P := fun r => r.1.length ≤ 20000 ∧ 0 ≤ r.2.1 ∧ r.2.1 ≤ 100000) (Wp.call (ldraw_wp hc hb (by omega) (by omega)) ?_) ?_
  · rintro ⟨m, t1, t2⟩ ⟨p0, _, p1, p2⟩
    refine Wp.call (mcurve_wp m (by dsimp only at *; omega)) ?_
    rintro ⟨x, e⟩ hx
    dsimp only at *
    refine (dcurve_l0 hc hb x.length x 0 t1 t2 (by omega) (by omega) (by omega) (by omega) (by omega)).mono ?_
    rintro ⟨w, a1, a2⟩ ⟨e0, e1, e2⟩
    dsimp only at *
    exact ⟨e0, by omega, by omega⟩
  · rintro ⟨x, t1, t2⟩ ⟨p0, p1, p2⟩
    dsimp only at *
    refine Wp.call (among_wp hc hb (by omega) (by omega) (by decide)) ?_
    rintro ⟨z, v1, v2⟩ _
    exact Wp.now p0
theorem cents_wp {c : List Int} (hc : c.length ≤ maxLen) (hb : Bytes c) {s1 s2 : Int} (h0 : 0 ≤ s1) (h1 : s1 ≤ 900000) : Wp (fun _ => spec_l10DrawCents.f c s1 s2) (fun r => s1 ≤ r.2.1 ∧ r.2.1 ≤ s1 + 10) := by
  simp only [spec_l10DrawCents.f]
  refine Wp.call (one_wp hc hb (by omega) (by omega) (by omega)) ?_
  rintro ⟨y, u1, u2⟩ ⟨q0, q1⟩
  dsimp only at *
  refine Wp.iteB (fun _ => Wp.call (among_wp hc hb (by omega) (by omega) (by decide)) ?_) (fun _ => Wp.call (pick_wp hc hb (by omega) (by omega) (by omega)) ?_)
  · rintro ⟨z, v1, v2⟩ ⟨r0, r1, r2⟩
    exact Wp.now ⟨by dsimp only at *; omega, by dsimp only at *; omega⟩
  · rintro ⟨z, v1, v2⟩ ⟨_, _, r1, r2⟩
    exact Wp.now ⟨by dsimp only at *; omega, by dsimp only at *; omega⟩
theorem drawGlide_wp {c : List Int} (hc : c.length ≤ maxLen) (hb : Bytes c) : Wp (fun _ => spec_DrawGlideCurve.f c) (fun _ => True) := by
  simp only [spec_DrawGlideCurve.f, spec_l00From.f, Option.bind_some, spec_l10DrawLength.f]
  refine Wp.call (cents_wp hc hb (by omega) (by omega)) ?_
  rintro ⟨x, t1, t2⟩ ⟨p0, p1⟩
  refine Wp.call (cents_wp hc hb (by omega) (by omega)) ?_
  rintro ⟨y, u1, u2⟩ ⟨q0, q1⟩
  dsimp only at *
  refine Wp.call (Wp.call (among_wp hc hb (by omega) (by omega) (by decide)) (fun r _ => Wp.now (Q := fun _ => True) trivial)) (fun r _ => Wp.now trivial)
theorem place_wp {c : List Int} (hc : c.length ≤ maxLen) (hb : Bytes c) (m : List S40) {s1 s2 : Int} (h0 : 0 ≤ s1) (h1 : s1 ≤ 900000) : Wp (fun _ => spec_l10DrawPlace.f c s1 s2 m) (fun r => s1 ≤ r.2.1 ∧ r.2.1 ≤ s1 + 10) := by
  simp only [spec_l10DrawPlace.f]
  refine Wp.call (one_wp hc hb (by omega) (by omega) (by omega)) ?_
  rintro ⟨y, u1, u2⟩ ⟨q0, q1⟩
  dsimp only at *
  refine Wp.iteB (fun _ => Wp.call (among_wp hc hb (by omega) (by omega) (by simp)) ?_) (fun _ => ?_)
  · rintro ⟨z, v1, v2⟩ ⟨r0, r1, r2⟩
    exact Wp.now ⟨by dsimp only at *; omega, by dsimp only at *; omega⟩
  · have e : spec_l00Max.f 1 (m.length : Int) = some (if (1 : Int) > (m.length : Int) then (1 : Int) else (m.length : Int)) := by unfold spec_l00Max.f; split <;> rfl
    refine Wp.calls e (Wp.call (pick_wp hc hb (by omega) (by omega) (by split <;> omega)) ?_)
    rintro ⟨z, v1, v2⟩ ⟨_, _, r1, r2⟩
    exact Wp.now ⟨by dsimp only at *; omega, by dsimp only at *; omega⟩
theorem drawGrace_wp {c : List Int} (hc : c.length ≤ maxLen) (hb : Bytes c) : Wp (fun k => spec_DrawGraceNotes.f k c) (fun r => r.1.length ≤ 100) := by
  simp only [spec_DrawGraceNotes.f, spec_l00From.f, Option.bind_some]
  refine Wp.call (lbent_wp hc hb (by omega) (by omega)) ?_
  rintro ⟨m, t1, t2⟩ ⟨p0, p1, p2⟩
  refine Wp.call (place_wp hc hb m (by omega) (by omega)) ?_
  rintro ⟨x, u1, u2⟩ ⟨q0, q1⟩
  refine Wp.call (dpitch_wp hc hb (by dsimp only at *; omega) (by dsimp only at *; omega)) ?_
  rintro ⟨y, v1, v2⟩ ⟨r0, r1⟩
  refine Wp.call (among_wp hc hb (by dsimp only at *; omega) (by dsimp only at *; omega) (by decide)) (fun r _ => Wp.now p0)
theorem drawTrill_wp {c : List Int} (hc : c.length ≤ maxLen) (hb : Bytes c) : Wp (fun k => spec_DrawTrillNote.f k c) (fun r => r.1.length ≤ 100) := by
  simp only [spec_DrawTrillNote.f, spec_l00From.f, Option.bind_some]
  refine Wp.call (lbent_wp hc hb (by omega) (by omega)) ?_
  rintro ⟨m, t1, t2⟩ ⟨p0, p1, p2⟩
  refine Wp.call (one_wp hc hb (by dsimp only at *; omega) (by dsimp only at *; omega) (by omega)) ?_
  rintro ⟨b, t1', t2'⟩ ⟨p1', p2'⟩
  dsimp only at *
  refine Wp.iteB (fun _ => ?_) (fun _ => ?_)
  all_goals
    refine Wp.call (place_wp hc hb _ (by omega) (by omega)) ?_
    rintro ⟨x, u1, u2⟩ ⟨q0, q1⟩
    refine Wp.call (dpitch_wp hc hb (by dsimp only at *; omega) (by dsimp only at *; omega)) ?_
    rintro ⟨y, v1, v2⟩ ⟨r0, r1⟩
    refine Wp.call (among_wp hc hb (by dsimp only at *; omega) (by dsimp only at *; omega) (by decide)) (fun r _ => Wp.now (by first | exact p0 | simp))
end Go.Proofs.Ytomeeimjlagbbaa.Pure
