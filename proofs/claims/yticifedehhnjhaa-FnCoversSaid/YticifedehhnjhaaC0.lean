/- Words for functions that are read with a bound; sources that are drawn from. -/
import Derived.Test.YticifedehhnjhaaFC
namespace Go.Proofs.Yticifedehhnjhaa.F
open Go Go.Proofs.Yticifedehhnjhaa.Eng
set_option linter.unusedSimpArgs false
set_option linter.unusedVariables false
def Wp {α : Type} (g : Nat → Option α) (Q : α → Prop) : Prop := ∃ r, Q r ∧ ∃ K, ∀ k, K ≤ k → g k = some r
section
variable {α β : Type} {g h : Nat → Option α} {f : Nat → α → Option β} {P Q : α → Prop} {R : β → Prop}
theorem Wp.now {r : α} (h : Q r) : Wp (fun _ => some r) Q := ⟨r, h, 0, fun _ _ => rfl⟩
theorem Wp.bind (h : Wp g (fun a => Wp (fun k => f k a) R)) : Wp (fun k => (g k).bind (f k)) R := by
  obtain ⟨a, ⟨r, hr, K', hf⟩, K, hg⟩ := h
  refine ⟨r, hr, max K K', fun k hk => ?_⟩
  simp only [hg k (by omega), Option.bind_some]
  exact hf k (by omega)
theorem Wp.ite {c : Prop} [Decidable c] (h1 : c → Wp g Q) (h2 : ¬ c → Wp h Q) : Wp (fun k => if c then g k else h k) Q := by
  by_cases e : c
  · simp only [if_pos e]; exact h1 e
  · simp only [if_neg e]; exact h2 e
theorem Wp.step (h : Wp (fun k => g (k + 1)) Q) : Wp g Q := by
  obtain ⟨r, hr, K, hg⟩ := h
  refine ⟨r, hr, K + 1, fun k hk => ?_⟩
  obtain ⟨m, rfl⟩ : ∃ m, k = m + 1 := ⟨k - 1, by omega⟩
  exact hg m (by omega)
theorem Wp.mono (h : Wp g P) (k : ∀ r, P r → Q r) : Wp g Q := by
  obtain ⟨r, hr, hg⟩ := h
  exact ⟨r, k r hr, hg⟩
theorem Wp.same (h : Wp g P) (k : Wp g Q) : Wp g (fun r => P r ∧ Q r) := by
  obtain ⟨r, hr, K, hg⟩ := h
  obtain ⟨s, hs, K', hg'⟩ := k
  have e : some r = some s := (hg (max K K') (by omega)).symm.trans (hg' _ (by omega))
  injection e with e
  subst e
  exact ⟨r, ⟨hr, hs⟩, K, hg⟩
theorem Wp.pos {c : Prop} [Decidable c] (e : c) (h1 : Wp g Q) : Wp (fun k => if c then g k else h k) Q := Wp.ite (fun _ => h1) (fun n => absurd e n)
theorem Wp.neg {c : Prop} [Decidable c] (e : ¬ c) (h1 : Wp h Q) : Wp (fun k => if c then g k else h k) Q := Wp.ite (fun n => absurd n e) (fun _ => h1)
theorem Wp.call (h : Wp g P) (k : ∀ a, P a → Wp (fun n => f n a) R) : Wp (fun n => (g n).bind (f n)) R := Wp.bind (h.mono k)
theorem Wp.val {a : α} (h : Wp g (fun x => x = a)) (k : Wp (fun n => f n a) R) : Wp (fun n => (g n).bind (f n)) R := Wp.call h (fun _ e => by subst e; exact k)
end
/-! ### numbers of 64 bits -/
theorem add64 {a b : Int} (h0 : -9223372036854775808 ≤ a + b) (h1 : a + b ≤ 9223372036854775807) : wAdd .i64 a b = a + b := by unfold wAdd; rw [IntKind.wrap_i64]; omega
theorem sub64 {a b : Int} (h0 : -9223372036854775808 ≤ a - b) (h1 : a - b ≤ 9223372036854775807) : wSub .i64 a b = a - b := by unfold wSub; rw [IntKind.wrap_i64]; omega
theorem mul64 {a b : Int} (h0 : -9223372036854775808 ≤ a * b) (h1 : a * b ≤ 9223372036854775807) : wMul .i64 a b = a * b := by unfold wMul; rw [IntKind.wrap_i64]; generalize a * b = x at *; omega
theorem conv64 {a : Int} (h0 : -9223372036854775808 ≤ a) (h1 : a ≤ 9223372036854775807) : wConv .i64 a = a := by unfold wConv; rw [IntKind.wrap_i64]; omega
/-! ### rows -/
section
variable {α : Type}
theorem vGet_get {c : List α} {i : Int} {d : α} (h0 : 0 ≤ i) (h1 : i < c.length) : vGet c i d = c[i.toNat]'(by omega) := by
  simp [vGet, List.getD_eq_getElem?_getD, List.getElem?_eq_getElem (show i.toNat < c.length by omega)]
theorem vGet_mem {c : List α} {i : Int} {d : α} (h0 : 0 ≤ i) (h1 : i < c.length) : vGet c i d ∈ c := by
  rw [vGet_get h0 h1]; exact List.getElem_mem _
theorem vGet_drop {c : List α} {i : Int} {d : α} (h0 : 0 ≤ i) (h1 : i < c.length) : c.drop i.toNat = vGet c i d :: c.drop (i + 1).toNat := by
  rw [vGet_get h0 h1, show (i + 1).toNat = i.toNat + 1 by omega]
  exact List.drop_eq_getElem_cons (by omega)
theorem app_ok {n : Int} {b : Nat} (h0 : 0 ≤ n) (h1 : n ≤ 1000000000) (hb : b ≤ 100000) : appOk n 1 b = true := by
  unfold appOk
  apply Nat.ble_eq_true_of_le
  have : (n + 1).toNat * b ≤ 1000000001 * 100000 := Nat.mul_le_mul (by omega) hb
  omega
end
def Bytes (l : List Int) : Prop := ∀ y ∈ l, (Lit.int .u8 y).wf = true
theorem byte_bd {l : List Int} (h : Bytes l) {i : Int} {d : Int} (h0 : 0 ≤ i) (h1 : i < l.length) : 0 ≤ vGet l i d ∧ vGet l i d ≤ 255 := by
  have := h _ (vGet_mem (d := d) h0 h1)
  simp only [Lit.wf, Bool.and_eq_true, decide_eq_true_eq] at this
  have h2 : IntKind.min .u8 = 0 := by rfl
  have h3 : IntKind.max .u8 = 255 := by rfl
  omega
theorem and255 (x : Int) : 0 ≤ wAnd .u64 x 255 ∧ wAnd .u64 x 255 ≤ 255 := by
  unfold wAnd
  have h : ((BitVec.ofInt 64 x &&& BitVec.ofInt 64 255).toNat : Nat) ≤ 255 := by
    rw [BitVec.toNat_and]
    exact Nat.le_trans Nat.and_le_right (by decide)
  show 0 ≤ IntKind.u64.wrap ((BitVec.ofInt 64 x &&& BitVec.ofInt 64 255).toNat : Int) ∧ IntKind.u64.wrap ((BitVec.ofInt 64 x &&& BitVec.ofInt 64 255).toNat : Int) ≤ 255
  generalize (BitVec.ofInt 64 x &&& BitVec.ofInt 64 255).toNat = y at h
  rw [IntKind.wrap_u64]; omega
/-- A source of bytes, of which so much is read at most. -/
structure Src (c : List Int) (b : Int) (r : List Int × Int × Int) : Prop where
  code : r.1 = c
  lo : 0 ≤ r.2.1
  hi : r.2.1 ≤ b
theorem Src.le {c : List Int} {b b' : Int} {r : List Int × Int × Int} (h : Src c b r) (hb : b ≤ b') : Src c b' r := ⟨h.code, h.lo, Int.le_trans h.hi hb⟩
section
variable {c : List Int} (hb : Bytes c)
theorem next4_wp {x s2 at' b : Int} (hx : 0 ≤ x ∧ x ≤ 255) (h0 : 0 ≤ at') (h1 : at' ≤ b) (hB : b ≤ 1000000000) : Wp (fun k => spec_l00Src_next_r4 k x c at' s2) (fun r => (0 ≤ r.1 ∧ r.1 ≤ 255) ∧ Src c (b + 1) r.2) := by
  refine Wp.step ?_
  simp (disch := omega) only [spec_l00Src_next_r4_eq, vLt, vLe, vEq, vNot, inR, decide_eq_true_eq, Bool.not_eq_true', decide_eq_false_iff_not, Bool.not_eq_eq_eq_not, Bool.not_true, add64]
  refine Wp.ite (fun _ => Wp.now ⟨hx, rfl, by dsimp only; omega, by dsimp only; omega⟩) (fun _ => Wp.neg (by decide) (Wp.now ⟨?_, rfl, by dsimp only; omega, by dsimp only; omega⟩))
  dsimp only
  generalize vShr .u64 _ _ = y
  have := and255 y
  rw [conv64 (by omega) (by omega)]
  exact this
include hb in
theorem next_wp {at' s2 b : Int} (h0 : 0 ≤ at') (h1 : at' ≤ b) (hB : b ≤ 1000000000) : Wp (fun k => spec_l00Src_next k c at' s2) (fun r => (0 ≤ r.1 ∧ r.1 ≤ 255) ∧ Src c (b + 1) r.2) := by
  refine Wp.step ?_
  simp only [spec_l00Src_next_eq, vLt, vLe, vEq, vNot, inR, decide_eq_true_eq, Bool.not_eq_true', decide_eq_false_iff_not, Bool.not_eq_eq_eq_not, Bool.not_true]
  refine Wp.ite (fun h => Wp.pos ⟨h0, h⟩ ?_) (fun _ => next4_wp (by omega) h0 h1 hB)
  have hr := byte_bd hb (d := 0) h0 h
  rw [conv64 (by omega) (by omega)]
  exact next4_wp hr h0 h1 hB
include hb in
/-- A number that is picked. -/
theorem pick_wp {s : List Int × Int × Int} {n b : Int} (hs : Src c b s) (hB : b ≤ 100000000) : Wp (fun k => spec_l00Src_pick k s.1 s.2.1 s.2.2 n) (fun r => (0 ≤ r.1 ∧ (r.1 < n ∨ n ≤ 1 ∧ r.1 = 0)) ∧ Src c (b + 2) r.2) := by
  obtain ⟨e, h0, h1⟩ := hs
  rw [e]
  refine Wp.step ?_
  simp only [spec_l00Src_pick_eq, vLt, vLe, vEq, vNot, inR, decide_eq_true_eq, Bool.not_eq_true', decide_eq_false_iff_not, Bool.not_eq_eq_eq_not, Bool.not_true]
  refine Wp.ite (fun h => Wp.now ⟨⟨Int.le_refl _, .inr ⟨h, rfl⟩⟩, rfl, h0, by dsimp only; omega⟩) (fun h => ?_)
  refine Wp.call (next_wp hb h0 h1 (by omega)) (fun r ⟨hx, hr⟩ => ?_)
  refine Wp.ite (fun h2 => ?_) (fun h2 => Wp.neg (by omega) (Wp.now ⟨⟨Int.tmod_nonneg _ (by omega), .inl (Int.tmod_lt_of_pos _ (by omega))⟩, hr.le (by omega)⟩))
  rw [hr.code]
  refine Wp.call (next_wp hb hr.lo hr.hi (by omega)) (fun q ⟨hy, hq⟩ => ?_)
  refine Wp.neg (by omega) (Wp.now ⟨?_, hq.le (by omega)⟩)
  rw [mul64 (by omega) (by omega), add64 (by omega) (by omega)]
  exact ⟨Int.tmod_nonneg _ (by omega), .inl (Int.tmod_lt_of_pos _ (by omega))⟩
end
end Go.Proofs.Yticifedehhnjhaa.F
