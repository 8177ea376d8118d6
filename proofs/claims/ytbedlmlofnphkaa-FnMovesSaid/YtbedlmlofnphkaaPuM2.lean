/- Plain facts: pitches that are drawn of bytes. -/
import Derived.Test.YtbedlmlofnphkaaPuM1
import Derived.Test.YtbedlmlofnphkaaPZx15
import Derived.Test.YtbedlmlofnphkaaPZx16
namespace Go.Proofs.Ytbedlmlofnphkaa.Pure
open Go.RowKit Go.Proofs.Ytbedlmlofnphkaa.PZ Go.Proofs.YtbedlmlofnphkaaW.PrintWords Go.Proofs.YtbedlmlofnphkaaW.PrintLast
set_option linter.unusedSimpArgs false
set_option linter.unusedVariables false
def pit (x : Int) : Prop := -12 ≤ x ∧ x ≤ 23
theorem l05Next_wp {n : ByteArray} {u d : List Int} {s w : Int} {fb : List (List Int)} (h : ragaP n u d s w fb) {a : Int} (ha : pit a) : Wp (fun k => spec_l05Next.f k [(⟨n, u, d, s, w, fb⟩ : S27)] a) (fun r => r.length ≤ 36 ∧ ∀ x ∈ r, pit x) := by
  have key : ∀ (m : Nat) (l : List Int) (i : Int), -12 ≤ i → i + m = 24 → l.length + m ≤ 36 → (∀ x ∈ l, pit x) → Wp (fun k => spec_l05Next.l0 k [(⟨n, u, d, s, w, fb⟩ : S27)] a l i) (fun r => r.length ≤ 36 ∧ ∀ x ∈ r, pit x) := by
    intro m
    induction m with
    | zero =>
      intro l i i0 i1 hl hx
      refine Wp.step ?_
      simp only [spec_l05Next.l0]
      exact Wp.neg (by omega) (Wp.now ⟨by omega, hx⟩)
    | succ m ih =>
      intro l i i0 i1 hl hx
      refine Wp.step ?_
      simp only [spec_l05Next.l0]
      rw [w64 (n := i + 1) (by omega) (by omega)]
      refine Wp.pos (by omega) (Wp.val (sReason_wp h ha (b := i) ⟨i0, by omega⟩) (Wp.ite (fun _ => Wp.pos (by omega) (ih _ _ (by omega) (by omega) (by simp; omega) ?_)) (fun _ => ih _ _ (by omega) (by omega) (by omega) hx)))
      intro x hm
      rcases List.mem_append.1 hm with g | g
      · exact hx x g
      · rw [List.mem_singleton.1 g]; exact ⟨i0, by omega⟩
  simp only [spec_l05Next.f]
  exact key 36 [] (-12) (by omega) (by omega) (by simp) (by simp)
theorem snoc_pit {l : List Int} {y : Int} (h : ∀ x ∈ l, pit x) (hy : pit y) : ∀ x ∈ l ++ [y], pit x := by
  intro x hm
  rcases List.mem_append.1 hm with g | g
  · exact h x g
  · rw [List.mem_singleton.1 g]; exact hy
theorem pitches_l0 {c : List Int} (hc : c.length ≤ maxLen) (hb : Bytes c) {n : ByteArray} {u d : List Int} {s w : Int} {fb : List (List Int)} (h : ragaP n u d s w fb) : ∀ (m : Nat) (l : List Int) (s1 s2 : Int), l.length + m ≤ 9 → 0 ≤ s1 → s1 + 10 * m ≤ 900000 → (∀ x ∈ l, pit x) →
    Wp (fun k => spec_R8Pitches.l0 k l m n u d s w fb c s1 s2) (fun r => r.length ≤ 9 ∧ ∀ x ∈ r, pit x)
  | 0, l, s1, s2, h1, h2, h3, h4 => by
    refine Wp.step ?_
    simp only [spec_R8Pitches.l0]
    exact Wp.neg (by omega) (Wp.now ⟨by omega, h4⟩)
  | m + 1, l, s1, s2, h1, h2, h3, h4 => by
    refine Wp.step ?_
    simp only [spec_R8Pitches.l0]
    refine Wp.pos (by omega) (Wp.call (pick_wp hc hb h2 (by omega) (by omega)) ?_)
    rintro ⟨x, t1, t2⟩ ⟨p0, p1, p2, p3⟩
    dsimp only at *
    rw [w64 (n := x - 4) (by omega) (by omega)]
    have plain : ∀ (y t1 t2 : Int), pit y → s1 ≤ t1 → t1 ≤ s1 + 8 → Wp (fun k => if l.length < 17592186044416 then spec_R8Pitches.l0 k (l ++ [y]) (wrap64 (((m + 1 : Nat) : Int) - 1)) n u d s w fb c t1 t2 else none) (fun r => r.length ≤ 9 ∧ ∀ x ∈ r, pit x) := by
      intro y t1 t2 hy g1 g2
      refine Wp.pos (by omega) ?_
      rw [w64 (n := ((m + 1 : Nat) : Int) - 1) (by omega) (by omega), show ((m + 1 : Nat) : Int) - 1 = (m : Int) by omega]
      exact pitches_l0 hc hb h m _ _ _ (by simp; omega) (by omega) (by omega) (snoc_pit h4 hy)
    have j1 : ∀ (z : Bool) (t1 t2 : Int), (z = true → 0 < l.length) → s1 ≤ t1 → t1 ≤ s1 + 5 → Wp (fun k => spec_R8Pitches.j1 k l ((m + 1 : Nat) : Int) (x - 4) z n u d s w fb c t1 t2) (fun r => r.length ≤ 9 ∧ ∀ x ∈ r, pit x) := by
      intro z t1 t2 hz g1 g2
      refine Wp.step ?_
      simp only [spec_R8Pitches.j1]
      refine Wp.ite (fun e => ?_) (fun _ => plain _ _ _ ⟨by omega, by omega⟩ g1 (by omega))
      have hp := hz e
      rw [w64 (n := (l.length : Int) - 1) (by omega) (by omega)]
      refine Wp.pos (by omega) (Wp.pos (by omega) (Wp.call (l05Next_wp h (h4 _ (rd_mem (by omega) (by omega)))) ?_))
      rintro t ⟨ht, hx⟩
      refine Wp.ite (fun hn => Wp.call (pick_wp hc hb (by omega) (by omega) (by omega)) ?_) (fun _ => plain _ _ _ ⟨by omega, by omega⟩ g1 (by omega))
      rintro ⟨i, v1, v2⟩ ⟨q0, q1, q2, q3⟩
      dsimp only at *
      exact Wp.pos q0 (Wp.pos q1 (plain _ _ _ (hx _ (rd_mem q0 q1)) (by omega) (by omega)))
    refine Wp.ite (fun hn => Wp.call (pick_wp hc hb (by omega) (by omega) (by omega)) ?_) (fun _ => j1 false _ _ (by simp) (by omega) (by omega))
    rintro ⟨y, u1, u2⟩ ⟨q0, q1, q2, q3⟩
    dsimp only at *
    exact j1 _ _ _ (fun _ => by omega) (by omega) (by omega)
theorem pitches_wp {c : List Int} (hc : c.length ≤ maxLen) (hb : Bytes c) {n : ByteArray} {u d : List Int} {s w : Int} {fb : List (List Int)} (h : ragaP n u d s w fb) : Wp (fun k => spec_R8Pitches.f k c n u d s w fb) (fun r => r.length ≤ 9 ∧ ∀ x ∈ r, pit x) := by
  simp only [spec_R8Pitches.f, spec_l00From.f, Option.bind_some]
  refine Wp.call (pick_wp hc hb (by omega) (by omega) (by omega)) ?_
  rintro ⟨x, t1, t2⟩ ⟨p0, p1, p2, p3⟩
  dsimp only at *
  rw [show x = ((x.toNat : Nat) : Int) by omega]
  exact pitches_l0 hc hb h _ _ _ _ (by simp; omega) (by omega) (by omega) (by simp)
end Go.Proofs.Ytbedlmlofnphkaa.Pure
