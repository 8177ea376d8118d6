/- Greater ratios have no fewer cents, octaves have whole ones, and no ratio with as small a number is nearer than the best one: the law returns true for all bytes. -/
import Derived.Test.YtmeflmlejcmckaaDoorPuC2
import Derived.Test.YtmeflmlejcmckaaDoorPuC3
import Derived.Test.YtmeflmlejcmckaaDoorPCx17
import Derived.Test.YtmeflmlejcmckaaDoorPCx8
import Derived.Test.YtmeflmlejcmckaaDoorPCx10
import Derived.Test.YtmeflmlejcmckaaDoorPCx11
import Derived.Test.YtmeflmlejcmckaaDoorPCx12
import Derived.Test.YtmeflmlejcmckaaDoorPCx15
import Derived.Test.YtmeflmlejcmckaaDoorPCx16
namespace Go.Proofs.YtmeflmlejcmckaaDoor.Pure
open Go.RowKit Go.Proofs.YtmeflmlejcmckaaDoor.PC Go.Proofs.YtmeflmlejcmckaaDoorW.PrintWords Go.Proofs.YtmeflmlejcmckaaDoorW.PrintLast
set_option linter.unusedSimpArgs false
set_option linter.unusedVariables false
def av (x : Int) : Int := if x < 0 then -x else x
theorem abs_f {x : Int} (h0 : -1000000000 ≤ x) (h1 : x ≤ 1000000000) : impl_abs.f x = some (av x) := by
  unfold impl_abs.f av
  rw [w64 (n := -x) (by omega) (by omega)]
  unfold mx
  by_cases h : x < 0
  · rw [if_pos h]; first | rw [if_pos (by omega)] | rw [if_neg (by omega)]
  · rw [if_neg h]
    by_cases e : x = 0
    · subst e; simp
    · first | rw [if_neg (by omega)] | rw [if_pos (by omega)]
theorem b10Abs_f {x : Int} (h0 : -1000000000 ≤ x) (h1 : x ≤ 1000000000) : laws_b10Abs.f x = some (av x) := by
  unfold laws_b10Abs.f av
  rw [w64 (n := -x) (by omega) (by omega)]
  split <;> rfl
theorem centsOf_wp (a b : Int) : Wp (fun k => impl_CentsOf.f k a b) (fun r => (vR a b = true ∧ r.2 = 0 ∧ Cts a b r.1) ∨ (vR a b = false ∧ r = (0, 1))) := by
  simp only [impl_CentsOf.f]
  refine Wp.val (validI_wp a b) (Wp.iteB (fun e => Wp.call (centsI_wp e) (fun x hx => Wp.now (.inl ⟨e, rfl, hx⟩))) (fun e => Wp.now (.inr ⟨e, rfl⟩)))
theorem centsOfS_wp (a b : Int) : Wp (fun k => spec_CentsOf.f k a b) (fun r => (vR a b = true ∧ r.2 = 0 ∧ Cts a b r.1) ∨ (vR a b = false ∧ r = (0, 1))) := by
  simp only [spec_CentsOf.f]
  refine Wp.val (okS_wp a b) (Wp.iteB (fun e => Wp.call (centsS_wp e) (fun x hx => Wp.now (.inl ⟨e, rfl, hx⟩))) (fun e => Wp.now (.inr ⟨e, rfl⟩)))
theorem compare_wp {a b c d : Int} (h1 : vR a b = true) (h2 : vR c d = true) : Wp (fun k => impl_CompareRatios.f k a b c d) (fun r => r.2 = 0 ∧ (r.1 < 0 → a * d < c * b) ∧ (r.1 > 0 → c * b < a * d) ∧ (r.1 = 0 → a * d = c * b)) := by
  obtain ⟨⟨a1, a2⟩, ⟨b1, b2⟩, _⟩ := vR_iff.1 h1
  obtain ⟨⟨c1, c2⟩, ⟨d1, d2⟩, _⟩ := vR_iff.1 h2
  have pd : 0 ≤ a * d ∧ a * d ≤ 1000000 * 1000000 := ⟨Int.mul_nonneg (by omega) (by omega), Int.mul_le_mul a2 d2 (by omega) (by omega)⟩
  have pc : 0 ≤ c * b ∧ c * b ≤ 1000000 * 1000000 := ⟨Int.mul_nonneg (by omega) (by omega), Int.mul_le_mul c2 b2 (by omega) (by omega)⟩
  simp only [impl_CompareRatios.f]
  refine Wp.val (validI_wp a b) (Wp.posB h1 (Wp.val (validI_wp c d) (Wp.posB h2 ?_)))
  simp only [impl_Ratio_compare.f, cmp_Compare_int64.f, cmp_isNaN_int64.f, Option.bind_some]
  rw [w64 (n := a * d) (by omega) (by omega), w64 (n := c * b) (by omega) (by omega)]
  generalize a * d = x
  generalize c * b = y
  have hx : (x != x) = false := by simp
  have hy : (y != y) = false := by simp
  simp only [hx, hy]
  refine Wp.calls (a := if x < y then -1 else if x > y then 1 else 0) ?_ (Wp.now ⟨rfl, ?_⟩)
  · by_cases e1 : x < y
    · simp [e1]
    · by_cases e2 : x > y
      · simp [e1, show y < x from e2]
      · simp [e1, show ¬ y < x from e2]
  · dsimp only
    refine ⟨fun h => ?_, fun h => ?_, fun h => ?_⟩ <;> (split at h) <;> (try split at h) <;> omega
theorem octaveOf_wp (a b : Int) : Wp (fun k => impl_OctaveOf.f k a b) (fun r => r.2.2.2 ≠ 0 ∨ (vR a b = true ∧ ∃ n d, Oct a b n d r.2.2.1 ∧ r.1 = n / gI n d ∧ r.2.1 = d / gI n d ∧ n / gI n d ≤ 1000000 ∧ d / gI n d ≤ 1000000)) := by
  simp only [impl_OctaveOf.f]
  refine Wp.val (validI_wp a b) (Wp.iteB (fun e => ?_) (fun e => Wp.now (.inl (by decide))))
  obtain ⟨⟨a1, a2⟩, ⟨b1, b2⟩, _⟩ := vR_iff.1 e
  simp only [impl_Ratio_octave.f]
  refine Wp.call (octI_wp a1 a2 b1 b2) ?_
  rintro ⟨n, d, e'⟩ o
  dsimp only at o ⊢
  have lo := o.lo; have hi := o.hi; have d1 := o.d1; have d2 := o.d2
  refine Wp.call (redI_wp (a := n) (b := d) (by omega) (by omega) (by omega) (by omega)) ?_
  rintro ⟨x, y, z⟩ h
  dsimp only at h ⊢
  refine Wp.ite (fun e0 => Wp.now (.inr ⟨e, n, d, o, ?_⟩)) (fun e0 => Wp.now (.inl e0))
  rcases h with ⟨_, h1, h2, h3, h4⟩ | ⟨h1, _⟩
  · exact ⟨h1, h2, h3, h4⟩
  · exfalso; rw [Prod.mk.injEq, Prod.mk.injEq] at h1; omega
def Cand (most n d : Int) : Prop := (1 ≤ d ∧ d ≤ most) ∧ (d ≤ n ∧ n ≤ 2 * d) ∧ vR n d = true
def Inv (cents most x8 bn bd : Int) (S : Int → Int → Prop) : Prop :=
  (x8 < 0 ∧ ∀ n d, S n d → ¬ Cand most n d) ∨ (0 ≤ x8 ∧ Cand most bn bd ∧ (∃ c, Cts bn bd c ∧ av (c - cents) = x8) ∧ ∀ n d c, S n d → Cand most n d → Cts n d c → x8 ≤ av (c - cents))
def Best (cents most bn bd off : Int) : Prop := Cand most bn bd ∧ (∃ c, Cts bn bd c ∧ av (c - cents) = off) ∧ ∀ n d c, Cand most n d → Cts n d c → off ≤ av (c - cents)
def At (D N : Int) : Int → Int → Prop := fun n d => d < D ∨ (d = D ∧ n < N)
theorem inner {cents most : Int} (hc0 : 0 ≤ cents) (hc : cents ≤ 120000) (hm : most ≤ 64) {D : Int} (D1 : 1 ≤ D) (Dm : D ≤ most) {P : Int × Int × Int × Int → Prop}
    (out : ∀ x8 bn bd, Inv cents most x8 bn bd (At (D + 1) (D + 1)) → Wp (fun k => impl_BestRatio.l0 k cents most x8 (D + 1) bn bd) P) : ∀ (d : Nat) (N x8 bn bd : Int), N + d = 2 * D + 1 → D ≤ N → Inv cents most x8 bn bd (At D N) →
    Wp (fun k => impl_BestRatio.l1 k cents most x8 D N bn bd) P
  | 0, N, x8, bn, bd, h0, h1, hi => by
    refine Wp.step ?_
    simp only [impl_BestRatio.l1]
    rw [w64 (n := 2 * D) (by omega) (by omega), w64 (n := D + 1) (by omega) (by omega)]
    refine Wp.neg (by omega) (out x8 bn bd ?_)
    have sub : ∀ n d, At (D + 1) (D + 1) n d → Cand most n d → At D N n d := fun n d s c => by
      unfold At at s ⊢; have := c.2.1; omega
    rcases hi with ⟨i0, i1⟩ | ⟨i0, i1, i2, i3⟩
    · exact .inl ⟨i0, fun n d s c => i1 n d (sub n d s c) c⟩
    · exact .inr ⟨i0, i1, i2, fun n d c s cd ct => i3 n d c (sub n d s cd) cd ct⟩
  | d' + 1, N, x8, bn, bd, h0, h1, hi => by
    refine Wp.step ?_
    simp only [impl_BestRatio.l1]
    rw [w64 (n := 2 * D) (by omega) (by omega), w64 (n := N + 1) (by omega) (by omega)]
    refine Wp.pos (by omega) (Wp.val (validI_wp N D) (Wp.iteB (fun e => Wp.call (centsI_wp e) (fun c hct => ?_)) (fun e => ?_)))
    · have cr := cts_rng hct
      rw [w64 (n := c - cents) (by omega) (by omega)]
      refine Wp.calls (abs_f (by omega) (by omega)) ?_
      have hcand : Cand most N D := ⟨⟨D1, Dm⟩, ⟨h1, by omega⟩, e⟩
      have av0 : 0 ≤ av (c - cents) := by unfold av; split <;> omega
      have split' : ∀ n d, At D (N + 1) n d → At D N n d ∨ (n = N ∧ d = D) := fun n d s => by unfold At at s ⊢; omega
      have new : (x8 < 0 ∨ av (c - cents) < x8) → Inv cents most (av (c - cents)) N D (At D (N + 1)) := fun h => by
        refine .inr ⟨av0, hcand, ⟨c, hct, rfl⟩, fun n d c' s cd ct => ?_⟩
        rcases split' n d s with s | ⟨rfl, rfl⟩
        · rcases hi with ⟨i0, i1⟩ | ⟨i0, i1, i2, i3⟩
          · exact absurd cd (i1 n d s)
          · have := i3 n d c' s cd ct; omega
        · rw [cts_eq ct hct (by omega) (by omega) rfl]; exact Int.le_refl _
      have rest := fun (y bn' bd' : Int) (h : Inv cents most y bn' bd' (At D (N + 1))) => inner hc0 hc hm D1 Dm out d' (N + 1) y bn' bd' (by omega) (by omega) h
      refine Wp.ite (fun g => rest _ _ _ (new (.inl g))) (fun g => Wp.ite (fun g2 => rest _ _ _ (new (.inr g2))) (fun g2 => rest _ _ _ ?_))
      rcases hi with ⟨i0, i1⟩ | ⟨i0, i1, i2, i3⟩
      · omega
      · refine .inr ⟨i0, i1, i2, fun n d c' s cd ct => ?_⟩
        rcases split' n d s with s | ⟨rfl, rfl⟩
        · exact i3 n d c' s cd ct
        · rw [cts_eq ct hct (by omega) (by omega) rfl]; omega
    · refine inner hc0 hc hm D1 Dm out d' (N + 1) x8 bn bd (by omega) (by omega) ?_
      have sub : ∀ n d, At D (N + 1) n d → Cand most n d → At D N n d := fun n d s c => by
        have : ¬ (n = N ∧ d = D) := fun ⟨p, q⟩ => by subst p; subst q; have := c.2.2; rw [e] at this; cases this
        unfold At at s ⊢; omega
      rcases hi with ⟨i0, i1⟩ | ⟨i0, i1, i2, i3⟩
      · exact .inl ⟨i0, fun n d s c => i1 n d (sub n d s c) c⟩
      · exact .inr ⟨i0, i1, i2, fun n d c s cd ct => i3 n d c (sub n d s cd) cd ct⟩
theorem outer {cents most : Int} (hc0 : 0 ≤ cents) (hc : cents ≤ 120000) (hm1 : 1 ≤ most) (hm : most ≤ 64) : ∀ (s : Nat) (D x8 bn bd : Int), D + s = most + 1 → 1 ≤ D → Inv cents most x8 bn bd (At D D) →
    Wp (fun k => impl_BestRatio.l0 k cents most x8 D bn bd) (fun r => r.2.2.2 = 0 ∧ Best cents most r.1 r.2.1 r.2.2.1)
  | 0, D, x8, bn, bd, h0, h1, hi => by
    refine Wp.step ?_
    simp only [impl_BestRatio.l0]
    refine Wp.neg (by omega) (Wp.now ⟨rfl, ?_⟩)
    have all : ∀ n d, Cand most n d → At D D n d := fun n d c => by unfold At; have := c.1; omega
    rcases hi with ⟨i0, i1⟩ | ⟨i0, i1, i2, i3⟩
    · have c1 : Cand most 1 1 := ⟨⟨by omega, by omega⟩, ⟨by omega, by omega⟩, by decide⟩
      exact absurd c1 (i1 1 1 (all 1 1 c1))
    · exact ⟨i1, i2, fun n d c cd ct => i3 n d c (all n d cd) cd ct⟩
  | s + 1, D, x8, bn, bd, h0, h1, hi => by
    refine Wp.step ?_
    simp only [impl_BestRatio.l0]
    refine Wp.pos (by omega) ?_
    exact inner hc0 hc hm h1 (by omega) (fun y bn' bd' h => outer hc0 hc hm1 hm s (D + 1) y bn' bd' (by omega) (by omega) h) (D.toNat + 1) D x8 bn bd (by omega) (by omega) hi
theorem best_wp {cents most : Int} : Wp (fun k => impl_BestRatio.f k cents most) (fun r => r = (0, 0, 0, 2) ∨ ((0 ≤ cents ∧ cents ≤ 120000) ∧ (1 ≤ most ∧ most ≤ 64) ∧ r.2.2.2 = 0 ∧ Best cents most r.1 r.2.1 r.2.2.1)) := by
  simp only [impl_BestRatio.f, within_f]
  have j0 : ∀ b : Bool, (b = false → (0 ≤ cents ∧ cents ≤ 120000) ∧ (1 ≤ most ∧ most ≤ 64)) → Wp (fun k => impl_BestRatio.j0 k cents most b) (fun r => r = (0, 0, 0, 2) ∨ ((0 ≤ cents ∧ cents ≤ 120000) ∧ (1 ≤ most ∧ most ≤ 64) ∧ r.2.2.2 = 0 ∧ Best cents most r.1 r.2.1 r.2.2.1)) := fun b h => by
    refine Wp.step ?_
    simp only [impl_BestRatio.j0]
    refine Wp.iteB (fun _ => Wp.now (.inl rfl)) (fun e => ?_)
    obtain ⟨h1, h2⟩ := h e
    refine (outer h1.1 h1.2 h2.1 h2.2 most.toNat 1 (-1) 0 0 (by omega) (by omega) (.inl ⟨by omega, fun n d s c => ?_⟩)).mono (fun r hr => .inr ⟨h1, h2, hr⟩)
    unfold At at s; have := c.1; have := c.2.1; omega
  refine Wp.calls rfl (Wp.iteB (fun e => Wp.calls rfl (j0 _ (fun g => ?_))) (fun e => j0 _ (fun g => by cases g)))
  rw [within_iff] at e
  refine ⟨e, ?_⟩
  have g2 : within_ most 1 64 = true := by simpa using g
  exact within_iff.1 g2
theorem oct_self {n d : Int} (lo : d ≤ n) (hi : n < 2 * d) (d1 : 1 ≤ d) (d2 : d ≤ 1000000) : Cts n d (gV n d) := by
  refine ⟨n, d, 0, ⟨lo, hi, d1, d2, by omega, by omega, ?_⟩, by omega⟩
  rw [show (30 + (0 : Int)).toNat = 30 from rfl, show (2 : Int) ^ 30 = 1073741824 by decide]
theorem j3_wp {c : List Int} (hb : Bytes c) {cents most off : Int} (h1 : 0 ≤ cents ∧ cents ≤ 120000) (h2 : 1 ≤ most ∧ most ≤ 64) (hbest : ∀ n d x, Cand most n d → Cts n d x → off ≤ av (x - cents)) : Wp (fun k => laws_FnCents.j3 k c cents most off false) (fun r => r = true) := by
  refine Wp.step ?_
  simp only [laws_FnCents.j3]
  refine Wp.negB rfl ?_
  obtain ⟨t, et, t0, t1⟩ := b10At_f hb (k := 0) (n := most) (by omega) (by omega) h2.1
  obtain ⟨u, eu, u0, u1⟩ := b10At_f hb (k := 1) (n := 1 + t + 1) (by omega) (by omega) (by omega)
  refine Wp.calls et ?_
  rw [w64 (n := 1 + t) (by omega) (by omega), w64 (n := 1 + t + 1) (by omega) (by omega)]
  refine Wp.calls eu ?_
  rw [w64 (n := 1 + t + u) (by omega) (by omega)]
  obtain ⟨p1, p2, q1, q2, r1, r2, hg⟩ := red_facts (a := 1 + t + u) (b := 1 + t) (by omega) (by omega)
  have g1 := gI_pos (a := 1 + t + u) (b := 1 + t) (by omega)
  have lo : (1 + t) / gI (1 + t + u) (1 + t) ≤ (1 + t + u) / gI (1 + t + u) (1 + t) := Int.ediv_le_ediv (by omega) (by omega)
  have hi : (1 + t + u) / gI (1 + t + u) (1 + t) ≤ 2 * ((1 + t) / gI (1 + t + u) (1 + t)) := by
    refine Int.le_of_mul_le_mul_right (?_ : (1 + t + u) / gI (1 + t + u) (1 + t) * gI (1 + t + u) (1 + t) ≤ 2 * ((1 + t) / gI (1 + t + u) (1 + t)) * gI (1 + t + u) (1 + t)) (by omega)
    rw [r1, Int.mul_assoc, r2]; omega
  have hv : vR ((1 + t + u) / gI (1 + t + u) (1 + t)) ((1 + t) / gI (1 + t + u) (1 + t)) = true := vR_iff.2 ⟨⟨p1, by omega⟩, ⟨p2, by omega⟩, hg⟩
  refine Wp.val (a := ((1 + t + u) / gI (1 + t + u) (1 + t), (1 + t) / gI (1 + t + u) (1 + t), (0 : Int))) ?_ ?_
  · simp only [spec_ReduceRatio.f, l00In_f]
    refine Wp.calls rfl (Wp.posB (within_iff.2 ⟨by omega, by omega⟩) (Wp.calls rfl (Wp.posB (within_iff.2 ⟨by omega, by omega⟩) ?_)))
    refine Wp.call (doneS_wp (by omega) (by omega) (by omega) (by omega)) ?_
    rintro r rfl
    exact Wp.now (by rw [if_pos hv])
  · dsimp only
    refine Wp.call (centsOfS_wp _ _) ?_
    rintro ⟨x, z⟩ h
    dsimp only at h ⊢
    rcases h with ⟨_, hz, hct⟩ | ⟨hv', _⟩
    · have cr := cts_rng hct
      refine Wp.pos rfl (Wp.pos hz ?_)
      rw [w64 (n := x - cents) (by omega) (by omega)]
      refine Wp.calls (b10Abs_f (by omega) (by omega)) (Wp.now ?_)
      exact decide_eq_true (hbest _ _ x ⟨⟨p2, by omega⟩, ⟨lo, hi⟩, hv⟩ hct)
    · rw [hv] at hv'; cases hv'
theorem j2_wp {c m : List Int} (hb : Bytes c) (hm : m.length ≤ maxLen) (hbm : Bytes m) : Wp (fun k => laws_FnCents.j2 k c m) (fun r => r = true) := by
  refine Wp.step ?_
  simp only [laws_FnCents.j2]
  refine Wp.call (drawBest_wp hm hbm) ?_
  rintro ⟨cents, most⟩ _
  dsimp only
  refine Wp.call best_wp ?_
  rintro ⟨bn, bd, off, z⟩ h
  dsimp only at h ⊢
  rcases h with h | ⟨h1, h2, h3, hc, ⟨x, hx, hax⟩, hall⟩
  · rw [Prod.mk.injEq, Prod.mk.injEq, Prod.mk.injEq] at h
    obtain ⟨rfl, rfl, rfl, rfl⟩ := h
    exact Wp.neg (by omega) (Wp.now rfl)
  · refine Wp.pos h3 (Wp.call (centsOf_wp bn bd) ?_)
    rintro ⟨y, z'⟩ h
    dsimp only at h ⊢
    rcases h with ⟨_, hz, hct⟩ | ⟨hv, _⟩
    · have b1 := hc.1.1
      have e : y = x := cts_eq hct hx b1 b1 rfl
      subst e
      have cr := cts_rng hct
      refine Wp.pos hz ?_
      rw [w64 (n := y - cents) (by omega) (by omega)]
      refine Wp.calls (b10Abs_f (by omega) (by omega)) (Wp.pos hax (Wp.neg (by have := hc.1.2; omega) (Wp.val (validS_wp bn bd) ?_)))
      rw [hc.2.2]
      exact j3_wp hb h1 h2 hall
    · rw [hc.2.2] at hv; cases hv
theorem j1_wp {c m : List Int} (hb : Bytes c) (hm : m.length ≤ maxLen) (hbm : Bytes m) : Wp (fun k => laws_FnCents.j1 k c m false) (fun r => r = true) := by
  refine Wp.step ?_
  simp only [laws_FnCents.j1]
  refine Wp.negB rfl (Wp.call (drawOct_wp hm hbm) ?_)
  rintro ⟨a, b⟩ _
  dsimp only
  refine Wp.call (octaveOf_wp a b) ?_
  rintro ⟨x, y, e, z⟩ h
  dsimp only at h ⊢
  have J2 := j2_wp (c := c) hb hm hbm
  refine Wp.ite (fun hz => ?_) (fun _ => J2)
  rcases h with h | ⟨hv, n, d, o, rfl, rfl, nx, dx⟩
  · exact absurd hz h
  obtain ⟨lo, hi, d1, d2, e1, e2, rel⟩ := id o
  obtain ⟨p1, p2, q1, q2, r1, r2, hg⟩ := red_facts (a := n) (b := d) (by omega) (by omega)
  have g1 := gI_pos (a := n) (b := d) (by omega)
  have lo' : d / gI n d ≤ n / gI n d := Int.ediv_le_ediv (by omega) (by omega)
  have hi' : n / gI n d < 2 * (d / gI n d) := by
    refine Int.lt_of_mul_lt_mul_right (?_ : n / gI n d * gI n d < 2 * (d / gI n d) * gI n d) (by omega)
    rw [r1, Int.mul_assoc, r2]; omega
  have hv' : vR (n / gI n d) (d / gI n d) = true := vR_iff.2 ⟨⟨p1, nx⟩, ⟨p2, dx⟩, hg⟩
  obtain ⟨⟨a1, a2⟩, ⟨b1, b2⟩, _⟩ := vR_iff.1 hv
  refine Wp.call (centsOf_wp a b) ?_
  rintro ⟨s, s'⟩ hs
  refine Wp.call (centsOf_wp _ _) ?_
  rintro ⟨t, t'⟩ ht
  dsimp only at hs ht ⊢
  rcases hs with ⟨_, rfl, hs⟩ | ⟨hf, _⟩
  rotate_left
  · rw [hv] at hf; cases hf
  rcases ht with ⟨_, rfl, ht⟩ | ⟨hf, _⟩
  rotate_left
  · rw [hv'] at hf; cases hf
  have es : s = 120000 * e + gV n d := cts_eq hs ⟨n, d, e, o, rfl⟩ b1 b1 rfl
  have et : t = gV (n / gI n d) (d / gI n d) := cts_eq ht (oct_self lo' hi' p2 (by omega)) p2 p2 rfl
  have cross : n * (d / gI n d) = n / gI n d * d := by
    generalize n / gI n d = M at *
    generalize d / gI n d = D at *
    generalize gI n d = g at *
    rw [← r1, ← r2]; grind
  have m1 := gV_mono lo hi d1 d2 lo' hi' p2 (by omega) (by omega)
  have m2 := gV_mono lo' hi' p2 (by omega) lo hi d1 d2 (by omega)
  have gr := gV_le lo hi d1 d2
  refine Wp.pos rfl (Wp.pos rfl ?_)
  rw [w64 (n := 120000 * e) (by omega) (by omega), w64 (n := t + 120000 * e) (by omega) (by omega), w64 (n := 2 * (d / gI n d)) (by omega) (by omega)]
  exact Wp.pos (by omega) (Wp.neg (by omega) (Wp.neg (by omega) J2))
theorem FnCents : laws_FnCents.Pure := by
  intro c m hc hm
  refine Wp.rounds ?_
  simp only [laws_FnCents.f, laws_b10Long.f, Option.bind_some]
  have hbc : Bytes c := hc.2
  have hbm : Bytes m := hm.2
  have j0t : Wp (fun k => laws_FnCents.j0 k c m true) (fun r => r = true) := by
    refine Wp.step ?_
    simp only [laws_FnCents.j0]
    first | exact Wp.now rfl | exact Wp.pos rfl (Wp.now rfl)
  have j0f : Wp (fun k => laws_FnCents.j0 k c m false) (fun r => r = true) := by
    refine Wp.step ?_
    simp only [laws_FnCents.j0]
    refine Wp.negB rfl (Wp.call (drawCmp_wp hc.1 hbc) ?_)
    rintro ⟨a, b, a', b'⟩ _
    dsimp only
    have J1 := j1_wp (c := c) hbc hm.1 hbm
    refine Wp.call (centsOf_wp a b) ?_
    rintro ⟨x, z⟩ hx
    refine Wp.call (centsOf_wp a' b') ?_
    rintro ⟨y, z'⟩ hy
    dsimp only at hx hy ⊢
    have hcmp : ∃ P : Int × Int → Prop, Wp (fun k => impl_CompareRatios.f k a b a' b') P ∧ ∀ r, P r → z = 0 → z' = 0 → r.2 = 0 ∧ (r.1 < 0 → x ≤ y) ∧ (r.1 > 0 → y ≤ x) ∧ (r.1 = 0 → x = y) := by
      by_cases v1 : vR a b = true
      · by_cases v2 : vR a' b' = true
        · refine ⟨_, compare_wp v1 v2, fun r hr _ _ => ?_⟩
          obtain ⟨⟨_, _⟩, ⟨b1, _⟩, _⟩ := vR_iff.1 v1
          obtain ⟨⟨_, _⟩, ⟨d1, _⟩, _⟩ := vR_iff.1 v2
          rcases hx with ⟨_, _, hx⟩ | ⟨hf, _⟩
          rotate_left
          · rw [v1] at hf; cases hf
          rcases hy with ⟨_, _, hy⟩ | ⟨hf, _⟩
          rotate_left
          · rw [v2] at hf; cases hf
          exact ⟨hr.1, fun h => cts_mono hx hy b1 d1 (by have := hr.2.1 h; omega), fun h => cts_mono hy hx d1 b1 (by have := hr.2.2.1 h; omega), fun h => cts_eq hx hy b1 d1 (hr.2.2.2 h)⟩
        · refine ⟨fun _ => True, ?_, fun r _ _ h => ?_⟩
          · simp only [impl_CompareRatios.f]
            exact Wp.val (validI_wp a b) (Wp.posB v1 (Wp.val (validI_wp a' b') (Wp.neg v2 (Wp.now trivial))))
          · rcases hy with ⟨g, _⟩ | ⟨_, g⟩
            · exact absurd g v2
            · rw [Prod.mk.injEq] at g; omega
      · refine ⟨fun _ => True, ?_, fun r _ h _ => ?_⟩
        · simp only [impl_CompareRatios.f]
          exact Wp.val (validI_wp a b) (Wp.neg v1 (Wp.now trivial))
        · rcases hx with ⟨g, _⟩ | ⟨_, g⟩
          · exact absurd g v1
          · rw [Prod.mk.injEq] at g; omega
    obtain ⟨P, hP, hall⟩ := hcmp
    refine Wp.call hP ?_
    rintro ⟨q, q'⟩ hq
    have F := hall (q, q') hq
    dsimp only at F ⊢
    have ne : x = y → Wp (fun k => laws_FnCents.j1 k c m (x != y)) (fun r => r = true) := fun e => by
      rw [show (x != y) = false by simp [e]]; exact J1
    refine Wp.ite (fun z0 => Wp.ite (fun z1 => ?_) (fun _ => J1)) (fun _ => J1)
    obtain ⟨f0, f1, f2, f3⟩ := F z0 z1
    refine Wp.pos f0 (Wp.ite (fun g => Wp.neg (by have := f1 g; omega) ?_) (fun g => ?_))
    · exact Wp.ite (fun g2 => by omega) (fun _ => Wp.ite (fun g3 => ne (f3 g3)) (fun _ => J1))
    · exact Wp.ite (fun g2 => Wp.neg (by have := f2 g2; omega) (Wp.ite (fun g3 => ne (f3 g3)) (fun _ => J1))) (fun _ => Wp.ite (fun g3 => ne (f3 g3)) (fun _ => J1))
  refine Wp.iteB (fun _ => j0t) (fun _ => ?_)
  generalize decide ((m.length : Int) > 1048576) = b
  cases b
  · exact j0f
  · exact j0t
end Go.Proofs.YtmeflmlejcmckaaDoor.Pure
