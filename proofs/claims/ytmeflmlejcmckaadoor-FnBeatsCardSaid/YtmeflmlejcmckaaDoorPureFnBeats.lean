/- Beats are the same both ways, a pitch has none with itself, and no harmonics beat less than the purest ones: the law returns true for all bytes. -/
import Derived.Test.YtmeflmlejcmckaaDoorPuB3
import Derived.Test.YtmeflmlejcmckaaDoorPuB4
import Derived.Test.YtmeflmlejcmckaaDoorPBx25
import Derived.Test.YtmeflmlejcmckaaDoorPBx16
import Derived.Test.YtmeflmlejcmckaaDoorPBx19
import Derived.Test.YtmeflmlejcmckaaDoorPBx20
import Derived.Test.YtmeflmlejcmckaaDoorPBx21
import Derived.Test.YtmeflmlejcmckaaDoorPBx23
import Derived.Test.YtmeflmlejcmckaaDoorPBx24
namespace Go.Proofs.YtmeflmlejcmckaaDoor.Pure
open Go.RowKit Go.Proofs.YtmeflmlejcmckaaDoor.PB Go.Proofs.YtmeflmlejcmckaaDoorW.PrintWords Go.Proofs.YtmeflmlejcmckaaDoorW.PrintLast
set_option linter.unusedSimpArgs false
set_option linter.unusedVariables false
def codeV (v : Bool) (base : Int) (ps : List Int) : Int := if v = true then (if within_ base 10000 2000000 = true then (if (ps.all fun n => within_ n (-12) 23) = true then 0 else 2) else 2) else 1
theorem code_wp {a : ByteArray} {l : List S52} {v : Bool} (h : Wp (fun k => impl_ValidTuning.f k a l) (fun r => r = v)) (base : Int) (ps : List Int) : Wp (fun k => impl_tuningCode.f k a l base ps) (fun r => r = codeV v base ps) := by
  simp only [impl_tuningCode.f, within_f, impl_allWithin.f]
  unfold codeV
  refine Wp.val h (Wp.ite (fun e => ?_) (fun e => Wp.now (by rw [if_neg e])))
  rw [if_pos e]
  refine Wp.calls rfl (Wp.ite (fun e2 => ?_) (fun e2 => Wp.now (by rw [if_neg e2])))
  rw [if_pos e2]
  exact Wp.calls rfl (Wp.ite (fun e3 => Wp.now (by rw [if_pos e3])) (fun e3 => Wp.now (by rw [if_neg e3])))
theorem codeV_zero {v : Bool} {base : Int} {ps : List Int} (h : codeV v base ps = 0) : v = true ∧ (10000 ≤ base ∧ base ≤ 2000000) ∧ ∀ p ∈ ps, -12 ≤ p ∧ p ≤ 23 := by
  unfold codeV at h
  split at h
  · split at h
    · split at h
      · rename_i h1 h2 h3
        exact ⟨h1, within_iff.1 h2, fun p hp => within_iff.1 (List.all_eq_true.1 h3 p hp)⟩
      · omega
    · omega
  · omega
theorem codeV_ok {base : Int} {ps : List Int} (b : 10000 ≤ base ∧ base ≤ 2000000) (h : ∀ p ∈ ps, -12 ≤ p ∧ p ≤ 23) : codeV true base ps = 0 := by
  unfold codeV
  rw [if_pos rfl, if_pos (within_iff.2 b), if_pos (List.all_eq_true.2 fun p hp => within_iff.2 (h p hp))]
theorem mul16 {m x : Int} (m1 : 1 ≤ m) (m2 : m ≤ 16) (x1 : 1 ≤ x) (x2 : x ≤ 10000000) : 0 ≤ m * x ∧ m * x ≤ 160000000 := by
  have h1 : 0 ≤ m * x := Int.mul_nonneg (by omega) (by omega)
  have h2 : m * x ≤ 16 * 10000000 := Int.mul_le_mul m2 x2 (by omega) (by omega)
  omega
theorem beating_wp {a : ByteArray} {l : List S52} (h : Wp (fun k => impl_ValidTuning.f k a l) (fun r => r = true)) (vt : VT l) {base p m q n : Int} (b : 10000 ≤ base ∧ base ≤ 2000000) (hp : -12 ≤ p ∧ p ≤ 23) (hq : -12 ≤ q ∧ q ≤ 23) (hm : 1 ≤ m ∧ m ≤ 16) (hn : 1 ≤ n ∧ n ≤ 16) :
    Wp (fun k => impl_BeatingOf.f k a l base p m q n) (fun r => r = (av (m * fv l base p - n * fv l base q), 0)) := by
  have f1' := fv_rng vt b.1 b.2 p
  have f2' := fv_rng vt b.1 b.2 q
  have g1 := mul16 hm.1 hm.2 f1'.1 f1'.2
  have g2 := mul16 hn.1 hn.2 f2'.1 f2'.2
  have hc : codeV true base [p, q] = 0 := codeV_ok b (fun x hx => by
    simp only [List.mem_cons, List.not_mem_nil, or_false] at hx
    rcases hx with rfl | rfl
    · exact hp
    · exact hq)
  simp only [impl_BeatingOf.f, within_f]
  refine Wp.val (code_wp h base [p, q]) ?_
  rw [hc]
  refine Wp.pos rfl (Wp.calls rfl (Wp.pos (within_iff.2 hm) (Wp.calls rfl ?_)))
  rw [within_iff.2 hn]
  refine Wp.step ?_
  simp only [impl_BeatingOf.j0]
  refine Wp.neg (by decide) (Wp.calls (freq_f vt a b.1 b.2 hp.1 hp.2) (Wp.calls (freq_f vt a b.1 b.2 hq.1 hq.2) ?_))
  rw [w64 (n := m * fv l base p) (by omega) (by omega), w64 (n := n * fv l base q) (by omega) (by omega), w64 (by omega) (by omega)]
  exact Wp.calls (abs_f (by omega) (by omega)) (Wp.now rfl)
/-! ### the harmonics with the fewest beats -/
def In (m n : Int) : Prop := (1 ≤ m ∧ m ≤ 16) ∧ 1 ≤ n ∧ n ≤ 16
def AtP (M N' : Int) (m n : Int) : Prop := m < M ∨ (m = M ∧ n < N')
def InvP (X Y f s w : Int) (S : Int → Int → Prop) : Prop :=
  (w < 0 ∧ ∀ m n, In m n → ¬ S m n) ∨ (0 ≤ w ∧ In f s ∧ w = av (f * X - s * Y) ∧ ∀ m n, In m n → S m n → w ≤ av (m * X - n * Y))
def Least (X Y : Int) (r : Int × Int × Int × Int) : Prop := r.2.2.2 = 0 ∧ In r.1 r.2.1 ∧ r.2.2.1 = av (r.1 * X - r.2.1 * Y) ∧ ∀ m n, In m n → r.2.2.1 ≤ av (m * X - n * Y)
theorem pIn {X Y : Int} (hX : 1 ≤ X ∧ X ≤ 10000000) (hY : 1 ≤ Y ∧ Y ≤ 10000000) {M : Int} (M1 : 1 ≤ M ∧ M ≤ 16) {P : Int × Int × Int × Int → Prop} (out : ∀ f s w, InvP X Y f s w (AtP (M + 1) 1) → Wp (fun k => impl_PureBeats.l0 k X Y f s w (M + 1)) P) :
    ∀ (d : Nat) (n f s w : Int), n + d = 17 → 1 ≤ n → InvP X Y f s w (AtP M n) → Wp (fun k => impl_PureBeats.l1 k X Y f s w M n) P
  | 0, n, f, s, w, h0, h1, hi => by
    refine Wp.step ?_
    simp only [impl_PureBeats.l1]
    rw [w64 (n := M + 1) (by omega) (by omega)]
    refine Wp.neg (by omega) (out f s w ?_)
    have sub : ∀ m n', In m n' → AtP (M + 1) 1 m n' → AtP M n m n' := fun m n' c s => by unfold AtP at s ⊢; unfold In at c; omega
    rcases hi with ⟨i0, i1⟩ | ⟨i0, i1, i2, i3⟩
    · exact .inl ⟨i0, fun m n' c s => i1 m n' c (sub m n' c s)⟩
    · exact .inr ⟨i0, i1, i2, fun m n' c s => i3 m n' c (sub m n' c s)⟩
  | d + 1, n, f, s, w, h0, h1, hi => by
    refine Wp.step ?_
    simp only [impl_PureBeats.l1]
    have g1 := mul16 M1.1 M1.2 hX.1 hX.2
    have g2 := mul16 (m := n) h1 (by omega) hY.1 hY.2
    rw [w64 (n := n + 1) (by omega) (by omega), w64 (n := M * X) (by omega) (by omega), w64 (n := n * Y) (by omega) (by omega), w64 (n := M * X - n * Y) (by omega) (by omega)]
    refine Wp.pos (by omega) (Wp.calls (abs_f (by omega) (by omega)) ?_)
    have cur : In M n := ⟨M1, h1, by omega⟩
    have av0 : 0 ≤ av (M * X - n * Y) := by unfold av; split <;> omega
    have spl : ∀ m n', AtP M (n + 1) m n' → AtP M n m n' ∨ (m = M ∧ n' = n) := fun m n' s => by unfold AtP at s ⊢; omega
    have rest := fun (f' s' w' : Int) (h : InvP X Y f' s' w' (AtP M (n + 1))) => pIn hX hY M1 out d (n + 1) f' s' w' (by omega) (by omega) h
    have new : (w < 0 ∨ av (M * X - n * Y) < w) → InvP X Y M n (av (M * X - n * Y)) (AtP M (n + 1)) := fun h => by
      refine .inr ⟨av0, cur, rfl, fun m n' c s => ?_⟩
      rcases spl m n' s with s | ⟨rfl, rfl⟩
      · rcases hi with ⟨i0, i1⟩ | ⟨i0, i1, i2, i3⟩
        · exact absurd s (i1 m n' c)
        · have := i3 m n' c s; omega
      · exact Int.le_refl _
    refine Wp.ite (fun g => rest _ _ _ (new (.inl g))) (fun g => Wp.ite (fun g2 => rest _ _ _ (new (.inr g2))) (fun g2 => rest _ _ _ ?_))
    rcases hi with ⟨i0, i1⟩ | ⟨i0, i1, i2, i3⟩
    · omega
    · refine .inr ⟨i0, i1, i2, fun m n' c s => ?_⟩
      rcases spl m n' s with s | ⟨rfl, rfl⟩
      · exact i3 m n' c s
      · omega
theorem pOut {X Y : Int} (hX : 1 ≤ X ∧ X ≤ 10000000) (hY : 1 ≤ Y ∧ Y ≤ 10000000) : ∀ (d : Nat) (M f s w : Int), M + d = 17 → 1 ≤ M → InvP X Y f s w (AtP M 1) → Wp (fun k => impl_PureBeats.l0 k X Y f s w M) (Least X Y)
  | 0, M, f, s, w, h0, h1, hi => by
    refine Wp.step ?_
    simp only [impl_PureBeats.l0]
    refine Wp.neg (by omega) (Wp.now ?_)
    have all : ∀ m n, In m n → AtP M 1 m n := fun m n c => by unfold AtP; unfold In at c; omega
    rcases hi with ⟨i0, i1⟩ | ⟨i0, i1, i2, i3⟩
    · exact absurd (all 1 1 ⟨by omega, by omega⟩) (i1 1 1 ⟨by omega, by omega⟩)
    · exact ⟨rfl, i1, i2, fun m n c => i3 m n c (all m n c)⟩
  | d + 1, M, f, s, w, h0, h1, hi => by
    refine Wp.step ?_
    simp only [impl_PureBeats.l0]
    exact Wp.pos (by omega) (pIn hX hY ⟨h1, by omega⟩ (fun f' s' w' h => pOut hX hY d (M + 1) f' s' w' (by omega) (by omega) h) 16 1 f s w (by omega) (by omega) hi)
/-! ### the worst fifth -/
theorem worst_l0 {l : List S52} (vt : VT l) (a : ByteArray) : ∀ (d : Nat) (i w q : Int), 0 ≤ i → i + d = 12 → ((i = 0 ∧ w = -1 ∧ q = 0) ∨ (0 ≤ w ∧ w < 12 ∧ -70196 ≤ q ∧ q ≤ 70196)) →
    Wp (fun k => impl_WorstFifth.l0 k w q i a l) (fun r => r.2.2 = 0 ∧ (0 ≤ r.1 ∧ r.1 < 12) ∧ -70196 ≤ r.2.1 ∧ r.2.1 ≤ 70196)
  | 0, i, w, q, h0, h1, hi => by
    refine Wp.step ?_
    simp only [impl_WorstFifth.l0]
    exact Wp.neg (by omega) (Wp.now ⟨rfl, by dsimp only; omega, by dsimp only; omega, by dsimp only; omega⟩)
  | d + 1, i, w, q, h0, h1, hi => by
    refine Wp.step ?_
    simp only [impl_WorstFifth.l0]
    rw [w64 (n := i + 7) (by omega) (by omega), w64 (n := i + 1) (by omega) (by omega)]
    refine Wp.pos (by omega) (Wp.call (centsT_wp vt a (p := i + 7) (by omega) (by omega)) ?_)
    rintro c ⟨x, hx, rfl⟩
    refine Wp.call (centsT_wp vt a (p := i) (by omega) (by omega)) ?_
    rintro c' ⟨y, hy, rfl⟩
    have et : tn i = i := by unfold tn; omega
    have eo : oc i = 0 := by unfold oc; omega
    rw [et] at hy
    have ry := vt_crng vt h0 (by omega) hy
    obtain ⟨s0, s1⟩ := tn_rng (i + 7)
    have rx := vt_crng vt s0 s1 hx
    have bd : -70196 ≤ 120000 * oc (i + 7) + x - (120000 * oc i + y) - 70196 ∧ 120000 * oc (i + 7) + x - (120000 * oc i + y) - 70196 ≤ 70196 := by
      rw [eo]
      by_cases e : i + 7 < 12
      · rw [show tn (i + 7) = i + 7 by unfold tn; omega] at hx
        rw [show oc (i + 7) = 0 by unfold oc; omega]
        have := vt_cents vt h0 (show i ≤ i + 7 by omega) e hy hx
        omega
      · rw [show tn (i + 7) = i - 5 by unfold tn; omega] at hx
        rw [show oc (i + 7) = 1 by unfold oc; omega]
        have := vt_cents vt (show 0 ≤ i - 5 by omega) (show i - 5 ≤ i by omega) (by omega) hx hy
        omega
    have e1 : wrap64 (120000 * oc (i + 7) + x - (120000 * oc i + y)) = 120000 * oc (i + 7) + x - (120000 * oc i + y) := w64 (by omega) (by omega)
    simp only [e1]
    generalize 120000 * oc (i + 7) + x - (120000 * oc i + y) = z at *
    have e2 : wrap64 (z - 70196) = z - 70196 := w64 (by omega) (by omega)
    simp only [e2]
    have nx := worst_l0 vt a d (i + 1) i (z - 70196) (by omega) (by omega) (.inr ⟨h0, by omega, bd⟩)
    refine Wp.ite (fun _ => nx) (fun g => Wp.calls (abs_f (by omega) (by omega)) (Wp.calls (abs_f (by omega) (by omega)) (Wp.ite (fun _ => nx) (fun _ => ?_))))
    exact worst_l0 vt a d (i + 1) w q (by omega) (by omega) (.inr (by omega))
theorem av_small {x : Int} (h : -70196 ≤ x ∧ x ≤ 70196) : av x < 120000 := by unfold av; split <;> omega
theorem j1_wp {m : List Int} (hm : m.length ≤ maxLen) (hb : Bytes m) : Wp (fun k => laws_FnBeats.j1 k m) (fun r => r = true) := by
  refine Wp.step ?_
  simp only [laws_FnBeats.j1]
  refine Wp.call (drawFreq_wp hm hb) ?_
  rintro ⟨a, l, base, p⟩ ⟨ha, hl⟩
  dsimp only at *
  obtain ⟨v, hv, hvt⟩ := valid_wp a l (by unfold maxLen; omega)
  have one : Wp (fun k => impl_FrequencyOf.f k a l base p) (fun r => (r.2 ≠ 0 ∧ r.1 = 0) ∨ (codeV v base [p] = 0 ∧ r = (fv l base p, 0))) := by
    simp only [impl_FrequencyOf.f]
    refine Wp.val (code_wp hv base [p]) (Wp.ite (fun e => ?_) (fun e => Wp.now (.inl ⟨e, rfl⟩)))
    obtain ⟨c1, c2, c3⟩ := codeV_zero e
    have hp := c3 p (by simp)
    exact Wp.calls (freq_f (hvt c1) a c2.1 c2.2 hp.1 hp.2) (Wp.now (.inr ⟨e, rfl⟩))
  refine Wp.call one ?_
  rintro ⟨f, z⟩ hf
  dsimp only at hf ⊢
  rcases hf with ⟨g1, rfl⟩ | ⟨g1, g2⟩
  · exact Wp.neg g1 (Wp.now rfl)
  rw [Prod.mk.injEq] at g2
  obtain ⟨rfl, rfl⟩ := g2
  obtain ⟨c1, c2, c3⟩ := codeV_zero g1
  subst c1
  have vt := hvt rfl
  have hp := c3 p (by simp)
  have fr := fv_rng vt c2.1 c2.2 p
  refine Wp.pos rfl ?_
  have two : Wp (fun k => impl_FrequencyOf.f k a l base (wrap64 (p + 12))) (fun r => r.2 ≠ 0 ∨ (r = (fv l base (p + 12), 0) ∧ p + 12 ≤ 23)) := by
    rw [w64 (n := p + 12) (by omega) (by omega)]
    simp only [impl_FrequencyOf.f]
    refine Wp.val (code_wp hv base [p + 12]) (Wp.ite (fun e => ?_) (fun e => Wp.now (.inl e)))
    have hp2 := (codeV_zero e).2.2 (p + 12) (by simp)
    exact Wp.calls (freq_f vt a c2.1 c2.2 hp2.1 hp2.2) (Wp.now (.inr ⟨rfl, hp2.2⟩))
  refine Wp.call two ?_
  rintro ⟨u, z⟩ hu
  dsimp only at hu ⊢
  have worst : Wp (fun k => impl_WorstFifth.f k a l) (fun r => r.2.2 = 0 ∧ (0 ≤ r.1 ∧ r.1 < 12) ∧ -70196 ≤ r.2.1 ∧ r.2.1 ≤ 70196) := by
    simp only [impl_WorstFifth.f]
    exact Wp.val hv (Wp.posB rfl (worst_l0 vt a 12 0 (-1) 0 (by omega) (by omega) (.inl ⟨rfl, rfl, rfl⟩)))
  refine Wp.call worst ?_
  rintro ⟨t, q, z'⟩ ⟨w1, w2, w3⟩
  dsimp only at w1 w2 w3 ⊢
  have fin : Wp (fun _ => (laws_b10Abs.f q).bind fun t => some (decide (t < 120000))) (fun r => r = true) := Wp.calls (b10Abs_f (by omega) (by omega)) (Wp.now (decide_eq_true (av_small w3)))
  refine Wp.pos (by omega) (Wp.ite (fun e => ?_) (fun _ => Wp.pos w1 (Wp.pos w2.1 (Wp.pos w2.2 fin))))
  rcases hu with g | ⟨g, g3⟩
  · exact absurd e g
  rw [Prod.mk.injEq] at g
  obtain ⟨rfl, _⟩ := g
  have fr2 := fv_rng vt c2.1 c2.2 (p + 12)
  obtain ⟨s0, s1⟩ := tn_rng p
  have ud := fv_up l (base := base) (p := p) (vt_rng vt s0 s1).2.1 hp.1 g3
  rw [w64 (n := 2 * fv l base p) (by omega) (by omega), w64 (by omega) (by omega)]
  refine Wp.calls (b10Abs_f (by omega) (by omega)) (Wp.pos (by unfold av; split <;> omega) (Wp.pos w1 (Wp.pos w2.1 (Wp.pos w2.2 fin))))
theorem av_neg (x y : Int) : av (x - y) = av (y - x) := by unfold av; split <;> split <;> omega
theorem av_self (x : Int) : av (x - x) = 0 := by rw [Int.sub_self]; rfl
theorem FnBeats : laws_FnBeats.Pure := by
  intro c m hc hm
  refine Wp.rounds ?_
  simp only [laws_FnBeats.f, laws_b10Long.f, Option.bind_some]
  have hbc : Bytes c := hc.2
  have hbm : Bytes m := hm.2
  have j0t : Wp (fun k => laws_FnBeats.j0 k c m true) (fun r => r = true) := by
    refine Wp.step ?_
    simp only [laws_FnBeats.j0]
    first | exact Wp.now rfl | exact Wp.pos rfl (Wp.now rfl)
  have j0f : Wp (fun k => laws_FnBeats.j0 k c m false) (fun r => r = true) := by
    refine Wp.step ?_
    simp only [laws_FnBeats.j0]
    refine Wp.negB rfl (Wp.call (drawPure_wp hc.1 hbc) ?_)
    rintro ⟨a, l, base, p, q⟩ ⟨ha, hl⟩
    dsimp only at *
    have J1 := j1_wp hm.1 hbm
    obtain ⟨v, hv, hvt⟩ := valid_wp a l (by unfold maxLen; omega)
    have pure : Wp (fun k => impl_PureBeats.f k a l base p q) (fun r => r.2.2.2 ≠ 0 ∨ (codeV v base [p, q] = 0 ∧ Least (fv l base p) (fv l base q) r)) := by
      simp only [impl_PureBeats.f]
      refine Wp.val (code_wp hv base [p, q]) (Wp.ite (fun e => ?_) (fun e => Wp.now (.inl e)))
      obtain ⟨c1, c2, c3⟩ := codeV_zero e
      have hp := c3 p (by simp)
      have hq := c3 q (by simp)
      refine Wp.calls (freq_f (hvt c1) a c2.1 c2.2 hp.1 hp.2) (Wp.calls (freq_f (hvt c1) a c2.1 c2.2 hq.1 hq.2) ?_)
      refine (pOut (fv_rng (hvt c1) c2.1 c2.2 p) (fv_rng (hvt c1) c2.1 c2.2 q) 16 1 0 0 (-1) (by omega) (by omega) (.inl ⟨by omega, fun m n i s => ?_⟩)).mono (fun r hr => .inr ⟨e, hr⟩)
      unfold AtP at s; unfold In at i; omega
    refine Wp.call pure ?_
    rintro ⟨f, s, w, z⟩ hr
    dsimp only at hr ⊢
    refine Wp.ite (fun hz => ?_) (fun _ => J1)
    rcases hr with g | ⟨g, _, hin, hw, hall⟩
    · exact absurd hz g
    dsimp only at hin hw hall
    obtain ⟨c1, c2, c3⟩ := codeV_zero g
    subst c1
    have vt := hvt rfl
    have hp := c3 p (by simp)
    have hq := c3 q (by simp)
    obtain ⟨x, ex, x0, x1⟩ := b10At_f hbm (k := 0) (n := 16) (by omega) (by omega) (by omega)
    obtain ⟨y, ey, y0, y1⟩ := b10At_f hbm (k := 1) (n := 16) (by omega) (by omega) (by omega)
    refine Wp.val (beating_wp hv vt c2 hp hq hin.1 hin.2) (Wp.val (beating_wp hv vt c2 hq hp hin.2 hin.1) (Wp.calls ex (Wp.calls ey ?_)))
    rw [w64 (n := 1 + x) (by omega) (by omega), w64 (n := 1 + y) (by omega) (by omega)]
    refine Wp.val (beating_wp hv vt c2 hp hq (m := 1 + x) (n := 1 + y) (by omega) (by omega)) (Wp.val (beating_wp hv vt c2 hp hp (m := 1 + x) (n := 1 + x) (by omega) (by omega)) ?_)
    dsimp only
    have h3 := hall (1 + x) (1 + y) ⟨by omega, by omega⟩
    exact Wp.pos rfl (Wp.pos hw.symm (Wp.pos rfl (Wp.pos (av_neg _ _) (Wp.pos rfl (Wp.neg (by omega) (Wp.pos rfl (Wp.pos (av_self _) J1)))))))
  refine Wp.iteB (fun _ => j0t) (fun _ => ?_)
  generalize decide ((m.length : Int) > 1048576) = b
  cases b
  · exact j0f
  · exact j0t
end Go.Proofs.YtmeflmlejcmckaaDoor.Pure
