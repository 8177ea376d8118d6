/- Nested cadences end on the first beat, and each list has just one beginning. -/
import Derived.Test.YthimhjghepdccaaPuN2
import Derived.Test.YthimhjghepdccaaPuN3
import Derived.Test.YthimhjghepdccaaPNx4
import Derived.Test.YthimhjghepdccaaPNx8
import Derived.Test.YthimhjghepdccaaPNx9
import Derived.Test.YthimhjghepdccaaPNx16
import Derived.Test.YthimhjghepdccaaPNx17
namespace Go.Proofs.Ythimhjghepdccaa.Pure
open Go.RowKit Go.Proofs.Ythimhjghepdccaa.PN Go.Proofs.YthimhjghepdccaaW.PrintWords Go.Proofs.YthimhjghepdccaaW.PrintLast
set_option linter.unusedSimpArgs false

def nestB (p g b : Int) : Int := wrap64 (wrap64 (3 * totalB p g) + wrap64 (2 * b))
theorem nestB_eq {p g b : Int} (hp : within_ p 1 64 = true) (hg : within_ g 0 32 = true) (hb : within_ b 0 64 = true) : nestB p g b = 3 * (3 * p + 2 * g) + 2 * b := by
  unfold nestB
  rw [totalB_eq hp hg]
  rw [within_iff] at hp hg hb
  rw [w64 (n := 3 * (3 * p + 2 * g)) (by omega) (by omega), w64 (n := 2 * b) (by omega) (by omega), w64 (by omega) (by omega)]
def cntB (l : List Int) (speed k : Int) : Int := c0 (fun p g b => endsB l speed k (nestB p g b)) 3 4 4 1 0
theorem countNested_ev {a : ByteArray} {l m : List Int} {speed : Int} (h : talaB a l m = true) (hs : within_ speed 1 8 = true) (start : Int) (ha : a.size ≤ maxLen) (hl : l.length ≤ maxLen) (h0 : 0 ≤ start) (h1 : start < unitsB l speed) :
    ∃ K, ∀ k, K ≤ k → impl_CountNested.f k a l m speed start 4 2 3 = some (cntB l speed start, 0) := by
  obtain ⟨K1, k1⟩ := cadenceCode_ev a l m speed start 4 2 3 ha hl
  obtain ⟨K2, h2⟩ := beats_ev a l m hl
  have hu := units_pos h hs
  have hw : within_ start 0 (wrap64 (unitsB l speed - 1)) = true := by rw [w64 (by omega) (by omega), within_iff]; omega
  have hc : codeB a l m speed start 4 2 3 = 0 := by unfold codeB; rw [h, hs, hw]; rfl
  rw [hc] at k1
  have e2 : ∀ k, K2 ≤ k → ∀ t, impl_Tala_endsOnSam.f k a l m speed start t = some (endsB l speed start t) := fun k hk t => by
    have hu' := hu
    unfold unitsB at hu'
    simp only [impl_Tala_endsOnSam.f]; rw [h2 k hk]; simp only [Option.bind_some]; rw [if_neg (by omega)]; rfl
  refine ⟨K1 + (K2 + 4 * (3 * (4 + 2) + 2) + 1), fun k hk => ?_⟩
  simp only [impl_CountNested.f]
  rw [k1 k (by omega)]
  simp only [Option.bind_some, if_true]
  have L := count_loops (f0 := fun k n q => impl_CountNested.l0 k speed start 4 2 3 n q a l m) (f1 := fun k n q r => impl_CountNested.l1 k speed start 4 2 3 n q r a l m) (f2 := fun k n q r s => impl_CountNested.l2 k speed start 4 2 3 n q r s a l m)
      (fun p g b => endsB l speed start (nestB p g b)) 4 2 3 K2 (fun k n q => by simp only [impl_CountNested.l0]) (fun k n q r => by simp only [impl_CountNested.l1])
      (fun k n q r s hk => by
        have := e2 k hk (nestB q r s)
        unfold nestB totalB at this ⊢
        simp only [impl_CountNested.l2]
        rw [this]
        simp only [Option.bind_some])
      (by omega) (by omega) (by omega) (by omega) (by omega) 4 1 0 (k - (4 * (3 * (4 + 2) + 2) + 1)) (by omega) (by omega) (by omega)
  rw [show ((2 : Int) + 1).toNat = 3 from rfl, show ((3 : Int) + 1).toNat = 4 from rfl, show k - (4 * (3 * (4 + 2) + 2) + 1) + 4 * (3 * (4 + 2) + 2) + 1 = k by omega] at L
  exact L
theorem begin_ends {l : List Int} {speed t : Int} (hu : 1 ≤ unitsB l speed ∧ unitsB l speed ≤ 256) (h3 : 1 ≤ t) (h4 : t ≤ 100000) : 0 ≤ beginB l speed t ∧ beginB l speed t < unitsB l speed ∧ endsB l speed (beginB l speed t) t = true := by
  unfold beginB endsB
  generalize unitsB l speed = n at hu
  have r1 := Int.emod_nonneg (t - 1) (show n ≠ 0 by omega)
  have r2 := Int.emod_lt_of_pos (t - 1) (show 0 < n by omega)
  rw [w64 (n := t - 1) (by omega) (by omega), Int.tmod_eq_emod_of_nonneg (show (0 : Int) ≤ t - 1 by omega)]
  have key : ∀ x, 0 ≤ x → x ≤ 1000 → (Int.tmod (wrap64 (wrap64 (x + t) - 1)) n == 0) = decide ((x + (t - 1) % n) % n = 0) := fun x a b => by
    rw [w64 (n := x + t) (by omega) (by omega), w64 (n := x + t - 1) (by omega) (by omega), Int.tmod_eq_emod_of_nonneg (by omega), show x + t - 1 = x + (t - 1) by omega, ← Int.add_emod_emod]
    generalize (x + (t - 1) % n) % n = z
    by_cases e : z = 0 <;> simp [e]
  generalize hr : (t - 1) % n = r at r1 r2 key
  rw [w64 (n := n - r) (by omega) (by omega), Int.tmod_eq_emod_of_nonneg (show (0 : Int) ≤ n - r by omega)]
  have s1 := Int.emod_nonneg (n - r) (show n ≠ 0 by omega)
  have s2 := Int.emod_lt_of_pos (n - r) (show 0 < n by omega)
  refine ⟨s1, s2, ?_⟩
  rw [key _ s1 (by omega), decide_eq_true_eq]
  by_cases e : r = 0
  · subst e; simp
  · rw [Int.emod_eq_of_lt (show 0 ≤ n - r by omega) (show n - r < n by omega), show n - r + r = n by omega, Int.emod_self]
theorem sum48 {a : ByteArray} {l m : List Int} {speed : Int} (h : talaB a l m = true) (hs : within_ speed 1 8 = true) : sumZ (cntB l speed) (unitsB l speed).toNat 0 = 48 := by
  have hu := units_pos h hs
  have e : sumZ (cntB l speed) (unitsB l speed).toNat 0 = sumZ (fun k => t0 (fun p g b => endsB l speed k (nestB p g b)) 3 4 4 1) (unitsB l speed).toNat 0 := sumZ_congr _ _ (fun j _ _ => by
    unfold cntB
    rw [c0_eq _ 3 4 4 1 0 (by omega) (by omega), Int.zero_add])
  rw [e, sum0 (fun k p g b => endsB l speed k (nestB p g b)) (unitsB l speed).toNat 3 4 4 1 (fun p hp1 hp2 g hg1 hg2 b hb1 hb2 => by
    have hn := nestB_eq (p := p) (g := g) (b := b) (within_iff.2 (by omega)) (within_iff.2 (by omega)) (within_iff.2 (by omega))
    obtain ⟨k0, q0, q1, hk⟩ := ends_once (n := unitsB l speed) (t := nestB p g b) hu.1 hu.2 (by omega) (by omega)
    rw [sumZ_congr (g := fun k => ind (decide (k = k0))) _ _ (fun j x y => by
      show ind (endsB l speed j (nestB p g b)) = _
      unfold endsB
      rw [hk j x (by omega)]), sumZ_point, if_pos (by omega)])]
  rfl
theorem cnt_bd (l : List Int) (speed k : Int) : 0 ≤ cntB l speed k ∧ cntB l speed k ≤ 48 := by
  unfold cntB
  rw [c0_eq _ 3 4 4 1 0 (by omega) (by omega), Int.zero_add]
  have := t0_bd (fun p g b => endsB l speed k (nestB p g b)) 3 4 4 1
  omega
theorem FnNested : laws_FnNested.Pure := by
  intro code more hc hm
  unfold laws_FnNested.f
  by_cases z : laws_r8Long.f code more = some true
  · exact ⟨0, by simp only [z, Option.bind_some, if_true]⟩
  have z' : laws_r8Long.f code more = some false := by
    unfold laws_r8Long.f at z ⊢
    by_cases e : (code.length : Int) > 1048576
    · rw [if_pos e] at z; exact absurd rfl z
    · rw [if_neg e] at z ⊢
      by_cases e2 : (more.length : Int) > 1048576
      · simp [e2] at z
      · simp [e2]
  obtain ⟨a, l, m, K1, ha, hl, ht, h1⟩ := draw_ev hc.1 hc.2
  obtain ⟨s, e1, s0, s1⟩ := r8At_ev hm.2 0 3 (by omega) (by omega)
  obtain ⟨p, e2, p0, p1⟩ := r8At_ev hm.2 1 30 (by omega) (by omega)
  obtain ⟨g, e3, g0, g1⟩ := r8At_ev hm.2 2 12 (by omega) (by omega)
  obtain ⟨b, e4, b0, b1⟩ := r8At_ev hm.2 3 20 (by omega) (by omega)
  have ha' : a.size ≤ maxLen := by unfold maxLen; omega
  have hl' : l.length ≤ maxLen := by unfold maxLen; omega
  have hs : within_ (1 + s) 1 8 = true := within_iff.2 (by omega)
  have hp : within_ (1 + p) 1 64 = true := within_iff.2 (by omega)
  have hg : within_ g 0 32 = true := within_iff.2 (by omega)
  have hb : within_ b 0 64 = true := within_iff.2 (by omega)
  have hu := units_pos ht hs
  have hn := nestB_eq hp hg hb
  obtain ⟨q0, q1, q2⟩ := begin_ends (l := l) (speed := 1 + s) (t := nestB (1 + p) g b) hu (by omega) (by omega)
  obtain ⟨K2, h2⟩ := l17Ok_ev a l m ha' hl'
  obtain ⟨K3, h3⟩ := l17Beats_ev a l m hl'
  obtain ⟨K4, h4⟩ := cadenceCode_ev a l m (1 + s) 0 (1 + p) g b ha' hl'
  obtain ⟨K5, h5⟩ := startFor_ev (a := a) (m := m) (nestB (1 + p) g b) hl' ht hs
  obtain ⟨K6, h6⟩ := l19Start_ev a l m (1 + s) (beginB l (1 + s) (nestB (1 + p) g b)) ha' hl'
  obtain ⟨K7, h7⟩ := l19Ends_ev (a := a) (m := m) (beginB l (1 + s) (nestB (1 + p) g b)) (nestB (1 + p) g b) hl' ht hs
  obtain ⟨K8, h8⟩ := ev_upto (P := fun k j => impl_CountNested.f k a l m (1 + s) j 4 2 3 = some (cntB l (1 + s) j, 0)) (unitsB l (1 + s)).toNat 0 (fun j x y => countNested_ev ht hs j ha' hl' x (by omega))
  rw [codeB_start0, ht, hs, hp, hg, hb] at h4
  rw [ht] at h2
  have hw : within_ (beginB l (1 + s) (nestB (1 + p) g b)) 0 (wrap64 (unitsB l (1 + s) - 1)) = true := by rw [w64 (by omega) (by omega), within_iff]; omega
  have hst : startB a l m (1 + s) (beginB l (1 + s) (nestB (1 + p) g b)) = 0 := by unfold startB; rw [ht, hs, hw]; rfl
  rw [hst] at h6
  have L : ∀ (d : Nat) (i acc : Int), 0 ≤ i → i + d = unitsB l (1 + s) → 0 ≤ acc → acc + 48 * d ≤ 1000000 → ∀ k, K8 + d < k → laws_FnNested.l0 k (1 + s) (unitsB l (1 + s)) acc i a l m = some (acc + sumZ (cntB l (1 + s)) d i == 48) := by
    intro d
    induction d with
    | zero =>
      intro i acc i0 i1 a0 a1 k hk
      obtain ⟨k, rfl⟩ : ∃ m, k = m + 1 := ⟨k - 1, by omega⟩
      simp only [laws_FnNested.l0, sumZ]
      rw [if_neg (by omega), Int.add_zero]
    | succ d ih =>
      intro i acc i0 i1 a0 a1 k hk
      obtain ⟨k, rfl⟩ : ∃ m, k = m + 1 := ⟨k - 1, by omega⟩
      have hbd := cnt_bd l (1 + s) i
      simp only [laws_FnNested.l0, sumZ]
      rw [if_pos (by omega), h8 k (by omega) i i0 (by omega)]
      simp only [Option.bind_some, if_true]
      rw [if_neg (by omega), w64 (n := acc + cntB l (1 + s) i) (by omega) (by omega), w64 (n := i + 1) (by omega) (by omega), ih (i + 1) _ (by omega) (by omega) (by omega) (by omega) k (by omega), Int.add_assoc]
  generalize hK : K1 + K2 + K3 + K4 + K5 + K6 + K7 + K8 = K
  refine ⟨K + 300, ?_⟩
  have hT : wrap64 (wrap64 (wrap64 (9 * (1 + p)) + wrap64 (6 * g)) + wrap64 (2 * b)) = nestB (1 + p) g b := by
    rw [hn, w64 (n := 9 * (1 + p)) (by omega) (by omega), w64 (n := 6 * g) (by omega) (by omega), w64 (n := 2 * b) (by omega) (by omega), w64 (n := 9 * (1 + p) + 6 * g) (by omega) (by omega), w64 (by omega) (by omega)]
    omega
  rw [z']
  simp only [Option.bind_some, Bool.false_eq_true, if_false]
  rw [h1 (K + 300) (by omega)]
  simp only [Option.bind_some, spec_BeatCount.f]
  rw [h2 (K + 300) (by omega), h3 (K + 300) (by omega)]
  simp only [Option.bind_some, if_true]
  rw [e1, e2, e3, e4]
  simp only [Option.bind_some]
  rw [w64 (n := 1 + s) (by omega) (by omega), w64 (n := 1 + p) (by omega) (by omega), hT, show wrap64 (sumB l * (1 + s)) = unitsB l (1 + s) from rfl]
  simp only [impl_NestedStart.f]
  rw [h4 (K + 300) (by omega)]
  simp only [Bool.and_self, if_true, Option.bind_some]
  have h5' := h5 (K + 300) (by omega)
  have hnn : wrap64 (wrap64 (3 * wrap64 (wrap64 (3 * (1 + p)) + wrap64 (2 * g))) + wrap64 (2 * b)) = nestB (1 + p) g b := rfl
  rw [hnn, h5']
  simp only [Option.bind_some, if_true]
  rw [if_neg (by omega), if_neg (by omega)]
  simp only [spec_EndsOnSam.f, l00In_f]
  rw [h6 (K + 300) (by omega)]
  simp only [Option.bind_some, if_true]
  rw [show within_ (nestB (1 + p) g b) 1 1000000000000 = true from within_iff.2 (by omega), if_pos rfl, h7 (K + 300) (by omega)]
  simp only [Option.bind_some]
  rw [q2]
  obtain ⟨k, hk⟩ : ∃ k, K + 300 = k + 1 := ⟨K + 299, by omega⟩
  rw [hk]
  simp only [laws_FnNested.j0, Bool.not_true, Bool.false_eq_true, if_false]
  rw [L (unitsB l (1 + s)).toNat 0 0 (by omega) (by omega) (by omega) (by omega) k (by omega), sum48 ht hs]
  rfl
end Go.Proofs.Ythimhjghepdccaa.Pure
