/- CountNested of the program returns what the reference's returns, for all arguments. -/
import Derived.Test.YthimhjghepdccaaPu1
import Derived.Test.YthimhjghepdccaaPx26
namespace Go.Proofs.Ythimhjghepdccaa.Pure
open Go.RowKit Go.Proofs.Ythimhjghepdccaa.P Go.Proofs.YthimhjghepdccaaW.PrintWords Go.Proofs.YthimhjghepdccaaW.PrintLast
namespace CountNested
def nestB (p g b : Int) : Int := wrap64 (wrap64 (3 * totalB p g) + wrap64 (2 * b))
theorem l19Nest_f (p g b : Int) : spec_l19Nest.f p g b = some (nestB p g b) := rfl
theorem count_ev {a : ByteArray} {l m : List Int} {speed : Int} (h : talaB a l m = true) (hs : within_ speed 1 8 = true) (start : Int) {p g b : Int} (hl : l.length ≤ maxLen) (hp : 1 ≤ p ∧ p ≤ 64) (hg : 0 ≤ g ∧ g ≤ 32) (hb : 0 ≤ b ∧ b ≤ 64) :
    (∃ K, ∀ k, K ≤ k → spec_CountNested.l0 k speed start p g b 0 1 a l m = some (c0 (fun p g b => endsB l speed start (nestB p g b)) (g + 1).toNat (b + 1).toNat p.toNat 1 0, 0)) ∧
    ∃ K, ∀ k, K ≤ k → impl_CountNested.l0 k speed start p g b 0 1 a l m = some (c0 (fun p g b => endsB l speed start (nestB p g b)) (g + 1).toNat (b + 1).toNat p.toNat 1 0, 0) := by
  obtain ⟨K1, h1⟩ := units_ev a l m speed hl
  obtain ⟨K2, h2⟩ := beats_ev a l m hl
  have hu := units_pos h hs
  have e1 : ∀ k, K1 ≤ k → ∀ t, spec_l19Ends.f k [(⟨a, l, m⟩ : S27)] speed start t = some (endsB l speed start t) := fun k hk t => by
    simp only [spec_l19Ends.f]; rw [h1 k hk]; simp only [Option.bind_some]; rw [if_neg (by omega)]; rfl
  have e2 : ∀ k, K2 ≤ k → ∀ t, impl_Tala_endsOnSam.f k a l m speed start t = some (endsB l speed start t) := fun k hk t => by
    have hu' := hu
    unfold unitsB at hu'
    simp only [impl_Tala_endsOnSam.f]; rw [h2 k hk]; simp only [Option.bind_some]; rw [if_neg (by omega)]; rfl
  generalize hc : p.toNat * ((g + 1).toNat * ((b + 1).toNat + 2) + 2) = c
  constructor
  · refine ⟨K1 + c + 1, fun k hk => ?_⟩
    have L := count_loops (f0 := fun k n q => spec_CountNested.l0 k speed start p g b n q a l m) (f1 := fun k n q r => spec_CountNested.l1 k speed start p g b n q r a l m) (f2 := fun k n q r s => spec_CountNested.l2 k speed start p g b n q r s a l m)
      (fun p g b => endsB l speed start (nestB p g b)) p g b K1 (fun k n q => by simp only [spec_CountNested.l0]) (fun k n q r => by simp only [spec_CountNested.l1])
      (fun k n q r s hk => by simp only [spec_CountNested.l2, l19Nest_f, Option.bind_some, e1 k hk])
      hp.2 hg.1 hg.2 hb.1 hb.2 p.toNat 1 0 (k - (c + 1)) (by omega) (by omega) (by omega)
    rw [hc, show k - (c + 1) + c + 1 = k by omega] at L
    exact L
  · refine ⟨K2 + c + 1, fun k hk => ?_⟩
    have L := count_loops (f0 := fun k n q => impl_CountNested.l0 k speed start p g b n q a l m) (f1 := fun k n q r => impl_CountNested.l1 k speed start p g b n q r a l m) (f2 := fun k n q r s => impl_CountNested.l2 k speed start p g b n q r s a l m)
      (fun p g b => endsB l speed start (nestB p g b)) p g b K2 (fun k n q => by simp only [impl_CountNested.l0]) (fun k n q r => by simp only [impl_CountNested.l1])
      (fun k n q r s hk => by
        have := e2 k hk (nestB q r s)
        unfold nestB totalB at this ⊢
        simp only [impl_CountNested.l2]
        rw [this]
        simp only [Option.bind_some])
      hp.2 hg.1 hg.2 hb.1 hb.2 p.toNat 1 0 (k - (c + 1)) (by omega) (by omega) (by omega)
    rw [hc, show k - (c + 1) + c + 1 = k by omega] at L
    exact L
theorem both (a : ByteArray) (l m : List Int) (speed start p g b : Int) (ha : a.size ≤ maxLen) (hl : l.length ≤ maxLen) :
    ∃ v : Int × Int, (∃ K, ∀ k, K ≤ k → spec_CountNested.f k a l m speed start p g b = some v) ∧ ∃ K, ∀ k, K ≤ k → impl_CountNested.f k a l m speed start p g b = some v := by
  obtain ⟨K1, h1⟩ := l19Start_ev a l m speed start ha hl
  obtain ⟨K2, h2⟩ := cadenceCode_ev a l m speed start p g b ha hl
  have hc : codeB a l m speed start p g b = if startB a l m speed start = 0 then (if (within_ p 1 64 && within_ g 0 32 && within_ b 0 64) = true then 0 else 2) else startB a l m speed start := by
    unfold codeB startB
    cases talaB a l m <;> cases within_ speed 1 8 <;> cases within_ start 0 (wrap64 (unitsB l speed - 1)) <;> cases within_ p 1 64 <;> cases within_ g 0 32 <;> cases within_ b 0 64 <;> simp
  rw [hc] at h2
  by_cases h : startB a l m speed start = 0
  · obtain ⟨z1, z2, _⟩ := startB_zero h
    by_cases ok : within_ p 1 64 = true ∧ within_ g 0 32 = true ∧ within_ b 0 64 = true
    · have hp := within_iff.1 ok.1
      have hg := within_iff.1 ok.2.1
      have hb := within_iff.1 ok.2.2
      obtain ⟨⟨K3, h3⟩, K4, h4⟩ := count_ev z1 z2 start hl hp hg hb
      refine ⟨(c0 (fun p g b => endsB l speed start (nestB p g b)) (g + 1).toNat (b + 1).toNat p.toNat 1 0, 0), ⟨K1 + K3, fun k hk => ?_⟩, K2 + K4, fun k hk => ?_⟩
      rotate_left
      · simp only [impl_CountNested.f]
        rw [h2 k (by omega), if_pos h]
        simp only [ok.1, ok.2.1, ok.2.2, Bool.and_self, if_true, Option.bind_some]
        exact h4 k (by omega)
      · simp only [spec_CountNested.f, spec_l19Many.f, l19Phrase_f, l19Gap_f, l00In_f]
        rw [h1 k (by omega)]
        simp only [Option.bind_some]
        rw [if_pos h]
        simp only [ok.1, ok.2.1, ok.2.2, if_true]
        simp only [Option.bind_some]
        rw [if_pos h]
        exact h3 k (by omega)
    · refine ⟨(0, 2), ⟨K1, fun k hk => ?_⟩, K2, fun k hk => ?_⟩
      · simp only [spec_CountNested.f, spec_l19Many.f, l19Phrase_f, l19Gap_f, l00In_f]
        rw [h1 k (by omega)]
        simp only [Option.bind_some]
        rw [if_pos h]
        revert ok
        cases within_ p 1 64 <;> cases within_ g 0 32 <;> cases within_ b 0 64 <;> simp [h]
      · simp only [impl_CountNested.f]
        rw [h2 k (by omega), if_pos h]
        revert ok
        cases within_ p 1 64 <;> cases within_ g 0 32 <;> cases within_ b 0 64 <;> simp
  · refine ⟨(0, startB a l m speed start), ⟨K1, fun k hk => ?_⟩, K2, fun k hk => ?_⟩
    · simp only [spec_CountNested.f, spec_l19Many.f]
      rw [h1 k (by omega)]
      simp only [Option.bind_some]
      rw [if_neg h]
      simp [h]
    · simp only [impl_CountNested.f]
      rw [h2 k (by omega), if_neg h]
      simp [h]
end CountNested
open CountNested
theorem FnExactCountNested : laws_FnExactCountNested.Pure := by
  intro a l m speed start p g b ha hl hm _ _ _ _ _
  obtain ⟨r, hr, hb⟩ := szTala_f a l m ha hl.1 hm.1
  by_cases h : r < 0
  · refine ⟨0, ?_⟩
    simp only [laws_FnExactCountNested.f]
    rw [hr]
    simp only [Option.bind_some]
    rw [if_pos h]
  · obtain ⟨b1, b2⟩ := hb (by omega)
    obtain ⟨K1, h1⟩ := toTala_ev a l m b1 b2
    obtain ⟨v, ⟨K2, h2⟩, K3, h3⟩ := both a l m speed start p g b ha hl.1
    obtain ⟨K4, h4⟩ := eqTala_ev a l m hl.1 hm.1
    refine ⟨K1 + K2 + K3 + K4 + 1, ?_⟩
    simp only [laws_FnExactCountNested.f, laws_FnExactCountNested.j0]
    rw [hr]
    simp only [Option.bind_some]
    rw [if_neg h, h1 (K1 + K2 + K3 + K4 + 1) (by omega)]
    simp only [Option.bind_some]
    rw [h2 _ (by omega), h3 _ (by omega)]
    simp only [Option.bind_some]
    rw [if_pos trivial, if_neg (by simp), h1 (K1 + K2 + K3 + K4) (by omega)]
    simp only [Option.bind_some]
    rw [h4 (K1 + K2 + K3 + K4) (by omega)]
    simp
end Go.Proofs.Ythimhjghepdccaa.Pure
