/- CountCadences of the program returns what the reference's returns, for all arguments. -/
import Derived.Test.YthimhjghepdccaaPu1
import Derived.Test.YthimhjghepdccaaPx23
namespace Go.Proofs.Ythimhjghepdccaa.Pure
open Go.RowKit Go.Proofs.Ythimhjghepdccaa.P Go.Proofs.YthimhjghepdccaaW.PrintWords Go.Proofs.YthimhjghepdccaaW.PrintLast
namespace CountCadences
theorem list_ev {a : ByteArray} {l m : List Int} {speed : Int} (h : talaB a l m = true) (hs : within_ speed 1 8 = true) (start : Int) {p g : Int} (hl : l.length ≤ maxLen) (hp : 1 ≤ p ∧ p ≤ 64) (hg : 0 ≤ g ∧ g ≤ 32) :
    (∃ K, ∀ k, K ≤ k → spec_l19List.f k [(⟨a, l, m⟩ : S27)] speed start p g = some (outL (fun p g => endsB l speed start (totalB p g)) (g + 1).toNat p.toNat 1 [])) ∧
    ∃ K, ∀ k, K ≤ k → impl_Tala_cadences.f k a l m speed start p g = some (outL (fun p g => endsB l speed start (totalB p g)) (g + 1).toNat p.toNat 1 []) := by
  obtain ⟨K1, h1⟩ := units_ev a l m speed hl
  obtain ⟨K2, h2⟩ := beats_ev a l m hl
  have hu := units_pos h hs
  have e1 : ∀ k, K1 ≤ k → ∀ t, spec_l19Ends.f k [(⟨a, l, m⟩ : S27)] speed start t = some (endsB l speed start t) := fun k hk t => by
    simp only [spec_l19Ends.f]; rw [h1 k hk]; simp only [Option.bind_some]; rw [if_neg (by omega)]; rfl
  have e2 : ∀ k, K2 ≤ k → ∀ t, impl_Tala_endsOnSam.f k a l m speed start t = some (endsB l speed start t) := fun k hk t => by
    have hu' := hu
    unfold unitsB at hu'
    simp only [impl_Tala_endsOnSam.f]; rw [h2 k hk]; simp only [Option.bind_some]; rw [if_neg (by omega)]; rfl
  constructor
  · refine ⟨K1 + p.toNat * ((g + 1).toNat + 2) + 1, fun k hk => ?_⟩
    have L := list_loops (f0 := fun k acc q => spec_l19List.l0 k [(⟨a, l, m⟩ : S27)] speed start p g acc q) (f1 := fun k acc q r => spec_l19List.l1 k [(⟨a, l, m⟩ : S27)] speed start p g acc q r)
      (fun p g => endsB l speed start (totalB p g)) p g K1 (fun k acc q => by simp only [spec_l19List.l0])
      (fun k acc q r hk => by simp only [spec_l19List.l1, l19Total_f, Option.bind_some, e1 k hk])
      hp.2 (by omega) hg.2 p.toNat 1 [] (k - (p.toNat * ((g + 1).toNat + 2) + 1)) (by omega) (by omega) (by omega) (by simp; omega)
    rw [show k - (p.toNat * ((g + 1).toNat + 2) + 1) + p.toNat * ((g + 1).toNat + 2) + 1 = k by omega] at L
    exact L
  · refine ⟨K2 + p.toNat * ((g + 1).toNat + 2) + 1, fun k hk => ?_⟩
    have L := list_loops (f0 := fun k acc q => impl_Tala_cadences.l0 k speed start p g acc q a l m) (f1 := fun k acc q r => impl_Tala_cadences.l1 k speed start p g acc q r a l m)
      (fun p g => endsB l speed start (totalB p g)) p g K2 (fun k acc q => by simp only [impl_Tala_cadences.l0])
      (fun k acc q r hk => by
        have := e2 k hk (totalB q r)
        unfold totalB at this ⊢
        simp only [impl_Tala_cadences.l1]
        rw [this]
        simp only [Option.bind_some])
      hp.2 (by omega) hg.2 p.toNat 1 [] (k - (p.toNat * ((g + 1).toNat + 2) + 1)) (by omega) (by omega) (by omega) (by simp; omega)
    rw [show k - (p.toNat * ((g + 1).toNat + 2) + 1) + p.toNat * ((g + 1).toNat + 2) + 1 = k by omega] at L
    exact L
theorem both (a : ByteArray) (l m : List Int) (speed start p g : Int) (ha : a.size ≤ maxLen) (hl : l.length ≤ maxLen) :
    ∃ v : Int × Int, (∃ K, ∀ k, K ≤ k → spec_CountCadences.f k a l m speed start p g = some v) ∧ ∃ K, ∀ k, K ≤ k → impl_CountCadences.f k a l m speed start p g = some v := by
  obtain ⟨K1, h1⟩ := l19Start_ev a l m speed start ha hl
  obtain ⟨K2, h2⟩ := cadenceCode_ev a l m speed start p g 0 ha hl
  rw [codeB_start] at h2
  by_cases h : startB a l m speed start = 0
  · obtain ⟨z1, z2, _⟩ := startB_zero h
    by_cases ok : within_ p 1 64 = true ∧ within_ g 0 32 = true
    · have hp := within_iff.1 ok.1
      have hg := within_iff.1 ok.2
      have L := list_ev z1 z2 start hl hp hg
      obtain ⟨⟨K3, h3⟩, K4, h4⟩ := L
      refine ⟨((outL (fun p g => endsB l speed start (totalB p g)) (g + 1).toNat p.toNat 1 []).length, 0), ⟨K1 + K3, fun k hk => ?_⟩, K2 + K4, fun k hk => ?_⟩
      rotate_left
      · simp only [impl_CountCadences.f]
        rw [h2 k (by omega), if_pos h]
        simp only [ok.1, ok.2, Bool.and_self, if_true, Option.bind_some]
        rw [h4 k (by omega)]
        rfl
      · simp only [spec_CountCadences.f, spec_l19Many.f, l19Phrase_f, l19Gap_f]
        rw [h1 k (by omega)]
        simp only [Option.bind_some]
        rw [if_pos h]
        simp only [ok.1, ok.2, if_true]
        simp only [Option.bind_some]
        rw [if_pos h, h3 k (by omega)]
        rfl
    · refine ⟨(0, 2), ⟨K1, fun k hk => ?_⟩, K2, fun k hk => ?_⟩
      · simp only [spec_CountCadences.f, spec_l19Many.f, l19Phrase_f, l19Gap_f]
        rw [h1 k (by omega)]
        simp only [Option.bind_some]
        rw [if_pos h]
        revert ok
        cases within_ p 1 64 <;> cases within_ g 0 32 <;> simp
      · simp only [impl_CountCadences.f]
        rw [h2 k (by omega), if_pos h]
        revert ok
        cases within_ p 1 64 <;> cases within_ g 0 32 <;> simp
  · refine ⟨(0, startB a l m speed start), ⟨K1, fun k hk => ?_⟩, K2, fun k hk => ?_⟩
    · simp only [spec_CountCadences.f, spec_l19Many.f]
      rw [h1 k (by omega)]
      simp only [Option.bind_some]
      rw [if_neg h]
      simp [h]
    · simp only [impl_CountCadences.f]
      rw [h2 k (by omega), if_neg h]
      simp [h]
end CountCadences
open CountCadences
theorem FnExactCountCadences : laws_FnExactCountCadences.Pure := by
  intro a l m speed start p g ha hl hm _ _ _ _
  obtain ⟨r, hr, hb⟩ := szTala_f a l m ha hl.1 hm.1
  by_cases h : r < 0
  · refine ⟨0, ?_⟩
    simp only [laws_FnExactCountCadences.f]
    rw [hr]
    simp only [Option.bind_some]
    rw [if_pos h]
  · obtain ⟨b1, b2⟩ := hb (by omega)
    obtain ⟨K1, h1⟩ := toTala_ev a l m b1 b2
    obtain ⟨v, ⟨K2, h2⟩, K3, h3⟩ := both a l m speed start p g ha hl.1
    obtain ⟨K4, h4⟩ := eqTala_ev a l m hl.1 hm.1
    refine ⟨K1 + K2 + K3 + K4 + 1, ?_⟩
    simp only [laws_FnExactCountCadences.f, laws_FnExactCountCadences.j0]
    rw [hr]
    simp only [Option.bind_some]
    rw [if_neg h, h1 (K1 + K2 + K3 + K4 + 1) (by omega)]
    simp only [Option.bind_some]
    rw [h2 _ (by omega), h3 _ (by omega)]
    simp only [Option.bind_some]
    rw [if_pos trivial, if_neg (by simp), h1 (K1 + K2 + K3 + K4) (by omega)]
    simp only [Option.bind_some]
    rw [h4 (K1 + K2 + K3 + K4) (by omega)]
    simp
end Go.Proofs.Ythimhjghepdccaa.Pure
