/- NestedStart of the program returns what the reference's returns, for all arguments. -/
import Derived.Test.YthimhjghepdccaaPu1
import Derived.Test.YthimhjghepdccaaPx16
namespace Go.Proofs.Ythimhjghepdccaa.Pure
open Go.RowKit Go.Proofs.Ythimhjghepdccaa.P Go.Proofs.YthimhjghepdccaaW.PrintWords Go.Proofs.YthimhjghepdccaaW.PrintLast
namespace NestedStart
def nestB (p g b : Int) : Int := wrap64 (wrap64 (3 * totalB p g) + wrap64 (2 * b))
theorem l19Nest_f (p g b : Int) : spec_l19Nest.f p g b = some (nestB p g b) := rfl
theorem nestB_eq {p g b : Int} (hp : within_ p 1 64 = true) (hg : within_ g 0 32 = true) (hb : within_ b 0 64 = true) : nestB p g b = 3 * (3 * p + 2 * g) + 2 * b := by
  unfold nestB
  rw [totalB_eq hp hg]
  rw [within_iff] at hp hg hb
  rw [w64 (n := 3 * (3 * p + 2 * g)) (by omega) (by omega), w64 (n := 2 * b) (by omega) (by omega), w64 (by omega) (by omega)]
theorem both (a : ByteArray) (l m : List Int) (speed p g b : Int) (ha : a.size ≤ maxLen) (hl : l.length ≤ maxLen) :
    ∃ v : Int × Int, (∃ K, ∀ k, K ≤ k → spec_NestedStart.f k a l m speed p g b = some v) ∧ ∃ K, ∀ k, K ≤ k → impl_NestedStart.f k a l m speed p g b = some v := by
  obtain ⟨K1, h1⟩ := l19Ask_ev a l m speed ha hl
  obtain ⟨K2, h2⟩ := cadenceCode_ev a l m speed 0 p g b ha hl
  rw [codeB_start0] at h2
  cases z1 : talaB a l m with
  | false =>
    rw [z1] at h1 h2
    refine ⟨(0, 1), ⟨K1, fun k hk => ?_⟩, K2, fun k hk => ?_⟩
    · simp only [spec_NestedStart.f]
      rw [h1 k (by omega)]; simp
    · simp only [impl_NestedStart.f]
      rw [h2 k (by omega)]; simp
  | true =>
    rw [z1] at h1 h2
    cases z2 : within_ speed 1 8 with
    | false =>
      rw [z2] at h1 h2
      refine ⟨(0, 2), ⟨K1, fun k hk => ?_⟩, K2, fun k hk => ?_⟩
      · simp only [spec_NestedStart.f]
        rw [h1 k (by omega)]; simp
      · simp only [impl_NestedStart.f]
        rw [h2 k (by omega)]; simp
    | true =>
      rw [z2] at h1 h2
      by_cases ok : within_ p 1 64 = true ∧ within_ g 0 32 = true ∧ within_ b 0 64 = true
      · have ht := nestB_eq ok.1 ok.2.1 ok.2.2
        have hb : 1 ≤ nestB p g b ∧ nestB p g b ≤ 100000 := by rw [ht]; have h1 := within_iff.1 ok.1; have h2 := within_iff.1 ok.2.1; have h3 := within_iff.1 ok.2.2; omega
        obtain ⟨K3, h3⟩ := l19Begin_ev (nestB p g b) hl z1 z2 hb.1 hb.2
        obtain ⟨K4, h4⟩ := startFor_ev (nestB p g b) hl z1 z2
        refine ⟨(beginB l speed (nestB p g b), 0), ⟨K1 + K3 + 1, fun k hk => ?_⟩, K2 + K4, fun k hk => ?_⟩
        · obtain ⟨k, rfl⟩ : ∃ m, k = m + 1 := ⟨k - 1, by omega⟩
          simp only [spec_NestedStart.f, spec_NestedStart.j0, l19Phrase_f, l19Gap_f, l19Nest_f, l00In_f]
          rw [h1 (k + 1) (by omega)]
          simp only [Option.bind_some]
          rw [h3 k (by omega)]
          simp [ok.1, ok.2.1, ok.2.2]
        · simp only [impl_NestedStart.f]
          have h4' := h4 k (by omega)
          unfold nestB totalB at h4' ⊢
          rw [h2 k (by omega)]
          simp only [ok.1, ok.2.1, ok.2.2, Bool.and_self, if_true, Option.bind_some]
          rw [h4']
          rfl
      · refine ⟨(0, 2), ⟨K1 + 1, fun k hk => ?_⟩, K2, fun k hk => ?_⟩
        · obtain ⟨k, rfl⟩ : ∃ m, k = m + 1 := ⟨k - 1, by omega⟩
          simp only [spec_NestedStart.f, spec_NestedStart.j0, l19Phrase_f, l19Gap_f, l19Nest_f, l00In_f]
          rw [h1 (k + 1) (by omega)]
          revert ok
          cases within_ p 1 64 <;> cases within_ g 0 32 <;> cases within_ b 0 64 <;> simp
        · simp only [impl_NestedStart.f]
          rw [h2 k (by omega)]
          revert ok
          cases within_ p 1 64 <;> cases within_ g 0 32 <;> cases within_ b 0 64 <;> simp
end NestedStart
open NestedStart
theorem FnExactNestedStart : laws_FnExactNestedStart.Pure := by
  intro a l m speed p g b ha hl hm _ _ _ _
  obtain ⟨r, hr, hb⟩ := szTala_f a l m ha hl.1 hm.1
  by_cases h : r < 0
  · refine ⟨0, ?_⟩
    simp only [laws_FnExactNestedStart.f]
    rw [hr]
    simp only [Option.bind_some]
    rw [if_pos h]
  · obtain ⟨b1, b2⟩ := hb (by omega)
    obtain ⟨K1, h1⟩ := toTala_ev a l m b1 b2
    obtain ⟨v, ⟨K2, h2⟩, K3, h3⟩ := both a l m speed p g b ha hl.1
    obtain ⟨K4, h4⟩ := eqTala_ev a l m hl.1 hm.1
    refine ⟨K1 + K2 + K3 + K4 + 1, ?_⟩
    simp only [laws_FnExactNestedStart.f, laws_FnExactNestedStart.j0]
    rw [hr]
    simp only [Option.bind_some]
    rw [if_neg h, h1 (K1 + K2 + K3 + K4 + 1) (by omega)]
    simp only [Option.bind_some]
    rw [h2 _ (by omega), h3 _ (by omega)]
    simp only [Option.bind_some]
    rw [if_pos trivial, if_neg (by simp), h1 (K1 + K2 + K3 + K4) (by omega)]
    simp only [Option.bind_some]
    rw [h4 (K1 + K2 + K3 + K4) (by omega)]
    simp
end Go.Proofs.Ythimhjghepdccaa.Pure
