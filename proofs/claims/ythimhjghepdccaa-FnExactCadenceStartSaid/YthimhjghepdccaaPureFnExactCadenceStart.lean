/- CadenceStart of the program returns what the reference's returns, for all arguments. -/
import Derived.Test.YthimhjghepdccaaPu1
import Derived.Test.YthimhjghepdccaaPx14
namespace Go.Proofs.Ythimhjghepdccaa.Pure
open Go.RowKit Go.Proofs.Ythimhjghepdccaa.P Go.Proofs.YthimhjghepdccaaW.PrintWords Go.Proofs.YthimhjghepdccaaW.PrintLast
namespace CadenceStart
theorem both (a : ByteArray) (l m : List Int) (speed p g : Int) (ha : a.size ≤ maxLen) (hl : l.length ≤ maxLen) :
    ∃ v : Int × Int, (∃ K, ∀ k, K ≤ k → spec_CadenceStart.f k a l m speed p g = some v) ∧ ∃ K, ∀ k, K ≤ k → impl_CadenceStart.f k a l m speed p g = some v := by
  obtain ⟨K1, h1⟩ := l19Ask_ev a l m speed ha hl
  obtain ⟨K2, h2⟩ := cadenceCode_ev a l m speed 0 p g 0 ha hl
  rw [codeB_start0] at h2
  cases z1 : talaB a l m with
  | false =>
    rw [z1] at h1 h2
    refine ⟨(0, 1), ⟨K1, fun k hk => ?_⟩, K2, fun k hk => ?_⟩
    · simp only [spec_CadenceStart.f]
      rw [h1 k (by omega)]; simp
    · simp only [impl_CadenceStart.f]
      rw [h2 k (by omega)]; simp
  | true =>
    rw [z1] at h1 h2
    cases z2 : within_ speed 1 8 with
    | false =>
      rw [z2] at h1 h2
      refine ⟨(0, 2), ⟨K1, fun k hk => ?_⟩, K2, fun k hk => ?_⟩
      · simp only [spec_CadenceStart.f]
        rw [h1 k (by omega)]; simp
      · simp only [impl_CadenceStart.f]
        rw [h2 k (by omega)]; simp
    | true =>
      rw [z2] at h1 h2
      by_cases ok : within_ p 1 64 = true ∧ within_ g 0 32 = true
      · have ht := totalB_eq ok.1 ok.2
        have hb : 1 ≤ totalB p g ∧ totalB p g ≤ 100000 := by rw [ht]; have h1 := within_iff.1 ok.1; have h2 := within_iff.1 ok.2; omega
        obtain ⟨K3, h3⟩ := l19Begin_ev (totalB p g) hl z1 z2 hb.1 hb.2
        obtain ⟨K4, h4⟩ := startFor_ev (totalB p g) hl z1 z2
        refine ⟨(beginB l speed (totalB p g), 0), ⟨K1 + K3 + 1, fun k hk => ?_⟩, K2 + K4, fun k hk => ?_⟩
        · obtain ⟨k, rfl⟩ : ∃ m, k = m + 1 := ⟨k - 1, by omega⟩
          simp only [spec_CadenceStart.f, spec_CadenceStart.j0, l19Phrase_f, l19Gap_f, l19Total_f]
          rw [h1 (k + 1) (by omega)]
          simp only [Option.bind_some]
          rw [h3 k (by omega)]
          simp [ok.1, ok.2]
        · simp only [impl_CadenceStart.f]
          have h4' := h4 k (by omega)
          unfold totalB at h4' ⊢
          rw [h2 k (by omega)]
          simp only [ok.1, ok.2, show within_ 0 0 64 = true from rfl, Bool.and_self, if_true, Option.bind_some]
          rw [h4']
          rfl
      · refine ⟨(0, 2), ⟨K1 + 1, fun k hk => ?_⟩, K2, fun k hk => ?_⟩
        · obtain ⟨k, rfl⟩ : ∃ m, k = m + 1 := ⟨k - 1, by omega⟩
          simp only [spec_CadenceStart.f, spec_CadenceStart.j0, l19Phrase_f, l19Gap_f, l19Total_f]
          rw [h1 (k + 1) (by omega)]
          revert ok
          cases within_ p 1 64 <;> cases within_ g 0 32 <;>  simp
        · simp only [impl_CadenceStart.f]
          rw [h2 k (by omega)]
          revert ok
          simp only [show within_ 0 0 64 = true from rfl]
          cases within_ p 1 64 <;> cases within_ g 0 32 <;> simp
end CadenceStart
open CadenceStart
theorem FnExactCadenceStart : laws_FnExactCadenceStart.Pure := by
  intro a l m speed p g ha hl hm _ _ _
  obtain ⟨r, hr, hb⟩ := szTala_f a l m ha hl.1 hm.1
  by_cases h : r < 0
  · refine ⟨0, ?_⟩
    simp only [laws_FnExactCadenceStart.f]
    rw [hr]
    simp only [Option.bind_some]
    rw [if_pos h]
  · obtain ⟨b1, b2⟩ := hb (by omega)
    obtain ⟨K1, h1⟩ := toTala_ev a l m b1 b2
    obtain ⟨v, ⟨K2, h2⟩, K3, h3⟩ := both a l m speed p g ha hl.1
    obtain ⟨K4, h4⟩ := eqTala_ev a l m hl.1 hm.1
    refine ⟨K1 + K2 + K3 + K4 + 1, ?_⟩
    simp only [laws_FnExactCadenceStart.f, laws_FnExactCadenceStart.j0]
    rw [hr]
    simp only [Option.bind_some]
    rw [if_neg h, h1 (K1 + K2 + K3 + K4 + 1) (by omega)]
    simp only [Option.bind_some]
    rw [h2 _ (by omega), h3 _ (by omega)]
    simp only [Option.bind_some]
    rw [if_pos trivial, if_neg (by simp), h1 (K1 + K2 + K3 + K4) (by omega)]
    simp only [Option.bind_some]
    rw [h4 (K1 + K2 + K3 + K4) (by omega)]
    simp
end Go.Proofs.Ythimhjghepdccaa.Pure
