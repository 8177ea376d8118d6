/- PhraseFor of the program returns what the reference's returns, for all arguments. -/
import Derived.Test.YthimhjghepdccaaPuB1
import Derived.Test.YthimhjghepdccaaPBx13
namespace Go.Proofs.Ythimhjghepdccaa.Pure
open Go.RowKit Go.Proofs.Ythimhjghepdccaa.PB Go.Proofs.YthimhjghepdccaaW.PrintWords Go.Proofs.YthimhjghepdccaaW.PrintLast
set_option linter.unusedSimpArgs false
namespace PhraseFor
theorem both (a : ByteArray) (l m : List Int) (speed start g : Int) (ha : a.size ≤ maxLen) (hl : l.length ≤ maxLen) :
    ∃ v : Int × Int, (∃ K, ∀ k, K ≤ k → spec_PhraseFor.f k a l m speed start g = some v) ∧ ∃ K, ∀ k, K ≤ k → impl_PhraseFor.f k a l m speed start g = some v := by
  obtain ⟨K1, h1⟩ := l19Start_ev a l m speed start ha hl
  obtain ⟨K2, h2⟩ := cadenceCode_ev a l m speed start 1 g 0 ha hl
  rw [codeB_start] at h2
  simp only [show within_ 1 1 64 = true from rfl, Bool.and_true, Bool.true_and] at h2
  by_cases h : startB a l m speed start = 0
  · obtain ⟨z1, z2, _⟩ := startB_zero h
    have hu := units_pos z1 z2
    cases ok : within_ g 0 32 with
    | true =>
      rw [ok] at h2
      obtain ⟨K3, h3⟩ := units_ev a l m speed hl
      obtain ⟨K4, h4⟩ := beats_ev a l m hl
      have e1 : ∀ k, K3 ≤ k → ∀ t, spec_l19Ends.f k [(⟨a, l, m⟩ : S27)] speed start t = some (endsB l speed start t) := fun k hk t => by
        simp only [spec_l19Ends.f]; rw [h3 k hk]; simp only [Option.bind_some]; rw [if_neg (by omega)]; rfl
      have e2 : ∀ k, K4 ≤ k → ∀ t, impl_Tala_endsOnSam.f k a l m speed start t = some (endsB l speed start t) := fun k hk t => by
        have hu' := hu
        unfold unitsB at hu'
        simp only [impl_Tala_endsOnSam.f]; rw [h4 k hk]; simp only [Option.bind_some]; rw [if_neg (by omega)]; rfl
      have L : ∀ (d : Nat) (n : Int), 0 ≤ n → n + d = 64 + 1 → ∀ k, K3 + d < k → spec_PhraseFor.l0 k speed start g n a l m = some (outR (leastR (fun n => endsB l speed start (totalB n g)) d n)) := by
        intro d
        induction d with
        | zero =>
          intro n h0 hd k hk
          obtain ⟨k, rfl⟩ : ∃ m, k = m + 1 := ⟨k - 1, by omega⟩
          simp only [spec_PhraseFor.l0]
          rw [if_neg (by omega)]; rfl
        | succ d ih =>
          intro n h0 hd k hk
          obtain ⟨k, rfl⟩ : ∃ m, k = m + 1 := ⟨k - 1, by omega⟩
          simp only [spec_PhraseFor.l0, l19Total_f, Option.bind_some, leastR]
          rw [if_pos (by omega), e1 k (by omega), w64 (n := n + 1) (by omega) (by omega), ih (n + 1) (by omega) (by omega) k (by omega)]
          simp only [Option.bind_some]
          by_cases e : endsB l speed start (totalB n g) = true
          · rw [if_pos e, if_pos e]; rfl
          · rw [if_neg e, if_neg e]
      refine ⟨outR (leastR (fun n => endsB l speed start (totalB n g)) (64 - 1 + 1) 1), ⟨K1 + K3 + 100, fun k hk => ?_⟩, K2 + K4, fun k hk => ?_⟩
      · simp only [spec_PhraseFor.f, l19Phrase_f, l19Gap_f]
        rw [h1 k (by omega)]
        simp only [Option.bind_some]
        rw [if_pos h, ok]
        exact L (64 - 1 + 1) 1 (by omega) (by omega) k (by omega)
      · simp only [impl_PhraseFor.f, impl_least_at_impl_PhraseFor_1.f]
        rw [h2 k (by omega), if_pos h]
        simp only [if_true, Option.bind_some]
        rw [if_pos ⟨by decide, by decide⟩, leastO_eval _ (fun n => endsB l speed start (totalB n g)) (fun x => by
          have e3 := e2 k (by omega) (totalB x g)
          unfold totalB at e3 ⊢
          simp only [impl_PhraseFor_1.f, show (rd_T27 [(⟨a, l, m⟩ : S27)] 0).f0 = a from rfl, show (rd_T27 [(⟨a, l, m⟩ : S27)] 0).f1 = l from rfl, show (rd_T27 [(⟨a, l, m⟩ : S27)] 0).f2 = m from rfl, show ∀ y : Int, rd [y] 0 = y from fun _ => rfl]
          rw [e3]; rfl)]
        simp only [Option.bind_some, impl_orNotFound.f]
        rw [show ((64 : Int) - 1 + 1).toNat = 64 - 1 + 1 from rfl]
        generalize leastR (fun n => endsB l speed start (totalB n g)) (64 - 1 + 1) 1 = r
        obtain ⟨r1, r2⟩ := r
        cases r2 <;> rfl
    | false =>
      rw [ok] at h2
      refine ⟨(0, 2), ⟨K1, fun k hk => ?_⟩, K2, fun k hk => ?_⟩
      · simp only [spec_PhraseFor.f, l19Phrase_f, l19Gap_f]
        rw [h1 k (by omega)]
        simp only [Option.bind_some]
        rw [if_pos h, ok]; rfl
      · simp only [impl_PhraseFor.f]
        rw [h2 k (by omega), if_pos h]; rfl
  · refine ⟨(0, startB a l m speed start), ⟨K1, fun k hk => ?_⟩, K2, fun k hk => ?_⟩
    · simp only [spec_PhraseFor.f]
      rw [h1 k (by omega)]
      simp only [Option.bind_some]
      rw [if_neg h]
    · simp only [impl_PhraseFor.f]
      rw [h2 k (by omega), if_neg h]
      simp only [Option.bind_some]
      rw [if_neg h]
end PhraseFor
open PhraseFor
theorem FnExactPhraseFor : laws_FnExactPhraseFor.Pure := by
  intro a l m speed start g ha hl hm _ _ _
  obtain ⟨r, hr, hb⟩ := szTala_f a l m ha hl.1 hm.1
  by_cases h : r < 0
  · refine ⟨0, ?_⟩
    simp only [laws_FnExactPhraseFor.f]
    rw [hr]
    simp only [Option.bind_some]
    rw [if_pos h]
  · obtain ⟨b1, b2⟩ := hb (by omega)
    obtain ⟨K1, h1⟩ := toTala_ev a l m b1 b2
    obtain ⟨v, ⟨K2, h2⟩, K3, h3⟩ := both a l m speed start g ha hl.1
    obtain ⟨K4, h4⟩ := eqTala_ev a l m hl.1 hm.1
    refine ⟨K1 + K2 + K3 + K4 + 1, ?_⟩
    simp only [laws_FnExactPhraseFor.f, laws_FnExactPhraseFor.j0]
    rw [hr]
    simp only [Option.bind_some]
    rw [if_neg h, h1 (K1 + K2 + K3 + K4 + 1) (by omega)]
    simp only [Option.bind_some]
    rw [h2 _ (by omega), h3 _ (by omega)]
    simp only [Option.bind_some]
    rw [if_pos trivial, if_neg (by simp), h1 (K1 + K2 + K3 + K4) (by omega)]
    simp only [Option.bind_some]
    rw [h4 (K1 + K2 + K3 + K4) (by omega)]
    simp
end Go.Proofs.Ythimhjghepdccaa.Pure
