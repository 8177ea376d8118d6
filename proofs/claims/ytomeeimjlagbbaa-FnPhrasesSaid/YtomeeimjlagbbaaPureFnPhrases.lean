/- A phrase stands where it is found, occurrences that lie apart are no more than all, and a border is both beginning and end. -/
import Derived.Test.YtomeeimjlagbbaaPuT3
import Derived.Test.YtomeeimjlagbbaaPTx1
import Derived.Test.YtomeeimjlagbbaaPTx13
import Derived.Test.YtomeeimjlagbbaaPTx14
namespace Go.Proofs.Ytomeeimjlagbbaa.Pure
open Go.RowKit Go.Proofs.Ytomeeimjlagbbaa.PT Go.Proofs.YtomeeimjlagbbaaW.PrintWords Go.Proofs.YtomeeimjlagbbaaW.PrintLast
set_option linter.unusedSimpArgs false
theorem j6_ev {x y r : List Int} (hx : x.length ≤ 65) (hy : y.length ≤ 65) (px : piB x = true) (py : piB y = true) (hB : Best x y (All x.length) r) (_ : r.length ≤ x.length) : ∀ k, 1200 < k → laws_FnPhrases.j6 k x y r (decide ((r.length : Int) < 2)) = some true := by
  intro k hk
  obtain ⟨k, rfl⟩ : ∃ m, k = m + 1 := ⟨k - 1, by omega⟩
  simp only [laws_FnPhrases.j6]
  by_cases c : (r.length : Int) < 2
  · rw [decide_eq_true c, if_pos rfl]
  · rw [decide_eq_false c, if_neg (by decide)]
    have hne : r ≠ [] := fun e => c (by rw [e]; simp)
    obtain ⟨⟨f, hf⟩, ⟨g, hg⟩, h8, hin⟩ := best_in hB hne
    have hpin : pinB r = true := by
      unfold pinB
      rw [List.all_eq_true]
      intro z hz
      have hp : pinB x = true := by unfold piB at px; rw [Bool.and_eq_true] at px; exact px.2
      unfold pinB at hp
      exact List.all_eq_true.1 hp z (hin z hz)
    have hph : phB r = true := by unfold phB; rw [hpin]; simp; omega
    have code : ∀ z, piB z = true → codeP r z = 0 := fun z hz => by unfold codeP; rw [hph, hz]; rfl
    have nonempty : ∀ {z : List Int} {j : Int}, j ∈ occR z r → ((filR (fun i => decide (i + r.length ≤ z.length) && occE z r i) z.length 0).length : Int) > 0 := fun {z j} h => by
      have hb := occR_bd h
      have : j ∈ filR (fun i => decide (i + r.length ≤ z.length) && occE z r i) z.length 0 := filR_mem.2 ⟨hb.1, by omega, by simp [hb.2.1, hb.2.2]⟩
      have := List.length_pos_of_mem this
      omega
    simp only [spec_FindPhrase.f]
    rw [l06Ask_ev x r (by omega) (by omega) k (by omega), l06Ask_ev y r (by omega) (by omega) k (by omega), code x px, code y py]
    simp only [Option.bind_some, if_true]
    rw [find_ev x r (by omega) (by omega) k (by omega), find_ev y r (by omega) (by omega) k (by omega)]
    simp only [Option.bind_some, if_true]
    rw [if_pos (nonempty hf), decide_eq_true (nonempty hg)]
theorem j4_ev {c : List Int} (hc : c.length ≤ maxLen) (hb : Bytes c) : ∀ k, 2100 < k → laws_FnPhrases.j4 k c false = some true := by
  intro k hk
  obtain ⟨x, y, hx, hy, hd⟩ := drawCommon_ev hc hb
  obtain ⟨r, lr, Br, er⟩ := common_ev x y hx hy
  obtain ⟨s, ls, Bs, es⟩ := common_ev y x hy hx
  obtain rfl := common_same Br Bs
  obtain ⟨k, rfl⟩ : ∃ m, k = m + 2 := ⟨k - 2, by omega⟩
  simp only [laws_FnPhrases.j4, laws_FnPhrases.j5]
  rw [if_neg (by decide), hd _ (by omega)]
  simp only [Option.bind_some]
  rw [er _ (by omega), es _ (by omega)]
  have e : (if (piB y && piB x) = true then ((r, 0) : List Int × Int) else ([], 7)) = if (piB x && piB y) = true then (r, 0) else ([], 7) := by rw [Bool.and_comm]
  rw [e]
  simp only [Option.bind_some, if_true]
  by_cases z : (piB x && piB y) = true
  · rw [if_pos z]
    rw [Bool.and_eq_true] at z
    rw [nums_ev r r (by omega) _ (by omega)]
    simp only [decide_true, Option.bind_some, Bool.not_true, Bool.false_eq_true, if_false, if_true]
    exact j6_ev hx hy z.1 z.2 Br lr k (by omega)
  · rw [if_neg z]
    rw [nums_ev [] [] (by simp) _ (by simp; omega)]
    simp only [decide_true, Option.bind_some, Bool.not_true, Bool.false_eq_true, if_false]
    obtain ⟨k, rfl⟩ : ∃ m, k = m + 1 := ⟨k - 1, by omega⟩
    rw [if_neg (by decide)]
    simp only [laws_FnPhrases.j6, if_true]
theorem j3_ev {c : List Int} (hc : c.length ≤ maxLen) (hb : Bytes c) : ∀ k, 2101 < k → laws_FnPhrases.j3 k c = some true := by
  intro k hk
  obtain ⟨q, hq, hd⟩ := drawBorder_ev hc hb
  obtain ⟨k, rfl⟩ : ∃ m, k = m + 1 := ⟨k - 1, by omega⟩
  have h4 := j4_ev hc hb k (by omega)
  simp only [laws_FnPhrases.j3]
  rw [hd _ (by omega)]
  simp only [Option.bind_some, impl_BorderOf.f, phraseOk_f]
  by_cases p : phB q = true
  · have hl : 2 ≤ q.length := by unfold phB at p; simp at p; omega
    obtain ⟨r, r1, r2, hr⟩ := border_ev q (by omega) (q.length - 1) (by omega)
    have hr' := hr k (by omega)
    rw [p, if_pos rfl, w64 (n := (q.length : Int) - 1) (by omega) (by omega), show (q.length : Int) - 1 = ((q.length - 1 : Nat) : Int) by omega, hr']
    simp only [Option.bind_some, if_true]
    rw [if_neg (by omega), if_neg (by omega), if_pos (by omega), if_pos (by omega), w64 (n := (q.length : Int) - (r : Int)) (by omega) (by omega), if_pos (by omega), if_pos (by omega), show ((q.length : Int) - (r : Int)).toNat = q.length - r by omega, show ((r : Int)).toNat = r by omega, nums_ev _ _ (by simp; omega) _ (by simp; omega), decide_eq_true r2]
    simp only [Option.bind_some, Bool.not_true]
    exact h4
  · rw [show phB q = false by simpa using p]
    simp only [Bool.false_eq_true, if_false, Option.bind_some]
    rw [if_neg (by omega)]
    exact h4
theorem l0_ev {c x p : List Int} (hc : c.length ≤ maxLen) (hb : Bytes c) (hx : x.length ≤ 65) (hp : p.length ≤ 9) : ∀ (d : Nat) (i : Int), 0 ≤ i → i + d = (x.length + 1 - p.length : Nat) → ∀ k, d + 2102 < k → laws_FnPhrases.l0 k c x p (occR x p) i = some true := by
  have hol : (occR x p).length ≤ 66 := by have := filR_length (occE x p) (x.length + 1 - p.length) 0; unfold occR; omega
  intro d
  induction d with
  | zero =>
    intro i h0 h1 k hk
    obtain ⟨k, rfl⟩ : ∃ m, k = m + 1 := ⟨k - 1, by omega⟩
    simp only [laws_FnPhrases.l0]
    rw [w64 (n := i + p.length) (by omega) (by omega), if_neg (by omega)]
    exact j3_ev hc hb k (by omega)
  | succ d ih =>
    intro i h0 h1 k hk
    obtain ⟨k, rfl⟩ : ∃ m, k = m + 1 := ⟨k - 1, by omega⟩
    have e1 : decide ((x.take (i + p.length).toNat).drop i.toNat = p) = occE x p i := rfl
    have e2 : decide (i ∈ occR x p) = occE x p i := by
      have : i ∈ occR x p ↔ occE x p i = true := by
        unfold occR; rw [filR_mem]
        exact ⟨fun h => h.2.2, fun h => ⟨h0, by omega, h⟩⟩
      simp [this]
    simp only [laws_FnPhrases.l0]
    rw [w64 (n := i + p.length) (by omega) (by omega), if_pos (by omega), if_pos h0, if_pos (by omega), nums_ev _ _ (by simp; omega) _ (by simp; omega), has_ev _ _ (by omega) _ (by omega), e1, e2, w64 (n := i + 1) (by omega) (by omega)]
    simp only [Option.bind_some, bne_self_eq_false, Bool.false_eq_true, if_false]
    exact ih (i + 1) (by omega) (by omega) k (by omega)
theorem j0_ev {c m : List Int} (hc : c.length ≤ maxLen) (hb : Bytes c) (hm : m.length ≤ maxLen) (hbm : Bytes m) : ∀ k, 3000 < k → laws_FnPhrases.j0 k c m false = some true := by
  intro k hk
  obtain ⟨x, p, hx, hp1, hp, hd⟩ := drawFind_ev hc hb
  obtain ⟨k, rfl⟩ : ∃ m, k = m + 2 := ⟨k - 2, by omega⟩
  simp only [laws_FnPhrases.j0]
  rw [if_neg (by decide), hd _ (by omega)]
  simp only [Option.bind_some, impl_FindPhrase.f, impl_CountApart.f, phraseCode_f]
  have hol : (occR x p).length ≤ 66 := by have := filR_length (occE x p) (x.length + 1 - p.length) 0; unfold occR; omega
  by_cases z : codeP p x = 0
  · obtain ⟨r, r0, r1, r2, hr⟩ := apart_ev p (occR x p) (by omega) (fun j hj => (occR_bd hj).1)
    rw [if_pos z, if_pos z, occ_ev x p (by omega) (by omega) _ (by omega)]
    simp only [Option.bind_some]
    rw [hr _ (by omega)]
    simp only [Option.bind_some, if_true]
    have e' : ((r == 0) != (((occR x p).length : Int) == 0)) = false := by
      by_cases a : r = 0
      · have := r2.1 a
        rw [beq_iff_eq.2 a, beq_iff_eq.2 (show ((occR x p).length : Int) = 0 by omega)]; rfl
      · have h : ¬ ((occR x p).length : Int) = 0 := fun h => a (r2.2 (by omega))
        rw [beq_eq_false_iff_ne.2 a, beq_eq_false_iff_ne.2 h]; rfl
    rw [if_neg (by omega)]
    rw [e', if_neg (by decide), rises_ev (occR x p) (x.length : Int) (fun j hj => ⟨(occR_bd hj).1, by have := occR_bd hj; omega⟩) (filR_pw _ _ _) (by omega) _ (by omega)]
    simp only [Option.bind_some, Bool.not_true, laws_FnPhrases.j1, Bool.false_eq_true, if_false]
    exact l0_ev hm hbm hx hp (x.length + 1 - p.length) 0 (by omega) (by omega) k (by omega)
  · rw [if_neg z, if_neg z]
    simp only [Option.bind_some, if_true]
    rw [if_neg z]
    exact j3_ev hm hbm (k + 1) (by omega)
theorem FnPhrases : laws_FnPhrases.Pure := by
  intro code more hc hm
  refine ⟨4000, ?_⟩
  have h := j0_ev hc.1 hc.2 hm.1 hm.2 4000 (by omega)
  have ht : laws_FnPhrases.j0 4000 code more true = some true := by simp only [laws_FnPhrases.j0, if_true]
  simp only [laws_FnPhrases.f, laws_b10Long.f, Option.bind_some]
  by_cases a : (code.length : Int) > 1048576
  · rw [decide_eq_true a, if_pos rfl]; exact ht
  · rw [decide_eq_false a, if_neg (by decide)]
    by_cases b : (more.length : Int) > 1048576
    · rw [decide_eq_true b]; exact ht
    · rw [decide_eq_false b]; exact h
end Go.Proofs.Ytomeeimjlagbbaa.Pure
