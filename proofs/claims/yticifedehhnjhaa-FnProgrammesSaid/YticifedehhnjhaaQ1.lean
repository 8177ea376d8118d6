/- Items that are drawn; items that are valid. -/
import Derived.Test.YticifedehhnjhaaP0c
namespace Go.Proofs.Yticifedehhnjhaa.F
open Go Go.Proofs.Yticifedehhnjhaa.Eng
set_option linter.unusedSimpArgs false
set_option linter.unusedVariables false
set_option maxRecDepth 100000
abbrev It := ByteArray × Int × Int × Int × Int × Int
def it0 : It := (⟨#[]⟩, 0, 0, 0, 0, 0)
section
variable {c : List Int} (hb : Bytes c)
include hb
theorem among_wp {s : List Int × Int × Int} {L : List Int} {b : Int} (hs : Src c b s) (hB : b ≤ 100000000) (hL : L ≠ []) : Wp (fun k => spec_l00Src_among k s.1 s.2.1 s.2.2 L) (fun r => r.1 ∈ L ∧ Src c (b + 2) r.2) := by
  refine Wp.step ?_
  simp only [spec_l00Src_among_eq, vLt, vLe, vEq, vNot, inR, decide_eq_true_eq, Bool.not_eq_true', decide_eq_false_iff_not, Bool.not_eq_eq_eq_not, Bool.not_true]
  have hl : 0 < L.length := List.length_pos_iff.2 hL
  refine Wp.call (pick_wp hb hs hB) (fun r ⟨⟨h0, h1⟩, hr⟩ => ?_)
  have h2 : r.1 < vLen L := by unfold vLen at h1 ⊢; omega
  exact Wp.pos ⟨h0, h2⟩ (Wp.now ⟨vGet_mem h0 h2, hr⟩)
theorem oneIt_wp {s : List Int × Int × Int} {b : Int} (hs : Src c b s) (hB : b ≤ 900000) {nm : ByteArray} : Wp (fun k => spec_l08DrawOne k s.1 s.2.1 s.2.2 nm) (fun r => Src c (b + 10) r.2.2.2.2.2.2) := by
  refine Wp.step ?_
  simp only [spec_l08DrawOne_eq, vLt, vLe, vEq, vNot, inR, decide_eq_true_eq, Bool.not_eq_true', decide_eq_false_iff_not, Bool.not_eq_eq_eq_not, Bool.not_true]
  refine Wp.call (pick_wp hb hs (by omega)) (fun x1 ⟨_, h1⟩ => Wp.call (among_wp hb h1 (by omega) (by simp)) (fun x2 ⟨_, h2⟩ => Wp.call (pick_wp hb h2 (by omega)) (fun x3 ⟨_, h3⟩ => Wp.neg (by decide) (Wp.call (pick_wp hb h3 (by omega)) (fun x4 ⟨_, h4⟩ => Wp.call (pick_wp hb h4 (by omega)) (fun x5 ⟨_, h5⟩ => Wp.now (h5.le (by omega))))))))
theorem bend_wp {s : List Int × Int × Int} {b : Int} (hs : Src c b s) (hB : b ≤ 900000) {n1 n2 n3 n4 n5 n6} : Wp (fun k => spec_l08Bend k s.1 s.2.1 s.2.2 n1 n2 n3 n4 n5 n6) (fun r => Src c (b + 4) r.2.2.2.2.2.2) := by
  refine Wp.step ?_
  simp only [spec_l08Bend_eq, vLt, vLe, vEq, vNot, inR, decide_eq_true_eq, Bool.not_eq_true', decide_eq_false_iff_not, Bool.not_eq_eq_eq_not, Bool.not_true]
  refine Wp.call (pick_wp hb hs (by omega)) (fun x1 ⟨_, h1⟩ => ?_)
  refine Wp.ite (fun _ => Wp.call (among_wp hb h1 (by omega) (by simp)) (fun x2 ⟨_, h2⟩ => Wp.now (h2.le (by omega)))) (fun _ => ?_)
  refine Wp.ite (fun _ => Wp.call (among_wp hb h1 (by omega) (by simp)) (fun x2 ⟨_, h2⟩ => Wp.now (h2.le (by omega)))) (fun _ => ?_)
  refine Wp.ite (fun _ => Wp.call (among_wp hb h1 (by omega) (by simp)) (fun x2 ⟨_, h2⟩ => Wp.now (h2.le (by omega)))) (fun _ => ?_)
  refine Wp.ite (fun _ => Wp.call (among_wp hb h1 (by omega) (by simp)) (fun x2 ⟨_, h2⟩ => Wp.now (h2.le (by omega)))) (fun _ => ?_)
  exact Wp.ite (fun _ => Wp.call (among_wp hb h1 (by omega) (by simp)) (fun x2 ⟨_, h2⟩ => Wp.now (h2.le (by omega)))) (fun _ => Wp.now (h1.le (by omega)))
omit hb in
theorem many_wp {n : Int} (hn : n ≤ 20) : ∀ (d : Nat) {i b : Int} {l : List It} {s : List Int × Int × Int}, 0 ≤ i → (i + d = n ∨ d = 0 ∧ n ≤ i) → l.length + d ≤ 60 → Src c b s → Wp (fun k => spec_l08DrawList_r15 k l n i s.1 s.2.1 s.2.2) (fun r => r.1.length ≤ 100 ∧ Src c b r.2)
  | 0, i, b, l, s, h0, hd, hl, hs => by
    by_cases hi : i < n
    · omega
    refine Wp.step ?_
    simp only [spec_l08DrawList_r15_eq, vLt, vLe, vEq, vNot, inR, decide_eq_true_eq, Bool.not_eq_true', decide_eq_false_iff_not, Bool.not_eq_eq_eq_not, Bool.not_true]
    exact Wp.neg hi (Wp.now ⟨by dsimp only; omega, hs⟩)
  | d + 1, i, b, l, s, h0, hd, hl, hs => by
    refine Wp.step ?_
    simp (disch := omega) only [spec_l08DrawList_r15_eq, vLt, vLe, vEq, vNot, inR, decide_eq_true_eq, Bool.not_eq_true', decide_eq_false_iff_not, Bool.not_eq_eq_eq_not, Bool.not_true, add64]
    have hsz : ∀ x : Int, sBig (⟨#[110]⟩ : ByteArray) (sOf [x]) = false := fun x => by
      have : Nat.ble ((⟨#[110]⟩ : ByteArray).size + (sOf [x]).size) 9223372036854775807 = true := rfl
      simp [sBig, this]
    refine Wp.pos (by omega) (Wp.neg (by rw [hsz]; decide) (Wp.pos (app_ok (by simp [vLen]) (by simp only [vLen]; omega) (by omega)) ?_))
    exact many_wp hn d (by omega) (by omega) (by simp only [vApp, List.length_append, List.length_singleton]; omega) hs
theorem list4_wp {L : List ByteArray} (hL : L.length ≤ 10) : ∀ (d : Nat) {i b : Int} {l : List It} {s : List Int × Int × Int}, 0 ≤ i → i + d = L.length → (l.length : Int) ≤ i → b + 12 * d ≤ 800000 → Src c b s → Wp (fun k => spec_l08DrawList_r4 k L l i s.1 s.2.1 s.2.2) (fun r => r.1.length ≤ 100 ∧ Src c (b + 12 * d + 20) r.2)
  | 0, i, b, l, s, h0, hd, hl, hB, hs => by
    refine Wp.step ?_
    simp only [spec_l08DrawList_r4_eq, vLt, vLe, vEq, vNot, inR, decide_eq_true_eq, Bool.not_eq_true', decide_eq_false_iff_not, Bool.not_eq_eq_eq_not, Bool.not_true]
    refine Wp.neg (by simp only [vLen]; omega) (Wp.call (pick_wp hb hs (by omega)) (fun x ⟨_, h1⟩ => ?_))
    refine Wp.ite (fun _ => ?_) (fun _ => Wp.ite (fun _ => ?_) (fun _ => Wp.now ⟨by dsimp only; omega, h1.le (by omega)⟩))
    · refine Wp.call (oneIt_wp hb h1 (by omega)) (fun y h2 => Wp.call (bend_wp hb h2 (by omega)) (fun z h3 => Wp.pos (app_ok (by simp [vLen]) (by simp only [vLen]; omega) (by omega)) (Wp.now ⟨?_, h3.le (by omega)⟩)))
      simp only [vApp, List.length_append, List.length_singleton]; omega
    · refine Wp.call (among_wp hb h1 (by omega) (by simp)) (fun y ⟨hy, h2⟩ => ?_)
      have hy2 : 0 ≤ y.1 ∧ y.1 ≤ 20 := by simp at hy; omega
      exact (many_wp hy2.2 y.1.toNat (by omega) (by omega) (by simp; omega) h2).mono fun r h => ⟨h.1, h.2.le (by omega)⟩
  | d + 1, i, b, l, s, h0, hd, hl, hB, hs => by
    have hi : i < (L.length : Int) := by omega
    refine Wp.step ?_
    simp (disch := omega) only [spec_l08DrawList_r4_eq, vLt, vLe, vEq, vNot, inR, decide_eq_true_eq, Bool.not_eq_true', decide_eq_false_iff_not, Bool.not_eq_eq_eq_not, Bool.not_true, add64]
    refine Wp.pos hi (Wp.call (one_wp hb hs (by omega)) (fun x h1 => Wp.ite (fun _ => Wp.pos ⟨h0, hi⟩ (Wp.call (oneIt_wp hb h1 (by omega)) (fun y h2 => Wp.pos (app_ok (by simp [vLen]) (by simp only [vLen]; omega) (by omega)) ?_))) (fun _ => ?_)))
    · exact (list4_wp hL d (i := i + 1) (b := b + 12) (by omega) (by omega) (by simp only [vApp, List.length_append, List.length_singleton]; omega) (by omega) (h2.le (by omega))).mono fun r h => ⟨h.1, h.2.le (by omega)⟩
    · exact (list4_wp hL d (i := i + 1) (b := b + 12) (by omega) (by omega) (by omega) (by omega) (h1.le (by omega))).mono fun r h => ⟨h.1, h.2.le (by omega)⟩
theorem drawn_wp : Wp (fun k => spec_DrawBestProgramme k c) (fun r => r.1.length ≤ 100 ∧ (-10 ≤ r.2.1 ∧ r.2.1 ≤ 2000) ∧ (-20 ≤ r.2.2.1 ∧ r.2.2.1 ≤ 5000) ∧ (0 ≤ r.2.2.2.2 ∧ r.2.2.2.2 ≤ 20001)) := by
  refine Wp.step ?_
  simp only [spec_DrawBestProgramme_eq]
  have fr : Wp (fun f => spec_l00From f c) (fun r => Src c 0 r) := by
    refine Wp.step ?_
    simp only [spec_l00From_eq]
    exact Wp.now ⟨rfl, Int.le_refl _, Int.le_refl _⟩
  refine Wp.call fr (fun s h0 => ?_)
  have ls : Wp (fun k => spec_l08DrawList k s.1 s.2.1 s.2.2) (fun r => r.1.length ≤ 100 ∧ Src c 200 r.2) := by
    refine Wp.step ?_
    simp only [spec_l08DrawList_eq]
    exact (list4_wp hb (by simp) 5 (by omega) (by simp) (by simp) (by omega) h0).mono fun r h => ⟨h.1, h.2.le (by omega)⟩
  refine Wp.call ls (fun l ⟨hl, h1⟩ => ?_)
  have mi : Wp (fun k => spec_l08DrawMinute k l.2.1 l.2.2.1 l.2.2.2) (fun r => (-1 ≤ r.1 ∧ r.1 ≤ 1440) ∧ Src c 204 r.2) := by
    refine Wp.step ?_
    simp only [spec_l08DrawMinute_eq]
    refine Wp.call (one_wp hb h1 (by omega)) (fun x h2 => Wp.ite (fun _ => Wp.call (among_wp hb h2 (by omega) (by simp)) (fun y ⟨hy, h3⟩ => Wp.now ⟨?_, h3⟩)) (fun _ => Wp.call (pick_wp hb h2 (by omega)) (fun y ⟨hy, h3⟩ => Wp.now ⟨?_, h3⟩)))
    · simp at hy; dsimp only; omega
    · dsimp only; rw [mul64 (by omega) (by omega)]; omega
  refine Wp.call mi (fun m ⟨hm, h2⟩ => ?_)
  have un : Wp (fun k => spec_l08DrawUntil k m.2.1 m.2.2.1 m.2.2.2 m.1) (fun r => (-2 ≤ r.1 ∧ r.1 ≤ 4000) ∧ Src c 208 r.2) := by
    refine Wp.step ?_
    simp only [spec_l08DrawUntil_eq]
    refine Wp.call (one_wp hb h2 (by omega)) (fun x h2 => Wp.ite (fun _ => Wp.call (among_wp hb h2 (by omega) (by simp)) (fun y ⟨hy, h3⟩ => Wp.now ⟨?_, h3⟩)) (fun _ => Wp.call (pick_wp hb h2 (by omega)) (fun y ⟨hy, h3⟩ => Wp.now ⟨?_, h3⟩)))
    · simp at hy; dsimp only; rw [add64 (by omega) (by omega)]; omega
    · dsimp only; rw [mul64 (by omega) (by omega), add64 (by omega) (by omega)]; omega
  refine Wp.call un (fun u ⟨hu, h3⟩ => ?_)
  have se : Wp (fun k => spec_l08DrawSeason k u.2.1 u.2.2.1 u.2.2.2) (fun r => Src c 210 r.2) := by
    refine Wp.step ?_
    simp only [spec_l08DrawSeason_eq]
    exact Wp.call (among_wp hb h3 (by omega) (by simp)) (fun y ⟨hy, h4⟩ => Wp.now h4)
  refine Wp.call se (fun z h4 => ?_)
  have bu : Wp (fun k => spec_l08DrawBudget k z.2.1 z.2.2.1 z.2.2.2) (fun r => 0 ≤ r.1 ∧ r.1 ≤ 20001) := by
    refine Wp.step ?_
    simp only [spec_l08DrawBudget_eq]
    refine Wp.call (one_wp hb h4 (by omega)) (fun x h2 => Wp.ite (fun _ => Wp.call (among_wp hb h2 (by omega) (by simp)) (fun y ⟨hy, h3⟩ => Wp.now ?_)) (fun _ => Wp.call (pick_wp hb h2 (by omega)) (fun y ⟨hy, h3⟩ => Wp.now ?_)))
    · simp at hy; dsimp only; omega
    · dsimp only; rw [add64 (by omega) (by omega)]; omega
  exact Wp.call bu (fun q hq => Wp.now ⟨hl, by dsimp only; omega, by dsimp only; omega, hq⟩)
end
end Go.Proofs.Yticifedehhnjhaa.F
