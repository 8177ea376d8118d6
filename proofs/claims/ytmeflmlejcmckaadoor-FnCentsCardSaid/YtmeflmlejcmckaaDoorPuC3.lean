/- Plain facts: ratios that are drawn. -/
import Derived.Test.YtmeflmlejcmckaaDoorPuC1
import Derived.Test.YtmeflmlejcmckaaDoorPCx3
import Derived.Test.YtmeflmlejcmckaaDoorPCx4
import Derived.Test.YtmeflmlejcmckaaDoorPCx5
import Derived.Test.YtmeflmlejcmckaaDoorPCx8
import Derived.Test.YtmeflmlejcmckaaDoorPCx10
namespace Go.Proofs.YtmeflmlejcmckaaDoor.Pure
open Go.RowKit Go.Proofs.YtmeflmlejcmckaaDoor.PC Go.Proofs.YtmeflmlejcmckaaDoorW.PrintWords Go.Proofs.YtmeflmlejcmckaaDoorW.PrintLast
set_option linter.unusedSimpArgs false
set_option linter.unusedVariables false
theorem drawPart_wp {c : List Int} (hc : c.length ≤ maxLen) (hb : Bytes c) {s1 s2 : Int} (h0 : 0 ≤ s1) (h1 : s1 ≤ 1000) : Wp (fun _ => spec_l02DrawPart.f c s1 s2) (fun r => (1 ≤ r.1 ∧ r.1 ≤ 1000000) ∧ s1 ≤ r.2.1 ∧ r.2.1 ≤ s1 + 4) := by
  simp only [spec_l02DrawPart.f]
  refine Wp.call (one_wp hc hb h0 (by omega) (by omega)) ?_
  rintro ⟨x, t1, t2⟩ ⟨p0, p1⟩
  dsimp only at *
  refine Wp.ite (fun _ => ?_) (fun _ => ?_)
  · refine Wp.call (among_wp hc hb (by omega) (by omega) (by decide)) ?_
    rintro ⟨y, u1, u2⟩ ⟨q0, q1, q2⟩
    dsimp only at *
    simp only [List.mem_cons, List.not_mem_nil, or_false] at q0
    exact Wp.now ⟨by dsimp only; omega, by dsimp only; omega, by dsimp only; omega⟩
  · refine Wp.call (pick_wp hc hb (by omega) (by omega) (by omega)) ?_
    rintro ⟨y, u1, u2⟩ ⟨q0, q1, q2, q3⟩
    dsimp only at *
    rw [w64 (n := 1 + y) (by omega) (by omega)]
    exact Wp.now ⟨by dsimp only; omega, by dsimp only; omega, by dsimp only; omega⟩
theorem drawOk_wp {c : List Int} (hc : c.length ≤ maxLen) (hb : Bytes c) {s1 s2 : Int} (h0 : 0 ≤ s1) (h1 : s1 ≤ 900) : Wp (fun k => spec_l02DrawOk.f k c s1 s2) (fun r => s1 ≤ r.2.2.1 ∧ r.2.2.1 ≤ s1 + 8) := by
  simp only [spec_l02DrawOk.f]
  refine Wp.call (drawPart_wp hc hb h0 (by omega)) ?_
  rintro ⟨x, t1, t2⟩ ⟨a0, p0, p1⟩
  dsimp only at *
  refine Wp.call (drawPart_wp hc hb (by omega) (by omega)) ?_
  rintro ⟨y, u1, u2⟩ ⟨b0, q0, q1⟩
  dsimp only at *
  refine Wp.call (doneS_wp (by omega) (by omega) (by omega) (by omega)) (fun r _ => Wp.now ⟨by dsimp only; omega, by dsimp only; omega⟩)
theorem draw_wp {c : List Int} (hc : c.length ≤ maxLen) (hb : Bytes c) {s1 s2 : Int} (h0 : 0 ≤ s1) (h1 : s1 ≤ 800) : Wp (fun k => spec_l02Draw.f k c s1 s2) (fun r => s1 ≤ r.2.2.1 ∧ r.2.2.1 ≤ s1 + 20) := by
  simp only [spec_l02Draw.f]
  refine Wp.call (drawOk_wp hc hb h0 (by omega)) ?_
  rintro ⟨x, y, t1, t2⟩ ⟨p0, p1⟩
  dsimp only at *
  refine Wp.call (pick_wp hc hb (by omega) (by omega) (by omega)) ?_
  rintro ⟨z, u1, u2⟩ ⟨q0, q1, q2, q3⟩
  dsimp only at *
  have am := fun (L : List Int) (hL : 1 ≤ L.length) => among_wp (l := c) (s1 := u1) (s2 := u2) (L := L) hc hb (by omega) (by omega) hL
  refine Wp.ite (fun _ => Wp.call (am _ (by decide)) ?_) (fun _ => Wp.ite (fun _ => Wp.call (am _ (by decide)) ?_) (fun _ => Wp.ite (fun _ => Wp.now ⟨by dsimp only; omega, by dsimp only; omega⟩) (fun _ => Wp.now ⟨by dsimp only; omega, by dsimp only; omega⟩)))
  · rintro ⟨v, w1, w2⟩ ⟨_, r1, r2⟩
    exact Wp.now ⟨by dsimp only at *; omega, by dsimp only at *; omega⟩
  · rintro ⟨v, w1, w2⟩ ⟨_, r1, r2⟩
    exact Wp.now ⟨by dsimp only at *; omega, by dsimp only at *; omega⟩
theorem drawCmp_wp {c : List Int} (hc : c.length ≤ maxLen) (hb : Bytes c) : Wp (fun k => spec_DrawCompareRatios.f k c) (fun _ => True) := by
  simp only [spec_DrawCompareRatios.f, spec_l00From.f, Option.bind_some]
  refine Wp.call (draw_wp hc hb (by omega) (by omega)) ?_
  rintro ⟨x, y, t1, t2⟩ ⟨p0, p1⟩
  dsimp only at *
  refine Wp.call (one_wp hc hb (by omega) (by omega) (by omega)) ?_
  rintro ⟨z, u1, u2⟩ ⟨q0, q1⟩
  dsimp only at *
  refine Wp.ite (fun _ => Wp.now trivial) (fun _ => ?_)
  exact Wp.call (draw_wp hc hb (by omega) (by omega)) (fun _ _ => Wp.now trivial)
theorem drawOct_wp {c : List Int} (hc : c.length ≤ maxLen) (hb : Bytes c) : Wp (fun k => spec_DrawOctaveOf.f k c) (fun _ => True) := by
  simp only [spec_DrawOctaveOf.f, spec_l00From.f, Option.bind_some]
  exact Wp.call (draw_wp hc hb (by omega) (by omega)) (fun _ _ => Wp.now trivial)
theorem drawBest_wp {c : List Int} (hc : c.length ≤ maxLen) (hb : Bytes c) : Wp (fun _ => spec_DrawBestRatio.f c) (fun r => (-1 ≤ r.1 ∧ r.1 ≤ 120001) ∧ 0 ≤ r.2 ∧ r.2 ≤ 65) := by
  simp only [spec_DrawBestRatio.f, spec_l00From.f, Option.bind_some]
  refine Wp.call (pick_wp hc hb (by omega) (by omega) (by omega)) ?_
  rintro ⟨x, t1, t2⟩ ⟨p0, p1, p2, p3⟩
  dsimp only at *
  refine Wp.call (one_wp hc hb (by omega) (by omega) (by omega)) ?_
  rintro ⟨z, u1, u2⟩ ⟨q0, q1⟩
  dsimp only at *
  refine Wp.ite (fun _ => Wp.call (among_wp hc hb (by omega) (by omega) (by decide)) ?_) (fun _ => Wp.call (among_wp hc hb (by omega) (by omega) (by decide)) ?_)
  · rintro ⟨v, w1, w2⟩ ⟨m0, m1, m2⟩
    dsimp only at *
    refine Wp.call (among_wp hc hb (by omega) (by omega) (by decide)) ?_
    rintro ⟨v', w1', w2'⟩ ⟨m0', m1', m2'⟩
    simp only [List.mem_cons, List.not_mem_nil, or_false] at m0 m0'
    exact Wp.now ⟨by dsimp only; omega, by dsimp only at *; omega⟩
  · rintro ⟨v, w1, w2⟩ ⟨m0, m1, m2⟩
    dsimp only at *
    simp only [List.mem_cons, List.not_mem_nil, or_false] at m0
    rw [w64 (n := 470 * x) (by omega) (by omega)]
    exact Wp.now ⟨by dsimp only; omega, by dsimp only at *; omega⟩
end Go.Proofs.YtmeflmlejcmckaaDoor.Pure
