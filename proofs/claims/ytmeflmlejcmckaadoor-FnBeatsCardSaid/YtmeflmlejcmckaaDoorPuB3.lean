/- Plain facts: tunings that are drawn. -/
import Derived.Test.YtmeflmlejcmckaaDoorPuB1
import Derived.Test.YtmeflmlejcmckaaDoorPBx4
import Derived.Test.YtmeflmlejcmckaaDoorPBx5
import Derived.Test.YtmeflmlejcmckaaDoorPBx6
import Derived.Test.YtmeflmlejcmckaaDoorPBx8
import Derived.Test.YtmeflmlejcmckaaDoorPBx9
import Derived.Test.YtmeflmlejcmckaaDoorPBx10
import Derived.Test.YtmeflmlejcmckaaDoorPBx11
import Derived.Test.YtmeflmlejcmckaaDoorPBx12
import Derived.Test.YtmeflmlejcmckaaDoorPBx21
namespace Go.Proofs.YtmeflmlejcmckaaDoor.Pure
open Go.RowKit Go.Proofs.YtmeflmlejcmckaaDoor.PB Go.Proofs.YtmeflmlejcmckaaDoorW.PrintWords Go.Proofs.YtmeflmlejcmckaaDoorW.PrintLast
set_option linter.unusedSimpArgs false
set_option linter.unusedVariables false
theorem drawPart_wp {c : List Int} (hc : c.length ≤ maxLen) (hb : Bytes c) {s1 s2 : Int} (h0 : 0 ≤ s1) (h1 : s1 ≤ 1000) : Wp (fun _ => spec_l02DrawPart.f c s1 s2) (fun r => (1 ≤ r.1 ∧ r.1 ≤ 1000000) ∧ s1 ≤ r.2.1 ∧ r.2.1 ≤ s1 + 4) := by
  simp only [spec_l02DrawPart.f]
  refine Wp.call (one_wp hc hb h0 (by omega) (by omega)) ?_
  rintro ⟨x, t1, t2⟩ ⟨p0, p1⟩
  dsimp only at *
  refine Wp.ite (fun _ => ?_) (fun _ => ?_)
  · refine Wp.call (among_wp hc hb (by omega) (by omega) (by decide)) ?_
    rintro ⟨y, u1, u2⟩ ⟨q0, q1, q2⟩
    dsimp only at *
    simp only [List.mem_cons, List.not_mem_nil, or_false] at q0
    exact Wp.now ⟨by dsimp only; omega, by dsimp only; omega, by dsimp only; omega⟩
  · refine Wp.call (pick_wp hc hb (by omega) (by omega) (by omega)) ?_
    rintro ⟨y, u1, u2⟩ ⟨q0, q1, q2, q3⟩
    dsimp only at *
    rw [w64 (n := 1 + y) (by omega) (by omega)]
    exact Wp.now ⟨by dsimp only; omega, by dsimp only; omega, by dsimp only; omega⟩
theorem drawOk_wp {c : List Int} (hc : c.length ≤ maxLen) (hb : Bytes c) {s1 s2 : Int} (h0 : 0 ≤ s1) (h1 : s1 ≤ 900) : Wp (fun k => spec_l02DrawOk.f k c s1 s2) (fun r => s1 ≤ r.2.2.1 ∧ r.2.2.1 ≤ s1 + 8) := by
  simp only [spec_l02DrawOk.f]
  refine Wp.call (drawPart_wp hc hb h0 (by omega)) ?_
  rintro ⟨x, t1, t2⟩ ⟨a0, p0, p1⟩
  dsimp only at *
  refine Wp.call (drawPart_wp hc hb (by omega) (by omega)) ?_
  rintro ⟨y, u1, u2⟩ ⟨b0, q0, q1⟩
  dsimp only at *
  refine Wp.call (doneS_wp (by omega) (by omega) (by omega) (by omega)) (fun r _ => Wp.now ⟨by dsimp only; omega, by dsimp only; omega⟩)
theorem draw_wp {c : List Int} (hc : c.length ≤ maxLen) (hb : Bytes c) {s1 s2 : Int} (h0 : 0 ≤ s1) (h1 : s1 ≤ 800) : Wp (fun k => spec_l02Draw.f k c s1 s2) (fun r => s1 ≤ r.2.2.1 ∧ r.2.2.1 ≤ s1 + 20) := by
  simp only [spec_l02Draw.f]
  refine Wp.call (drawOk_wp hc hb h0 (by omega)) ?_
  rintro ⟨x, y, t1, t2⟩ ⟨p0, p1⟩
  dsimp only at *
  refine Wp.call (pick_wp hc hb (by omega) (by omega) (by omega)) ?_
  rintro ⟨z, u1, u2⟩ ⟨q0, q1, q2, q3⟩
  dsimp only at *
  have am := fun (L : List Int) (hL : 1 ≤ L.length) => among_wp (l := c) (s1 := u1) (s2 := u2) (L := L) hc hb (by omega) (by omega) hL
  refine Wp.ite (fun _ => Wp.call (am _ (by decide)) ?_) (fun _ => Wp.ite (fun _ => Wp.call (am _ (by decide)) ?_) (fun _ => Wp.ite (fun _ => Wp.now ⟨by dsimp only; omega, by dsimp only; omega⟩) (fun _ => Wp.now ⟨by dsimp only; omega, by dsimp only; omega⟩)))
  · rintro ⟨v, w1, w2⟩ ⟨_, r1, r2⟩
    exact Wp.now ⟨by dsimp only at *; omega, by dsimp only at *; omega⟩
  · rintro ⟨v, w1, w2⟩ ⟨_, r1, r2⟩
    exact Wp.now ⟨by dsimp only at *; omega, by dsimp only at *; omega⟩
def JUST : List S52 := [⟨1, 1⟩, ⟨16, 15⟩, ⟨9, 8⟩, ⟨6, 5⟩, ⟨5, 4⟩, ⟨4, 3⟩, ⟨45, 32⟩, ⟨3, 2⟩, ⟨8, 5⟩, ⟨5, 3⟩, ⟨9, 5⟩, ⟨15, 8⟩]
theorem just_20 : spec_l04Just.f 20 = some ((⟨#[106, 117, 115, 116]⟩ : ByteArray), JUST) := by kernel_rfl
theorem just_wp : Wp (fun k => spec_l04Just.f k) (fun r => r = ((⟨#[106, 117, 115, 116]⟩ : ByteArray), JUST)) := ⟨_, rfl, 20, up_fuel (fun k => spec_l04Just.mono k) just_20⟩
theorem just_bd : ∀ i : Fin 12, (1 ≤ (rd_T52 JUST ((i.val : Nat) : Int)).f0 ∧ (rd_T52 JUST ((i.val : Nat) : Int)).f0 ≤ 100) ∧ 1 ≤ (rd_T52 JUST ((i.val : Nat) : Int)).f1 ∧ (rd_T52 JUST ((i.val : Nat) : Int)).f1 ≤ 100 := by decide +kernel
theorem justB {i : Int} (h0 : 0 ≤ i) (h1 : i < 12) : (1 ≤ (rd_T52 JUST i).f0 ∧ (rd_T52 JUST i).f0 ≤ 100) ∧ 1 ≤ (rd_T52 JUST i).f1 ∧ (rd_T52 JUST i).f1 ≤ 100 := by
  have := just_bd ⟨i.toNat, by omega⟩
  simp only at this
  rwa [show ((i.toNat : Nat) : Int) = i by omega] at this
theorem rdT (a : ByteArray) (l : List S52) : rd_T71 [(⟨a, l⟩ : S71)] 0 = ⟨a, l⟩ := rfl
theorem l04Ok_wp (a : ByteArray) (l : List S52) (ha : a.size ≤ maxLen) : Wp (fun k => spec_l04Ok.f k [(⟨a, l⟩ : S71)]) (fun _ => True) := by
  obtain ⟨K, hK⟩ := l01Name_ev a ha
  have T : Wp (fun k => spec_l04Ok.j0 k [(⟨a, l⟩ : S71)] true) (fun _ => True) := by
    refine Wp.step ?_
    simp only [spec_l04Ok.j0]
    first | exact Wp.now trivial | exact Wp.pos rfl (Wp.now trivial)
  have loop : l.length = 12 → ∀ (d : Nat) (i : Int), 0 ≤ i → i + d = 12 → Wp (fun k => spec_l04Ok.l0 k [(⟨a, l⟩ : S71)] i) (fun _ => True) := by
    intro hl d
    induction d with
    | zero =>
      intro i h0 h1
      refine Wp.step ?_
      simp only [spec_l04Ok.l0, rdT]
      exact Wp.neg (by omega) (Wp.pos (by omega) (Wp.ite (fun _ => Wp.now trivial) (fun _ => Wp.now trivial)))
    | succ d ih =>
      intro i h0 h1
      refine Wp.step ?_
      simp only [spec_l04Ok.l0, rdT]
      have e1 : wrap64 (i + 1) = i + 1 := w64 (by omega) (by omega)
      have e2 : wrap64 (i - 1) = i - 1 := w64 (by omega) (by omega)
      simp only [e1, e2]
      have nx := ih (i + 1) (by omega) (by omega)
      refine Wp.pos (by omega) (Wp.pos h0 (Wp.call (okS_wp (rd_T52 l i).f0 (rd_T52 l i).f1) (fun b _ => ?_)))
      refine Wp.ite (fun _ => Wp.ite (fun _ => Wp.now trivial) (fun _ => Wp.ite (fun g => Wp.pos (by omega) (Wp.pos (by omega) ?_)) (fun _ => nx))) (fun _ => Wp.now trivial)
      have hc : ∃ c, spec_l02Compare.f [rd_T52 l (i - 1)] [rd_T52 l i] = some c := by
        unfold spec_l02Compare.f
        split
        · exact ⟨_, rfl⟩
        · split <;> exact ⟨_, rfl⟩
      obtain ⟨c, hc⟩ := hc
      exact Wp.calls hc (Wp.ite (fun _ => Wp.now trivial) (fun _ => nx))
  simp only [spec_l04Ok.f, rdT]
  refine Wp.val (a := nameB a) ⟨_, rfl, K, hK⟩ (Wp.ite (fun _ => ?_) (fun _ => T))
  by_cases e : l.length = 12
  · rw [e]
    refine Wp.step ?_
    simp only [spec_l04Ok.j0]
    exact Wp.neg (by decide) (loop e 12 0 (by omega) (by omega))
  · rw [show (((l.length : Int)) != 12) = true by simp; omega]
    exact T
theorem tj1_wp (c : List Int) (t1 t2 : Int) (a : ByteArray) (l : List S52) (ha : a.size ≤ 10) (hl : l.length = 12) : Wp (fun k => spec_l04DrawOk.j1 k c t1 t2 a l) (fun r => r.1.size ≤ 10 ∧ r.2.1.length = 12 ∧ r.2.2.1 = t1) := by
  refine Wp.step ?_
  simp only [spec_l04DrawOk.j1]
  refine Wp.call (l04Ok_wp a l (by unfold maxLen; omega)) (fun b _ => Wp.ite (fun _ => Wp.now ⟨ha, hl, rfl⟩) (fun _ => Wp.val just_wp (Wp.now ⟨?_, rfl, rfl⟩)))
  show (4 : Nat) ≤ 10
  omega
theorem tl0_wp (c : List Int) (t1 t2 : Int) (a : ByteArray) (ha : a.size ≤ 10) : ∀ (d : Nat) (i : Int) (l : List S52), 0 ≤ i → i + d = 12 → l.length = 12 → Wp (fun k => spec_l04DrawOk.l0 k i c t1 t2 a l) (fun r => r.1.size ≤ 10 ∧ r.2.1.length = 12 ∧ r.2.2.1 = t1)
  | 0, i, l, h0, h1, hl => by
    refine Wp.step ?_
    simp only [spec_l04DrawOk.l0]
    exact Wp.neg (by omega) (tj1_wp c t1 t2 a l ha hl)
  | d + 1, i, l, h0, h1, hl => by
    refine Wp.step ?_
    simp only [spec_l04DrawOk.l0]
    have q0 : 0 ≤ Int.tdiv (i * 53) 12 := Int.tdiv_nonneg (by omega) (by omega)
    have q1 : Int.tdiv (i * 53) 12 ≤ i * 53 := by rw [tdiv_pos (by omega)]; exact Int.ediv_le_self _ (by omega)
    have e1 : wrap64 (i * 53) = i * 53 := w64 (by omega) (by omega)
    have e2 : wrap64 (Int.tdiv (i * 53) 12) = Int.tdiv (i * 53) 12 := w64 (by omega) (by omega)
    have e3 : wrap64 (53 + Int.tdiv (i * 53) 12) = 53 + Int.tdiv (i * 53) 12 := w64 (by omega) (by omega)
    have e4 : wrap64 (106 * (53 + Int.tdiv (i * 53) 12)) = 106 * (53 + Int.tdiv (i * 53) 12) := w64 (by omega) (by omega)
    have e5 : wrap64 (i + 1) = i + 1 := w64 (by omega) (by omega)
    simp only [e1, e2, e3, e4, e5]
    refine Wp.pos (by omega) (Wp.call (doneS_wp (by omega) (by omega) (by omega) (by omega)) (fun r _ => Wp.pos h0 (Wp.pos (by omega) ?_)))
    exact tl0_wp c t1 t2 a ha d (i + 1) _ (by omega) (by omega) (by simpa using hl)
theorem tdrawOk_wp {c : List Int} (hc : c.length ≤ maxLen) (hb : Bytes c) {s1 s2 : Int} (h0 : 0 ≤ s1) (h1 : s1 ≤ 100) : Wp (fun k => spec_l04DrawOk.f k c s1 s2) (fun r => r.1.size ≤ 10 ∧ r.2.1.length = 12 ∧ s1 ≤ r.2.2.1 ∧ r.2.2.1 ≤ s1 + 10) := by
  simp only [spec_l04DrawOk.f]
  refine Wp.val just_wp (Wp.call (pick_wp hc hb h0 (by omega) (by omega)) ?_)
  rintro ⟨x, t1, t2⟩ ⟨p0, p1, p2, p3⟩
  dsimp only at *
  have lj : (JUST.length : Int) = 12 := rfl
  have up : ∀ {g : Nat → Option (ByteArray × List S52 × Int × Int)} {u1 : Int}, s1 ≤ u1 → u1 ≤ s1 + 10 → Wp g (fun r => r.1.size ≤ 10 ∧ r.2.1.length = 12 ∧ r.2.2.1 = u1) → Wp g (fun r => r.1.size ≤ 10 ∧ r.2.1.length = 12 ∧ s1 ≤ r.2.2.1 ∧ r.2.2.1 ≤ s1 + 10) := fun a b h => h.mono (fun r hr => ⟨hr.1, hr.2.1, by omega, by omega⟩)
  rw [lj]
  refine Wp.ite (fun _ => Wp.pos (by omega) (Wp.pos (by omega) (up (u1 := t1) (by omega) (by omega) (tj1_wp c t1 t2 _ _ (by decide) rfl)))) (fun _ => Wp.ite (fun _ => up (u1 := t1) (by omega) (by omega) (tl0_wp c t1 t2 _ (by decide) 11 1 _ (by omega) (by omega) rfl)) (fun _ => Wp.ite (fun _ => ?_) (fun _ => up (u1 := t1) (by omega) (by omega) (tj1_wp c t1 t2 _ _ (by decide) rfl))))
  refine Wp.call (pick_wp hc hb (by omega) (by omega) (by omega)) ?_
  rintro ⟨y, u1, u2⟩ ⟨q0, q1, q2, q3⟩
  dsimp only at *
  have e1 : wrap64 (1 + y) = 1 + y := w64 (by omega) (by omega)
  simp only [e1]
  refine Wp.pos (by omega) (Wp.pos (by omega) (Wp.call (pick_wp hc hb (by omega) (by omega) (by omega)) ?_))
  rintro ⟨z, v1, v2⟩ ⟨r0, r1, r2, r3⟩
  dsimp only at *
  obtain ⟨⟨j0, j1⟩, j2, j3⟩ := justB (i := 1 + y) (by omega) (by omega)
  generalize hnum : (rd_T52 JUST (1 + y)).f0 = num at *
  generalize hden : (rd_T52 JUST (1 + y)).f1 = den at *
  have e2 : wrap64 (num * 80) = num * 80 := w64 (by omega) (by omega)
  have e3 : wrap64 (num * 80 + z) = num * 80 + z := w64 (by omega) (by omega)
  have e4 : wrap64 (den * 80) = den * 80 := w64 (by omega) (by omega)
  simp only [e2, e3, e4]
  refine Wp.call (doneS_wp (by omega) (by omega) (by omega) (by omega)) (fun r _ => Wp.ite (fun _ => up (u1 := v1) (by omega) (by omega) (tj1_wp c v1 v2 _ _ (by decide) ?_)) (fun _ => up (u1 := v1) (by omega) (by omega) (tj1_wp c v1 v2 _ _ (by decide) rfl)))
  rw [List.length_set]; rfl
theorem tdraw_wp {c : List Int} (hc : c.length ≤ maxLen) (hb : Bytes c) {s1 s2 : Int} (h0 : 0 ≤ s1) (h1 : s1 ≤ 100) : Wp (fun k => spec_l04Draw.f k c s1 s2) (fun r => r.1.size ≤ 10 ∧ r.2.1.length ≤ 13 ∧ s1 ≤ r.2.2.1 ∧ r.2.2.1 ≤ s1 + 60) := by
  simp only [spec_l04Draw.f]
  refine Wp.call (tdrawOk_wp hc hb h0 (by omega)) ?_
  rintro ⟨a, l, t1, t2⟩ ⟨ha, hl, p0, p1⟩
  dsimp only at *
  refine Wp.call (pick_wp hc hb (by omega) (by omega) (by omega)) ?_
  rintro ⟨y, u1, u2⟩ ⟨q0, q1, q2, q3⟩
  dsimp only at *
  refine Wp.ite (fun _ => Wp.now ⟨by show (1 : Nat) ≤ 10; omega, by dsimp only; omega, by dsimp only; omega, by dsimp only; omega⟩) (fun _ => Wp.ite (fun _ => Wp.pos (by omega) (Wp.now ⟨ha, by dsimp only; rw [List.length_take]; omega, by dsimp only; omega, by dsimp only; omega⟩)) (fun _ => Wp.ite (fun _ => ?_) (fun _ => Wp.ite (fun _ => Wp.pos (by omega) (Wp.now ⟨ha, by dsimp only; rw [List.length_append]; simp; omega, by dsimp only; omega, by dsimp only; omega⟩)) (fun _ => Wp.now ⟨ha, by dsimp only; omega, by dsimp only; omega, by dsimp only; omega⟩))))
  refine Wp.call (pick_wp hc hb (by omega) (by omega) (by omega)) ?_
  rintro ⟨z, v1, v2⟩ ⟨r0, r1, r2, r3⟩
  dsimp only at *
  refine Wp.call (draw_wp hc hb (by omega) (by omega)) ?_
  rintro ⟨x, x', w1, w2⟩ ⟨m0, m1⟩
  dsimp only at *
  exact Wp.pos (by omega) (Wp.pos (by omega) (Wp.now ⟨ha, by dsimp only; rw [List.length_set]; omega, by dsimp only; omega, by dsimp only; omega⟩))
theorem base_wp {c : List Int} (hc : c.length ≤ maxLen) (hb : Bytes c) {s1 s2 : Int} (h0 : 0 ≤ s1) (h1 : s1 ≤ 1000) : Wp (fun _ => spec_l04DrawBase.f c s1 s2) (fun r => s1 ≤ r.2.1 ∧ r.2.1 ≤ s1 + 2) := by
  simp only [spec_l04DrawBase.f]
  exact Wp.call (among_wp hc hb h0 (by omega) (by decide)) (fun r hr => Wp.now ⟨hr.2.1, hr.2.2⟩)
theorem pitch_wp {c : List Int} (hc : c.length ≤ maxLen) (hb : Bytes c) {s1 s2 : Int} (h0 : 0 ≤ s1) (h1 : s1 ≤ 1000) : Wp (fun _ => spec_l03DrawPitch.f c s1 s2) (fun r => s1 ≤ r.2.1 ∧ r.2.1 ≤ s1 + 6) := by
  simp only [spec_l03DrawPitch.f]
  refine Wp.call (pick_wp hc hb h0 (by omega) (by omega)) ?_
  rintro ⟨x, t1, t2⟩ ⟨p0, p1, p2, p3⟩
  dsimp only at *
  refine Wp.call (one_wp hc hb (by omega) (by omega) (by omega)) ?_
  rintro ⟨y, u1, u2⟩ ⟨q0, q1⟩
  dsimp only at *
  refine Wp.ite (fun _ => ?_) (fun _ => Wp.now ⟨by dsimp only; omega, by dsimp only; omega⟩)
  exact Wp.call (among_wp hc hb (by omega) (by omega) (by decide)) (fun r hr => Wp.now ⟨by have := hr.2; dsimp only; omega, by have := hr.2; dsimp only; omega⟩)
theorem drawPure_wp {c : List Int} (hc : c.length ≤ maxLen) (hb : Bytes c) : Wp (fun k => spec_DrawPureBeats.f k c) (fun r => r.1.size ≤ 10 ∧ r.2.1.length ≤ 13) := by
  simp only [spec_DrawPureBeats.f, spec_l00From.f, Option.bind_some]
  refine Wp.call (tdraw_wp hc hb (by omega) (by omega)) ?_
  rintro ⟨a, l, t1, t2⟩ ⟨ha, hl, p0, p1⟩
  dsimp only at *
  refine Wp.call (base_wp hc hb (by omega) (by omega)) ?_
  rintro ⟨x, u1, u2⟩ ⟨q0, q1⟩
  dsimp only at *
  refine Wp.call (pitch_wp hc hb (by omega) (by omega)) ?_
  rintro ⟨y, v1, v2⟩ ⟨r0, r1⟩
  dsimp only at *
  exact Wp.call (pitch_wp hc hb (by omega) (by omega)) (fun r _ => Wp.now ⟨ha, hl⟩)
theorem drawFreq_wp {c : List Int} (hc : c.length ≤ maxLen) (hb : Bytes c) : Wp (fun k => spec_DrawFrequencyOf.f k c) (fun r => r.1.size ≤ 10 ∧ r.2.1.length ≤ 13) := by
  simp only [spec_DrawFrequencyOf.f, spec_l00From.f, Option.bind_some]
  refine Wp.call (tdraw_wp hc hb (by omega) (by omega)) ?_
  rintro ⟨a, l, t1, t2⟩ ⟨ha, hl, p0, p1⟩
  dsimp only at *
  refine Wp.call (base_wp hc hb (by omega) (by omega)) ?_
  rintro ⟨x, u1, u2⟩ ⟨q0, q1⟩
  dsimp only at *
  exact Wp.call (pitch_wp hc hb (by omega) (by omega)) (fun r _ => Wp.now ⟨ha, hl⟩)
end Go.Proofs.YtmeflmlejcmckaaDoor.Pure
