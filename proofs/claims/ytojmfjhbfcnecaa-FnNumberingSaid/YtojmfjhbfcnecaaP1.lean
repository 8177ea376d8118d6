/- Scales and ragas that are drawn. -/
import Derived.Test.YtojmfjhbfcnecaaP1a
namespace Go.Proofs.Ytojmfjhbfcnecaa.F
open Go Go.Proofs.Ytojmfjhbfcnecaa.Eng
set_option linter.unusedSimpArgs false
set_option linter.unusedVariables false
set_option maxRecDepth 100000
theorem incB_app {y : Int} (hy : y ≤ 11) : ∀ {l : List Int} {b : Int}, incB b l = true → (∀ x ∈ l, x < y) → b < y → incB b (l ++ [y]) = true
  | [], b, _, _, h => by simp [incB, h, hy]
  | x :: r, b, h, hl, _ => by
    simp only [incB, Bool.and_eq_true, List.cons_append] at h ⊢
    exact ⟨h.1, h.2.1, incB_app hy h.2.2 (fun z hz => hl z (by simp [hz])) (hl x (by simp))⟩
theorem incB_mem : ∀ {l : List Int} {b : Int}, incB b l = true → ∀ x ∈ l, b < x ∧ x ≤ 11
  | [], _, _, x, h => by simp at h
  | y :: r, b, h, x, hx => by
    simp only [incB, Bool.and_eq_true, decide_eq_true_eq] at h
    rcases List.mem_cons.1 hx with rfl | hx
    · exact ⟨h.1, h.2.1⟩
    · have := incB_mem h.2.2 x hx; omega
theorem incB_len : ∀ {l : List Int} {b : Int}, incB b l = true → b ≤ 11 → (l.length : Int) ≤ 11 - b
  | [], b, _, h => by simp; omega
  | y :: r, b, h, _ => by
    simp only [incB, Bool.and_eq_true, decide_eq_true_eq] at h
    have := incB_len h.2.2 h.2.1
    simp only [List.length_cons]; omega
theorem scB_len {l : List Int} (h : scB l = true) : 5 ≤ l.length ∧ l.length ≤ 12 := by
  simp only [scB, Bool.and_eq_true] at h
  have := incB_len h.1 (by omega)
  exact ⟨Nat.le_of_ble_eq_true h.2.1, by omega⟩
theorem scB_mem {l : List Int} (h : scB l = true) : ∀ x ∈ l, 0 ≤ x ∧ x ≤ 11 := by
  simp only [scB, Bool.and_eq_true] at h
  intro x hx
  have := incB_mem h.1 x hx
  omega
theorem scB_cons {l : List Int} (h : scB l = true) : ∃ y r, l = 0 :: y :: r ∧ 0 < y := by
  have hl := scB_len h
  simp only [scB, Bool.and_eq_true] at h
  match l, h, hl with
  | x :: y :: r, h, _ =>
    have hx : x = 0 := of_decide_eq_true h.2.2
    subst hx
    simp only [incB, Bool.and_eq_true, decide_eq_true_eq] at h
    exact ⟨y, r, rfl, h.1.2.2.1⟩
  | [_], _, hl => simp at hl
  | [], _, hl => simp at hl
section
variable {c : List Int} (hb : Bytes c)
include hb
theorem draw3_wp : ∀ (d : Nat) {x4 : List Int} {x5 b : Int} {s : List Int × Int × Int}, x5 + d = 12 → 1 ≤ x5 → Src c b s → b + 2 * d ≤ 1000000 → incB (-1) x4 = true → (∀ x ∈ x4, x < x5) → 5 ≤ x4.length + (12 - x5) → (∃ r, x4 = 0 :: r) →
    Wp (fun k => spec_l03Draw_r5 k x4 x5 s.1 s.2.1 s.2.2) (fun r => scB r.1 = true ∧ Src c (b + 2 * d) r.2)
  | 0, x4, x5, b, s, hd, _, hs, _, hi, hx, hn, ⟨r, hr⟩ => by
    refine Wp.step ?_
    simp only [spec_l03Draw_r5_eq, vLt, vLe, vEq, vNot, inR, decide_eq_true_eq, Bool.not_eq_true', decide_eq_false_iff_not, Bool.not_eq_eq_eq_not, Bool.not_true]
    refine Wp.neg (by omega) (Wp.now ⟨?_, hs.le (by omega)⟩)
    have : Nat.ble 5 x4.length = true := Nat.ble_eq_true_of_le (by omega)
    simp only [scB, hi, this, Bool.true_and]
    rw [hr]
    rfl
  | d + 1, x4, x5, b, s, hd, h1, hs, hB, hi, hx, hn, ⟨r, hr⟩ => by
    have hlen : (x4.length : Int) ≤ 12 := by have := incB_len hi (by omega); omega
    have app : ∀ {q : List Int × Int × Int}, Src c (b + 2) q → Wp (fun k => spec_l03Draw_r5 k (vApp x4 [x5]) (x5 + 1) q.1 q.2.1 q.2.2) (fun r => scB r.1 = true ∧ Src c (b + 2 * (d + 1 : Nat)) r.2) := fun hq => by
      refine (draw3_wp d (x4 := vApp x4 [x5]) (x5 := x5 + 1) (by omega) (by omega) hq (by omega) (incB_app (by omega) hi hx (by omega)) (fun x hx' => ?_) ?_ ⟨r ++ [x5], by simp [vApp, hr]⟩).mono (fun r ⟨h1, h2⟩ => ⟨h1, h2.le (by omega)⟩)
      · rcases List.mem_append.1 hx' with h | h
        · have := hx x h; omega
        · simp at h; omega
      · simp only [vApp, List.length_append, List.length_singleton]; omega
    refine Wp.step ?_
    simp (disch := omega) only [spec_l03Draw_r5_eq, vLt, vLe, vEq, vNot, inR, decide_eq_true_eq, Bool.not_eq_true', decide_eq_false_iff_not, Bool.not_eq_eq_eq_not, Bool.not_true, add64]
    refine Wp.pos (by omega) (Wp.call (one_wp hb hs (by omega)) (fun q hq => ?_))
    have hao : appOk (vLen x4) (vLen [x5]) 8 = true := app_ok (by simp [vLen]) (by simp only [vLen]; omega) (by omega)
    refine Wp.ite (fun _ => Wp.pos hao (app hq)) (fun _ => ?_)
    rw [sub64 (by omega) (by omega), sub64 (by simp only [vLen]; omega) (by simp only [vLen]; omega)]
    refine Wp.ite (fun _ => Wp.pos hao (app hq)) (fun h => ?_)
    simp only [vLen] at h
    exact (draw3_wp d (by omega) (by omega) hq (by omega) hi (fun x hx' => by have := hx x hx'; omega) (by omega) ⟨r, hr⟩).mono (fun r ⟨h1, h2⟩ => ⟨h1, h2.le (by omega)⟩)
theorem scale_wp {s : List Int × Int × Int} {b : Int} (hs : Src c b s) (hB : b ≤ 900000) : Wp (fun k => spec_l03Draw k s.1 s.2.1 s.2.2) (fun r => scB r.1 = true ∧ Src c (b + 26) r.2) := by
  refine Wp.step ?_
  simp only [spec_l03Draw_eq]
  refine Wp.call (text_wp hb hs (by omega) (by simp)) (fun r ⟨hr, h1⟩ => ?_)
  refine Wp.call (one_wp hb h1 (by omega)) (fun q h2 => ?_)
  refine Wp.ite (fun _ => ?_) (fun _ => ?_)
  · exact (draw3_wp hb 11 (by omega) (by omega) h2 (by omega) (by decide) (by simp) (by simp) ⟨[], rfl⟩).mono (fun r ⟨h1, h2⟩ => ⟨h1, h2.le (by omega)⟩)
  · exact Wp.call (read7 _ hr) (fun x hx => Wp.now ⟨hx, h2.le (by omega)⟩)
theorem forb_wp {s : List Int × Int × Int} {b : Int} (hs : Src c b s) (hB : b ≤ 900000) {nm : ByteArray} {up dn : List Int} {st wk : Int} {fb : List (List Int)} (h : vrB (nm, up, dn, st, wk, fb) = true) {P : ByteArray → Prop} (hP : P nm) {g : Nat → Option (ByteArray × List Int × List Int × Int × Int × List (List Int) × List Int × Int × Int)}
    (e : ∀ k, g (k + 1) = (spec_l00Src_one k s.1 s.2.1 s.2.2 3).bind fun r1 => if r1.1 = true then ((spec_l00Src_pick k r1.2.1 r1.2.2.1 r1.2.2.2 12).bind fun r3 => (spec_l00Src_pick k r3.2.1 r3.2.2.1 r3.2.2.2 11).bind fun r4 =>
      if vEq (12 : Int) 0 = true then none else some (nm, up, dn, st, wk, [[r3.1, vRem (wAdd .i64 (wAdd .i64 r3.1 1) r4.1) 12]], r4.2.1, r4.2.2.1, r4.2.2.2)) else some (nm, up, dn, st, wk, fb, r1.2.1, r1.2.2.1, r1.2.2.2)) :
    Wp g (fun x => (vrB (x.1, x.2.1, x.2.2.1, x.2.2.2.1, x.2.2.2.2.1, x.2.2.2.2.2.1) = true ∧ P x.1) ∧ Src c (b + 6) x.2.2.2.2.2.2) := by
  refine Wp.step ?_
  simp only [e]
  refine Wp.call (one_wp hb hs (by omega)) (fun r h1 => ?_)
  refine Wp.ite (fun _ => ?_) (fun _ => Wp.now ⟨⟨h, hP⟩, h1.le (by omega)⟩)
  refine Wp.call (pick_wp hb h1 (by omega)) (fun x ⟨hx, h2⟩ => ?_)
  refine Wp.call (pick_wp hb h2 (by omega)) (fun y ⟨hy, h3⟩ => ?_)
  refine Wp.neg (by decide) (Wp.now ⟨⟨?_, hP⟩, h3.le (by omega)⟩)
  rw [add64 (a := x.1) (by omega) (by omega), add64 (by omega) (by omega)]
  have e1 : vRem (x.1 + 1 + y.1) 12 = (x.1 + 1 + y.1) % 12 := Int.tmod_eq_emod_of_nonneg (by omega)
  rw [e1]
  simp only [vrB, Bool.and_eq_true] at h ⊢
  refine ⟨h.1, h.2.1, h.2.2.1, h.2.2.2.1, h.2.2.2.2.1, ?_, rfl⟩
  simp only [List.all_cons, List.all_nil, pairB, Bool.and_true, Bool.and_eq_true, decide_eq_true_eq, Bool.not_eq_true', decide_eq_false_iff_not]
  omega
theorem raga_wp {s : List Int × Int × Int} {b : Int} (hs : Src c b s) (hB : b ≤ 800000) :
    Wp (fun k => spec_l05Draw k s.1 s.2.1 s.2.2) (fun x => (vrB (x.1, x.2.1, x.2.2.1, x.2.2.2.1, x.2.2.2.2.1, x.2.2.2.2.2.1) = true ∧ x.1.size ≤ 9) ∧ Src c (b + 80) x.2.2.2.2.2.2) := by
  have new : ∀ {s : List Int × Int × Int} {b : Int} {b2_0 b2_1 b2_2 b2_3 b2_4 b2_5 b4_0 b4_1 b4_2 b4_3 b4_4 b4_5}, Src c b s → b ≤ 850000 → Wp (fun k => spec_l05Draw_r4 k s.1 s.2.1 s.2.2 b2_0 b2_1 b2_2 b2_3 b2_4 b2_5 b4_0 b4_1 b4_2 b4_3 b4_4 b4_5) (fun x => (vrB (x.1, x.2.1, x.2.2.1, x.2.2.2.1, x.2.2.2.2.1, x.2.2.2.2.2.1) = true ∧ x.1.size ≤ 9) ∧ Src c (b + 62) x.2.2.2.2.2.2) := by
    intro s b b2_0 b2_1 b2_2 b2_3 b2_4 b2_5 b4_0 b4_1 b4_2 b4_3 b4_4 b4_5 hs hB
    refine Wp.step ?_
    simp only [spec_l05Draw_r4_eq, vLt, vLe, vEq, vNot, inR, decide_eq_true_eq, Bool.not_eq_true', decide_eq_false_iff_not, Bool.not_eq_eq_eq_not, Bool.not_true]
    refine Wp.call (scale_wp hb hs (by omega)) (fun u ⟨hu, h1⟩ => ?_)
    refine Wp.call (scale_wp hb h1 (by omega)) (fun v ⟨hv, h2⟩ => ?_)
    refine Wp.call (pick_wp hb h2 (by omega)) (fun x ⟨hx, h3⟩ => ?_)
    have lu := scB_len hu
    have lv := scB_len hv
    have hx' : x.1 < u.1.length := by unfold vLen at hx; omega
    refine Wp.pos ⟨hx.1, hx'⟩ (Wp.call (pick_wp hb h3 (by omega)) (fun y ⟨hy, h4⟩ => ?_))
    have hy' : y.1 < v.1.length := by unfold vLen at hy; omega
    refine Wp.pos ⟨hy.1, hy'⟩ (Wp.ite (fun _ => ?_) (fun hne => ?_))
    · refine Wp.pos ⟨by omega, by unfold vLen; omega⟩ ?_
      obtain ⟨z, r, e, hz⟩ := scB_cons hu
      have e2 : vGet u.1 1 0 = z := by rw [e]; rfl
      refine (forb_wp hb h4 (by omega) (nm := ⟨#[110, 101, 119]⟩) (P := fun nm => nm.size ≤ 9) ?_ (by decide) (fun k => spec_l05Draw_r11v1_eq k ..)).mono (fun x ⟨h1, h2⟩ => ⟨h1, h2.le (by omega)⟩)
      rw [e2]
      simp only [vrB, hu, hv, Bool.true_and]
      rw [e]
      simp
      omega
    · refine (forb_wp hb h4 (by omega) (nm := ⟨#[110, 101, 119]⟩) (P := fun nm => nm.size ≤ 9) ?_ (by decide) (fun k => spec_l05Draw_r11v1_eq k ..)).mono (fun x ⟨h1, h2⟩ => ⟨h1, h2.le (by omega)⟩)
      have m1 := vGet_mem (d := (0 : Int)) hx.1 hx'
      have m2 := vGet_mem (d := (0 : Int)) hy.1 hy'
      simp [vrB, hu, hv, m1, m2, hne]
  refine Wp.step ?_
  simp only [spec_l05Draw_eq, vLt, vLe, vEq, vNot, inR, decide_eq_true_eq, Bool.not_eq_true', decide_eq_false_iff_not, Bool.not_eq_eq_eq_not, Bool.not_true]
  refine Wp.call (text_wp hb hs (by omega) (by simp)) (fun r ⟨hr, h1⟩ => ?_)
  refine Wp.call (read6 _ hr) (fun x hx => ?_)
  simp only [rdB, Bool.and_eq_true, decide_eq_true_eq] at hx
  refine Wp.neg (by simp [hx.1]) (Wp.call (one_wp hb h1 (by omega)) (fun q h2 => ?_))
  refine Wp.ite (fun _ => (new h2 (by omega)).mono (fun x ⟨h1, h2⟩ => ⟨h1, h2.le (by omega)⟩)) (fun _ => ?_)
  exact (forb_wp hb h2 (by omega) (P := fun nm => nm.size ≤ 9) hx.2.1 hx.2.2 (fun k => spec_l05Draw_r11_eq k ..)).mono (fun x ⟨h1, h2⟩ => ⟨h1, h2.le (by omega)⟩)
end
end Go.Proofs.Ytojmfjhbfcnecaa.F
