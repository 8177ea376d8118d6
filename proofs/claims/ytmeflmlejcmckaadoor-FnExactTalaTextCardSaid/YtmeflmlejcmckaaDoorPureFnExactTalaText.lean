/- TalaText of the program returns what the reference's returns, for all arguments. -/
import Derived.Test.YtmeflmlejcmckaaDoorPuSn
import Derived.Test.YtmeflmlejcmckaaDoorPuS1
import Derived.Test.YtmeflmlejcmckaaDoorPuS3
import Derived.Test.YtmeflmlejcmckaaDoorPSx17
import Derived.Test.YtmeflmlejcmckaaDoorPSx18
import Derived.Test.YtmeflmlejcmckaaDoorPSx20
import Derived.Test.YtmeflmlejcmckaaDoorPSx21
import Derived.Test.YtmeflmlejcmckaaDoorPSx22
import Derived.Test.YtmeflmlejcmckaaDoorPSx23
import Derived.Test.YtmeflmlejcmckaaDoorPSx24
import Derived.Test.YtmeflmlejcmckaaDoorPSx25
namespace Go.Proofs.YtmeflmlejcmckaaDoor.Pure
open Go.RowKit Go.Proofs.YtmeflmlejcmckaaDoor.PS Go.Proofs.YtmeflmlejcmckaaDoorW.PrintWords Go.Proofs.YtmeflmlejcmckaaDoorW.PrintLast
set_option linter.unusedSimpArgs false
set_option linter.unusedVariables false
theorem within_iff {n a b : Int} : within_ n a b = true ↔ a ≤ n ∧ n ≤ b := by
  unfold within_; simp
theorem within_f (n a b : Int) : impl_within.f n a b = some (within_ n a b) := by
  unfold impl_within.f within_
  by_cases h : n ≥ a
  · rw [if_pos h]; simp [show a ≤ n from h]
  · rw [if_neg h]; simp [show ¬ a ≤ n from h]
theorem rdI_get {c : List Int} {i : Int} (h0 : 0 ≤ i) (h1 : i < c.length) : rd c i = c[i.toNat]'(by omega) := by
  simp [rd, List.getD_eq_getElem?_getD, List.getElem?_eq_getElem (show i.toNat < c.length by omega)]
theorem rdI_drop {c : List Int} {i : Int} (h0 : 0 ≤ i) (h1 : i < c.length) : c.drop i.toNat = rd c i :: c.drop (i + 1).toNat := by
  rw [rdI_get h0 h1, show (i + 1).toNat = i.toNat + 1 by omega]
  exact List.drop_eq_getElem_cons (by omega)
/-! ### the sum of the sections -/
def Small (s : List Int) : Prop := s.length ≤ 8 ∧ ∀ j : Int, 0 ≤ j → j < s.length → 1 ≤ rd s j ∧ rd s j ≤ 16
theorem sumS_l0 {s : List Int} (hs : Small s) : ∀ (d : Nat) (i x : Int), 0 ≤ i → i + d = s.length → 0 ≤ x → x ≤ 16 * i →
    Wp (fun k => spec_l17Sum.l0 k s x i) (fun r => r = x + (s.drop i.toNat).sum)
  | 0, i, x, h0, h1, h2, h3 => by
    refine Wp.step ?_
    simp only [spec_l17Sum.l0]
    rw [List.drop_eq_nil_of_le (show s.length ≤ i.toNat by omega)]
    exact Wp.neg (by omega) (Wp.now (by simp))
  | d + 1, i, x, h0, h1, h2, h3 => by
    have hx := hs.2 i h0 (by omega)
    have hl := hs.1
    refine Wp.step ?_
    simp only [spec_l17Sum.l0]
    rw [w64 (n := i + 1) (by omega) (by omega), w64 (n := x + rd s i) (by omega) (by omega), rdI_drop h0 (by omega)]
    refine Wp.pos (by omega) (Wp.pos h0 ((sumS_l0 hs d (i + 1) (x + rd s i) (by omega) (by omega) (by omega) (by omega)).mono ?_))
    rintro r rfl
    rw [List.sum_cons]; omega
theorem sumI_l0 {s : List Int} (hs : Small s) : ∀ (d : Nat) (i x : Int), 0 ≤ i → i + d = s.length → 0 ≤ x → x ≤ 16 * i →
    Wp (fun k => impl_sumOf.l0 k x s (s.length : Int) i) (fun r => r = x + (s.drop i.toNat).sum)
  | 0, i, x, h0, h1, h2, h3 => by
    refine Wp.step ?_
    simp only [impl_sumOf.l0]
    rw [List.drop_eq_nil_of_le (show s.length ≤ i.toNat by omega)]
    exact Wp.neg (by omega) (Wp.now (by simp))
  | d + 1, i, x, h0, h1, h2, h3 => by
    have hx := hs.2 i h0 (by omega)
    have hl := hs.1
    refine Wp.step ?_
    simp only [impl_sumOf.l0]
    rw [w64 (n := i + 1) (by omega) (by omega), w64 (n := x + rd s i) (by omega) (by omega), rdI_drop h0 (by omega)]
    refine Wp.pos (by omega) (Wp.pos h0 (Wp.pos (by omega) ((sumI_l0 hs d (i + 1) (x + rd s i) (by omega) (by omega) (by omega) (by omega)).mono ?_)))
    rintro r rfl
    rw [List.sum_cons]; omega
/-! ### valid talas -/
def secB (s m : List Int) (j : Int) : Bool := within_ (rd s j) 1 16 && (if j = 0 then decide (rd m j = 1) else within_ (rd m j) 2 3)
def talaB (a : ByteArray) (s m : List Int) : Bool := nameB a && (within_ s.length 1 8 && (decide (m.length = s.length) && (allI (secB s m) s.length 0 && decide (s.sum ≤ 32))))
theorem rdA (a : ByteArray) (s m : List Int) : rd_T39 [(⟨a, s, m⟩ : S39)] 0 = ⟨a, s, m⟩ := rfl
theorem ok_l0 {a : ByteArray} {s m : List Int} (hl : s.length ≤ 8) (hm : m.length = s.length) : ∀ (d : Nat) (i : Int), 0 ≤ i → i + d = s.length → (∀ j : Int, 0 ≤ j → j < i → 1 ≤ rd s j ∧ rd s j ≤ 16) →
    Wp (fun k => spec_l17Ok.l0 k [(⟨a, s, m⟩ : S39)] (s.length : Int) i) (fun r => r = (allI (secB s m) d i && decide (s.sum ≤ 32)))
  | 0, i, h0, h1, h2 => by
    refine Wp.step ?_
    simp only [spec_l17Ok.l0, rdA]
    refine Wp.neg (by omega) ?_
    simp only [spec_l17Sum.f]
    refine Wp.val ((sumS_l0 ⟨hl, fun j x y => h2 j x (by omega)⟩ s.length 0 0 (by omega) (by omega) (by omega) (by omega)).mono (Q := fun r => r = s.sum) (by rintro r rfl; simp)) (Wp.now ?_)
    simp [allI]
  | d + 1, i, h0, h1, h2 => by
    refine Wp.step ?_
    simp only [spec_l17Ok.l0, rdA, l00In_f, allI]
    rw [w64 (n := i + 1) (by omega) (by omega)]
    refine Wp.pos (by omega) (Wp.pos h0 (Wp.pos (by omega) (Wp.calls rfl ?_)))
    have key : ∀ b c : Bool, within_ (rd s i) 1 16 = b → (if i = 0 then decide (rd m i = 1) else within_ (rd m i) 2 3) = c → secB s m i = (b && c) := fun b c e1 e2 => by unfold secB; rw [e1, e2]
    refine Wp.iteB (fun e1 => ?_) (fun e1 => ?_)
    · have hn := fun (c : Bool) (e2 : (if i = 0 then decide (rd m i = 1) else within_ (rd m i) 2 3) = c) => key true c e1 e2
      have next := ok_l0 (a := a) hl hm d (i + 1) (by omega) (by omega) (fun j x y => by
        by_cases e : j = i
        · subst e; exact within_iff.1 e1
        · exact h2 j x (by omega))
      refine Wp.ite (fun e => ?_) (fun e => ?_)
      · refine Wp.pos (by omega) (Wp.ite (fun g => ?_) (fun g => ?_))
        · rw [hn true (by rw [if_pos e]; simpa using g)]
          exact Wp.neg (by omega) (by simpa using next)
        · rw [hn false (by rw [if_pos e]; simpa using g)]
          exact Wp.now (by simp)
      · refine Wp.pos (by omega) (Wp.pos (by omega) (Wp.calls rfl (Wp.iteB (fun g => ?_) (fun g => ?_))))
        · rw [hn true (by rw [if_neg e]; exact g)]
          simpa using next
        · rw [hn false (by rw [if_neg e]; exact g)]
          exact Wp.now (by simp)
    · rw [key false _ e1 rfl]
      exact Wp.now (by simp)
theorem okS_wp (a : ByteArray) (s m : List Int) (ha : a.size ≤ maxLen) : Wp (fun k => spec_l17Ok.f k [(⟨a, s, m⟩ : S39)]) (fun r => r = talaB a s m) := by
  obtain ⟨K, hK⟩ := l01Name_ev a ha
  simp only [spec_l17Ok.f, rdA, l00In_f]
  refine Wp.val (a := nameB a) ⟨_, rfl, K, hK⟩ ?_
  unfold talaB
  refine Wp.iteB (fun e1 => Wp.calls rfl ?_) (fun e1 => ?_)
  · rw [e1, Bool.true_and]
    refine Wp.iteB (fun e2 => ?_) (fun e2 => ?_)
    · rw [e2, Bool.true_and]
      refine Wp.step ?_
      simp only [spec_l17Ok.j0]
      rw [within_iff] at e2
      by_cases e3 : m.length = s.length
      · rw [e3]
        refine Wp.neg (by simp) ((ok_l0 (a := a) (by omega) e3 s.length 0 (by omega) (by omega) (fun j x y => by omega)).mono ?_)
        rintro r rfl
        simp
      · exact Wp.pos (by simp; omega) (Wp.now (by simp [e3]))
    · rw [e2]
      refine Wp.step ?_
      simp only [spec_l17Ok.j0]
      exact Wp.pos (by trivial) (Wp.now rfl)
  · rw [e1]
    refine Wp.step ?_
    simp only [spec_l17Ok.j0]
    exact Wp.pos (by trivial) (Wp.now rfl)
theorem all_iff {c : List Int} {p : Int → Bool} : c.all p = true ↔ ∀ j : Int, 0 ≤ j → j < c.length → p (rd c j) = true := by
  rw [List.all_eq_true]
  refine ⟨fun h j h0 h1 => h _ (by rw [rdI_get h0 h1]; exact List.getElem_mem _), fun h x hx => ?_⟩
  obtain ⟨n, hn, rfl⟩ := List.mem_iff_getElem.1 hx
  have := h n (by omega) (by omega)
  rwa [rdI_get (by omega) (by omega)] at this
theorem rd_drop1 {c : List Int} {j : Int} (h0 : 0 ≤ j) : rd (c.drop 1) j = rd c (j + 1) := by
  simp only [rd, List.getD_eq_getElem?_getD, List.getElem?_drop, show (j + 1).toNat = 1 + j.toNat by omega]
theorem okI_wp (a : ByteArray) (s m : List Int) (ha : a.size ≤ maxLen) : Wp (fun k => impl_ValidTala.f k a s m) (fun r => r = talaB a s m) := by
  obtain ⟨K, hK⟩ := isName_ev a ha
  simp only [impl_ValidTala.f, impl_allWithin.f]
  refine Wp.val (a := nameB a) ⟨_, rfl, K, hK⟩ ?_
  unfold talaB
  refine Wp.iteB (fun e1 => ?_) (fun e1 => Wp.now (by rw [e1]; rfl))
  rw [e1, Bool.true_and]
  have hno : ¬ (1 ≤ (s.length : Int) ∧ (s.length : Int) ≤ 8) → within_ s.length 1 8 = false := fun h => by
    rw [Bool.eq_false_iff]; exact fun g => h (within_iff.1 g)
  refine Wp.ite (fun g => Wp.now (by rw [hno (by omega)]; rfl)) (fun g => Wp.ite (fun g2 => Wp.now (by rw [hno (by omega)]; rfl)) (fun g2 => ?_))
  rw [within_iff.2 ⟨by omega, by omega⟩, Bool.true_and]
  refine Wp.calls rfl (Wp.iteB (fun e2 => ?_) (fun e2 => Wp.now ?_))
  · have hs : Small s := ⟨by omega, fun j x y => within_iff.1 (all_iff.1 e2 j x y)⟩
    simp only [impl_Tala_beats.f, impl_sumOf.f]
    refine Wp.val (a := s.sum) (Wp.val ((sumI_l0 hs s.length 0 0 (by omega) (by omega) (by omega) (by omega)).mono (Q := fun r => r = s.sum) (by rintro r rfl; simp)) (Wp.now rfl)) ?_
    refine Wp.ite (fun g3 => Wp.now ?_) (fun g3 => Wp.ite (fun g4 => ?_) (fun g4 => Wp.now ?_))
    · rw [show decide (s.sum ≤ 32) = false by simp; omega]; simp
    · rw [show decide (s.sum ≤ 32) = true by simp; omega, Bool.and_true, show decide (m.length = s.length) = true by simp; omega, Bool.true_and]
      refine Wp.pos (by omega) (Wp.ite (fun g5 => Wp.pos (by omega) (Wp.calls rfl (Wp.now ?_))) (fun g5 => Wp.now ?_))
      · rw [Bool.eq_iff_iff, all_iff, allI_true]
        unfold secB
        refine ⟨fun h j x y => ?_, fun h j x y => ?_⟩
        · rw [Bool.and_eq_true]
          refine ⟨all_iff.1 e2 j x (by omega), ?_⟩
          by_cases e : j = 0
          · subst e; rw [if_pos rfl]; simpa using g5
          · rw [if_neg e]
            have := h (j - 1) (by omega) (by rw [List.length_drop]; omega)
            rwa [rd_drop1 (by omega), show j - 1 + 1 = j by omega] at this
        · rw [List.length_drop] at y
          have := h (j + 1) (by omega) (by omega)
          rw [Bool.and_eq_true, if_neg (by omega)] at this
          rw [rd_drop1 x]; exact this.2
      · symm
        rw [Bool.eq_false_iff]
        intro h
        have := allI_true.1 h 0 (by omega) (by omega)
        unfold secB at this
        rw [Bool.and_eq_true, if_pos rfl] at this
        exact g5 (by simpa using this.2)
    · rw [show decide (m.length = s.length) = false by simp; omega]; simp
  · have : allI (secB s m) s.length 0 = false := by
      rw [Bool.eq_false_iff]
      intro h
      rw [Bool.eq_false_iff] at e2
      refine e2 (all_iff.2 fun j x y => ?_)
      have := allI_true.1 h j x (by omega)
      unfold secB at this
      rw [Bool.and_eq_true] at this
      exact this.1
    rw [this]; simp
/-! ### the text -/
def sg (n : Int) : ByteArray := if n = 1 then ⟨#[88]⟩ else if n = 2 then ⟨#[43]⟩ else ⟨#[111]⟩
theorem sg_size {n : Int} : (sg n).size = 1 := by unfold sg; split <;> (try split) <;> rfl
theorem mark_f {n : Int} (h0 : 1 ≤ n) (h1 : n ≤ 3) : impl_markText.f n = some (sg n) := by
  unfold impl_markText.f sg
  split
  · rfl
  · split
    · rfl
    · rw [if_pos (by omega)]
theorem sg_ext {n : Int} (h0 : 1 ≤ n) (h1 : n ≤ 3) : (⟨#[45, 88, 43, 111]⟩ : ByteArray).extract n.toNat (n + 1).toNat = sg n := by
  have : n = 1 ∨ n = 2 ∨ n = 3 := by omega
  rcases this with rfl | rfl | rfl <;> decide +kernel
def OkS (s m : List Int) : Prop := s.length ≤ 8 ∧ m.length = s.length ∧ ∀ j : Int, 0 ≤ j → j < s.length → (1 ≤ rd s j ∧ rd s j ≤ 16) ∧ 1 ≤ rd m j ∧ rd m j ≤ 3
theorem okS_of {a : ByteArray} {s m : List Int} (h : talaB a s m = true) : OkS s m := by
  unfold talaB at h
  simp only [Bool.and_eq_true, decide_eq_true_eq, within_iff] at h
  refine ⟨by omega, h.2.2.1, fun j x y => ?_⟩
  have := allI_true.1 h.2.2.2.1 j x (by omega)
  unfold secB at this
  rw [Bool.and_eq_true, within_iff] at this
  refine ⟨this.1, ?_⟩
  have g := this.2
  by_cases e : j = 0
  · rw [if_pos e] at g; have : rd m j = 1 := by simpa using g
    omega
  · rw [if_neg e, within_iff] at g; omega
theorem piece_size {s m : Int} : (((⟨#[32]⟩ : ByteArray) ++ dec s.toNat) ++ sg m).size ≤ 4 := by
  rw [ByteArray.size_append, ByteArray.size_append, sg_size]
  have := dec_size (n := s.toNat)
  have : (⟨#[32]⟩ : ByteArray).size = 1 := rfl
  omega
theorem textS_l0 {a : ByteArray} {s m : List Int} (h : OkS s m) : ∀ (d : Nat) (i : Int) (x : ByteArray), 0 ≤ i → i + d = s.length → x.size ≤ 140737488355328 + 4 * i.toNat → ∃ v,
    Wp (fun k => spec_l17Text.l0 k [(⟨a, s, m⟩ : S39)] x ⟨#[45, 88, 43, 111]⟩ i) (fun r => r = v) ∧ Wp (fun k => impl_TalaText.l0 k x s (s.length : Int) i a s m) (fun r => r = v)
  | 0, i, x, h0, h1, h2 => by
    refine ⟨x, Wp.step ?_, Wp.step ?_⟩
    · simp only [spec_l17Text.l0, rdA]
      exact Wp.neg (by omega) (Wp.now rfl)
    · simp only [impl_TalaText.l0]
      exact Wp.neg (by omega) (Wp.now rfl)
  | d + 1, i, x, h0, h1, h2 => by
    obtain ⟨hl, hm, ho⟩ := h
    have hx := ho i h0 (by omega)
    have hp := piece_size (s := rd s i) (m := rd m i)
    have h32 : (⟨#[32]⟩ : ByteArray).size = 1 := rfl
    have hd := dec_size (n := (rd s i).toNat)
    have hg := sg_size (n := rd m i)
    obtain ⟨v, v1, v2⟩ := textS_l0 (a := a) ⟨hl, hm, ho⟩ d (i + 1) (x ++ (((⟨#[32]⟩ : ByteArray) ++ dec (rd s i).toNat) ++ sg (rd m i))) (by omega) (by omega) (by rw [ByteArray.size_append]; omega)
    refine ⟨v, Wp.step ?_, Wp.step ?_⟩
    · simp only [spec_l17Text.l0, rdA]
      have e1 : wrap64 (rd m i + 1) = rd m i + 1 := w64 (by omega) (by omega)
      have e2 : wrap64 (i + 1) = i + 1 := w64 (by omega) (by omega)
      simp only [e1, e2, sg_ext hx.2.1 hx.2.2]
      exact Wp.pos (by omega) (Wp.pos h0 (Wp.pos (by omega) (Wp.val (decS_wp (by omega) hx.1.2) (Wp.pos (by omega) (Wp.pos (by omega) (Wp.pos (by omega) (Wp.pos (by show rd m i + 1 ≤ 4; omega) (Wp.pos (by rw [ByteArray.size_append]; omega) (Wp.pos (by omega) v1)))))))))
    · simp only [impl_TalaText.l0]
      rw [w64 (n := i + 1) (by omega) (by omega)]
      exact Wp.pos (by omega) (Wp.pos h0 (Wp.pos (by omega) (Wp.calls (decI_f (by omega) (by omega)) (Wp.pos (by omega) (Wp.pos (by omega) (Wp.calls (mark_f hx.2.1 hx.2.2) (Wp.pos (by rw [ByteArray.size_append]; omega) (Wp.pos (by omega) v2))))))))
theorem both (a : ByteArray) (s m : List Int) (ha : a.size ≤ maxLen) (ha2 : a.size ≤ 1048576) : ∃ v : ByteArray, Wp (fun k => spec_TalaText.f k a s m) (fun r => r = v) ∧ Wp (fun k => impl_TalaText.f k a s m) (fun r => r = v) := by
  have w1 := okS_wp a s m ha
  have w2 := okI_wp a s m ha
  by_cases e : talaB a s m = true
  · obtain ⟨v, v1, v2⟩ := textS_l0 (a := a) (okS_of e) s.length 0 a (by omega) (by omega) (by omega)
    refine ⟨v, ?_, ?_⟩
    · simp only [spec_TalaText.f]
      refine Wp.val w1 (Wp.pos e (Wp.val (a := v) ?_ (Wp.now rfl)))
      simp only [spec_l17Text.f, spec_l17Signs.f, rdA]
      exact Wp.calls rfl v1
    · simp only [impl_TalaText.f]
      exact Wp.val w2 (Wp.pos e v2)
  · refine ⟨⟨#[]⟩, ?_, ?_⟩
    · simp only [spec_TalaText.f]
      exact Wp.val w1 (Wp.neg e (Wp.now rfl))
    · simp only [impl_TalaText.f]
      exact Wp.val w2 (Wp.neg e (Wp.now rfl))
theorem FnExactTalaText : laws_FnExactTalaText.Pure := by
  intro a s m ha hs hm
  refine Wp.rounds ?_
  simp only [laws_FnExactTalaText.f]
  have hz : ∃ r, laws_szTala.f a s m 1048576 = some r ∧ (0 ≤ r → s.length ≤ 1048576 ∧ m.length ≤ 1048576 ∧ a.size ≤ 1048576) := by
    have h1 := hs.1
    have h2 := hm.1
    unfold maxLen at ha h1 h2
    simp only [laws_szTala.f, laws_szInt64S.f]
    rw [w64 (n := 1048576 - (a.size : Int)) (by omega) (by omega)]
    by_cases e : 1048576 - (a.size : Int) < 0
    · rw [if_pos e]; exact ⟨-1, rfl, by omega⟩
    · rw [if_neg e, w64 (n := 1048576 - (a.size : Int) - (s.length : Int)) (by omega) (by omega)]
      by_cases e2 : 1048576 - (a.size : Int) - (s.length : Int) < 0
      · rw [if_pos e2]; exact ⟨-1, by simp, by omega⟩
      · rw [if_neg e2]
        simp only [Option.bind_some]
        rw [if_neg e2, w64 (n := 1048576 - (a.size : Int) - (s.length : Int) - (m.length : Int)) (by omega) (by omega)]
        by_cases e3 : 1048576 - (a.size : Int) - (s.length : Int) - (m.length : Int) < 0
        · rw [if_pos e3]; exact ⟨-1, by simp, by omega⟩
        · rw [if_neg e3]
          simp only [Option.bind_some]
          rw [if_neg e3]
          exact ⟨_, rfl, fun _ => ⟨by omega, by omega, by omega⟩⟩
  obtain ⟨r, hr, hb⟩ := hz
  refine Wp.calls hr (Wp.ite (fun _ => Wp.now rfl) (fun hr => ?_))
  obtain ⟨b1, b2, b3⟩ := hb (by omega)
  obtain ⟨K1, h1⟩ := toInt64S_ev s b1
  obtain ⟨K2, h2⟩ := toInt64S_ev m b2
  obtain ⟨K3, h3⟩ := eqInt64S_ev s hs.1
  obtain ⟨K4, h4⟩ := eqInt64S_ev m hm.1
  have t0 : Wp (fun k => laws_toTala.f k a s m) (fun r => r = (a, s, m)) := by
    simp only [laws_toTala.f]
    exact Wp.val (a := s) ⟨_, rfl, K1, h1⟩ (Wp.val (a := m) ⟨_, rfl, K2, h2⟩ (Wp.now rfl))
  have t1 : Wp (fun k => laws_eqTala.f k a s m a s m) (fun r => r = true) := by
    simp only [laws_eqTala.f]
    exact Wp.pos (by trivial) (Wp.val (a := true) ⟨_, rfl, K3, h3⟩ (Wp.posB rfl (Wp.val (a := true) ⟨_, rfl, K4, h4⟩ (Wp.posB rfl (Wp.now rfl)))))
  obtain ⟨v, v1, v2⟩ := both a s m ha b3
  exact Wp.val t0 (Wp.val v1 (Wp.val t0 (Wp.val v2 (Wp.pos (by trivial) (Wp.val t0 (Wp.val t1 (Wp.posB rfl (Wp.now rfl))))))))
end Go.Proofs.YtmeflmlejcmckaaDoor.Pure
