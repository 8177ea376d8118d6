-- WRITTEN BY wip/gprint.py, a program of this session's over the kit's print, with contracts given by hand
import Derived.Test.YtomeeimjlagbbaaPHx0
import Derived.Test.YtomeeimjlagbbaaPHx1
import Derived.Test.YtomeeimjlagbbaaPHx2
import Derived.Test.YtomeeimjlagbbaaPHx3
namespace Go.Proofs.Ytomeeimjlagbbaa.PH
open Go.RowKit Go.Proofs.YtomeeimjlagbbaaW.PrintWords Go.Proofs.YtomeeimjlagbbaaW.PrintLast Go.Proofs.YtomeeimjlagbbaaW.PrintMore
attribute [local go_sem] max2_int min2_int max_two min_two max_three min_three max_four min_four   -- for this text's walks alone
set_option linter.unusedVariables false
set_option linter.unusedSimpArgs false

/-! ### spec_l08DrawList: function 93 -/
mutual
def spec_l08DrawList.l0 : Nat → List ByteArray → List (S43) → Int → List Int → Int → Int → Option ((List (S43)) × Int × Int)
 | 0, _, _, _, _, _, _ => none
 | k + 1, x3, x4, x5, x1000, x1001, x1002 => if x5 < (x3.length : Int) then ((spec_l00Src_one.f x1000 x1001 x1002 3).bind fun bt266 => (if bt266.1 = true then (spec_l08DrawList.l0 k x3 x4 (wrap64 (x5 + 1)) x1000 bt266.2.1 bt266.2.2) else (if 0 ≤ x5 then ((spec_l08DrawOne.f x1000 bt266.2.1 bt266.2.2 (rdOf ByteArray.empty x3 x5)).bind fun bt270 => (if x4.length < 2513169434916 then (spec_l08DrawList.l0 k x3 (x4 ++ [(⟨bt270.1, bt270.2.1, bt270.2.2.1, bt270.2.2.2.1, bt270.2.2.2.2.1, bt270.2.2.2.2.2.1⟩ : S43)]) (wrap64 (x5 + 1)) x1000 bt270.2.2.2.2.2.2.1 bt270.2.2.2.2.2.2.2) else (none))) else (none)))) else ((spec_l00Src_pick.f x1000 x1001 x1002 20).bind fun bt281 => (if bt281.1 = 0 then ((spec_l08DrawOne.f x1000 bt281.2.1 bt281.2.2 (⟨#[122, 122]⟩ : ByteArray)).bind fun bt284 => ((spec_l08Bend.f x1000 bt284.2.2.2.2.2.2.1 bt284.2.2.2.2.2.2.2 bt284.1 bt284.2.1 bt284.2.2.1 bt284.2.2.2.1 bt284.2.2.2.2.1 bt284.2.2.2.2.2.1).bind fun bt292 => (if x4.length < 2513169434916 then (some ((x4 ++ [(⟨bt292.1, bt292.2.1, bt292.2.2.1, bt292.2.2.2.1, bt292.2.2.2.2.1, bt292.2.2.2.2.2.1⟩ : S43)]), bt292.2.2.2.2.2.2.1, bt292.2.2.2.2.2.2.2)) else (none)))) else (if bt281.1 = 1 then ((spec_l00Src_among.f x1000 bt281.2.1 bt281.2.2 (([12, 13] : List Int))).bind fun bt306 => (spec_l08DrawList.l1 k (([] : List (S43))) bt306.1 0 x1000 bt306.2.1 bt306.2.2)) else (some (x4, bt281.2.1, bt281.2.2)))))
def spec_l08DrawList.l1 : Nat → List (S43) → Int → Int → List Int → Int → Int → Option ((List (S43)) × Int × Int)
 | 0, _, _, _, _, _, _ => none
 | k + 1, x4, x6, x7, x1000, x1001, x1002 => if x7 < x6 then ((some (([(wrap64 (97 + x7)) % 256] : List Int) : List Int)).bind fun y312 => (if 1 + (strOfNums y312).size ≤ 9223372036854775807 then (if x4.length < 2513169434916 then (spec_l08DrawList.l1 k (x4 ++ [(⟨(⟨#[110]⟩ : ByteArray) ++ (strOfNums y312), 0, 60, (-1), 240, x7⟩ : S43)]) x6 (wrap64 (x7 + 1)) x1000 x1001 x1002) else (none)) else (none))) else (some (x4, x1001, x1002))
end
def spec_l08DrawList.f (k : Nat) (s0_0 : List Int) (s0_1 : Int) (s0_2 : Int) : Option ((List (S43)) × Int × Int) := spec_l08DrawList.l0 k (([(⟨#[98, 104, 97, 105, 114, 97, 118]⟩ : ByteArray), (⟨#[100, 101, 115, 104]⟩ : ByteArray), (⟨#[107, 97, 102, 105]⟩ : ByteArray), (⟨#[115, 111, 104, 110, 105]⟩ : ByteArray), (⟨#[121, 97, 109, 97, 110]⟩ : ByteArray)] : List ByteArray)) (([] : List (S43))) 0 s0_0 s0_1 s0_2
theorem spec_l08DrawList.mono_l : ∀ k, (∀ y0 y1 y2 y3 y4 y5, LeO (spec_l08DrawList.l0 k y0 y1 y2 y3 y4 y5) (spec_l08DrawList.l0 (k + 1) y0 y1 y2 y3 y4 y5)) ∧ (∀ y0 y1 y2 y3 y4 y5, LeO (spec_l08DrawList.l1 k y0 y1 y2 y3 y4 y5) (spec_l08DrawList.l1 (k + 1) y0 y1 y2 y3 y4 y5))
 | 0 => ⟨fun _ _ _ _ _ _ r h => by simp [spec_l08DrawList.l0] at h, fun _ _ _ _ _ _ r h => by simp [spec_l08DrawList.l1] at h⟩
 | k + 1 => by
  obtain ⟨ih0, ih1⟩ := spec_l08DrawList.mono_l k
  refine ⟨?_, ?_⟩
  · intro y0 y1 y2 y3 y4 y5
    unfold spec_l08DrawList.l0
    repeat' first
    | (with_reducible exact ih0 _ _ _ _ _ _)
    | (with_reducible exact ih1 _ _ _ _ _ _)
    | (with_reducible exact LeO.refl _)
    | (with_reducible exact LeO.none _)
    | (with_reducible refine LeO.ite ?_ ?_)
    | (with_reducible refine LeO.bind ?_ (fun _ => ?_))
    | exact ih0 _ _ _ _ _ _
    | exact ih1 _ _ _ _ _ _
    | exact LeO.none _
    | refine LeO.ite ?_ ?_
    | refine LeO.bind ?_ (fun _ => ?_)
  · intro y0 y1 y2 y3 y4 y5
    unfold spec_l08DrawList.l1
    repeat' first
    | (with_reducible exact ih0 _ _ _ _ _ _)
    | (with_reducible exact ih1 _ _ _ _ _ _)
    | (with_reducible exact LeO.refl _)
    | (with_reducible exact LeO.none _)
    | (with_reducible refine LeO.ite ?_ ?_)
    | (with_reducible refine LeO.bind ?_ (fun _ => ?_))
    | exact ih0 _ _ _ _ _ _
    | exact ih1 _ _ _ _ _ _
    | exact LeO.none _
    | refine LeO.ite ?_ ?_
    | refine LeO.bind ?_ (fun _ => ?_)
theorem spec_l08DrawList.mono : ∀ a0 a1 a2 k, LeO (spec_l08DrawList.f k a0 a1 a2) (spec_l08DrawList.f (k + 1) a0 a1 a2) := by
 intro a0 a1 a2 k
 obtain ⟨ih0, ih1⟩ := spec_l08DrawList.mono_l k
 unfold spec_l08DrawList.f
 repeat' first
  | (with_reducible exact ih0 _ _ _ _ _ _)
  | (with_reducible exact ih1 _ _ _ _ _ _)
  | (with_reducible exact LeO.refl _)
  | (with_reducible exact LeO.none _)
  | (with_reducible refine LeO.ite ?_ ?_)
  | (with_reducible refine LeO.bind ?_ (fun _ => ?_))
  | exact ih0 _ _ _ _ _ _
  | exact ih1 _ _ _ _ _ _
  | exact LeO.none _
  | refine LeO.ite ?_ ?_
  | refine LeO.bind ?_ (fun _ => ?_)
set_option maxHeartbeats 8000000 in
set_option maxRecDepth 100000 in
theorem spec_l08DrawList.calls (k : Nat) (g : Nat) (s0_0 : List Int) (s0_1 : Int) (s0_2 : Int) (r1 : List (S43)) (r2 : Int) (r3 : Int) (w0 w : World) (hI : IsS128 w0 w g s0_0 s0_1 s0_2) (hB : Below w0.heap.size w0 w) (h : spec_l08DrawList.f k s0_0 s0_1 s0_2 = some (r1, r2, r3)) :
 Calls Try.prog 93 #[.pointer (some ⟨g, 0, none⟩)] w fun e w' => ∃ v0_ : Value, e = .returned (v0_) ∧ Kd.R k43 43 w' w.heap.size (fun _ => True) v0_ r1 ∧ IsS128 w0 w' g s0_0 r2 r3 ∧ Below w0.heap.size w0 w' ∧ KeepBut w w' g none := by
 have hu43 := Try.underlying43
 have HI0 := Aside0.mk hI
 have HK := Aside0.mk (KeepBut.refl w g none)
 have HL := Aside0.mk hB.size
 clear hI
 have HW0 := Aside0.mk hB.size
 have HB := Aside0.mk hB
 clear hB
 have H : (spec_l08DrawList.l0 k (([(⟨#[98, 104, 97, 105, 114, 97, 118]⟩ : ByteArray), (⟨#[100, 101, 115, 104]⟩ : ByteArray), (⟨#[107, 97, 102, 105]⟩ : ByteArray), (⟨#[115, 111, 104, 110, 105]⟩ : ByteArray), (⟨#[121, 97, 109, 97, 110]⟩ : ByteArray)] : List ByteArray)) (([] : List (S43))) 0 s0_0 s0_1 s0_2) = some (r1, r2, r3) := h
 clear h
 obtain ⟨y260, hy260⟩ : ∃ y_ : List ByteArray, y_ = (([(⟨#[98, 104, 97, 105, 114, 97, 118]⟩ : ByteArray), (⟨#[100, 101, 115, 104]⟩ : ByteArray), (⟨#[107, 97, 102, 105]⟩ : ByteArray), (⟨#[115, 111, 104, 110, 105]⟩ : ByteArray), (⟨#[121, 97, 109, 97, 110]⟩ : ByteArray)] : List ByteArray)) := ⟨_, rfl⟩
 replace H : (spec_l08DrawList.l0 k y260 (([] : List (S43))) 0 s0_0 s0_1 s0_2) = some (r1, r2, r3) := by first | (rw [hy260]; with_reducible exact H) | (have H2_ := (Option.bind_some _ _).symm.trans H; rw [hy260]; with_reducible exact H2_) | (have H2_ := (Option.bind_some _ _).symm.trans H; with_reducible exact H2_) | with_reducible exact H | (rw [hy260]; exact H) | exact H
 have Ny260 := Aside0.mk hy260
 clear hy260
 obtain ⟨y263, hy263⟩ : ∃ y_ : List (S43), y_ = (([] : List (S43))) := ⟨_, rfl⟩
 replace H : (spec_l08DrawList.l0 k y260 y263 0 s0_0 s0_1 s0_2) = some (r1, r2, r3) := by first | (rw [hy263]; with_reducible exact H) | (have H2_ := (Option.bind_some _ _).symm.trans H; rw [hy263]; with_reducible exact H2_) | (have H2_ := (Option.bind_some _ _).symm.trans H; with_reducible exact H2_) | with_reducible exact H | (rw [hy263]; exact H) | exact H
 have Ny263 := Aside0.mk hy263
 clear hy263
 have H' := Aside0.mk H
 clear H
 go_enter Try.func93, Try.ntmps93
 go_wp2_with (first | ((with_reducible refine gate_dst (N := 8) rfl ?_); refine Kd.R_lit Kd.string _ 9 ?hg (N := 8) ?hd (xs := ([(⟨#[98, 104, 97, 105, 114, 97, 118]⟩ : ByteArray), (⟨#[100, 101, 115, 104]⟩ : ByteArray), (⟨#[107, 97, 102, 105]⟩ : ByteArray), (⟨#[115, 111, 104, 110, 105]⟩ : ByteArray), (⟨#[121, 97, 109, 97, 110]⟩ : ByteArray)] : List ByteArray)) (inner := [.string (⟨#[98, 104, 97, 105, 114, 97, 118]⟩ : ByteArray), .string (⟨#[100, 101, 115, 104]⟩ : ByteArray), .string (⟨#[107, 97, 102, 105]⟩ : ByteArray), .string (⟨#[115, 111, 104, 110, 105]⟩ : ByteArray), .string (⟨#[121, 97, 109, 97, 110]⟩ : ByteArray)]) (ok := fun _ => True) (okp := fun _ => True) ?hr ?hp (fun _ hk => hk) trivial (Below.refl _ _) (Nat.le_refl _) (by simp) ?_; (case hd => rfl); (case hg => rfl); (case hr => first | (go_simp; done) | (go_simp; rfl)); (case hp => exact (Reps.one (show Kd.M Kd.string _ _ _ (⟨#[98, 104, 97, 105, 114, 97, 118]⟩ : ByteArray) [.string (⟨#[98, 104, 97, 105, 114, 97, 118]⟩ : ByteArray)] from rfl) (Reps.one (show Kd.M Kd.string _ _ _ (⟨#[100, 101, 115, 104]⟩ : ByteArray) [.string (⟨#[100, 101, 115, 104]⟩ : ByteArray)] from rfl) (Reps.one (show Kd.M Kd.string _ _ _ (⟨#[107, 97, 102, 105]⟩ : ByteArray) [.string (⟨#[107, 97, 102, 105]⟩ : ByteArray)] from rfl) (Reps.one (show Kd.M Kd.string _ _ _ (⟨#[115, 111, 104, 110, 105]⟩ : ByteArray) [.string (⟨#[115, 111, 104, 110, 105]⟩ : ByteArray)] from rfl) (Reps.one (show Kd.M Kd.string _ _ _ (⟨#[121, 97, 109, 97, 110]⟩ : ByteArray) [.string (⟨#[121, 97, 109, 97, 110]⟩ : ByteArray)] from rfl) (Reps.none _ _))))))); intro v261 w2 ho3 hb hg_ hnew_; clear hg_ hnew_; (first | rw [← Ny260.out] at ho3 | (simp only [Int.reduceToNat] at ho3; rw [← Ny260.out] at ho3)); have n0_ := Aside0.mk (Kd.R_lower ho3 (keep_size (w := w) (g := g) (row := none) (by repeat (first | (with_reducible first | exact HK.out | apply qks | apply qkn | apply qkd | apply qka) | exact HK.out)))); have n1_ := Aside0.mk (IsS128.below (by repeat (first | (with_reducible first | exact HI0.out | apply IsS128.alloc | apply IsS128.drewN | apply IsS128.drew | apply IsS128.set_1 | apply IsS128.set_2) | exact HI0.out)) hb); have n2_ := Aside0.mk (KeepBut.trans (by repeat (first | (with_reducible first | exact HK.out | apply qks | apply qkn | apply qkd | apply qka) | exact HK.out)) (KeepBut.of_below hb g none) (.inl rfl)); have n3_ := Aside0.mk (below_step (by repeat (first | (with_reducible first | exact HB.out | apply qba | apply qbn | apply qb1 | refine below_set ?_ (IsS128.ge HI0.out)) | exact HB.out)) hb); clear HI0; clear HK; clear HB; have HO262 := n0_; have HI0 := n1_; have HK := n2_; have HB := n3_; clear n0_ n1_ n2_ n3_; clear hb ho3) | ((with_reducible refine gate_dst (N := 9) rfl ?_); refine Kd.R_lit k43 _ 43 ?hg (N := 9) ?hd (xs := ([] : List (S43))) (inner := []) (ok := fun _ => True) (okp := fun _ => True) ?hr ?hp (fun _ hk => hk) trivial (Below.refl _ _) (Nat.le_refl _) (by simp) ?_; (case hd => rfl); (case hg => rfl); (case hr => first | (go_simp; done) | (go_simp; rfl)); (case hp => exact (Reps.none _ _)); intro v264 w4 ho5 hb hg_ hnew_; clear hg_ hnew_; (first | rw [← Ny263.out] at ho5 | (simp only [Int.reduceToNat] at ho5; rw [← Ny263.out] at ho5)); have n0_ := Aside0.mk (Kd.R_below (by (with_reducible repeat (first | apply qra | apply qrn | apply qrd)); exact HO262.out) hb); have n1_ := Aside0.mk (Kd.R_lower ho5 (keep_size (w := w) (g := g) (row := none) (by repeat (first | (with_reducible first | exact HK.out | apply qks | apply qkn | apply qkd | apply qka) | exact HK.out)))); have n2_ := Aside0.mk (IsS128.below (by repeat (first | (with_reducible first | exact HI0.out | apply IsS128.alloc | apply IsS128.drewN | apply IsS128.drew | apply IsS128.set_1 | apply IsS128.set_2) | exact HI0.out)) hb); have n3_ := Aside0.mk (KeepBut.trans (by repeat (first | (with_reducible first | exact HK.out | apply qks | apply qkn | apply qkd | apply qka) | exact HK.out)) (KeepBut.of_below hb g none) (.inl rfl)); have n4_ := Aside0.mk (below_step (by repeat (first | (with_reducible first | exact HB.out | apply qba | apply qbn | apply qb1 | refine below_set ?_ (IsS128.ge HI0.out)) | exact HB.out)) hb); clear HO262; clear HI0; clear HK; clear HB; have HO262 := n0_; have HO265 := n1_; have HI0 := n2_; have HK := n3_; have HB := n4_; clear n0_ n1_ n2_ n3_ n4_; clear hb ho5))
 go_loopg [4, 5] k (fun kq v4 v5 w' => ∃ (x4_1 : List (S43)) (x5_1 : Int) (x1001_1 : Int) (x1002_1 : Int), v5 = .int .i64 x5_1 ∧ Aside0 (spec_l08DrawList.l0 kq y260 x4_1 x5_1 s0_0 x1001_1 x1002_1 = some (r1, r2, r3)) ∧ Aside0 (kq ≤ k) ∧ Aside0 (Kd.R Kd.string 9 w' w.heap.size (fun _ => True) v261 y260) ∧ Aside0 (Kd.R k43 43 w' w.heap.size (fun _ => True) v4 x4_1) ∧ Aside0 (IsS128 w0 w' g s0_0 x1001_1 x1002_1) ∧ Aside0 (KeepBut w w' g none) ∧ Aside0 (Below w0.heap.size w0 w'))
 case atStart => exact ⟨(y263), (0), (s0_1), (s0_2), (by first | rfl | (simp; done) | (simp [*]; done)), H', ⟨Nat.le_refl _⟩, ⟨by (with_reducible repeat (first | apply qra | apply qrn | apply qrd)); exact HO262.out⟩, ⟨by (with_reducible repeat (first | apply qra | apply qrn | apply qrd)); exact HO265.out⟩, ⟨by repeat (first | (with_reducible first | exact HI0.out | apply IsS128.alloc | apply IsS128.drewN | apply IsS128.drew | apply IsS128.set_1 | apply IsS128.set_2) | exact HI0.out)⟩, ⟨by repeat (first | (with_reducible first | exact HK.out | apply qks | apply qkn | apply qkd | apply qka) | exact HK.out)⟩, ⟨by repeat (first | (with_reducible first | exact HB.out | apply qba | apply qbn | apply qb1 | refine below_set ?_ (IsS128.ge HI0.out)) | exact HB.out)⟩⟩
 case round =>
  clear H'
  try clear p2
  obtain ⟨x4_1, x5_1, x1001_1, x1002_1, rfl, HA, HK1, HO_3, HO_4, HI0, HK, HB⟩ := hrel
  cases gk with
  | zero => exact absurd HA.out (by simp [spec_l08DrawList.l0])
  | succ k1 =>
   have H := HA.out
   clear HA
   simp only [spec_l08DrawList.l0] at H
   by_cases c6 : x5_1 < (y260.length : Int)
   · rw [if_pos c6] at H
     have c6b0 : decide (x5_1 < (y260.length : Int)) = true := decide_eq_true c6
     clear c6
     replace H := Option.bind_eq_some_iff.mp H
     obtain ⟨⟨t266, t267, t268⟩, A70, H⟩ := H
     replace H : (if t266 = true then (spec_l08DrawList.l0 k1 y260 x4_1 (wrap64 (x5_1 + 1)) s0_0 t267 t268) else (if 0 ≤ x5_1 then ((spec_l08DrawOne.f s0_0 t267 t268 (rdOf ByteArray.empty y260 x5_1)).bind fun bt270 => (if x4_1.length < 2513169434916 then (spec_l08DrawList.l0 k1 y260 (x4_1 ++ [(⟨bt270.1, bt270.2.1, bt270.2.2.1, bt270.2.2.2.1, bt270.2.2.2.2.1, bt270.2.2.2.2.2.1⟩ : S43)]) (wrap64 (x5_1 + 1)) s0_0 bt270.2.2.2.2.2.2.1 bt270.2.2.2.2.2.2.2) else (none))) else (none))) = some (r1, r2, r3) := H
     have A7 := Aside0.mk A70
     clear A70
     by_cases c8 : t266 = true
     · subst c8
       have H1 : (spec_l08DrawList.l0 k1 y260 x4_1 (wrap64 (x5_1 + 1)) s0_0 t267 t268) = some (r1, r2, r3) := by rw [if_pos rfl] at H; exact H
       clear H
       have H := H1
       clear H1
       have H' := Aside0.mk H
       clear H
       obtain ⟨Ao9, co9, eo9⟩ := Kd.R_slice HO_3.out
       subst eo9
       go_wp2_with (first | ((with_reducible refine gate_callee (f := 123) rfl ?_); refine gL_ (some 17) rfl rfl Try.func123 #[.pointer (some ⟨g, 0, none⟩), .int .i64 3] rfl ?_; (with_reducible refine (spec_l00Src_one.calls g s0_0 x1001_1 x1002_1 3 true t267 t268 w0 _ ?side1 ?side2 A7.out).mono ?_); (case side1 => repeat (first | (with_reducible first | exact HI0.out | apply IsS128.alloc | apply IsS128.drewN | apply IsS128.drew | apply IsS128.set_1 | apply IsS128.set_2) | exact HI0.out)); (case side2 => repeat (first | (with_reducible first | exact HB.out | apply qba | apply qbn | apply qb1 | refine below_set ?_ (IsS128.ge HI0.out)) | exact HB.out)); rintro e w10 ⟨rfl, hi, hb, hk⟩; refine ⟨_, rfl, ?_⟩; have n0_ := Aside0.mk (Kd.R_mono (Kd.R_keep (IsS128.apart (show IsS128 w0 _ g s0_0 x1001_1 x1002_1 from by repeat (first | (with_reducible first | exact HI0.out | apply IsS128.alloc | apply IsS128.drewN | apply IsS128.drew | apply IsS128.set_1 | apply IsS128.set_2) | exact HI0.out)) (by (with_reducible repeat (first | apply qra | apply qrn | apply qrd)); exact HO_3.out) (by decide)) hk (fun _ h => h.2)) (fun _ h => h.1)); have n1_ := Aside0.mk (Kd.R_mono (Kd.R_keep (IsS128.apart (show IsS128 w0 _ g s0_0 x1001_1 x1002_1 from by repeat (first | (with_reducible first | exact HI0.out | apply IsS128.alloc | apply IsS128.drewN | apply IsS128.drew | apply IsS128.set_1 | apply IsS128.set_2) | exact HI0.out)) (by (with_reducible repeat (first | apply qra | apply qrn | apply qrd)); exact HO_4.out) (by decide)) hk (fun _ h => h.2)) (fun _ h => h.1)); have n2_ := Aside0.mk (KeepBut.trans (by repeat (first | (with_reducible first | exact HK.out | apply qks | apply qkn | apply qkd | apply qka) | exact HK.out)) hk (.inl rfl)); have n3_ := Aside0.mk (hb); have n4_ := Aside0.mk (hi); clear HO_3; clear HO_4; clear HK; clear HB; clear HI0; have HO_3 := n0_; have HO_4 := n1_; have HK := n2_; have HB := n3_; have HI0 := n4_; clear n0_ n1_ n2_ n3_ n4_; (try clear hb); (try clear hb2); (try clear hk); (try clear hi)))
       go_roundg k1
       case measure => have := HK1.out; omega
       case rel => exact ⟨(x4_1), (wrap64 (x5_1 + 1)), (t267), (t268), (by first | rfl | (simp; done) | (simp [*]; done)), H', ⟨by have := HK1.out; omega⟩, ⟨by (with_reducible repeat (first | apply qra | apply qrn | apply qrd)); exact HO_3.out⟩, ⟨by (with_reducible repeat (first | apply qra | apply qrn | apply qrd)); exact HO_4.out⟩, ⟨by repeat (first | (with_reducible first | exact HI0.out | apply IsS128.alloc | apply IsS128.drewN | apply IsS128.drew | apply IsS128.set_1 | apply IsS128.set_2) | exact HI0.out)⟩, ⟨by repeat (first | (with_reducible first | exact HK.out | apply qks | apply qkn | apply qkd | apply qka) | exact HK.out)⟩, ⟨by repeat (first | (with_reducible first | exact HB.out | apply qba | apply qbn | apply qb1 | refine below_set ?_ (IsS128.ge HI0.out)) | exact HB.out)⟩⟩
     · replace c8 := Bool.eq_false_iff.mpr c8
       subst c8
       have H1 : (if 0 ≤ x5_1 then ((spec_l08DrawOne.f s0_0 t267 t268 (rdOf ByteArray.empty y260 x5_1)).bind fun bt270 => (if x4_1.length < 2513169434916 then (spec_l08DrawList.l0 k1 y260 (x4_1 ++ [(⟨bt270.1, bt270.2.1, bt270.2.2.1, bt270.2.2.2.1, bt270.2.2.2.2.1, bt270.2.2.2.2.2.1⟩ : S43)]) (wrap64 (x5_1 + 1)) s0_0 bt270.2.2.2.2.2.2.1 bt270.2.2.2.2.2.2.2) else (none))) else (none)) = some (r1, r2, r3) := by rw [if_neg (show ¬ (false = true) by decide)] at H; exact H
       clear H
       have H := H1
       clear H1
       by_cases c11 : 0 ≤ x5_1
       · rw [if_pos c11] at H
         have c11b0 : decide (0 ≤ x5_1) = true := decide_eq_true c11
         clear c11
         replace H := Option.bind_eq_some_iff.mp H
         obtain ⟨⟨t270, t271, t272, t273, t274, t275, t276, t277⟩, A120, H⟩ := H
         replace H : (if x4_1.length < 2513169434916 then (spec_l08DrawList.l0 k1 y260 (x4_1 ++ [(⟨t270, t271, t272, t273, t274, t275⟩ : S43)]) (wrap64 (x5_1 + 1)) s0_0 t276 t277) else (none)) = some (r1, r2, r3) := H
         have A12 := Aside0.mk A120
         clear A120
         by_cases c13 : x4_1.length < 2513169434916
         · rw [if_pos c13] at H
           have LMc13 := Aside0.mk c13
           clear c13
           obtain ⟨y278, hy278⟩ : ∃ y_ : List (S43), y_ = (x4_1 ++ [(⟨t270, t271, t272, t273, t274, t275⟩ : S43)]) := ⟨_, rfl⟩
           replace H : (spec_l08DrawList.l0 k1 y260 y278 (wrap64 (x5_1 + 1)) s0_0 t276 t277) = some (r1, r2, r3) := by first | (rw [hy278]; with_reducible exact H) | (have H2_ := (Option.bind_some _ _).symm.trans H; rw [hy278]; with_reducible exact H2_) | (have H2_ := (Option.bind_some _ _).symm.trans H; with_reducible exact H2_) | with_reducible exact H | (rw [hy278]; exact H) | exact H
           have Ny278 := Aside0.mk hy278
           clear hy278
           have H' := Aside0.mk H
           clear H
           obtain ⟨Ao14, co14, eo14⟩ := Kd.R_slice HO_3.out
           subst eo14
           go_wp2_with (first | ((with_reducible refine gate_callee (f := 123) rfl ?_); refine gL_ (some 17) rfl rfl Try.func123 #[.pointer (some ⟨g, 0, none⟩), .int .i64 3] rfl ?_; (with_reducible refine (spec_l00Src_one.calls g s0_0 x1001_1 x1002_1 3 false t267 t268 w0 _ ?side1 ?side2 A7.out).mono ?_); (case side1 => repeat (first | (with_reducible first | exact HI0.out | apply IsS128.alloc | apply IsS128.drewN | apply IsS128.drew | apply IsS128.set_1 | apply IsS128.set_2) | exact HI0.out)); (case side2 => repeat (first | (with_reducible first | exact HB.out | apply qba | apply qbn | apply qb1 | refine below_set ?_ (IsS128.ge HI0.out)) | exact HB.out)); rintro e w15 ⟨rfl, hi, hb, hk⟩; refine ⟨_, rfl, ?_⟩; have n0_ := Aside0.mk (Kd.R_mono (Kd.R_keep (IsS128.apart (show IsS128 w0 _ g s0_0 x1001_1 x1002_1 from by repeat (first | (with_reducible first | exact HI0.out | apply IsS128.alloc | apply IsS128.drewN | apply IsS128.drew | apply IsS128.set_1 | apply IsS128.set_2) | exact HI0.out)) (by (with_reducible repeat (first | apply qra | apply qrn | apply qrd)); exact HO_3.out) (by decide)) hk (fun _ h => h.2)) (fun _ h => h.1)); have n1_ := Aside0.mk (Kd.R_mono (Kd.R_keep (IsS128.apart (show IsS128 w0 _ g s0_0 x1001_1 x1002_1 from by repeat (first | (with_reducible first | exact HI0.out | apply IsS128.alloc | apply IsS128.drewN | apply IsS128.drew | apply IsS128.set_1 | apply IsS128.set_2) | exact HI0.out)) (by (with_reducible repeat (first | apply qra | apply qrn | apply qrd)); exact HO_4.out) (by decide)) hk (fun _ h => h.2)) (fun _ h => h.1)); have n2_ := Aside0.mk (KeepBut.trans (by repeat (first | (with_reducible first | exact HK.out | apply qks | apply qkn | apply qkd | apply qka) | exact HK.out)) hk (.inl rfl)); have n3_ := Aside0.mk (hb); have n4_ := Aside0.mk (hi); clear HO_3; clear HO_4; clear HK; clear HB; clear HI0; have HO_3 := n0_; have HO_4 := n1_; have HK := n2_; have HB := n3_; have HI0 := n4_; clear n0_ n1_ n2_ n3_ n4_; (try clear hb); (try clear hb2); (try clear hk); (try clear hi); have p269 : 0 ≤ (x5_1 : Int) := of_decide_eq_true (by first | (with_reducible assumption) | assumption); have q269 : x5_1 < (y260.length : Int) := of_decide_eq_true (by first | (with_reducible assumption) | assumption); obtain ⟨ad269, e269, hx269_0⟩ := Kd.at_string (Kd.R_reads' HO_3.out).2.2 x5_1 p269 q269; cases e269; replace p269 := eq_true p269; replace q269 := eq_true q269) | ((with_reducible refine gate_callee (f := 82) rfl ?_); refine gL_ (some 25) rfl rfl Try.func82 #[.pointer (some ⟨g, 0, none⟩), .string (rdOf ByteArray.empty y260 x5_1)] rfl ?_; (with_reducible refine (spec_l08DrawOne.calls g s0_0 t267 t268 (rdOf ByteArray.empty y260 x5_1) t270 t271 t272 t273 t274 t275 t276 t277 w0 _ ?side1 ?side2 A12.out).mono ?_); (case side1 => repeat (first | (with_reducible first | exact HI0.out | apply IsS128.alloc | apply IsS128.drewN | apply IsS128.drew | apply IsS128.set_1 | apply IsS128.set_2) | exact HI0.out)); (case side2 => repeat (first | (with_reducible first | exact HB.out | apply qba | apply qbn | apply qb1 | refine below_set ?_ (IsS128.ge HI0.out)) | exact HB.out)); rintro e w16 ⟨rfl, hi, hb, hk⟩; refine ⟨_, rfl, ?_⟩; have n0_ := Aside0.mk (Kd.R_mono (Kd.R_keep (IsS128.apart (show IsS128 w0 _ g s0_0 t267 t268 from by repeat (first | (with_reducible first | exact HI0.out | apply IsS128.alloc | apply IsS128.drewN | apply IsS128.drew | apply IsS128.set_1 | apply IsS128.set_2) | exact HI0.out)) (by (with_reducible repeat (first | apply qra | apply qrn | apply qrd)); exact HO_3.out) (by decide)) hk (fun _ h => h.2)) (fun _ h => h.1)); have n1_ := Aside0.mk (Kd.R_mono (Kd.R_keep (IsS128.apart (show IsS128 w0 _ g s0_0 t267 t268 from by repeat (first | (with_reducible first | exact HI0.out | apply IsS128.alloc | apply IsS128.drewN | apply IsS128.drew | apply IsS128.set_1 | apply IsS128.set_2) | exact HI0.out)) (by (with_reducible repeat (first | apply qra | apply qrn | apply qrd)); exact HO_4.out) (by decide)) hk (fun _ h => h.2)) (fun _ h => h.1)); have n2_ := Aside0.mk (KeepBut.trans (by repeat (first | (with_reducible first | exact HK.out | apply qks | apply qkn | apply qkd | apply qka) | exact HK.out)) hk (.inl rfl)); have n3_ := Aside0.mk (hb); have n4_ := Aside0.mk (hi); clear HO_3; clear HO_4; clear HK; clear HB; clear HI0; have HO_3 := n0_; have HO_4 := n1_; have HK := n2_; have HB := n3_; have HI0 := n4_; clear n0_ n1_ n2_ n3_ n4_; (try clear hb); (try clear hb2); (try clear hk); (try clear hi)) | ((with_reducible refine gate_builtin (b := .append) (xs := #[.tmp 19, .tmp 26]) rfl ?_); at_builtin; refine Kd.R_append k43 w.heap.size rfl (.tmp 19) (.tmp 26) 48 43 (.agg #[(.string ⟨#[]⟩), (.int .i64 0), (.int .i64 0), (.int .i64 0), (.int .i64 0), (.int .i64 0)]) 56 rfl Try.underlying48 info43 rfl (by decide) (by omega) u4 x4_1 (⟨t270, t271, t272, t273, t274, t275⟩ : S43) [.string t270, .int .i64 t271, .int .i64 t272, .int .i64 t273, .int .i64 t274, .int .i64 t275] (fun _ => True) (fun _ => False) rfl rfl ?aP (fun _ hk => hk.elim) ?aF ?aO (Below.refl _ _) ?aS ?aL ?_; (case aP => exact k43_mkM _ _ _ (⟨t270, t271, t272, t273, t274, t275⟩ : S43)); (case aF => exact (fun _ _ => trivial)); (case aO => exact (by (with_reducible repeat (first | apply qra | apply qrn | apply qrd)); exact HO_4.out)); (case aS => exact (keep_size (w := w) (g := g) (row := none) (by repeat (first | (with_reducible first | exact HK.out | apply qks | apply qkn | apply qkd | apply qka) | exact HK.out)))); (case aL => have := LMc13.out; omega); intro v279 w17 ho hb hg hat; rw [← Ny278.out] at ho; have n0_ := Aside0.mk (Kd.R_over' (by (with_reducible repeat (first | apply qra | apply qrn | apply qrd)); exact HO_3.out) (Kd.R_typed (by (with_reducible repeat (first | apply qra | apply qrn | apply qrd)); exact HO_4.out)) (by decide) hg); have n1_ := Aside0.mk (IsS128.grown (by repeat (first | (with_reducible first | exact HI0.out | apply IsS128.alloc | apply IsS128.drewN | apply IsS128.drew | apply IsS128.set_1 | apply IsS128.set_2) | exact HI0.out)) hg (IsS128.own_ne HI0.out HO_4.out (by decide))); have n2_ := Aside0.mk (below_weaken (by repeat (first | (with_reducible first | exact HB.out | apply qba | apply qbn | apply qb1 | refine below_set ?_ (IsS128.ge HI0.out)) | exact HB.out)) HL.out hb); have n3_ := Aside0.mk (KeepBut.trans (by repeat (first | (with_reducible first | exact HK.out | apply qks | apply qkn | apply qkd | apply qka) | exact HK.out)) (KeepBut.of_grown hg g) (Kd.R_base2 HO_4.out)); have n4_ := Aside0.mk (ho); clear HO_3; clear HI0; clear HB; clear HK; clear HO_4; have HO_3 := n0_; have HI0 := n1_; have HB := n2_; have HK := n3_; have HO280 := n4_; clear n0_ n1_ n2_ n3_ n4_; clear ho hb hg hat))
           go_roundg k1
           case measure => have := HK1.out; omega
           case rel => exact ⟨(y278), (wrap64 (x5_1 + 1)), (t276), (t277), (by first | rfl | (simp; done) | (simp [*]; done)), H', ⟨by have := HK1.out; omega⟩, ⟨by (with_reducible repeat (first | apply qra | apply qrn | apply qrd)); exact HO_3.out⟩, ⟨by (with_reducible repeat (first | apply qra | apply qrn | apply qrd)); exact HO280.out⟩, ⟨by repeat (first | (with_reducible first | exact HI0.out | apply IsS128.alloc | apply IsS128.drewN | apply IsS128.drew | apply IsS128.set_1 | apply IsS128.set_2) | exact HI0.out)⟩, ⟨by repeat (first | (with_reducible first | exact HK.out | apply qks | apply qkn | apply qkd | apply qka) | exact HK.out)⟩, ⟨by repeat (first | (with_reducible first | exact HB.out | apply qba | apply qbn | apply qb1 | refine below_set ?_ (IsS128.ge HI0.out)) | exact HB.out)⟩⟩
         · rw [if_neg c13] at H
           exact absurd H (by simp)
       · rw [if_neg c11] at H
         exact absurd H (by simp)
   · rw [if_neg c6] at H
     have c6b0 : decide (x5_1 < (y260.length : Int)) = false := decide_eq_false c6
     clear c6
     replace H := Option.bind_eq_some_iff.mp H
     obtain ⟨⟨t281, t282, t283⟩, A180, H⟩ := H
     replace H : (if t281 = 0 then ((spec_l08DrawOne.f s0_0 t282 t283 (⟨#[122, 122]⟩ : ByteArray)).bind fun bt284 => ((spec_l08Bend.f s0_0 bt284.2.2.2.2.2.2.1 bt284.2.2.2.2.2.2.2 bt284.1 bt284.2.1 bt284.2.2.1 bt284.2.2.2.1 bt284.2.2.2.2.1 bt284.2.2.2.2.2.1).bind fun bt292 => (if x4_1.length < 2513169434916 then (some ((x4_1 ++ [(⟨bt292.1, bt292.2.1, bt292.2.2.1, bt292.2.2.2.1, bt292.2.2.2.2.1, bt292.2.2.2.2.2.1⟩ : S43)]), bt292.2.2.2.2.2.2.1, bt292.2.2.2.2.2.2.2)) else (none)))) else (if t281 = 1 then ((spec_l00Src_among.f s0_0 t282 t283 (([12, 13] : List Int))).bind fun bt306 => (spec_l08DrawList.l1 k1 (([] : List (S43))) bt306.1 0 s0_0 bt306.2.1 bt306.2.2)) else (some (x4_1, t282, t283)))) = some (r1, r2, r3) := H
     have A18 := Aside0.mk A180
     clear A180
     by_cases c19 : t281 = 0
     · rw [if_pos c19] at H
       have c19b0 : (t281 == 0) = true := beq_iff_eq.mpr c19
       have c19b1 : (t281 != 0) = false := bne_eq_false_iff_eq.mpr c19
       clear c19
       replace H := Option.bind_eq_some_iff.mp H
       obtain ⟨⟨t284, t285, t286, t287, t288, t289, t290, t291⟩, A200, H⟩ := H
       replace H : ((spec_l08Bend.f s0_0 t290 t291 t284 t285 t286 t287 t288 t289).bind fun bt292 => (if x4_1.length < 2513169434916 then (some ((x4_1 ++ [(⟨bt292.1, bt292.2.1, bt292.2.2.1, bt292.2.2.2.1, bt292.2.2.2.2.1, bt292.2.2.2.2.2.1⟩ : S43)]), bt292.2.2.2.2.2.2.1, bt292.2.2.2.2.2.2.2)) else (none))) = some (r1, r2, r3) := H
       have A20 := Aside0.mk A200
       clear A200
       replace H := Option.bind_eq_some_iff.mp H
       obtain ⟨⟨t292, t293, t294, t295, t296, t297, t298, t299⟩, A210, H⟩ := H
       replace H : (if x4_1.length < 2513169434916 then (some ((x4_1 ++ [(⟨t292, t293, t294, t295, t296, t297⟩ : S43)]), t298, t299)) else (none)) = some (r1, r2, r3) := H
       have A21 := Aside0.mk A210
       clear A210
       by_cases c22 : x4_1.length < 2513169434916
       · rw [if_pos c22] at H
         have LMc22 := Aside0.mk c22
         clear c22
         obtain ⟨y300, hy300⟩ : ∃ y_ : List (S43), y_ = (x4_1 ++ [(⟨t292, t293, t294, t295, t296, t297⟩ : S43)]) := ⟨_, rfl⟩
         replace H : (some (y300, t298, t299)) = some (r1, r2, r3) := by first | (rw [hy300]; with_reducible exact H) | (have H2_ := (Option.bind_some _ _).symm.trans H; rw [hy300]; with_reducible exact H2_) | (have H2_ := (Option.bind_some _ _).symm.trans H; with_reducible exact H2_) | with_reducible exact H | (rw [hy300]; exact H) | exact H
         have Ny300 := Aside0.mk hy300
         clear hy300
         simp only [Option.some.injEq, Prod.mk.injEq] at H
         obtain ⟨rfl, rfl, rfl⟩ := H
         obtain ⟨Ao23, co23, eo23⟩ := Kd.R_slice HO_3.out
         subst eo23
         go_wp2_with (first | ((with_reducible refine gate_callee (f := 122) rfl ?_); refine gL_ (some 29) rfl rfl Try.func122 #[.pointer (some ⟨g, 0, none⟩), .int .i64 20] rfl ?_; (with_reducible refine (spec_l00Src_pick.calls g s0_0 x1001_1 x1002_1 20 t281 t282 t283 w0 _ ?side1 ?side2 A18.out).mono ?_); (case side1 => repeat (first | (with_reducible first | exact HI0.out | apply IsS128.alloc | apply IsS128.drewN | apply IsS128.drew | apply IsS128.set_1 | apply IsS128.set_2) | exact HI0.out)); (case side2 => repeat (first | (with_reducible first | exact HB.out | apply qba | apply qbn | apply qb1 | refine below_set ?_ (IsS128.ge HI0.out)) | exact HB.out)); rintro e w24 ⟨rfl, hi, hb, hk⟩; refine ⟨_, rfl, ?_⟩; have n0_ := Aside0.mk (Kd.R_mono (Kd.R_keep (IsS128.apart (show IsS128 w0 _ g s0_0 x1001_1 x1002_1 from by repeat (first | (with_reducible first | exact HI0.out | apply IsS128.alloc | apply IsS128.drewN | apply IsS128.drew | apply IsS128.set_1 | apply IsS128.set_2) | exact HI0.out)) (by (with_reducible repeat (first | apply qra | apply qrn | apply qrd)); exact HO_3.out) (by decide)) hk (fun _ h => h.2)) (fun _ h => h.1)); have n1_ := Aside0.mk (Kd.R_mono (Kd.R_keep (IsS128.apart (show IsS128 w0 _ g s0_0 x1001_1 x1002_1 from by repeat (first | (with_reducible first | exact HI0.out | apply IsS128.alloc | apply IsS128.drewN | apply IsS128.drew | apply IsS128.set_1 | apply IsS128.set_2) | exact HI0.out)) (by (with_reducible repeat (first | apply qra | apply qrn | apply qrd)); exact HO_4.out) (by decide)) hk (fun _ h => h.2)) (fun _ h => h.1)); have n2_ := Aside0.mk (KeepBut.trans (by repeat (first | (with_reducible first | exact HK.out | apply qks | apply qkn | apply qkd | apply qka) | exact HK.out)) hk (.inl rfl)); have n3_ := Aside0.mk (hb); have n4_ := Aside0.mk (hi); clear HO_3; clear HO_4; clear HK; clear HB; clear HI0; have HO_3 := n0_; have HO_4 := n1_; have HK := n2_; have HB := n3_; have HI0 := n4_; clear n0_ n1_ n2_ n3_ n4_; (try clear hb); (try clear hb2); (try clear hk); (try clear hi)) | ((with_reducible refine gate_callee (f := 82) rfl ?_); refine gL_ (some 35) rfl rfl Try.func82 #[.pointer (some ⟨g, 0, none⟩), .string (⟨#[122, 122]⟩ : ByteArray)] rfl ?_; (with_reducible refine (spec_l08DrawOne.calls g s0_0 t282 t283 (⟨#[122, 122]⟩ : ByteArray) t284 t285 t286 t287 t288 t289 t290 t291 w0 _ ?side1 ?side2 A20.out).mono ?_); (case side1 => repeat (first | (with_reducible first | exact HI0.out | apply IsS128.alloc | apply IsS128.drewN | apply IsS128.drew | apply IsS128.set_1 | apply IsS128.set_2) | exact HI0.out)); (case side2 => repeat (first | (with_reducible first | exact HB.out | apply qba | apply qbn | apply qb1 | refine below_set ?_ (IsS128.ge HI0.out)) | exact HB.out)); rintro e w25 ⟨rfl, hi, hb, hk⟩; refine ⟨_, rfl, ?_⟩; have n0_ := Aside0.mk (Kd.R_mono (Kd.R_keep (IsS128.apart (show IsS128 w0 _ g s0_0 t282 t283 from by repeat (first | (with_reducible first | exact HI0.out | apply IsS128.alloc | apply IsS128.drewN | apply IsS128.drew | apply IsS128.set_1 | apply IsS128.set_2) | exact HI0.out)) (by (with_reducible repeat (first | apply qra | apply qrn | apply qrd)); exact HO_3.out) (by decide)) hk (fun _ h => h.2)) (fun _ h => h.1)); have n1_ := Aside0.mk (Kd.R_mono (Kd.R_keep (IsS128.apart (show IsS128 w0 _ g s0_0 t282 t283 from by repeat (first | (with_reducible first | exact HI0.out | apply IsS128.alloc | apply IsS128.drewN | apply IsS128.drew | apply IsS128.set_1 | apply IsS128.set_2) | exact HI0.out)) (by (with_reducible repeat (first | apply qra | apply qrn | apply qrd)); exact HO_4.out) (by decide)) hk (fun _ h => h.2)) (fun _ h => h.1)); have n2_ := Aside0.mk (KeepBut.trans (by repeat (first | (with_reducible first | exact HK.out | apply qks | apply qkn | apply qkd | apply qka) | exact HK.out)) hk (.inl rfl)); have n3_ := Aside0.mk (hb); have n4_ := Aside0.mk (hi); clear HO_3; clear HO_4; clear HK; clear HB; clear HI0; have HO_3 := n0_; have HO_4 := n1_; have HK := n2_; have HB := n3_; have HI0 := n4_; clear n0_ n1_ n2_ n3_ n4_; (try clear hb); (try clear hb2); (try clear hk); (try clear hi)) | ((with_reducible refine gate_callee (f := 81) rfl ?_); refine gL_ (some 36) rfl rfl Try.func81 #[.pointer (some ⟨g, 0, none⟩), .agg #[.string t284, .int .i64 t285, .int .i64 t286, .int .i64 t287, .int .i64 t288, .int .i64 t289]] rfl ?_; (with_reducible refine (spec_l08Bend.calls g s0_0 t290 t291 t284 t285 t286 t287 t288 t289 t292 t293 t294 t295 t296 t297 t298 t299 w0 _ ?side1 ?side2 A21.out).mono ?_); (case side1 => repeat (first | (with_reducible first | exact HI0.out | apply IsS128.alloc | apply IsS128.drewN | apply IsS128.drew | apply IsS128.set_1 | apply IsS128.set_2) | exact HI0.out)); (case side2 => repeat (first | (with_reducible first | exact HB.out | apply qba | apply qbn | apply qb1 | refine below_set ?_ (IsS128.ge HI0.out)) | exact HB.out)); rintro e w26 ⟨rfl, hi, hb, hk⟩; refine ⟨_, rfl, ?_⟩; have n0_ := Aside0.mk (Kd.R_mono (Kd.R_keep (IsS128.apart (show IsS128 w0 _ g s0_0 t290 t291 from by repeat (first | (with_reducible first | exact HI0.out | apply IsS128.alloc | apply IsS128.drewN | apply IsS128.drew | apply IsS128.set_1 | apply IsS128.set_2) | exact HI0.out)) (by (with_reducible repeat (first | apply qra | apply qrn | apply qrd)); exact HO_3.out) (by decide)) hk (fun _ h => h.2)) (fun _ h => h.1)); have n1_ := Aside0.mk (Kd.R_mono (Kd.R_keep (IsS128.apart (show IsS128 w0 _ g s0_0 t290 t291 from by repeat (first | (with_reducible first | exact HI0.out | apply IsS128.alloc | apply IsS128.drewN | apply IsS128.drew | apply IsS128.set_1 | apply IsS128.set_2) | exact HI0.out)) (by (with_reducible repeat (first | apply qra | apply qrn | apply qrd)); exact HO_4.out) (by decide)) hk (fun _ h => h.2)) (fun _ h => h.1)); have n2_ := Aside0.mk (KeepBut.trans (by repeat (first | (with_reducible first | exact HK.out | apply qks | apply qkn | apply qkd | apply qka) | exact HK.out)) hk (.inl rfl)); have n3_ := Aside0.mk (hb); have n4_ := Aside0.mk (hi); clear HO_3; clear HO_4; clear HK; clear HB; clear HI0; have HO_3 := n0_; have HO_4 := n1_; have HK := n2_; have HB := n3_; have HI0 := n4_; clear n0_ n1_ n2_ n3_ n4_; (try clear hb); (try clear hb2); (try clear hk); (try clear hi)) | ((with_reducible refine gate_builtin (b := .append) (xs := #[.tmp 32, .tmp 37]) rfl ?_); at_builtin; refine Kd.R_append k43 w.heap.size rfl (.tmp 32) (.tmp 37) 48 43 (.agg #[(.string ⟨#[]⟩), (.int .i64 0), (.int .i64 0), (.int .i64 0), (.int .i64 0), (.int .i64 0)]) 56 rfl Try.underlying48 info43 rfl (by decide) (by omega) u4 x4_1 (⟨t292, t293, t294, t295, t296, t297⟩ : S43) [.string t292, .int .i64 t293, .int .i64 t294, .int .i64 t295, .int .i64 t296, .int .i64 t297] (fun _ => True) (fun _ => False) rfl rfl ?aP (fun _ hk => hk.elim) ?aF ?aO (Below.refl _ _) ?aS ?aL ?_; (case aP => exact k43_mkM _ _ _ (⟨t292, t293, t294, t295, t296, t297⟩ : S43)); (case aF => exact (fun _ _ => trivial)); (case aO => exact (by (with_reducible repeat (first | apply qra | apply qrn | apply qrd)); exact HO_4.out)); (case aS => exact (keep_size (w := w) (g := g) (row := none) (by repeat (first | (with_reducible first | exact HK.out | apply qks | apply qkn | apply qkd | apply qka) | exact HK.out)))); (case aL => have := LMc22.out; omega); intro v301 w27 ho hb hg hat; rw [← Ny300.out] at ho; have n0_ := Aside0.mk (Kd.R_over' (by (with_reducible repeat (first | apply qra | apply qrn | apply qrd)); exact HO_3.out) (Kd.R_typed (by (with_reducible repeat (first | apply qra | apply qrn | apply qrd)); exact HO_4.out)) (by decide) hg); have n1_ := Aside0.mk (IsS128.grown (by repeat (first | (with_reducible first | exact HI0.out | apply IsS128.alloc | apply IsS128.drewN | apply IsS128.drew | apply IsS128.set_1 | apply IsS128.set_2) | exact HI0.out)) hg (IsS128.own_ne HI0.out HO_4.out (by decide))); have n2_ := Aside0.mk (below_weaken (by repeat (first | (with_reducible first | exact HB.out | apply qba | apply qbn | apply qb1 | refine below_set ?_ (IsS128.ge HI0.out)) | exact HB.out)) HL.out hb); have n3_ := Aside0.mk (KeepBut.trans (by repeat (first | (with_reducible first | exact HK.out | apply qks | apply qkn | apply qkd | apply qka) | exact HK.out)) (KeepBut.of_grown hg g) (Kd.R_base2 HO_4.out)); have n4_ := Aside0.mk (ho); clear HO_3; clear HI0; clear HB; clear HK; clear HO_4; have HO_3 := n0_; have HI0 := n1_; have HB := n2_; have HK := n3_; have HO302 := n4_; clear n0_ n1_ n2_ n3_ n4_; clear ho hb hg hat))
         go_ret
         exact ⟨_, by first | rfl | (simp [errW_none, errW_some] <;> rfl) | (simp [*, errW_none, errW_some] <;> rfl), by (with_reducible repeat (first | apply qra | apply qrn | apply qrd)); exact HO302.out, by repeat (first | (with_reducible first | exact HI0.out | apply IsS128.alloc | apply IsS128.drewN | apply IsS128.drew | apply IsS128.set_1 | apply IsS128.set_2) | exact HI0.out), by repeat (first | (with_reducible first | exact HB.out | apply qba | apply qbn | apply qb1 | refine below_set ?_ (IsS128.ge HI0.out)) | exact HB.out), by repeat (first | (with_reducible first | exact HK.out | apply qks | apply qkn | apply qkd | apply qka) | exact HK.out)⟩
       · rw [if_neg c22] at H
         exact absurd H (by simp)
     · rw [if_neg c19] at H
       have c19b0 : (t281 == 0) = false := beq_eq_false_iff_ne.mpr c19
       have c19b1 : (t281 != 0) = true := bne_iff_ne.mpr c19
       by_cases c28 : t281 = 1
       · rw [if_pos c28] at H
         have c28b0 : (t281 == 1) = true := beq_iff_eq.mpr c28
         have c28b1 : (t281 != 1) = false := bne_eq_false_iff_eq.mpr c28
         clear c28
         obtain ⟨y303, hy303⟩ : ∃ y_ : List Int, y_ = (([12, 13] : List Int)) := ⟨_, rfl⟩
         replace H : ((spec_l00Src_among.f s0_0 t282 t283 y303).bind fun bt306 => (spec_l08DrawList.l1 k1 (([] : List (S43))) bt306.1 0 s0_0 bt306.2.1 bt306.2.2)) = some (r1, r2, r3) := by first | (rw [hy303]; with_reducible exact H) | (have H2_ := (Option.bind_some _ _).symm.trans H; rw [hy303]; with_reducible exact H2_) | (have H2_ := (Option.bind_some _ _).symm.trans H; with_reducible exact H2_) | with_reducible exact H | (rw [hy303]; exact H) | exact H
         have Ny303 := Aside0.mk hy303
         clear hy303
         replace H := Option.bind_eq_some_iff.mp H
         obtain ⟨⟨t306, t307, t308⟩, A290, H⟩ := H
         replace H : (spec_l08DrawList.l1 k1 (([] : List (S43))) t306 0 s0_0 t307 t308) = some (r1, r2, r3) := H
         have A29 := Aside0.mk A290
         clear A290
         obtain ⟨y309, hy309⟩ : ∃ y_ : List (S43), y_ = (([] : List (S43))) := ⟨_, rfl⟩
         replace H : (spec_l08DrawList.l1 k1 y309 t306 0 s0_0 t307 t308) = some (r1, r2, r3) := by first | (rw [hy309]; with_reducible exact H) | (have H2_ := (Option.bind_some _ _).symm.trans H; rw [hy309]; with_reducible exact H2_) | (have H2_ := (Option.bind_some _ _).symm.trans H; with_reducible exact H2_) | with_reducible exact H | (rw [hy309]; exact H) | exact H
         have Ny309 := Aside0.mk hy309
         clear hy309
         have H' := Aside0.mk H
         clear H
         obtain ⟨Ao30, co30, eo30⟩ := Kd.R_slice HO_3.out
         subst eo30
         go_wp2_with (first | ((with_reducible refine gate_callee (f := 122) rfl ?_); refine gL_ (some 29) rfl rfl Try.func122 #[.pointer (some ⟨g, 0, none⟩), .int .i64 20] rfl ?_; (with_reducible refine (spec_l00Src_pick.calls g s0_0 x1001_1 x1002_1 20 t281 t282 t283 w0 _ ?side1 ?side2 A18.out).mono ?_); (case side1 => repeat (first | (with_reducible first | exact HI0.out | apply IsS128.alloc | apply IsS128.drewN | apply IsS128.drew | apply IsS128.set_1 | apply IsS128.set_2) | exact HI0.out)); (case side2 => repeat (first | (with_reducible first | exact HB.out | apply qba | apply qbn | apply qb1 | refine below_set ?_ (IsS128.ge HI0.out)) | exact HB.out)); rintro e w31 ⟨rfl, hi, hb, hk⟩; refine ⟨_, rfl, ?_⟩; have n0_ := Aside0.mk (Kd.R_mono (Kd.R_keep (IsS128.apart (show IsS128 w0 _ g s0_0 x1001_1 x1002_1 from by repeat (first | (with_reducible first | exact HI0.out | apply IsS128.alloc | apply IsS128.drewN | apply IsS128.drew | apply IsS128.set_1 | apply IsS128.set_2) | exact HI0.out)) (by (with_reducible repeat (first | apply qra | apply qrn | apply qrd)); exact HO_3.out) (by decide)) hk (fun _ h => h.2)) (fun _ h => h.1)); have n1_ := Aside0.mk (Kd.R_mono (Kd.R_keep (IsS128.apart (show IsS128 w0 _ g s0_0 x1001_1 x1002_1 from by repeat (first | (with_reducible first | exact HI0.out | apply IsS128.alloc | apply IsS128.drewN | apply IsS128.drew | apply IsS128.set_1 | apply IsS128.set_2) | exact HI0.out)) (by (with_reducible repeat (first | apply qra | apply qrn | apply qrd)); exact HO_4.out) (by decide)) hk (fun _ h => h.2)) (fun _ h => h.1)); have n2_ := Aside0.mk (KeepBut.trans (by repeat (first | (with_reducible first | exact HK.out | apply qks | apply qkn | apply qkd | apply qka) | exact HK.out)) hk (.inl rfl)); have n3_ := Aside0.mk (hb); have n4_ := Aside0.mk (hi); clear HO_3; clear HO_4; clear HK; clear HB; clear HI0; have HO_3 := n0_; have HO_4 := n1_; have HK := n2_; have HB := n3_; have HI0 := n4_; clear n0_ n1_ n2_ n3_ n4_; (try clear hb); (try clear hb2); (try clear hk); (try clear hi)) | ((with_reducible refine gate_dst (N := 42) rfl ?_); refine Kd.R_lit (Kd.int .i64) _ 2 ?hg (N := 42) ?hd (xs := ([12, 13] : List Int)) (inner := [.int .i64 12, .int .i64 13]) (ok := fun _ => True) (okp := fun _ => True) ?hr ?hp (fun _ hk => hk) trivial (Below.refl _ _) (Nat.le_refl _) (by simp) ?_; (case hd => rfl); (case hg => rfl); (case hr => first | (go_simp; done) | (go_simp; rfl)); (case hp => exact (Reps.one (show Kd.M (Kd.int .i64) _ _ _ 12 [.int .i64 12] from rfl) (Reps.one (show Kd.M (Kd.int .i64) _ _ _ 13 [.int .i64 13] from rfl) (Reps.none _ _)))); intro v304 w32 ho33 hb hg_ hnew_; clear hg_ hnew_; (first | rw [← Ny303.out] at ho33 | (simp only [Int.reduceToNat] at ho33; rw [← Ny303.out] at ho33)); have n0_ := Aside0.mk (Kd.R_below (by (with_reducible repeat (first | apply qra | apply qrn | apply qrd)); exact HO_3.out) hb); have n1_ := Aside0.mk (Kd.R_below (by (with_reducible repeat (first | apply qra | apply qrn | apply qrd)); exact HO_4.out) hb); have n2_ := Aside0.mk (Kd.R_lower ho33 (keep_size (w := w) (g := g) (row := none) (by repeat (first | (with_reducible first | exact HK.out | apply qks | apply qkn | apply qkd | apply qka) | exact HK.out)))); have n3_ := Aside0.mk (IsS128.below (by repeat (first | (with_reducible first | exact HI0.out | apply IsS128.alloc | apply IsS128.drewN | apply IsS128.drew | apply IsS128.set_1 | apply IsS128.set_2) | exact HI0.out)) hb); have n4_ := Aside0.mk (KeepBut.trans (by repeat (first | (with_reducible first | exact HK.out | apply qks | apply qkn | apply qkd | apply qka) | exact HK.out)) (KeepBut.of_below hb g none) (.inl rfl)); have n5_ := Aside0.mk (below_step (by repeat (first | (with_reducible first | exact HB.out | apply qba | apply qbn | apply qb1 | refine below_set ?_ (IsS128.ge HI0.out)) | exact HB.out)) hb); clear HO_3; clear HO_4; clear HI0; clear HK; clear HB; have HO_3 := n0_; have HO_4 := n1_; have HO305 := n2_; have HI0 := n3_; have HK := n4_; have HB := n5_; clear n0_ n1_ n2_ n3_ n4_ n5_; clear hb ho33; obtain ⟨Ao34, co34, eo34⟩ := Kd.R_slice HO305.out; subst eo34) | ((with_reducible refine gate_callee (f := 124) rfl ?_); refine gL_ (some 43) rfl rfl Try.func124 #[.pointer (some ⟨g, 0, none⟩), .slice Ao34 y303.length co34] rfl ?_; (with_reducible refine (spec_l00Src_among.calls g s0_0 t282 t283 _ _ y303 t306 t307 t308 w0 _ ?side1 ?side2 ?side3 ?side4 ?side5 A29.out).mono ?_); (case side1 => repeat (first | (with_reducible first | exact HI0.out | apply IsS128.alloc | apply IsS128.drewN | apply IsS128.drew | apply IsS128.set_1 | apply IsS128.set_2) | exact HI0.out)); (case side2 => repeat (first | (with_reducible first | exact HB.out | apply qba | apply qbn | apply qb1 | refine below_set ?_ (IsS128.ge HI0.out)) | exact HB.out)); (case side3 => repeat (first | exact (Kd.R_reads' HO305.out).2.2 | (with_reducible refine Kd.C_alloc ?_ _) | (with_reducible refine Kd.C_drewN ?_ _) | (with_reducible refine Kd.C_drew ?_))); (case side4 => exact (Kd.R_reads' HO305.out).2.1); (case side5 => exact far_slice (IsS128.own_ne HI0.out HO305.out (by decide))); rintro e w35 ⟨rfl, hi, hb, hk⟩; refine ⟨_, rfl, ?_⟩; have n0_ := Aside0.mk (Kd.R_mono (Kd.R_keep (IsS128.apart (show IsS128 w0 _ g s0_0 t282 t283 from by repeat (first | (with_reducible first | exact HI0.out | apply IsS128.alloc | apply IsS128.drewN | apply IsS128.drew | apply IsS128.set_1 | apply IsS128.set_2) | exact HI0.out)) (by (with_reducible repeat (first | apply qra | apply qrn | apply qrd)); exact HO_3.out) (by decide)) hk (fun _ h => h.2)) (fun _ h => h.1)); have n1_ := Aside0.mk (Kd.R_mono (Kd.R_keep (IsS128.apart (show IsS128 w0 _ g s0_0 t282 t283 from by repeat (first | (with_reducible first | exact HI0.out | apply IsS128.alloc | apply IsS128.drewN | apply IsS128.drew | apply IsS128.set_1 | apply IsS128.set_2) | exact HI0.out)) (by (with_reducible repeat (first | apply qra | apply qrn | apply qrd)); exact HO_4.out) (by decide)) hk (fun _ h => h.2)) (fun _ h => h.1)); have n2_ := Aside0.mk (Kd.R_mono (Kd.R_keep (IsS128.apart (show IsS128 w0 _ g s0_0 t282 t283 from by repeat (first | (with_reducible first | exact HI0.out | apply IsS128.alloc | apply IsS128.drewN | apply IsS128.drew | apply IsS128.set_1 | apply IsS128.set_2) | exact HI0.out)) (by (with_reducible repeat (first | apply qra | apply qrn | apply qrd)); exact HO305.out) (by decide)) hk (fun _ h => h.2)) (fun _ h => h.1)); have n3_ := Aside0.mk (KeepBut.trans (by repeat (first | (with_reducible first | exact HK.out | apply qks | apply qkn | apply qkd | apply qka) | exact HK.out)) hk (.inl rfl)); have n4_ := Aside0.mk (hb); have n5_ := Aside0.mk (hi); clear HO_3; clear HO_4; clear HO305; clear HK; clear HB; clear HI0; have HO_3 := n0_; have HO_4 := n1_; have HO305 := n2_; have HK := n3_; have HB := n4_; have HI0 := n5_; clear n0_ n1_ n2_ n3_ n4_ n5_; (try clear hb); (try clear hb2); (try clear hk); (try clear hi)) | ((with_reducible refine gate_dst (N := 44) rfl ?_); refine Kd.R_lit k43 _ 43 ?hg (N := 44) ?hd (xs := ([] : List (S43))) (inner := []) (ok := fun _ => True) (okp := fun _ => True) ?hr ?hp (fun _ hk => hk) trivial (Below.refl _ _) (Nat.le_refl _) (by simp) ?_; (case hd => rfl); (case hg => rfl); (case hr => first | (go_simp; done) | (go_simp; rfl)); (case hp => exact (Reps.none _ _)); intro v310 w36 ho37 hb hg_ hnew_; clear hg_ hnew_; (first | rw [← Ny309.out] at ho37 | (simp only [Int.reduceToNat] at ho37; rw [← Ny309.out] at ho37)); have n0_ := Aside0.mk (Kd.R_below (by (with_reducible repeat (first | apply qra | apply qrn | apply qrd)); exact HO_3.out) hb); have n1_ := Aside0.mk (Kd.R_elder' (by (with_reducible repeat (first | apply qra | apply qrn | apply qrd)); exact HO_4.out) (Kd.R_base ho37) hb); have n2_ := Aside0.mk (Kd.R_below (by (with_reducible repeat (first | apply qra | apply qrn | apply qrd)); exact HO305.out) hb); have n3_ := Aside0.mk (Kd.R_lower (Kd.R_new' ho37 (Kd.R_lt (by (with_reducible repeat (first | apply qra | apply qrn | apply qrd)); exact HO_4.out))) (keep_size (w := w) (g := g) (row := none) (by repeat (first | (with_reducible first | exact HK.out | apply qks | apply qkn | apply qkd | apply qka) | exact HK.out)))); have n4_ := Aside0.mk (IsS128.below (by repeat (first | (with_reducible first | exact HI0.out | apply IsS128.alloc | apply IsS128.drewN | apply IsS128.drew | apply IsS128.set_1 | apply IsS128.set_2) | exact HI0.out)) hb); have n5_ := Aside0.mk (KeepBut.trans (by repeat (first | (with_reducible first | exact HK.out | apply qks | apply qkn | apply qkd | apply qka) | exact HK.out)) (KeepBut.of_below hb g none) (.inl rfl)); have n6_ := Aside0.mk (below_step (by repeat (first | (with_reducible first | exact HB.out | apply qba | apply qbn | apply qb1 | refine below_set ?_ (IsS128.ge HI0.out)) | exact HB.out)) hb); clear HO_3; clear HO_4; clear HO305; clear HI0; clear HK; clear HB; have HO_3 := n0_; have HO_4 := n1_; have HO305 := n2_; have HO311 := n3_; have HI0 := n4_; have HK := n5_; have HB := n6_; clear n0_ n1_ n2_ n3_ n4_ n5_ n6_; clear hb ho37))
         go_loopg [4, 7] k1 (fun kq v4 v7 w' => ∃ (x4_2 : List (S43)) (x7_2 : Int), v7 = .int .i64 x7_2 ∧ Aside0 (spec_l08DrawList.l1 kq x4_2 t306 x7_2 s0_0 t307 t308 = some (r1, r2, r3)) ∧ Aside0 (kq ≤ k1) ∧ Aside0 (Kd.R k43 43 w' w.heap.size (fun _ => True) v4 x4_2) ∧ Aside0 (IsS128 w0 w' g s0_0 t307 t308) ∧ Aside0 (KeepBut w w' g none) ∧ Aside0 (Below w0.heap.size w0 w'))
         case atStart => exact ⟨(y309), (0), (by first | rfl | (simp; done) | (simp [*]; done)), H', ⟨Nat.le_refl _⟩, ⟨by (with_reducible repeat (first | apply qra | apply qrn | apply qrd)); exact Kd.R_mono HO311.out (fun _ hk => trivial)⟩, ⟨by repeat (first | (with_reducible first | exact HI0.out | apply IsS128.alloc | apply IsS128.drewN | apply IsS128.drew | apply IsS128.set_1 | apply IsS128.set_2) | exact HI0.out)⟩, ⟨by repeat (first | (with_reducible first | exact HK.out | apply qks | apply qkn | apply qkd | apply qka) | exact HK.out)⟩, ⟨by repeat (first | (with_reducible first | exact HB.out | apply qba | apply qbn | apply qb1 | refine below_set ?_ (IsS128.ge HI0.out)) | exact HB.out)⟩⟩
         case round =>
          clear H'
          try clear c1
          try clear c2
          try clear p2
          try clear q2
          try clear hx2
          try clear c6
          try clear c6b0
          try clear p6
          try clear c8
          try clear c9
          try clear c11
          try clear c11b0
          try clear c12
          try clear c13
          try clear c19
          try clear c19b0
          try clear c19b1
          try clear c22
          try clear p26
          try clear q26
          try clear hx26
          try clear c28
          try clear c28b0
          try clear c28b1
          try clear hx269_0
          try clear p2
          try clear p269
          try clear q269
          obtain ⟨x4_2, x7_2, rfl, HA, HK2, HO_4, HI0, HK, HB⟩ := hrel
          cases gk with
          | zero => exact absurd HA.out (by simp [spec_l08DrawList.l1])
          | succ k2 =>
           have H := HA.out
           clear HA
           simp only [spec_l08DrawList.l1] at H
           by_cases c38 : x7_2 < t306
           · rw [if_pos c38] at H
             have c38b0 : decide (x7_2 < t306) = true := decide_eq_true c38
             clear c38
             obtain ⟨y312, hy312⟩ : ∃ y_ : List Int, y_ = (([(wrap64 (97 + x7_2)) % 256] : List Int)) := ⟨_, rfl⟩
             replace H : (if 1 + (strOfNums y312).size ≤ 9223372036854775807 then (if x4_2.length < 2513169434916 then (spec_l08DrawList.l1 k2 (x4_2 ++ [(⟨(⟨#[110]⟩ : ByteArray) ++ (strOfNums y312), 0, 60, (-1), 240, x7_2⟩ : S43)]) t306 (wrap64 (x7_2 + 1)) s0_0 t307 t308) else (none)) else (none)) = some (r1, r2, r3) := by first | (rw [hy312]; with_reducible exact H) | (have H2_ := (Option.bind_some _ _).symm.trans H; rw [hy312]; with_reducible exact H2_) | (have H2_ := (Option.bind_some _ _).symm.trans H; with_reducible exact H2_) | with_reducible exact H | (rw [hy312]; exact H) | exact H
             have Ny312 := Aside0.mk hy312
             clear hy312
             by_cases c39 : 1 + (strOfNums y312).size ≤ 9223372036854775807
             · rw [if_pos c39] at H
               have c39b0 := eq_true c39
               have c39b1 : decide (1 + (strOfNums y312).size ≤ 9223372036854775807) = true := decide_eq_true c39
               try have c39b2 : (9223372036854775807 < 1 + (strOfNums y312).size) = False := eq_false (Nat.not_lt.2 c39)
               by_cases c40 : x4_2.length < 2513169434916
               · rw [if_pos c40] at H
                 have LMc40 := Aside0.mk c40
                 clear c40
                 obtain ⟨y315, hy315⟩ : ∃ y_ : List (S43), y_ = (x4_2 ++ [(⟨(⟨#[110]⟩ : ByteArray) ++ (strOfNums y312), 0, 60, (-1), 240, x7_2⟩ : S43)]) := ⟨_, rfl⟩
                 replace H : (spec_l08DrawList.l1 k2 y315 t306 (wrap64 (x7_2 + 1)) s0_0 t307 t308) = some (r1, r2, r3) := by first | (rw [hy315]; with_reducible exact H) | (have H2_ := (Option.bind_some _ _).symm.trans H; rw [hy315]; with_reducible exact H2_) | (have H2_ := (Option.bind_some _ _).symm.trans H; with_reducible exact H2_) | with_reducible exact H | (rw [hy315]; exact H) | exact H
                 have Ny315 := Aside0.mk hy315
                 clear hy315
                 have H' := Aside0.mk H
                 clear H
                 go_wp2_with (first | ((with_reducible refine gate_dst (N := 54) rfl ?_); refine Kd.R_lit (Kd.int .u8) _ 5 ?hg (N := 54) ?hd (xs := ([(wrap64 (97 + x7_2)) % 256] : List Int)) (inner := [.int .u8 ((wrap64 (97 + x7_2)) % 256)]) (ok := fun _ => True) (okp := fun _ => True) ?hr ?hp (fun _ hk => hk) trivial (Below.refl _ _) (Nat.le_refl _) (by simp) ?_; (case hd => rfl); (case hg => rfl); (case hr => first | (go_simp; done) | (go_simp; rfl)); (case hp => exact (Reps.one (show Kd.M (Kd.int .u8) _ _ _ ((wrap64 (97 + x7_2)) % 256) [.int .u8 ((wrap64 (97 + x7_2)) % 256)] from rfl) (Reps.none _ _))); intro v313 w41 ho42 hb hg_ hnew_; clear hg_ hnew_; (first | rw [← Ny312.out] at ho42 | (simp only [Int.reduceToNat] at ho42; rw [← Ny312.out] at ho42)); have n0_ := Aside0.mk (Kd.R_below (by (with_reducible repeat (first | apply qra | apply qrn | apply qrd)); exact HO_4.out) hb); have n1_ := Aside0.mk (Kd.R_lower ho42 (keep_size (w := w) (g := g) (row := none) (by repeat (first | (with_reducible first | exact HK.out | apply qks | apply qkn | apply qkd | apply qka) | exact HK.out)))); have n2_ := Aside0.mk (IsS128.below (by repeat (first | (with_reducible first | exact HI0.out | apply IsS128.alloc | apply IsS128.drewN | apply IsS128.drew | apply IsS128.set_1 | apply IsS128.set_2) | exact HI0.out)) hb); have n3_ := Aside0.mk (KeepBut.trans (by repeat (first | (with_reducible first | exact HK.out | apply qks | apply qkn | apply qkd | apply qka) | exact HK.out)) (KeepBut.of_below hb g none) (.inl rfl)); have n4_ := Aside0.mk (below_step (by repeat (first | (with_reducible first | exact HB.out | apply qba | apply qbn | apply qb1 | refine below_set ?_ (IsS128.ge HI0.out)) | exact HB.out)) hb); clear HO_4; clear HI0; clear HK; clear HB; have HO_4 := n0_; have HO314 := n1_; have HI0 := n2_; have HK := n3_; have HB := n4_; clear n0_ n1_ n2_ n3_ n4_; clear hb ho42; have hcv43 := own_string (P := Try.prog) Try.underlying22 Try.underlying5 Try.underlying9 (Kd.own_of_R HO314.out)) | ((with_reducible refine gate_builtin (b := .append) (xs := #[.tmp 50, .tmp 59]) rfl ?_); at_builtin; refine Kd.R_append k43 w.heap.size rfl (.tmp 50) (.tmp 59) 48 43 (.agg #[(.string ⟨#[]⟩), (.int .i64 0), (.int .i64 0), (.int .i64 0), (.int .i64 0), (.int .i64 0)]) 56 rfl Try.underlying48 info43 rfl (by decide) (by omega) u4 x4_2 (⟨(⟨#[110]⟩ : ByteArray) ++ (strOfNums y312), 0, 60, (-1), 240, x7_2⟩ : S43) [.string ((⟨#[110]⟩ : ByteArray) ++ (strOfNums y312)), .int .i64 0, .int .i64 60, .int .i64 (-1), .int .i64 240, .int .i64 x7_2] (fun _ => True) (fun _ => False) rfl rfl ?aP (fun _ hk => hk.elim) ?aF ?aO (Below.refl _ _) ?aS ?aL ?_; (case aP => exact k43_mkM _ _ _ (⟨(⟨#[110]⟩ : ByteArray) ++ (strOfNums y312), 0, 60, (-1), 240, x7_2⟩ : S43)); (case aF => exact (fun _ _ => trivial)); (case aO => exact (by (with_reducible repeat (first | apply qra | apply qrn | apply qrd)); exact HO_4.out)); (case aS => exact (keep_size (w := w) (g := g) (row := none) (by repeat (first | (with_reducible first | exact HK.out | apply qks | apply qkn | apply qkd | apply qka) | exact HK.out)))); (case aL => have := LMc40.out; omega); intro v316 w44 ho hb hg hat; rw [← Ny315.out] at ho; have n0_ := Aside0.mk (IsS128.grown (by repeat (first | (with_reducible first | exact HI0.out | apply IsS128.alloc | apply IsS128.drewN | apply IsS128.drew | apply IsS128.set_1 | apply IsS128.set_2) | exact HI0.out)) hg (IsS128.own_ne HI0.out HO_4.out (by decide))); have n1_ := Aside0.mk (Kd.R_over' (by (with_reducible repeat (first | apply qra | apply qrn | apply qrd)); exact HO314.out) (Kd.R_typed (by (with_reducible repeat (first | apply qra | apply qrn | apply qrd)); exact HO_4.out)) (by decide) hg); have n2_ := Aside0.mk (below_weaken (by repeat (first | (with_reducible first | exact HB.out | apply qba | apply qbn | apply qb1 | refine below_set ?_ (IsS128.ge HI0.out)) | exact HB.out)) HL.out hb); have n3_ := Aside0.mk (KeepBut.trans (by repeat (first | (with_reducible first | exact HK.out | apply qks | apply qkn | apply qkd | apply qka) | exact HK.out)) (KeepBut.of_grown hg g) (Kd.R_base2 HO_4.out)); have n4_ := Aside0.mk (ho); clear HI0; clear HO314; clear HB; clear HK; clear HO_4; have HI0 := n0_; have HO314 := n1_; have HB := n2_; have HK := n3_; have HO317 := n4_; clear n0_ n1_ n2_ n3_ n4_; clear ho hb hg hat))
                 go_roundg k2
                 case measure => have := HK1.out; have := HK2.out; omega
                 case rel => exact ⟨(y315), (wrap64 (x7_2 + 1)), (by first | rfl | (simp; done) | (simp [*]; done)), H', ⟨by have := HK1.out; have := HK2.out; omega⟩, ⟨by (with_reducible repeat (first | apply qra | apply qrn | apply qrd)); exact HO317.out⟩, ⟨by repeat (first | (with_reducible first | exact HI0.out | apply IsS128.alloc | apply IsS128.drewN | apply IsS128.drew | apply IsS128.set_1 | apply IsS128.set_2) | exact HI0.out)⟩, ⟨by repeat (first | (with_reducible first | exact HK.out | apply qks | apply qkn | apply qkd | apply qka) | exact HK.out)⟩, ⟨by repeat (first | (with_reducible first | exact HB.out | apply qba | apply qbn | apply qb1 | refine below_set ?_ (IsS128.ge HI0.out)) | exact HB.out)⟩⟩
               · rw [if_neg c40] at H
                 exact absurd H (by simp)
             · rw [if_neg c39] at H
               exact absurd H (by simp)
           · rw [if_neg c38] at H
             have c38b0 : decide (x7_2 < t306) = false := decide_eq_false c38
             clear c38
             simp only [Option.some.injEq, Prod.mk.injEq] at H
             obtain ⟨rfl, rfl, rfl⟩ := H
             go_wp2
             go_ret
             exact ⟨_, by first | rfl | (simp [errW_none, errW_some] <;> rfl) | (simp [*, errW_none, errW_some] <;> rfl), by (with_reducible repeat (first | apply qra | apply qrn | apply qrd)); exact HO_4.out, by repeat (first | (with_reducible first | exact HI0.out | apply IsS128.alloc | apply IsS128.drewN | apply IsS128.drew | apply IsS128.set_1 | apply IsS128.set_2) | exact HI0.out), by repeat (first | (with_reducible first | exact HB.out | apply qba | apply qbn | apply qb1 | refine below_set ?_ (IsS128.ge HI0.out)) | exact HB.out), by repeat (first | (with_reducible first | exact HK.out | apply qks | apply qkn | apply qkd | apply qka) | exact HK.out)⟩
       · rw [if_neg c28] at H
         have c28b0 : (t281 == 1) = false := beq_eq_false_iff_ne.mpr c28
         have c28b1 : (t281 != 1) = true := bne_iff_ne.mpr c28
         simp only [Option.some.injEq, Prod.mk.injEq] at H
         obtain ⟨rfl, rfl, rfl⟩ := H
         obtain ⟨Ao45, co45, eo45⟩ := Kd.R_slice HO_3.out
         subst eo45
         go_wp2_with (first | ((with_reducible refine gate_callee (f := 122) rfl ?_); refine gL_ (some 29) rfl rfl Try.func122 #[.pointer (some ⟨g, 0, none⟩), .int .i64 20] rfl ?_; (with_reducible refine (spec_l00Src_pick.calls g s0_0 x1001_1 x1002_1 20 t281 t282 t283 w0 _ ?side1 ?side2 A18.out).mono ?_); (case side1 => repeat (first | (with_reducible first | exact HI0.out | apply IsS128.alloc | apply IsS128.drewN | apply IsS128.drew | apply IsS128.set_1 | apply IsS128.set_2) | exact HI0.out)); (case side2 => repeat (first | (with_reducible first | exact HB.out | apply qba | apply qbn | apply qb1 | refine below_set ?_ (IsS128.ge HI0.out)) | exact HB.out)); rintro e w46 ⟨rfl, hi, hb, hk⟩; refine ⟨_, rfl, ?_⟩; have n0_ := Aside0.mk (Kd.R_mono (Kd.R_keep (IsS128.apart (show IsS128 w0 _ g s0_0 x1001_1 x1002_1 from by repeat (first | (with_reducible first | exact HI0.out | apply IsS128.alloc | apply IsS128.drewN | apply IsS128.drew | apply IsS128.set_1 | apply IsS128.set_2) | exact HI0.out)) (by (with_reducible repeat (first | apply qra | apply qrn | apply qrd)); exact HO_3.out) (by decide)) hk (fun _ h => h.2)) (fun _ h => h.1)); have n1_ := Aside0.mk (Kd.R_mono (Kd.R_keep (IsS128.apart (show IsS128 w0 _ g s0_0 x1001_1 x1002_1 from by repeat (first | (with_reducible first | exact HI0.out | apply IsS128.alloc | apply IsS128.drewN | apply IsS128.drew | apply IsS128.set_1 | apply IsS128.set_2) | exact HI0.out)) (by (with_reducible repeat (first | apply qra | apply qrn | apply qrd)); exact HO_4.out) (by decide)) hk (fun _ h => h.2)) (fun _ h => h.1)); have n2_ := Aside0.mk (KeepBut.trans (by repeat (first | (with_reducible first | exact HK.out | apply qks | apply qkn | apply qkd | apply qka) | exact HK.out)) hk (.inl rfl)); have n3_ := Aside0.mk (hb); have n4_ := Aside0.mk (hi); clear HO_3; clear HO_4; clear HK; clear HB; clear HI0; have HO_3 := n0_; have HO_4 := n1_; have HK := n2_; have HB := n3_; have HI0 := n4_; clear n0_ n1_ n2_ n3_ n4_; (try clear hb); (try clear hb2); (try clear hk); (try clear hi)))
         go_ret
         exact ⟨_, by first | rfl | (simp [errW_none, errW_some] <;> rfl) | (simp [*, errW_none, errW_some] <;> rfl), by (with_reducible repeat (first | apply qra | apply qrn | apply qrd)); exact HO_4.out, by repeat (first | (with_reducible first | exact HI0.out | apply IsS128.alloc | apply IsS128.drewN | apply IsS128.drew | apply IsS128.set_1 | apply IsS128.set_2) | exact HI0.out), by repeat (first | (with_reducible first | exact HB.out | apply qba | apply qbn | apply qb1 | refine below_set ?_ (IsS128.ge HI0.out)) | exact HB.out), by repeat (first | (with_reducible first | exact HK.out | apply qks | apply qkn | apply qkd | apply qka) | exact HK.out)⟩

/-! ### spec_DrawFittingAt: function 25 -/
def spec_DrawFittingAt.f (k : Nat) (l0 : List Int) : Option ((List (S43)) × Int × Int) := (spec_l00From.f l0).bind fun bt318 => ((spec_l08DrawList.f k bt318.1 bt318.2.1 bt318.2.2).bind fun bt322 => ((spec_l08DrawMinute.f bt318.1 bt322.2.1 bt322.2.2).bind fun bt327 => ((spec_l08DrawSeason.f bt318.1 bt327.2.1 bt327.2.2).bind fun bt330 => (some (bt322.1, bt327.1, bt330.1)))))
theorem spec_DrawFittingAt.mono : ∀ a0 k, LeO (spec_DrawFittingAt.f k a0) (spec_DrawFittingAt.f (k + 1) a0) := by
 intro a0 k
 unfold spec_DrawFittingAt.f
 repeat' first
  | (with_reducible exact spec_l08DrawList.mono _ _ _ _)
  | (with_reducible exact LeO.refl _)
  | (with_reducible exact LeO.none _)
  | (with_reducible refine LeO.ite ?_ ?_)
  | (with_reducible refine LeO.bind ?_ (fun _ => ?_))
  | exact spec_l08DrawList.mono _ _ _ _
  | exact LeO.none _
  | refine LeO.ite ?_ ?_
  | refine LeO.bind ?_ (fun _ => ?_)
set_option maxHeartbeats 8000000 in
set_option maxRecDepth 100000 in
theorem spec_DrawFittingAt.calls (k : Nat) (A0 : Option Addr) (c0 : Nat) (l0 : List Int) (r1 : List (S43)) (r2 : Int) (r3 : Int) (w : World) (hr0 : Kd.C (Kd.int .u8) w A0 l0.length l0) (hc0 : l0.length ≤ c0) (h : spec_DrawFittingAt.f k l0 = some (r1, r2, r3)) :
 Calls Try.prog 25 #[.slice A0 l0.length c0] w fun e w' => ∃ v0_ : Value, e = .returned (.tuple #[v0_, .int .i64 r2, .int .i64 r3]) ∧ Kd.R k43 43 w' w.heap.size (fun _ => True) v0_ r1 ∧ Below w.heap.size w w' := by
 have HR0 := Aside0.mk hr0
 have HC0 := Aside0.mk hc0
 clear hr0 hc0
 have HB := Aside0.mk (Below.refl w.heap.size w)
 have H : ((spec_l00From.f l0).bind fun bt318 => ((spec_l08DrawList.f k bt318.1 bt318.2.1 bt318.2.2).bind fun bt322 => ((spec_l08DrawMinute.f bt318.1 bt322.2.1 bt322.2.2).bind fun bt327 => ((spec_l08DrawSeason.f bt318.1 bt327.2.1 bt327.2.2).bind fun bt330 => (some (bt322.1, bt327.1, bt330.1)))))) = some (r1, r2, r3) := h
 clear h
 replace H := Option.bind_eq_some_iff.mp H
 obtain ⟨⟨t318, t319, t320⟩, A20, H⟩ := H
 replace H : ((spec_l08DrawList.f k t318 t319 t320).bind fun bt322 => ((spec_l08DrawMinute.f t318 bt322.2.1 bt322.2.2).bind fun bt327 => ((spec_l08DrawSeason.f t318 bt327.2.1 bt327.2.2).bind fun bt330 => (some (bt322.1, bt327.1, bt330.1))))) = some (r1, r2, r3) := H
 have A2 := Aside0.mk A20
 clear A20
 replace H := Option.bind_eq_some_iff.mp H
 obtain ⟨⟨t322, t325, t326⟩, A30, H⟩ := H
 replace H : ((spec_l08DrawMinute.f t318 t325 t326).bind fun bt327 => ((spec_l08DrawSeason.f t318 bt327.2.1 bt327.2.2).bind fun bt330 => (some (t322, bt327.1, bt330.1)))) = some (r1, r2, r3) := H
 have A3 := Aside0.mk A30
 clear A30
 replace H := Option.bind_eq_some_iff.mp H
 obtain ⟨⟨t327, t328, t329⟩, A40, H⟩ := H
 replace H : ((spec_l08DrawSeason.f t318 t328 t329).bind fun bt330 => (some (t322, t327, bt330.1))) = some (r1, r2, r3) := H
 have A4 := Aside0.mk A40
 clear A40
 replace H := Option.bind_eq_some_iff.mp H
 obtain ⟨⟨t330, t331, t332⟩, A50, H⟩ := H
 replace H : (some (t322, t327, t330)) = some (r1, r2, r3) := H
 have A5 := Aside0.mk A50
 clear A50
 simp only [Option.some.injEq, Prod.mk.injEq] at H
 obtain ⟨rfl, rfl, rfl⟩ := H
 go_enter Try.func25, Try.ntmps25
 go_wp2_with (first | ((with_reducible refine gate_callee (f := 74) rfl ?_); refine gL_ (some 9) rfl rfl Try.func74 #[.slice A0 l0.length c0] rfl ?_; (with_reducible refine (spec_l00From.calls _ _ l0 t318 t319 t320 w _ ?side1 ?side2 ?side3 A2.out).mono ?_); (case side1 => repeat (first | (with_reducible first | exact HB.out | apply qba | apply qbn | apply qb1) | exact HB.out)); (case side2 => exact HR0.out); (case side3 => exact HC0.out); rintro e w6 ⟨g321, rfl, hi, hb, hb2⟩; refine ⟨_, rfl, ?_⟩; have n0_ := Aside0.mk (hb); have n1_ := Aside0.mk (hi); clear HB; have HB := n0_; have HI321 := n1_; clear n0_ n1_; (try clear hb); (try clear hb2); (try clear hk); (try clear hi)) | ((with_reducible refine gate_callee (f := 93) rfl ?_); refine gL_ (some 11) rfl rfl Try.func93 #[.pointer (some ⟨g321, 0, none⟩)] rfl ?_; (with_reducible refine (spec_l08DrawList.calls k g321 t318 t319 t320 t322 t325 t326 w _ ?side1 ?side2 A3.out).mono ?_); (case side1 => repeat (first | (with_reducible first | exact HI321.out | apply IsS128.alloc | apply IsS128.drewN | apply IsS128.drew | apply IsS128.set_1 | apply IsS128.set_2) | exact HI321.out)); (case side2 => repeat (first | (with_reducible first | exact HB.out | apply qba | apply qbn | apply qb1 | refine below_set ?_ (IsS128.ge HI321.out)) | exact HB.out)); rintro e w7 ⟨v323, rfl, ho0, hi, hb, hk⟩; refine ⟨_, rfl, ?_⟩; have n0_ := Aside0.mk (Kd.R_lower ho0 (below_size (by repeat (first | (with_reducible first | exact HB.out | apply qba | apply qbn | apply qb1 | refine below_set ?_ (IsS128.ge HI321.out)) | exact HB.out)))); have n1_ := Aside0.mk (hb); have n2_ := Aside0.mk (hi); clear HB; clear HI321; have HO324 := n0_; have HB := n1_; have HI321 := n2_; clear n0_ n1_ n2_; (try clear hb); (try clear hb2); (try clear hk); (try clear hi); (try clear ho0)) | ((with_reducible refine gate_callee (f := 83) rfl ?_); refine gL_ (some 13) rfl rfl Try.func83 #[.pointer (some ⟨g321, 0, none⟩)] rfl ?_; (with_reducible refine (spec_l08DrawMinute.calls g321 t318 t325 t326 t327 t328 t329 w _ ?side1 ?side2 A4.out).mono ?_); (case side1 => repeat (first | (with_reducible first | exact HI321.out | apply IsS128.alloc | apply IsS128.drewN | apply IsS128.drew | apply IsS128.set_1 | apply IsS128.set_2) | exact HI321.out)); (case side2 => repeat (first | (with_reducible first | exact HB.out | apply qba | apply qbn | apply qb1 | refine below_set ?_ (IsS128.ge HI321.out)) | exact HB.out)); rintro e w8 ⟨rfl, hi, hb, hk⟩; refine ⟨_, rfl, ?_⟩; have n0_ := Aside0.mk (Kd.R_mono (Kd.R_keep (IsS128.apart (show IsS128 w _ g321 t318 t325 t326 from by repeat (first | (with_reducible first | exact HI321.out | apply IsS128.alloc | apply IsS128.drewN | apply IsS128.drew | apply IsS128.set_1 | apply IsS128.set_2) | exact HI321.out)) (by (with_reducible repeat (first | apply qra | apply qrn | apply qrd)); exact HO324.out) (by decide)) hk (fun _ h => h.2)) (fun _ h => h.1)); have n1_ := Aside0.mk (hb); have n2_ := Aside0.mk (hi); clear HO324; clear HB; clear HI321; have HO324 := n0_; have HB := n1_; have HI321 := n2_; clear n0_ n1_ n2_; (try clear hb); (try clear hb2); (try clear hk); (try clear hi)) | ((with_reducible refine gate_callee (f := 84) rfl ?_); refine gL_ (some 17) rfl rfl Try.func84 #[.pointer (some ⟨g321, 0, none⟩)] rfl ?_; (with_reducible refine (spec_l08DrawSeason.calls g321 t318 t328 t329 t330 t331 t332 w _ ?side1 ?side2 A5.out).mono ?_); (case side1 => repeat (first | (with_reducible first | exact HI321.out | apply IsS128.alloc | apply IsS128.drewN | apply IsS128.drew | apply IsS128.set_1 | apply IsS128.set_2) | exact HI321.out)); (case side2 => repeat (first | (with_reducible first | exact HB.out | apply qba | apply qbn | apply qb1 | refine below_set ?_ (IsS128.ge HI321.out)) | exact HB.out)); rintro e w9 ⟨rfl, hi, hb, hk⟩; refine ⟨_, rfl, ?_⟩; have n0_ := Aside0.mk (Kd.R_mono (Kd.R_keep (IsS128.apart (show IsS128 w _ g321 t318 t328 t329 from by repeat (first | (with_reducible first | exact HI321.out | apply IsS128.alloc | apply IsS128.drewN | apply IsS128.drew | apply IsS128.set_1 | apply IsS128.set_2) | exact HI321.out)) (by (with_reducible repeat (first | apply qra | apply qrn | apply qrd)); exact HO324.out) (by decide)) hk (fun _ h => h.2)) (fun _ h => h.1)); have n1_ := Aside0.mk (hb); have n2_ := Aside0.mk (hi); clear HO324; clear HB; clear HI321; have HO324 := n0_; have HB := n1_; have HI321 := n2_; clear n0_ n1_ n2_; (try clear hb); (try clear hb2); (try clear hk); (try clear hi)))
 go_ret3
 exact ⟨_, by first | rfl | (simp [errW_none, errW_some] <;> rfl) | (simp [*, errW_none, errW_some] <;> rfl), by (with_reducible repeat (first | apply qra | apply qrn | apply qrd)); exact HO324.out, by repeat (first | (with_reducible first | exact HB.out | apply qba | apply qbn | apply qb1 | refine below_set ?_ (IsS128.ge HI321.out)) | exact HB.out)⟩

end Go.Proofs.Ytomeeimjlagbbaa.PH
