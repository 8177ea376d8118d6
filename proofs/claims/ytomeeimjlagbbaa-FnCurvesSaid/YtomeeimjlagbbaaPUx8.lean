-- WRITTEN BY wip/gprint.py, a program of this session's over the kit's print, with contracts given by hand
import Derived.Test.YtomeeimjlagbbaaPUx0
import Derived.Test.YtomeeimjlagbbaaPUx5
import Derived.Test.YtomeeimjlagbbaaPUx6
import Derived.Test.YtomeeimjlagbbaaPUx7
namespace Go.Proofs.Ytomeeimjlagbbaa.PU
open Go.RowKit Go.Proofs.YtomeeimjlagbbaaW.PrintWords Go.Proofs.YtomeeimjlagbbaaW.PrintLast Go.Proofs.YtomeeimjlagbbaaW.PrintMore
attribute [local go_sem] max2_int min2_int max_two min_two max_three min_three max_four min_four   -- for this text's walks alone
set_option linter.unusedVariables false
set_option linter.unusedSimpArgs false

/-! ### impl_SmoothCurve: function 64 -/
mutual
def impl_SmoothCurve.l0 : Nat → List Int → Int → Int → Option (List Int × Int)
 | 0, _, _, _ => none
 | k + 1, x6, x19, x20 => if x20 < x19 then ((slices_Clone_int64_int64.f x6).bind fun t230 => (impl_SmoothCurve.l1 k x6 t230 1 x19 x20)) else (some (x6, 0))
def impl_SmoothCurve.l1 : Nat → List Int → List Int → Int → Int → Int → Option (List Int × Int)
 | 0, _, _, _, _, _ => none
 | k + 1, x6, x7, x8, x19, x20 => if x8 < (wrap64 ((x6.length : Int) - 1)) then (if 0 ≤ (wrap64 (x8 - 1)) then (if (wrap64 (x8 - 1)) < (x7.length : Int) then (if 0 ≤ x8 then (if x8 < (x7.length : Int) then (if 0 ≤ (wrap64 (x8 + 1)) then (if (wrap64 (x8 + 1)) < (x7.length : Int) then ((impl_divRound.f (wrap64 ((wrap64 ((rd x7 (wrap64 (x8 - 1))) + (wrap64 (2 * (rd x7 x8))))) + (rd x7 (wrap64 (x8 + 1))))) 4).bind fun t236 => (if x8 < (x6.length : Int) then (impl_SmoothCurve.l1 k (x6.set (x8 : Int).toNat t236) x7 (wrap64 (x8 + 1)) x19 x20) else (none))) else (none)) else (none)) else (none)) else (none)) else (none)) else (none)) else (impl_SmoothCurve.l0 k x6 x19 (wrap64 (x20 + 1)))
end
def impl_SmoothCurve.f (k : Nat) (l0 : List Int) (a1 : Int) : Option (List Int × Int) := (impl_curveOk.f l0).bind fun t225 => (if t225 = true then ((impl_within.f a1 0 100).bind fun t226 => (if t226 = true then ((slices_Clone_int64_int64.f l0).bind fun t227 => (impl_SmoothCurve.l0 k t227 a1 0)) else (some (([] : List Int), 2)))) else (some (([] : List Int), 1)))
theorem impl_SmoothCurve.mono_l : ∀ k, (∀ y0 y1 y2, LeO (impl_SmoothCurve.l0 k y0 y1 y2) (impl_SmoothCurve.l0 (k + 1) y0 y1 y2)) ∧ (∀ y0 y1 y2 y3 y4, LeO (impl_SmoothCurve.l1 k y0 y1 y2 y3 y4) (impl_SmoothCurve.l1 (k + 1) y0 y1 y2 y3 y4))
 | 0 => ⟨fun _ _ _ r h => by simp [impl_SmoothCurve.l0] at h, fun _ _ _ _ _ r h => by simp [impl_SmoothCurve.l1] at h⟩
 | k + 1 => by
  obtain ⟨ih0, ih1⟩ := impl_SmoothCurve.mono_l k
  refine ⟨?_, ?_⟩
  · intro y0 y1 y2
    unfold impl_SmoothCurve.l0
    repeat' first
    | (with_reducible exact ih0 _ _ _)
    | (with_reducible exact ih1 _ _ _ _ _)
    | (with_reducible exact LeO.refl _)
    | (with_reducible exact LeO.none _)
    | (with_reducible refine LeO.ite ?_ ?_)
    | (with_reducible refine LeO.bind ?_ (fun _ => ?_))
    | exact ih0 _ _ _
    | exact ih1 _ _ _ _ _
    | exact LeO.none _
    | refine LeO.ite ?_ ?_
    | refine LeO.bind ?_ (fun _ => ?_)
  · intro y0 y1 y2 y3 y4
    unfold impl_SmoothCurve.l1
    repeat' first
    | (with_reducible exact ih0 _ _ _)
    | (with_reducible exact ih1 _ _ _ _ _)
    | (with_reducible exact LeO.refl _)
    | (with_reducible exact LeO.none _)
    | (with_reducible refine LeO.ite ?_ ?_)
    | (with_reducible refine LeO.bind ?_ (fun _ => ?_))
    | exact ih0 _ _ _
    | exact ih1 _ _ _ _ _
    | exact LeO.none _
    | refine LeO.ite ?_ ?_
    | refine LeO.bind ?_ (fun _ => ?_)
theorem impl_SmoothCurve.mono : ∀ a0 a1 k, LeO (impl_SmoothCurve.f k a0 a1) (impl_SmoothCurve.f (k + 1) a0 a1) := by
 intro a0 a1 k
 obtain ⟨ih0, ih1⟩ := impl_SmoothCurve.mono_l k
 unfold impl_SmoothCurve.f
 repeat' first
  | (with_reducible exact ih0 _ _ _)
  | (with_reducible exact ih1 _ _ _ _ _)
  | (with_reducible exact LeO.refl _)
  | (with_reducible exact LeO.none _)
  | (with_reducible refine LeO.ite ?_ ?_)
  | (with_reducible refine LeO.bind ?_ (fun _ => ?_))
  | exact ih0 _ _ _
  | exact ih1 _ _ _ _ _
  | exact LeO.none _
  | refine LeO.ite ?_ ?_
  | refine LeO.bind ?_ (fun _ => ?_)
def impl_SmoothCurve.T12 : Bool × List (List Nat × List Nat) := (true, [([], []), ([], []), ([], []), ([], []), ([3], [3]), ([2, 4], [2, 4]), ([5], [5]), ([], []), ([], []), ([7, 8], [7, 8]), ([9], [9]), ([10], [10]), ([6, 11], [6, 11]), ([], []), ([], []), ([14], [14]), ([13, 15], [13, 15]), ([16], [16]), ([12, 17], [12, 17]), ([18], [18]), ([0, 1, 0, 1, 2, 3, 4, 5, 6, 7, 8, 9, 10, 11, 12, 13, 14, 15, 16, 17, 18, 19], [0, 1]), ([20, 19, 19, 0, 1, 2, 3, 4, 5, 6, 7, 8, 9, 10, 11, 12, 13, 14, 15, 16, 17, 18, 19], [19, 20])])
def impl_SmoothCurve.B12 : List Nat := [0, 0, 0, 0, 8, 28, 60, 0, 0, 384, 896, 1920, 4092, 0, 0, 16384, 57344, 122880, 262140, 524284, 1048575, 2097151]
theorem impl_SmoothCurve.tab12 : rtab .any (opsOf Try.f64 12) = impl_SmoothCurve.T12 := by kernel_rfl
theorem impl_SmoothCurve.bits12 : waitsOk impl_SmoothCurve.T12.2 impl_SmoothCurve.B12 = true := by kernel_rfl
set_option maxHeartbeats 8000000 in
set_option maxRecDepth 100000 in
theorem impl_SmoothCurve.calls (k : Nat) (A0 : Option Addr) (c0 : Nat) (l0 : List Int) (a1 : Int) (r1 : List Int) (r2 : Int) (w : World) (hr0 : Kd.C (Kd.int .i64) w A0 l0.length l0) (hc0 : l0.length ≤ c0) (h : impl_SmoothCurve.f k l0 a1 = some (r1, r2)) :
 Calls Try.prog 64 #[.slice A0 l0.length c0, .int .i64 a1] w fun e w' => ∃ v0_ : Value, e = .returned (.tuple #[v0_, .int .i64 r2]) ∧ Kd.R (Kd.int .i64) 2 w' w.heap.size (fun _ => True) v0_ r1 ∧ Below w.heap.size w w' := by
 have HR0 := Aside0.mk hr0
 have HC0 := Aside0.mk hc0
 clear hr0 hc0
 have HB := Aside0.mk (Below.refl w.heap.size w)
 have H : ((impl_curveOk.f l0).bind fun t225 => (if t225 = true then ((impl_within.f a1 0 100).bind fun t226 => (if t226 = true then ((slices_Clone_int64_int64.f l0).bind fun t227 => (impl_SmoothCurve.l0 k t227 a1 0)) else (some (([] : List Int), 2)))) else (some (([] : List Int), 1)))) = some (r1, r2) := h
 clear h
 replace H := Option.bind_eq_some_iff.mp H
 obtain ⟨t225, A30, H⟩ := H
 replace H : (if t225 = true then ((impl_within.f a1 0 100).bind fun t226 => (if t226 = true then ((slices_Clone_int64_int64.f l0).bind fun t227 => (impl_SmoothCurve.l0 k t227 a1 0)) else (some (([] : List Int), 2)))) else (some (([] : List Int), 1))) = some (r1, r2) := H
 have A3 := Aside0.mk A30
 clear A30
 by_cases c4 : t225 = true
 · subst c4
   have H1 : ((impl_within.f a1 0 100).bind fun t226 => (if t226 = true then ((slices_Clone_int64_int64.f l0).bind fun t227 => (impl_SmoothCurve.l0 k t227 a1 0)) else (some (([] : List Int), 2)))) = some (r1, r2) := by rw [if_pos rfl] at H; exact H
   clear H
   have H := H1
   clear H1
   replace H := Option.bind_eq_some_iff.mp H
   obtain ⟨t226, A50, H⟩ := H
   replace H : (if t226 = true then ((slices_Clone_int64_int64.f l0).bind fun t227 => (impl_SmoothCurve.l0 k t227 a1 0)) else (some (([] : List Int), 2))) = some (r1, r2) := H
   have A5 := Aside0.mk A50
   clear A50
   by_cases c6 : t226 = true
   · subst c6
     have H1 : ((slices_Clone_int64_int64.f l0).bind fun t227 => (impl_SmoothCurve.l0 k t227 a1 0)) = some (r1, r2) := by rw [if_pos rfl] at H; exact H
     clear H
     have H := H1
     clear H1
     replace H := Option.bind_eq_some_iff.mp H
     obtain ⟨t227, A70, H⟩ := H
     replace H : (impl_SmoothCurve.l0 k t227 a1 0) = some (r1, r2) := H
     have A7 := Aside0.mk A70
     clear A70
     have H' := Aside0.mk H
     clear H
     go_enter Try.func64, Try.ntmps64
     go_wp2_with (first | ((with_reducible refine gate_callee (f := 140) rfl ?_); refine gL_ (some 11) rfl rfl Try.func140 #[.slice A0 l0.length c0] rfl ?_; (with_reducible refine (impl_curveOk.calls _ _ l0 true _ ?side1 ?side2 A3.out).mono ?_); (case side1 => repeat (first | exact HR0.out | (with_reducible refine Kd.C_alloc ?_ _) | (with_reducible refine Kd.C_drewN ?_ _) | (with_reducible refine Kd.C_drew ?_))); (case side2 => exact HC0.out); rintro e w8 ⟨rfl, hb⟩; refine ⟨_, rfl, ?_⟩; have n0_ := Aside0.mk (below_step (by repeat (first | (with_reducible first | exact HB.out | apply qba | apply qbn | apply qb1) | exact HB.out)) hb); clear HB; have HB := n0_; clear n0_; (try clear hb); (try clear hb2); (try clear hk); (try clear hi)) | ((with_reducible refine gate_callee (f := 73) rfl ?_); refine gL_ (some 15) rfl rfl Try.func73 #[.int .i64 a1, .int .i64 0, .int .i64 100] rfl ?_; (with_reducible refine (impl_within.calls a1 0 100 true _ A5.out).mono ?_); rintro e w' ⟨rfl, ⟨nd, rfl⟩⟩; refine ⟨_, rfl, ?_⟩) | ((with_reducible refine gate_callee (f := 111) rfl ?_); refine gL_ (some 18) rfl rfl Try.func111 #[.slice A0 l0.length c0] rfl ?_; (with_reducible refine (slices_Clone_int64_int64.calls _ _ l0 t227 _ ?side1 ?side2 A7.out).mono ?_); (case side1 => repeat (first | exact (Kd.C_below HR0.out (by repeat (first | (with_reducible first | exact HB.out | apply qba | apply qbn | apply qb1) | exact HB.out))) | (with_reducible refine Kd.C_alloc ?_ _) | (with_reducible refine Kd.C_drewN ?_ _) | (with_reducible refine Kd.C_drew ?_))); (case side2 => exact HC0.out); rintro e w9 ⟨v228, rfl, ho0, hb⟩; refine ⟨_, rfl, ?_⟩; have n0_ := Aside0.mk (Kd.R_lower ho0 (below_size (by repeat (first | (with_reducible first | exact HB.out | apply qba | apply qbn | apply qb1) | exact HB.out)))); have n1_ := Aside0.mk (below_step (by repeat (first | (with_reducible first | exact HB.out | apply qba | apply qbn | apply qb1) | exact HB.out)) hb); clear HB; have HO229 := n0_; have HB := n1_; clear n0_ n1_; (try clear hb); (try clear hb2); (try clear hk); (try clear hi); (try clear ho0)))
     go_loopg [20] k (fun kq v20 w' => ∃ (x6_1 : List Int) (x20_1 : Int), v20 = .int .i64 x20_1 ∧ Aside0 (impl_SmoothCurve.l0 kq x6_1 a1 x20_1 = some (r1, r2)) ∧ Aside0 (kq ≤ k) ∧ Aside0 (Kd.R (Kd.int .i64) 2 w' w.heap.size (fun _ => True) v228 x6_1) ∧ Aside0 (Below w.heap.size w w'))
     case atStart => exact ⟨(t227), (0), (by first | rfl | (simp; done) | (simp [*]; done)), H', ⟨Nat.le_refl _⟩, ⟨by (with_reducible repeat (first | apply qra | apply qrn | apply qrd)); exact HO229.out⟩, ⟨by repeat (first | (with_reducible first | exact HB.out | apply qba | apply qbn | apply qb1) | exact HB.out)⟩⟩
     case round =>
      clear H'
      try clear c1
      try clear p2
      try clear c4
      try clear c6
      try clear c7
      obtain ⟨x6_1, x20_1, rfl, HA, HK1, HO_6, HB⟩ := hrel
      cases gk with
      | zero => exact absurd HA.out (by simp [impl_SmoothCurve.l0])
      | succ k1 =>
       have H := HA.out
       clear HA
       simp only [impl_SmoothCurve.l0] at H
       by_cases c10 : x20_1 < a1
       · rw [if_pos c10] at H
         have c10b0 : decide (x20_1 < a1) = true := decide_eq_true c10
         clear c10
         replace H := Option.bind_eq_some_iff.mp H
         obtain ⟨t230, A110, H⟩ := H
         replace H : (impl_SmoothCurve.l1 k1 x6_1 t230 1 a1 x20_1) = some (r1, r2) := H
         have A11 := Aside0.mk A110
         clear A110
         have H' := Aside0.mk H
         clear H
         obtain ⟨Ao12, co12, eo12⟩ := Kd.R_slice HO_6.out
         subst eo12
         go_wp2_with (first | ((with_reducible refine gate_callee (f := 111) rfl ?_); refine gL_ (some 23) rfl rfl Try.func111 #[.slice Ao12 x6_1.length co12] rfl ?_; (with_reducible refine (slices_Clone_int64_int64.calls _ _ x6_1 t230 _ ?side1 ?side2 A11.out).mono ?_); (case side1 => repeat (first | exact (Kd.R_reads' HO_6.out).2.2 | (with_reducible refine Kd.C_alloc ?_ _) | (with_reducible refine Kd.C_drewN ?_ _) | (with_reducible refine Kd.C_drew ?_))); (case side2 => exact (Kd.R_reads' HO_6.out).2.1); rintro e w13 ⟨v231, rfl, ho0, hb⟩; refine ⟨_, rfl, ?_⟩; have n0_ := Aside0.mk (Kd.R_elder' (by (with_reducible repeat (first | apply qra | apply qrn | apply qrd)); exact HO_6.out) (Kd.R_base ho0) hb); have n1_ := Aside0.mk (Kd.R_lower (Kd.R_new' ho0 (Kd.R_lt (by (with_reducible repeat (first | apply qra | apply qrn | apply qrd)); exact HO_6.out))) (below_size (by repeat (first | (with_reducible first | exact HB.out | apply qba | apply qbn | apply qb1) | exact HB.out)))); have n2_ := Aside0.mk (below_step (by repeat (first | (with_reducible first | exact HB.out | apply qba | apply qbn | apply qb1) | exact HB.out)) hb); clear HO_6; clear HB; have HO_6 := n0_; have HO232 := n1_; have HB := n2_; clear n0_ n1_ n2_; (try clear hb); (try clear hb2); (try clear hk); (try clear hi); (try clear ho0)))
         go_loopg [8] k1 (fun kq v8 w' => ∃ (x6_2 : List Int) (x8_2 : Int), v8 = .int .i64 x8_2 ∧ Aside0 (impl_SmoothCurve.l1 kq x6_2 t230 x8_2 a1 x20_1 = some (r1, r2)) ∧ Aside0 (kq ≤ k1) ∧ Aside0 (Kd.R (Kd.int .i64) 2 w' w.heap.size (fun k_ => some k_ ≠ (v231 : Value).ownBlock) (.slice Ao12 x6_1.length co12) x6_2) ∧ Aside0 (Kd.R (Kd.int .i64) 2 w' w.heap.size (fun k_ => some k_ ≠ ((.slice Ao12 x6_1.length co12) : Value).ownBlock) v231 t230) ∧ Aside0 (Below w.heap.size w w'))
         case atStart => exact ⟨(x6_1), (1), (by first | rfl | (simp; done) | (simp [*]; done)), H', ⟨Nat.le_refl _⟩, ⟨by (with_reducible repeat (first | apply qra | apply qrn | apply qrd)); exact Kd.R_mono HO_6.out (fun _ hk => hk.2)⟩, ⟨by (with_reducible repeat (first | apply qra | apply qrn | apply qrd)); exact Kd.R_mono HO232.out (fun _ hk => hk.2)⟩, ⟨by repeat (first | (with_reducible first | exact HB.out | apply qba | apply qbn | apply qb1) | exact HB.out)⟩⟩
         case round =>
          clear H'
          try clear c1
          try clear p2
          try clear c4
          try clear c6
          try clear c7
          try clear c10
          try clear c10b0
          try clear c11
          try clear p2
          obtain ⟨x6_2, x8_2, rfl, HA, HK2, HO_6, HO_7, HB⟩ := hrel
          have hl6_2 := (Kd.R_reads' HO_6.out).1
          rw [hl6_2] at HO_6
          (try simp only [hl6_2])
          (try simp only [hl6_2] at HO_7)
          cases gk with
          | zero => exact absurd HA.out (by simp [impl_SmoothCurve.l1])
          | succ k2 =>
           have H := HA.out
           clear HA
           simp only [impl_SmoothCurve.l1] at H
           by_cases c14 : x8_2 < (wrap64 ((x6_2.length : Int) - 1))
           · rw [if_pos c14] at H
             have c14b0 : decide (x8_2 < (wrap64 ((x6_2.length : Int) - 1))) = true := decide_eq_true c14
             clear c14
             obtain ⟨ji15, hji15⟩ : ∃ j_ : Int, (wrap64 (x8_2 - 1)) = j_ := ⟨_, rfl⟩
             replace H : (if 0 ≤ (ji15) then (if (ji15) < (t230.length : Int) then (if 0 ≤ x8_2 then (if x8_2 < (t230.length : Int) then (if 0 ≤ (wrap64 (x8_2 + 1)) then (if (wrap64 (x8_2 + 1)) < (t230.length : Int) then ((impl_divRound.f (wrap64 ((wrap64 ((rd t230 (ji15)) + (wrap64 (2 * (rd t230 x8_2))))) + (rd t230 (wrap64 (x8_2 + 1))))) 4).bind fun t236 => (if x8_2 < (x6_2.length : Int) then (impl_SmoothCurve.l1 k2 (x6_2.set (x8_2 : Int).toNat t236) t230 (wrap64 (x8_2 + 1)) a1 x20_1) else (none))) else (none)) else (none)) else (none)) else (none)) else (none)) else (none)) = some (r1, r2) := by first | (rw [hji15] at H; exact H) | (simp only [hji15] at H ⊢; exact H)
             have hji15w : (IntKind.i64.wrap (x8_2 - 1)) = ji15 := (i64_w _).trans hji15
             by_cases c16 : 0 ≤ (ji15)
             · rw [if_pos c16] at H
               have c16b0 : decide (0 ≤ (ji15)) = true := decide_eq_true c16
               clear c16
               by_cases c17 : (ji15) < (t230.length : Int)
               · rw [if_pos c17] at H
                 have c17b0 : decide ((ji15) < (t230.length : Int)) = true := decide_eq_true c17
                 clear c17
                 by_cases c18 : 0 ≤ x8_2
                 · rw [if_pos c18] at H
                   have c18b0 : decide (0 ≤ x8_2) = true := decide_eq_true c18
                   clear c18
                   by_cases c19 : x8_2 < (t230.length : Int)
                   · rw [if_pos c19] at H
                     have c19b0 : decide (x8_2 < (t230.length : Int)) = true := decide_eq_true c19
                     clear c19
                     obtain ⟨ji20, hji20⟩ : ∃ j_ : Int, (wrap64 (x8_2 + 1)) = j_ := ⟨_, rfl⟩
                     replace H : (if 0 ≤ (ji20) then (if (ji20) < (t230.length : Int) then ((impl_divRound.f (wrap64 ((wrap64 ((rd t230 (ji15)) + (wrap64 (2 * (rd t230 x8_2))))) + (rd t230 (ji20)))) 4).bind fun t236 => (if x8_2 < (x6_2.length : Int) then (impl_SmoothCurve.l1 k2 (x6_2.set (x8_2 : Int).toNat t236) t230 ji20 a1 x20_1) else (none))) else (none)) else (none)) = some (r1, r2) := by first | (rw [hji20] at H; exact H) | (simp only [hji20] at H ⊢; exact H)
                     have hji20w : (IntKind.i64.wrap (x8_2 + 1)) = ji20 := (i64_w _).trans hji20
                     by_cases c21 : 0 ≤ (ji20)
                     · rw [if_pos c21] at H
                       have c21b0 : decide (0 ≤ (ji20)) = true := decide_eq_true c21
                       clear c21
                       by_cases c22 : (ji20) < (t230.length : Int)
                       · rw [if_pos c22] at H
                         have c22b0 : decide ((ji20) < (t230.length : Int)) = true := decide_eq_true c22
                         clear c22
                         replace H := Option.bind_eq_some_iff.mp H
                         obtain ⟨t236, A230, H⟩ := H
                         replace H : (if x8_2 < (x6_2.length : Int) then (impl_SmoothCurve.l1 k2 (x6_2.set (x8_2 : Int).toNat t236) t230 ji20 a1 x20_1) else (none)) = some (r1, r2) := H
                         have A23 := Aside0.mk A230
                         clear A230
                         by_cases c24 : x8_2 < (x6_2.length : Int)
                         · rw [if_pos c24] at H
                           have c24b0 : decide (x8_2 < (x6_2.length : Int)) = true := decide_eq_true c24
                           clear c24
                           obtain ⟨y237, hy237⟩ : ∃ y_ : List Int, y_ = (x6_2.set (x8_2 : Int).toNat t236) := ⟨_, rfl⟩
                           replace H : (impl_SmoothCurve.l1 k2 y237 t230 ji20 a1 x20_1) = some (r1, r2) := by first | (rw [hy237]; with_reducible exact H) | (have H2_ := (Option.bind_some _ _).symm.trans H; rw [hy237]; with_reducible exact H2_) | (have H2_ := (Option.bind_some _ _).symm.trans H; with_reducible exact H2_) | with_reducible exact H | (rw [hy237]; exact H) | exact H
                           have Ny237 := Aside0.mk hy237
                           clear hy237
                           have H' := Aside0.mk H
                           clear H
                           try go_wp2
                           have n0_ := Aside0.mk (Kd.R_drew HO_6.out)
                           have n1_ := Aside0.mk (Kd.R_drew HO_7.out)
                           have n2_ := Aside0.mk (below_drew1 HB.out)
                           clear HO_6
                           clear HO_7
                           clear HB
                           have HO_6 := n0_
                           have HO_7 := n1_
                           have HB := n2_
                           clear n0_ n1_ n2_
                           obtain ⟨Ao27, co27, eo27⟩ := Kd.R_slice HO_7.out
                           (first | subst eo27 | (injection eo27 with f1_ f2_ f3_; have f4_ := f1_.symm; have f5_ := f3_.symm; clear f1_ f2_ f3_; subst f4_; subst f5_))
                           have p233 : 0 ≤ ((ji15) : Int) := of_decide_eq_true (by first | (with_reducible assumption) | assumption)
                           have q233 : (ji15) < (t230.length : Int) := of_decide_eq_true (by first | (with_reducible assumption) | assumption)
                           obtain ⟨ad233, e233, hx233_0⟩ := Kd.at_int (Kd.R_reads' HO_7.out).2.2 (ji15) p233 q233
                           cases e233
                           replace p233 := eq_true p233
                           replace q233 := eq_true q233
                           have p234 : 0 ≤ (x8_2 : Int) := of_decide_eq_true (by first | (with_reducible assumption) | assumption)
                           have q234 : x8_2 < (t230.length : Int) := of_decide_eq_true (by first | (with_reducible assumption) | assumption)
                           obtain ⟨ad234, e234, hx234_0⟩ := Kd.at_int (Kd.R_reads' HO_7.out).2.2 x8_2 p234 q234
                           obtain rfl : ad233 = ad234 := (by injection e234)
                           replace p234 := eq_true p234
                           replace q234 := eq_true q234
                           have p235 : 0 ≤ ((ji20) : Int) := of_decide_eq_true (by first | (with_reducible assumption) | assumption)
                           have q235 : (ji20) < (t230.length : Int) := of_decide_eq_true (by first | (with_reducible assumption) | assumption)
                           obtain ⟨ad235, e235, hx235_0⟩ := Kd.at_int (Kd.R_reads' HO_7.out).2.2 (ji20) p235 q235
                           obtain rfl : ad233 = ad235 := (by injection e235)
                           replace p235 := eq_true p235
                           replace q235 := eq_true q235
                           refine start_ (n := 22) (S := fun w' => w'.cell? (ad233.add ((ji15)).toNat) = some (.int .i64 (rd t230 (ji15))) ∧ w'.cell? (ad233.add (x8_2).toNat) = some (.int .i64 (rd t230 x8_2)) ∧ w'.cell? (ad233.add ((ji20)).toNat) = some (.int .i64 (rd t230 (ji20)))) (ds := [21]) (bq [0, 22]) (by kernel_rfl) rfl rfl ⟨hx233_0, hx234_0, hx235_0⟩ (fun hHeld => ?_); refine with_tabW impl_SmoothCurve.tab12 impl_SmoothCurve.bits12 (fun HT_ HW_ => ?_)
                           generalize wr.drew = w26 at HO_6 HO_7 HB hx233_0 hx234_0 hx235_0 hHeld ⊢
                           refine pV_ (i := 0) (N := some 31) (bq [1, 21]) rfl rfl HT_.out ?_
                           refine pV_ (i := 1) (N := some 32) (bq [2, 20]) rfl rfl HT_.out ?_
                           refine pV_ (i := 2) (N := some 33) (bq [3, 19]) rfl rfl HT_.out ?_
                           refine pV_ (i := 3) (N := some 34) (bq [4, 18]) rfl rfl HT_.out ?_
                           refine pV_ (i := 4) (N := some 35) (bq [5, 17]) rfl rfl HT_.out ?_
                           refine pV_ (i := 5) (N := some 36) (bq [6, 16]) rfl rfl HT_.out ?_
                           refine pV_ (i := 7) (N := some 38) (bq [6, 1, 1, 14]) rfl rfl HT_.out ?_
                           refine pV_ (i := 8) (N := some 39) (bq [6, 1, 2, 13]) rfl rfl HT_.out ?_
                           refine pV_ (i := 9) (N := some 40) (bq [6, 1, 3, 12]) rfl rfl HT_.out ?_
                           refine pV_ (i := 13) (N := some 44) (bq [6, 1, 3, 3, 1, 8]) rfl rfl HT_.out ?_
                           refine pV_ (i := 14) (N := some 45) (bq [6, 1, 3, 3, 2, 7]) rfl rfl HT_.out ?_
                           refine pV_ (i := 15) (N := some 46) (bq [6, 1, 3, 3, 3, 6]) rfl rfl HT_.out ?_
                           refine pV_ (i := 16) (N := some 47) (bq [6, 1, 3, 3, 4, 5]) rfl rfl HT_.out ?_
                           refine take_ (i := 6) (N := some 37) (v := ?_) (a' := ?_) (bq [10, 3, 4, 5]) rfl rfl (take_ofW HT_.out HW_.out (by kernel_rfl)) (fun _ _ _ h => h) (Or.inl ⟨by rfl, ?_⟩) hHeld ?_ ?_
                           rotate_left
                           · rintro w' ⟨s0, s1, s2⟩
                             go_simp
                             with_reducible rfl
                           rotate_left
                           · simp only [Act.put, sx0, sx1, sx2, i64_w, i32_w]
                             rfl
                           refine take_ (i := 10) (N := some 41) (v := ?_) (a' := ?_) (bq [11, 2, 4, 5]) rfl rfl (take_ofW HT_.out HW_.out (by kernel_rfl)) (fun _ _ _ h => h) (Or.inl ⟨by rfl, ?_⟩) hHeld ?_ ?_
                           rotate_left
                           · rintro w' ⟨s0, s1, s2⟩
                             go_simp
                             with_reducible rfl
                           rotate_left
                           · simp only [Act.put, sx0, sx1, sx2, i64_w, i32_w]
                             rfl
                           refine pV_ (i := 11) (N := some 42) (bq [12, 1, 4, 5]) rfl rfl HT_.out ?_
                           refine pV_ (i := 12) (N := some 43) (bq [17, 5]) rfl rfl HT_.out ?_
                           refine take_ (i := 17) (N := some 48) (v := ?_) (a' := ?_) (bq [18, 4]) rfl rfl (take_ofW HT_.out HW_.out (by kernel_rfl)) (fun _ _ _ h => h) (Or.inl ⟨by rfl, ?_⟩) hHeld ?_ ?_
                           rotate_left
                           · rintro w' ⟨s0, s1, s2⟩
                             go_simp
                             with_reducible rfl
                           rotate_left
                           · simp only [Act.put, sx0, sx1, sx2, i64_w, i32_w]
                             rfl
                           refine pV_ (i := 18) (N := some 49) (bq [19, 3]) rfl rfl HT_.out ?_
                           refine one_ (i := 19) (N := some 50) (bq [20, 2]) rfl rfl (one_of HT_.out (by kernel_rfl)) (by decide) (fun K hK => ?_)
                           refine goes_ Try.func121 (by kernel_rfl) rfl #[.int .i64 (wrap64 ((wrap64 ((rd t230 (ji15)) + (wrap64 (2 * (rd t230 x8_2))))) + (rd t230 (ji20)))), .int .i64 4] (by rfl) rfl rfl (by (try simp only [List.map_toArray, List.map_cons, List.map_nil]); first | done | (simp only [hji15, hji20]; rfl) | rfl | (simp only [List.length_drop, List.length_take]; rfl)) ?_
                           with_reducible refine (impl_divRound.calls (wrap64 ((wrap64 ((rd t230 (ji15)) + (wrap64 (2 * (rd t230 x8_2))))) + (rd t230 (ji20)))) 4 t236 _ A23.out).mono ?_
                           rintro e w28 ⟨rfl, hb⟩
                           have HS0_ := (hb.cell (World.block_lt_of_cell? _ _ (hHeld.1))).trans (hHeld.1)
                           have HS1_ := (hb.cell (World.block_lt_of_cell? _ _ (hHeld.2.1))).trans (hHeld.2.1)
                           have HS2_ := (hb.cell (World.block_lt_of_cell? _ _ (hHeld.2.2))).trans (hHeld.2.2)
                           refine ⟨_, rfl, ?_⟩
                           have n0_ := Aside0.mk (Kd.R_below (by (with_reducible repeat (first | apply qra | apply qrn | apply qrd)); exact HO_6.out) hb)
                           have n1_ := Aside0.mk (Kd.R_below (by (with_reducible repeat (first | apply qra | apply qrn | apply qrd)); exact HO_7.out) hb)
                           have n2_ := Aside0.mk (below_step (by repeat (first | (with_reducible first | exact HB.out | apply qba | apply qbn | apply qb1) | exact HB.out)) hb)
                           clear HO_6
                           clear HO_7
                           clear HB
                           have HO_6 := n0_
                           have HO_7 := n1_
                           have HB := n2_
                           clear n0_ n1_ n2_
                           (try clear hb)
                           (try clear hb2)
                           (try clear hk)
                           (try clear hi)
                           have p25 : 0 ≤ (x8_2 : Int) := of_decide_eq_true (by first | (with_reducible assumption) | assumption)
                           have q25 : (x8_2 : Int) < ((x6_2.length : Int) : Int) := of_decide_eq_true (by first | (with_reducible assumption) | assumption)
                           obtain ⟨go25, co25, eo25, gb25, gl25, cl25, HG25⟩ := Kd.R_form HO_6.out (by omega)
                           (first | cases eo25 | (injection eo25 with ea_ en_ ec_; (first | subst ea_ | (injection ea_ with ea_; subst ea_)); subst ec_; clear en_))
                           have GB25 := Aside0.mk gb25
                           have GG25 := Aside0.mk HG25
                           clear gb25 gl25 HG25
                           obtain ⟨hx25_0, hf25_0⟩ := Kd.R_celln 0 HO_6.out (x8_2 : Int) p25 q25
                           replace p25 := eq_true p25
                           replace q25 := eq_true q25
                           have HP29 := Kd.R_putn HO_6.out (x8_2 : Int) t236
                           rw [← Ny237.out] at HP29
                           have HQ29 := Aside0.mk HP29
                           clear HP29
                           refine hK.out _ _ ⟨HS0_, HS1_, HS2_⟩ (fun hHeld => ?_)
                           clear hK K
                           refine norm_ (a' := ?_) ?_ ?_
                           rotate_left
                           · show Act.put _ (some 50) _ = _
                             simp only [Act.put, sx0, sx1, sx2, i64_w, i32_w]
                             rfl
                           refine pV_ (i := 20) (N := some 51) (bq [21, 1]) rfl rfl HT_.out ?_
                           refine last_ (i := 21) (N := none) (bq [22]) rfl rfl (one_of HT_.out (by kernel_rfl)) (by decide) (fun K hK => ?_)
                           refine skip_ (w1 := ?_) (by rfl) rfl ?_ ?_
                           rotate_left
                           · go_simp
                             rfl
                           refine hK.out _ _ ?_
                           clear hK K
                           refine done_ (done_of HT_.out (by kernel_rfl)) ?_
                           try go_wp2
                           (try simp only [← hl6_2])
                           go_roundg k2
                           case measure => have := HK1.out; have := HK2.out; omega
                           case rel => exact ⟨(y237), (ji20), (by first | rfl | (simp; done) | (simp only [← hji20] <;> (first | rfl | simp)) | (simp [*]; done)), H', ⟨by have := HK1.out; have := HK2.out; omega⟩, ⟨by (try simp only [hl6_2]); (with_reducible repeat (first | apply qra | apply qrn | apply qrd)); exact HQ29.out⟩, ⟨by (try simp only [hl6_2]); (with_reducible repeat (first | apply qra | apply qrn | apply qrd)); exact Kd.R_mono (Kd.R_far (p := ⟨go25, (x8_2 : Int).toNat, none⟩) (Kd.R_mono HO_7.out (fun k_ hk => (⟨hk, fun e_ => hk (by rw [e_]; rfl)⟩ : _ ∧ k_ ≠ go25))) (fun _ hk => hk.2) (.int .i64 t236)) (fun _ hk => hk.1)⟩, ⟨by repeat (first | (with_reducible first | exact HB.out | apply qba | apply qbn | apply qb1 | refine below_set ?_ GB25.out) | exact HB.out)⟩⟩
                         · rw [if_neg c24] at H
                           exact absurd H (by simp)
                       · rw [if_neg c22] at H
                         exact absurd H (by simp)
                     · rw [if_neg c21] at H
                       exact absurd H (by simp)
                   · rw [if_neg c19] at H
                     exact absurd H (by simp)
                 · rw [if_neg c18] at H
                   exact absurd H (by simp)
               · rw [if_neg c17] at H
                 exact absurd H (by simp)
             · rw [if_neg c16] at H
               exact absurd H (by simp)
           · rw [if_neg c14] at H
             have c14b0 : decide (x8_2 < (wrap64 ((x6_2.length : Int) - 1))) = false := decide_eq_false c14
             clear c14
             have H' := Aside0.mk H
             clear H
             go_wp2
             (try simp only [← hl6_2])
             go_roundg k2
             case measure => have := HK1.out; have := HK2.out; omega
             case rel => exact ⟨(x6_2), (wrap64 (x20_1 + 1)), (by first | rfl | (simp; done) | (simp [*]; done)), H', ⟨by have := HK1.out; have := HK2.out; omega⟩, ⟨by (try simp only [hl6_2]); (with_reducible repeat (first | apply qra | apply qrn | apply qrd)); exact Kd.R_mono HO_6.out (fun _ hk => trivial)⟩, ⟨by repeat (first | (with_reducible first | exact HB.out | apply qba | apply qbn | apply qb1) | exact HB.out)⟩⟩
       · rw [if_neg c10] at H
         have c10b0 : decide (x20_1 < a1) = false := decide_eq_false c10
         clear c10
         simp only [Option.some.injEq, Prod.mk.injEq] at H
         obtain ⟨rfl, rfl⟩ := H
         go_wp2
         go_ret2
         exact ⟨_, by first | rfl | (simp [errW_none, errW_some] <;> rfl) | (simp [*, errW_none, errW_some] <;> rfl), by (with_reducible repeat (first | apply qra | apply qrn | apply qrd)); exact HO_6.out, by repeat (first | (with_reducible first | exact HB.out | apply qba | apply qbn | apply qb1) | exact HB.out)⟩
   · replace c6 := Bool.eq_false_iff.mpr c6
     subst c6
     have H1 : (some (([] : List Int), 2)) = some (r1, r2) := by rw [if_neg (show ¬ (false = true) by decide)] at H; exact H
     clear H
     have H := H1
     clear H1
     simp only [Option.some.injEq, Prod.mk.injEq] at H
     obtain ⟨rfl, rfl⟩ := H
     go_enter Try.func64, Try.ntmps64
     go_wp2_with (first | ((with_reducible refine gate_callee (f := 140) rfl ?_); refine gL_ (some 11) rfl rfl Try.func140 #[.slice A0 l0.length c0] rfl ?_; (with_reducible refine (impl_curveOk.calls _ _ l0 true _ ?side1 ?side2 A3.out).mono ?_); (case side1 => repeat (first | exact HR0.out | (with_reducible refine Kd.C_alloc ?_ _) | (with_reducible refine Kd.C_drewN ?_ _) | (with_reducible refine Kd.C_drew ?_))); (case side2 => exact HC0.out); rintro e w30 ⟨rfl, hb⟩; refine ⟨_, rfl, ?_⟩; have n0_ := Aside0.mk (below_step (by repeat (first | (with_reducible first | exact HB.out | apply qba | apply qbn | apply qb1) | exact HB.out)) hb); clear HB; have HB := n0_; clear n0_; (try clear hb); (try clear hb2); (try clear hk); (try clear hi)) | ((with_reducible refine gate_callee (f := 73) rfl ?_); refine gL_ (some 15) rfl rfl Try.func73 #[.int .i64 a1, .int .i64 0, .int .i64 100] rfl ?_; (with_reducible refine (impl_within.calls a1 0 100 false _ A5.out).mono ?_); rintro e w' ⟨rfl, ⟨nd, rfl⟩⟩; refine ⟨_, rfl, ?_⟩))
     go_ret2
     exact ⟨_, by first | rfl | (simp [errW_none, errW_some] <;> rfl) | (simp [*, errW_none, errW_some] <;> rfl), by first | exact Kd.R_nil _ _ _ _ _ | exact Kd.N_nil _ _ _ _ _ | exact Kd.V_nil _ _ _ _ _ | exact Kd.Q_nil _ _ _ _ _ | exact Kd.S_nil _ _ _ _ _, by repeat (first | (with_reducible first | exact HB.out | apply qba | apply qbn | apply qb1) | exact HB.out)⟩
 · replace c4 := Bool.eq_false_iff.mpr c4
   subst c4
   have H1 : (some (([] : List Int), 1)) = some (r1, r2) := by rw [if_neg (show ¬ (false = true) by decide)] at H; exact H
   clear H
   have H := H1
   clear H1
   simp only [Option.some.injEq, Prod.mk.injEq] at H
   obtain ⟨rfl, rfl⟩ := H
   go_enter Try.func64, Try.ntmps64
   go_wp2_with (first | ((with_reducible refine gate_callee (f := 140) rfl ?_); refine gL_ (some 11) rfl rfl Try.func140 #[.slice A0 l0.length c0] rfl ?_; (with_reducible refine (impl_curveOk.calls _ _ l0 false _ ?side1 ?side2 A3.out).mono ?_); (case side1 => repeat (first | exact HR0.out | (with_reducible refine Kd.C_alloc ?_ _) | (with_reducible refine Kd.C_drewN ?_ _) | (with_reducible refine Kd.C_drew ?_))); (case side2 => exact HC0.out); rintro e w31 ⟨rfl, hb⟩; refine ⟨_, rfl, ?_⟩; have n0_ := Aside0.mk (below_step (by repeat (first | (with_reducible first | exact HB.out | apply qba | apply qbn | apply qb1) | exact HB.out)) hb); clear HB; have HB := n0_; clear n0_; (try clear hb); (try clear hb2); (try clear hk); (try clear hi)))
   go_ret2
   exact ⟨_, by first | rfl | (simp [errW_none, errW_some] <;> rfl) | (simp [*, errW_none, errW_some] <;> rfl), by first | exact Kd.R_nil _ _ _ _ _ | exact Kd.N_nil _ _ _ _ _ | exact Kd.V_nil _ _ _ _ _ | exact Kd.Q_nil _ _ _ _ _ | exact Kd.S_nil _ _ _ _ _, by repeat (first | (with_reducible first | exact HB.out | apply qba | apply qbn | apply qb1) | exact HB.out)⟩

end Go.Proofs.Ytomeeimjlagbbaa.PU
