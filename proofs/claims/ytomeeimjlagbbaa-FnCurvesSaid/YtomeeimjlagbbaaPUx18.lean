-- WRITTEN BY wip/gprint.py, a program of this session's over the kit's print, with contracts given by hand
import Derived.Test.YtomeeimjlagbbaaPUx0
import Derived.Test.YtomeeimjlagbbaaPUx1
import Derived.Test.YtomeeimjlagbbaaPUx5
import Derived.Test.YtomeeimjlagbbaaPUx8
import Derived.Test.YtomeeimjlagbbaaPUx9
import Derived.Test.YtomeeimjlagbbaaPUx10
import Derived.Test.YtomeeimjlagbbaaPUx14
import Derived.Test.YtomeeimjlagbbaaPUx15
import Derived.Test.YtomeeimjlagbbaaPUx16
import Derived.Test.YtomeeimjlagbbaaPUx17
namespace Go.Proofs.Ytomeeimjlagbbaa.PU
open Go.RowKit Go.Proofs.YtomeeimjlagbbaaW.PrintWords Go.Proofs.YtomeeimjlagbbaaW.PrintLast Go.Proofs.YtomeeimjlagbbaaW.PrintMore
attribute [local go_sem] max2_int min2_int max_two min_two max_three min_three max_four min_four   -- for this text's walks alone
set_option linter.unusedVariables false
set_option linter.unusedSimpArgs false

set_option maxHeartbeats 8000000 in
set_option maxRecDepth 100000 in
theorem laws_FnCurves.calls (k : Nat) (A0 : Option Addr) (c0 : Nat) (l0 : List Int) (A1 : Option Addr) (c1 : Nat) (l1 : List Int) (r : Bool) (w : World) (hr0 : Kd.C (Kd.int .u8) w A0 l0.length l0) (hc0 : l0.length ≤ c0) (hr1 : Kd.C (Kd.int .u8) w A1 l1.length l1) (hc1 : l1.length ≤ c1) (h : laws_FnCurves.f k l0 l1 = some r) :
 Calls Try.prog 9 #[.slice A0 l0.length c0, .slice A1 l1.length c1] w fun e w' => e = .returned (.bool r) ∧ Below w.heap.size w w' := by
 have HR0 := Aside0.mk hr0
 have HC0 := Aside0.mk hc0
 clear hr0 hc0
 have HR1 := Aside0.mk hr1
 have HC1 := Aside0.mk hc1
 clear hr1 hc1
 have HB := Aside0.mk (Below.refl w.heap.size w)
 have H : ((laws_b10Long.f l0).bind fun t476 => (if t476 = true then (laws_FnCurves.j0 k l0 l1 true) else ((laws_b10Long.f l1).bind fun t477 => (laws_FnCurves.j0 k l0 l1 t477)))) = some r := h
 clear h
 have HC3 := Aside0.mk H
 clear H
 go_enter Try.func9, Try.ntmps9
 go_upto_region 1 with (fail)
 repeat (go_quiet (fail); go_upto_region 1 with (fail))
 go_cut [44] (fun v44 wc => ∃ (kq : Nat) (x44_2 : Bool), v44 = .bool x44_2 ∧ Aside0 (laws_FnCurves.j0 kq l0 l1 x44_2 = some r) ∧ Aside0 (kq ≤ k) ∧ Aside0 (Below w.heap.size w wc))
 case first => as_aux_lemma =>
  have H := HC3.out
  clear HC3
  replace H := Option.bind_eq_some_iff.mp H
  obtain ⟨t476, A40, H⟩ := H
  replace H : (if t476 = true then (laws_FnCurves.j0 k l0 l1 true) else ((laws_b10Long.f l1).bind fun t477 => (laws_FnCurves.j0 k l0 l1 t477))) = some r := H
  have A4 := Aside0.mk A40
  clear A40
  by_cases c5 : t476 = true
  · subst c5
    have H1 : (laws_FnCurves.j0 k l0 l1 true) = some r := by rw [if_pos rfl] at H; exact H
    clear H
    have H := H1
    clear H1
    have H' := Aside0.mk H
    clear H
    go_wp2_with (first | (go_at_call 19; (with_reducible refine (laws_b10Long.calls _ _ l0 true _ ?side1 ?side2 A4.out).mono ?_); (case side1 => repeat (first | exact (Kd.C_below HR0.out HB.out) | (with_reducible refine Kd.C_alloc ?_ _) | (with_reducible refine Kd.C_drewN ?_ _) | (with_reducible refine Kd.C_drew ?_))); (case side2 => exact HC0.out); rintro e w' ⟨rfl, ⟨nd, rfl⟩⟩; (try first | exact ⟨rfl, _, qww _ _ _⟩ | exact ⟨rfl, _, Eq.trans (qww _ _ _) (congrArg (World.drewN _) (Nat.add_assoc _ _ _))⟩)))
    repeat (go_quiet (first | (go_at_call 19; (with_reducible refine (laws_b10Long.calls _ _ l0 true _ ?side1 ?side2 A4.out).mono ?_); (case side1 => repeat (first | exact (Kd.C_below HR0.out HB.out) | (with_reducible refine Kd.C_alloc ?_ _) | (with_reducible refine Kd.C_drewN ?_ _) | (with_reducible refine Kd.C_drew ?_))); (case side2 => exact HC0.out); rintro e w' ⟨rfl, ⟨nd, rfl⟩⟩; (try first | exact ⟨rfl, _, qww _ _ _⟩ | exact ⟨rfl, _, Eq.trans (qww _ _ _) (congrArg (World.drewN _) (Nat.add_assoc _ _ _))⟩))); try go_wp2_with (first | (go_at_call 19; (with_reducible refine (laws_b10Long.calls _ _ l0 true _ ?side1 ?side2 A4.out).mono ?_); (case side1 => repeat (first | exact (Kd.C_below HR0.out HB.out) | (with_reducible refine Kd.C_alloc ?_ _) | (with_reducible refine Kd.C_drewN ?_ _) | (with_reducible refine Kd.C_drew ?_))); (case side2 => exact HC0.out); rintro e w' ⟨rfl, ⟨nd, rfl⟩⟩; (try first | exact ⟨rfl, _, qww _ _ _⟩ | exact ⟨rfl, _, Eq.trans (qww _ _ _) (congrArg (World.drewN _) (Nat.add_assoc _ _ _))⟩))))
    go_meet
    case rel => exact ⟨_, (true), (by first | rfl | (simp; done) | (simp [*]; done)), H', ⟨by first | omega | exact Nat.le_refl _⟩, ⟨by repeat (first | (with_reducible first | exact HB.out | apply qba | apply qbn | apply qb1) | exact HB.out)⟩⟩
  · replace c5 := Bool.eq_false_iff.mpr c5
    subst c5
    have H1 : ((laws_b10Long.f l1).bind fun t477 => (laws_FnCurves.j0 k l0 l1 t477)) = some r := by rw [if_neg (show ¬ (false = true) by decide)] at H; exact H
    clear H
    have H := H1
    clear H1
    replace H := Option.bind_eq_some_iff.mp H
    obtain ⟨t477, A60, H⟩ := H
    replace H : (laws_FnCurves.j0 k l0 l1 t477) = some r := H
    have A6 := Aside0.mk A60
    clear A60
    have H' := Aside0.mk H
    clear H
    go_wp2_with (first | (go_at_call 19; (with_reducible refine (laws_b10Long.calls _ _ l0 false _ ?side1 ?side2 A4.out).mono ?_); (case side1 => repeat (first | exact (Kd.C_below HR0.out HB.out) | (with_reducible refine Kd.C_alloc ?_ _) | (with_reducible refine Kd.C_drewN ?_ _) | (with_reducible refine Kd.C_drew ?_))); (case side2 => exact HC0.out); rintro e w' ⟨rfl, ⟨nd, rfl⟩⟩; (try first | exact ⟨rfl, _, qww _ _ _⟩ | exact ⟨rfl, _, Eq.trans (qww _ _ _) (congrArg (World.drewN _) (Nat.add_assoc _ _ _))⟩)) | (go_at_call 19; (with_reducible refine (laws_b10Long.calls _ _ l1 t477 _ ?side1 ?side2 A6.out).mono ?_); (case side1 => repeat (first | exact (Kd.C_below HR1.out (by repeat (first | (with_reducible first | exact HB.out | apply qba | apply qbn | apply qb1) | exact HB.out))) | (with_reducible refine Kd.C_alloc ?_ _) | (with_reducible refine Kd.C_drewN ?_ _) | (with_reducible refine Kd.C_drew ?_))); (case side2 => exact HC1.out); rintro e w' ⟨rfl, ⟨nd, rfl⟩⟩; (try first | exact ⟨rfl, _, qww _ _ _⟩ | exact ⟨rfl, _, Eq.trans (qww _ _ _) (congrArg (World.drewN _) (Nat.add_assoc _ _ _))⟩)))
    repeat (go_quiet (first | (go_at_call 19; (with_reducible refine (laws_b10Long.calls _ _ l0 false _ ?side1 ?side2 A4.out).mono ?_); (case side1 => repeat (first | exact (Kd.C_below HR0.out HB.out) | (with_reducible refine Kd.C_alloc ?_ _) | (with_reducible refine Kd.C_drewN ?_ _) | (with_reducible refine Kd.C_drew ?_))); (case side2 => exact HC0.out); rintro e w' ⟨rfl, ⟨nd, rfl⟩⟩; (try first | exact ⟨rfl, _, qww _ _ _⟩ | exact ⟨rfl, _, Eq.trans (qww _ _ _) (congrArg (World.drewN _) (Nat.add_assoc _ _ _))⟩)) | (go_at_call 19; (with_reducible refine (laws_b10Long.calls _ _ l1 t477 _ ?side1 ?side2 A6.out).mono ?_); (case side1 => repeat (first | exact (Kd.C_below HR1.out (by repeat (first | (with_reducible first | exact HB.out | apply qba | apply qbn | apply qb1) | exact HB.out))) | (with_reducible refine Kd.C_alloc ?_ _) | (with_reducible refine Kd.C_drewN ?_ _) | (with_reducible refine Kd.C_drew ?_))); (case side2 => exact HC1.out); rintro e w' ⟨rfl, ⟨nd, rfl⟩⟩; (try first | exact ⟨rfl, _, qww _ _ _⟩ | exact ⟨rfl, _, Eq.trans (qww _ _ _) (congrArg (World.drewN _) (Nat.add_assoc _ _ _))⟩))); try go_wp2_with (first | (go_at_call 19; (with_reducible refine (laws_b10Long.calls _ _ l0 false _ ?side1 ?side2 A4.out).mono ?_); (case side1 => repeat (first | exact (Kd.C_below HR0.out HB.out) | (with_reducible refine Kd.C_alloc ?_ _) | (with_reducible refine Kd.C_drewN ?_ _) | (with_reducible refine Kd.C_drew ?_))); (case side2 => exact HC0.out); rintro e w' ⟨rfl, ⟨nd, rfl⟩⟩; (try first | exact ⟨rfl, _, qww _ _ _⟩ | exact ⟨rfl, _, Eq.trans (qww _ _ _) (congrArg (World.drewN _) (Nat.add_assoc _ _ _))⟩)) | (go_at_call 19; (with_reducible refine (laws_b10Long.calls _ _ l1 t477 _ ?side1 ?side2 A6.out).mono ?_); (case side1 => repeat (first | exact (Kd.C_below HR1.out (by repeat (first | (with_reducible first | exact HB.out | apply qba | apply qbn | apply qb1) | exact HB.out))) | (with_reducible refine Kd.C_alloc ?_ _) | (with_reducible refine Kd.C_drewN ?_ _) | (with_reducible refine Kd.C_drew ?_))); (case side2 => exact HC1.out); rintro e w' ⟨rfl, ⟨nd, rfl⟩⟩; (try first | exact ⟨rfl, _, qww _ _ _⟩ | exact ⟨rfl, _, Eq.trans (qww _ _ _) (congrArg (World.drewN _) (Nat.add_assoc _ _ _))⟩))))
    go_meet
    case rel => exact ⟨_, (t477), (by first | rfl | (simp; done) | (simp [*]; done)), H', ⟨by first | omega | exact Nat.le_refl _⟩, ⟨by repeat (first | (with_reducible first | exact HB.out | apply qba | apply qbn | apply qb1) | exact HB.out)⟩⟩
 case rest => as_aux_lemma =>
  clear HC3
  try clear c1
  try clear p2
  try clear c5
  obtain ⟨kq, x44_2, rfl, HA, HJ2, HB⟩ := hcut
  cases kq with
  | zero => exact absurd HA.out (by simp [laws_FnCurves.j0])
  | succ kj2 =>
   have H := HA.out
   clear HA
   simp only [laws_FnCurves.j0] at H
   by_cases c7 : x44_2 = true
   · subst c7
     have H1 : (some true) = some r := by rw [if_pos rfl] at H; exact H
     clear H
     have H := H1
     clear H1
     obtain rfl := Option.some.inj H
     go_wp2
     repeat (go_quiet (fail); try go_wp2)
     go_ret
     exact ⟨by first | rfl | (simp [errW_none, errW_some] <;> rfl) | (simp [*, errW_none, errW_some] <;> rfl), by repeat (first | (with_reducible first | exact HB.out | apply qba | apply qbn | apply qb1) | exact HB.out)⟩
   · as_aux_lemma =>
      replace c7 := Bool.eq_false_iff.mpr c7
      subst c7
      have H1 : ((spec_DrawSmoothCurve.f kj2 l0).bind fun bt478 => ((impl_SmoothCurve.f kj2 bt478.1 bt478.2).bind fun bt482 => (if bt482.2 = 0 then (laws_FnCurves.j1 kj2 l0 l1 bt478.1 bt482.1 (decide ((bt478.1.length : Int) > 0))) else (laws_FnCurves.j1 kj2 l0 l1 bt478.1 bt482.1 false)))) = some r := by rw [if_neg (show ¬ (false = true) by decide)] at H; exact H
      clear H
      have H := H1
      clear H1
      replace H := Option.bind_eq_some_iff.mp H
      obtain ⟨⟨t478, t479⟩, A80, H⟩ := H
      replace H : ((impl_SmoothCurve.f kj2 t478 t479).bind fun bt482 => (if bt482.2 = 0 then (laws_FnCurves.j1 kj2 l0 l1 t478 bt482.1 (decide ((t478.length : Int) > 0))) else (laws_FnCurves.j1 kj2 l0 l1 t478 bt482.1 false))) = some r := H
      have A8 := Aside0.mk A80
      clear A80
      replace H := Option.bind_eq_some_iff.mp H
      obtain ⟨⟨t482, t483⟩, A90, H⟩ := H
      replace H : (if t483 = 0 then (laws_FnCurves.j1 kj2 l0 l1 t478 t482 (decide ((t478.length : Int) > 0))) else (laws_FnCurves.j1 kj2 l0 l1 t478 t482 false)) = some r := H
      have A9 := Aside0.mk A90
      clear A90
      have HC10 := Aside0.mk H
      clear H
      go_upto_region 5 with (first | (go_at_call 63; (with_reducible refine (spec_DrawSmoothCurve.calls kj2 _ _ l0 t478 t479 _ ?side1 ?side2 A8.out).mono ?_); (case side1 => repeat (first | exact (Kd.C_below HR0.out HB.out) | (with_reducible refine Kd.C_alloc ?_ _) | (with_reducible refine Kd.C_drewN ?_ _) | (with_reducible refine Kd.C_drew ?_))); (case side2 => exact HC0.out); rintro e w11 ⟨v480, rfl, ho0, hb⟩; have n0_ := Aside0.mk (Kd.R_lower ho0 (below_size (by repeat (first | (with_reducible first | exact HB.out | apply qba | apply qbn | apply qb1) | exact HB.out)))); have n1_ := Aside0.mk (below_step (by repeat (first | (with_reducible first | exact HB.out | apply qba | apply qbn | apply qb1) | exact HB.out)) hb); clear HB; have HO481 := n0_; have HB := n1_; clear n0_ n1_; (try clear hb); (try clear hb2); (try clear hk); (try clear hi); (try clear ho0); obtain ⟨Ao12, co12, eo12⟩ := Kd.R_slice HO481.out; subst eo12) | (go_at_call 64; (with_reducible refine (impl_SmoothCurve.calls kj2 _ _ t478 t479 t482 t483 _ ?side1 ?side2 A9.out).mono ?_); (case side1 => repeat (first | exact (Kd.R_reads' HO481.out).2.2 | (with_reducible refine Kd.C_alloc ?_ _) | (with_reducible refine Kd.C_drewN ?_ _) | (with_reducible refine Kd.C_drew ?_))); (case side2 => exact (Kd.R_reads' HO481.out).2.1); rintro e w13 ⟨v484, rfl, ho0, hb⟩; have n0_ := Aside0.mk (Kd.R_elder' (by (with_reducible repeat (first | apply qra | apply qrn | apply qrd)); exact HO481.out) (Kd.R_base ho0) hb); have n1_ := Aside0.mk (Kd.R_lower (Kd.R_new' ho0 (Kd.R_lt (by (with_reducible repeat (first | apply qra | apply qrn | apply qrd)); exact HO481.out))) (below_size (by repeat (first | (with_reducible first | exact HB.out | apply qba | apply qbn | apply qb1) | exact HB.out)))); have n2_ := Aside0.mk (below_step (by repeat (first | (with_reducible first | exact HB.out | apply qba | apply qbn | apply qb1) | exact HB.out)) hb); clear HO481; clear HB; have HO481 := n0_; have HO485 := n1_; have HB := n2_; clear n0_ n1_ n2_; (try clear hb); (try clear hb2); (try clear hk); (try clear hi); (try clear ho0)))
      repeat (go_quiet (first | (go_at_call 63; (with_reducible refine (spec_DrawSmoothCurve.calls kj2 _ _ l0 t478 t479 _ ?side1 ?side2 A8.out).mono ?_); (case side1 => repeat (first | exact (Kd.C_below HR0.out HB.out) | (with_reducible refine Kd.C_alloc ?_ _) | (with_reducible refine Kd.C_drewN ?_ _) | (with_reducible refine Kd.C_drew ?_))); (case side2 => exact HC0.out); rintro e w11 ⟨v480, rfl, ho0, hb⟩; have n0_ := Aside0.mk (Kd.R_lower ho0 (below_size (by repeat (first | (with_reducible first | exact HB.out | apply qba | apply qbn | apply qb1) | exact HB.out)))); have n1_ := Aside0.mk (below_step (by repeat (first | (with_reducible first | exact HB.out | apply qba | apply qbn | apply qb1) | exact HB.out)) hb); clear HB; have HO481 := n0_; have HB := n1_; clear n0_ n1_; (try clear hb); (try clear hb2); (try clear hk); (try clear hi); (try clear ho0); obtain ⟨Ao12, co12, eo12⟩ := Kd.R_slice HO481.out; subst eo12) | (go_at_call 64; (with_reducible refine (impl_SmoothCurve.calls kj2 _ _ t478 t479 t482 t483 _ ?side1 ?side2 A9.out).mono ?_); (case side1 => repeat (first | exact (Kd.R_reads' HO481.out).2.2 | (with_reducible refine Kd.C_alloc ?_ _) | (with_reducible refine Kd.C_drewN ?_ _) | (with_reducible refine Kd.C_drew ?_))); (case side2 => exact (Kd.R_reads' HO481.out).2.1); rintro e w13 ⟨v484, rfl, ho0, hb⟩; have n0_ := Aside0.mk (Kd.R_elder' (by (with_reducible repeat (first | apply qra | apply qrn | apply qrd)); exact HO481.out) (Kd.R_base ho0) hb); have n1_ := Aside0.mk (Kd.R_lower (Kd.R_new' ho0 (Kd.R_lt (by (with_reducible repeat (first | apply qra | apply qrn | apply qrd)); exact HO481.out))) (below_size (by repeat (first | (with_reducible first | exact HB.out | apply qba | apply qbn | apply qb1) | exact HB.out)))); have n2_ := Aside0.mk (below_step (by repeat (first | (with_reducible first | exact HB.out | apply qba | apply qbn | apply qb1) | exact HB.out)) hb); clear HO481; clear HB; have HO481 := n0_; have HO485 := n1_; have HB := n2_; clear n0_ n1_ n2_; (try clear hb); (try clear hb2); (try clear hk); (try clear hi); (try clear ho0))); go_upto_region 5 with (first | (go_at_call 63; (with_reducible refine (spec_DrawSmoothCurve.calls kj2 _ _ l0 t478 t479 _ ?side1 ?side2 A8.out).mono ?_); (case side1 => repeat (first | exact (Kd.C_below HR0.out HB.out) | (with_reducible refine Kd.C_alloc ?_ _) | (with_reducible refine Kd.C_drewN ?_ _) | (with_reducible refine Kd.C_drew ?_))); (case side2 => exact HC0.out); rintro e w11 ⟨v480, rfl, ho0, hb⟩; have n0_ := Aside0.mk (Kd.R_lower ho0 (below_size (by repeat (first | (with_reducible first | exact HB.out | apply qba | apply qbn | apply qb1) | exact HB.out)))); have n1_ := Aside0.mk (below_step (by repeat (first | (with_reducible first | exact HB.out | apply qba | apply qbn | apply qb1) | exact HB.out)) hb); clear HB; have HO481 := n0_; have HB := n1_; clear n0_ n1_; (try clear hb); (try clear hb2); (try clear hk); (try clear hi); (try clear ho0); obtain ⟨Ao12, co12, eo12⟩ := Kd.R_slice HO481.out; subst eo12) | (go_at_call 64; (with_reducible refine (impl_SmoothCurve.calls kj2 _ _ t478 t479 t482 t483 _ ?side1 ?side2 A9.out).mono ?_); (case side1 => repeat (first | exact (Kd.R_reads' HO481.out).2.2 | (with_reducible refine Kd.C_alloc ?_ _) | (with_reducible refine Kd.C_drewN ?_ _) | (with_reducible refine Kd.C_drew ?_))); (case side2 => exact (Kd.R_reads' HO481.out).2.1); rintro e w13 ⟨v484, rfl, ho0, hb⟩; have n0_ := Aside0.mk (Kd.R_elder' (by (with_reducible repeat (first | apply qra | apply qrn | apply qrd)); exact HO481.out) (Kd.R_base ho0) hb); have n1_ := Aside0.mk (Kd.R_lower (Kd.R_new' ho0 (Kd.R_lt (by (with_reducible repeat (first | apply qra | apply qrn | apply qrd)); exact HO481.out))) (below_size (by repeat (first | (with_reducible first | exact HB.out | apply qba | apply qbn | apply qb1) | exact HB.out)))); have n2_ := Aside0.mk (below_step (by repeat (first | (with_reducible first | exact HB.out | apply qba | apply qbn | apply qb1) | exact HB.out)) hb); clear HO481; clear HB; have HO481 := n0_; have HO485 := n1_; have HB := n2_; clear n0_ n1_ n2_; (try clear hb); (try clear hb2); (try clear hk); (try clear hi); (try clear ho0))))
      (try simp only [Act.put, sx0, sx1, sx2])
      go_cut [62] (fun v62 wc => ∃ (kq : Nat) (x62_9 : Bool), v62 = .bool x62_9 ∧ Aside0 (laws_FnCurves.j1 kq l0 l1 t478 t482 x62_9 = some r) ∧ Aside0 (kq ≤ kj2) ∧ Aside0 (Kd.R (Kd.int .i64) 2 wc w.heap.size (fun k_ => some k_ ≠ (v484 : Value).ownBlock) (.slice Ao12 t478.length co12) t478) ∧ Aside0 (Kd.R (Kd.int .i64) 2 wc w.heap.size (fun k_ => some k_ ≠ ((.slice Ao12 t478.length co12) : Value).ownBlock) v484 t482) ∧ Aside0 (Below w.heap.size w wc))
      case first => as_aux_lemma =>
       have H := HC10.out
       clear HC10
       by_cases c14 : t483 = 0
       · rw [if_pos c14] at H
         have c14b0 : (t483 == 0) = true := beq_iff_eq.mpr c14
         have c14b1 : (t483 != 0) = false := bne_eq_false_iff_eq.mpr c14
         clear c14
         (first | rw [c14b0] | (simp only [i64_w, i32_w]; rw [c14b0]) | skip)
         have H' := Aside0.mk H
         clear H
         go_wp2
         repeat (go_quiet (fail); try go_wp2)
         go_meet
         case rel => exact ⟨_, (decide ((t478.length : Int) > 0)), (by first | rfl | (simp; done) | (simp [*]; done)), H', ⟨by have := HJ2.out; first | omega | exact Nat.le_refl _⟩, ⟨by (with_reducible repeat (first | apply qra | apply qrn | apply qrd)); exact Kd.R_mono HO481.out (fun _ hk => hk.2)⟩, ⟨by (with_reducible repeat (first | apply qra | apply qrn | apply qrd)); exact Kd.R_mono HO485.out (fun _ hk => hk.2)⟩, ⟨by repeat (first | (with_reducible first | exact HB.out | apply qba | apply qbn | apply qb1) | exact HB.out)⟩⟩
       · rw [if_neg c14] at H
         have c14b0 : (t483 == 0) = false := beq_eq_false_iff_ne.mpr c14
         have c14b1 : (t483 != 0) = true := bne_iff_ne.mpr c14
         (first | rw [c14b0] | (simp only [i64_w, i32_w]; rw [c14b0]) | skip)
         have H' := Aside0.mk H
         clear H
         go_wp2
         repeat (go_quiet (fail); try go_wp2)
         go_meet
         case rel => exact ⟨_, (false), (by first | rfl | (simp; done) | (simp [*]; done)), H', ⟨by have := HJ2.out; first | omega | exact Nat.le_refl _⟩, ⟨by (with_reducible repeat (first | apply qra | apply qrn | apply qrd)); exact Kd.R_mono HO481.out (fun _ hk => hk.2)⟩, ⟨by (with_reducible repeat (first | apply qra | apply qrn | apply qrd)); exact Kd.R_mono HO485.out (fun _ hk => hk.2)⟩, ⟨by repeat (first | (with_reducible first | exact HB.out | apply qba | apply qbn | apply qb1) | exact HB.out)⟩⟩
      case rest => as_aux_lemma =>
       clear HC10
       try clear c1
       try clear p2
       try clear c5
       try clear c7
       try clear c9
       try clear c14
       try clear c14b0
       try clear c14b1
       try clear p2
       obtain ⟨kq, x62_9, rfl, HA, HJ9, HO_5, HO_7, HB⟩ := hcut
       cases kq with
       | zero => exact absurd HA.out (by simp [laws_FnCurves.j1])
       | succ kj9 =>
        have H := HA.out
        clear HA
        simp only [laws_FnCurves.j1] at H
        have HC15 := Aside0.mk H
        clear H
        go_upto_if 62 with (fail)
        repeat (go_quiet (fail); go_upto_if 62 with (fail))
        go_cut [] (fun wc => ∃ (kq : Nat), Aside0 (laws_FnCurves.j5 kq l0 l1 = some r) ∧ Aside0 (kq ≤ kj9) ∧ Aside0 (Below w.heap.size w wc))
        case first => as_aux_lemma =>
         have H := HC15.out
         clear HC15
         by_cases c16 : x62_9 = true
         · as_aux_lemma =>
            subst c16
            have H1 : (if (t482.length : Int) = (t478.length : Int) then (if 0 < (t482.length : Int) then (if 0 < (t478.length : Int) then (if (rd t482 0) = (rd t478 0) then (if 0 ≤ (wrap64 ((t478.length : Int) - 1)) then (if (wrap64 ((t478.length : Int) - 1)) < (t482.length : Int) then (if (wrap64 ((t478.length : Int) - 1)) < (t478.length : Int) then (laws_FnCurves.j2 kj9 l0 l1 t478 t482 ((rd t482 (wrap64 ((t478.length : Int) - 1))) != (rd t478 (wrap64 ((t478.length : Int) - 1))))) else (none)) else (none)) else (none)) else (laws_FnCurves.j2 kj9 l0 l1 t478 t482 true)) else (none)) else (none)) else (laws_FnCurves.j2 kj9 l0 l1 t478 t482 true)) = some r := by rw [if_pos rfl] at H; exact H
            clear H
            have H := H1
            clear H1
            have HC17 := Aside0.mk H
            clear H
            go_upto_region 6 with (fail)
            repeat (go_quiet (fail); go_upto_region 6 with (fail))
            go_cut [91] (fun v91 wc => ∃ (kq : Nat) (x91_16 : Bool), v91 = .bool x91_16 ∧ Aside0 (laws_FnCurves.j2 kq l0 l1 t478 t482 x91_16 = some r) ∧ Aside0 (kq ≤ kj9) ∧ Aside0 (Kd.R (Kd.int .i64) 2 wc w.heap.size (fun k_ => some k_ ≠ (v484 : Value).ownBlock) (.slice Ao12 t478.length co12) t478) ∧ Aside0 (Kd.R (Kd.int .i64) 2 wc w.heap.size (fun k_ => some k_ ≠ ((.slice Ao12 t478.length co12) : Value).ownBlock) v484 t482) ∧ Aside0 (Below w.heap.size w wc))
            case first => as_aux_lemma =>
             have H := HC17.out
             clear HC17
             by_cases c18 : (t482.length : Int) = (t478.length : Int)
             · as_aux_lemma =>
                rw [if_pos c18] at H
                have c18b0 : ((t482.length : Int) == (t478.length : Int)) = true := beq_iff_eq.mpr c18
                have c18b1 : ((t482.length : Int) != (t478.length : Int)) = false := bne_eq_false_iff_eq.mpr c18
                have c18b2 : (t482.length == t478.length) = true := by first | simpa using c18 | (simp at c18 ⊢; omega)
                clear c18
                (first | rw [c18b0] | (simp only [i64_w, i32_w]; rw [c18b0]) | skip)
                by_cases c19 : 0 < (t482.length : Int)
                · as_aux_lemma =>
                   rw [if_pos c19] at H
                   have c19b0 : decide (0 < (t482.length : Int)) = true := decide_eq_true c19
                   have c19b1 : decide (0 < t482.length) = true := decide_eq_true (by omega)
                   clear c19
                   by_cases c20 : 0 < (t478.length : Int)
                   · as_aux_lemma =>
                      rw [if_pos c20] at H
                      have c20b0 : decide (0 < (t478.length : Int)) = true := decide_eq_true c20
                      have c20b1 : decide (0 < t478.length) = true := decide_eq_true (by omega)
                      clear c20
                      by_cases c21 : (rd t482 0) = (rd t478 0)
                      · as_aux_lemma =>
                         rw [if_pos c21] at H
                         have c21b0 : ((rd t482 0) == (rd t478 0)) = true := beq_iff_eq.mpr c21
                         have c21b1 : ((rd t482 0) != (rd t478 0)) = false := bne_eq_false_iff_eq.mpr c21
                         clear c21
                         obtain ⟨ji22, hji22⟩ : ∃ j_ : Int, (wrap64 ((t478.length : Int) - 1)) = j_ := ⟨_, rfl⟩
                         replace H : (if 0 ≤ (ji22) then (if (ji22) < (t482.length : Int) then (if (ji22) < (t478.length : Int) then (laws_FnCurves.j2 kj9 l0 l1 t478 t482 ((rd t482 (ji22)) != (rd t478 (ji22)))) else (none)) else (none)) else (none)) = some r := by first | (rw [hji22] at H; exact H) | (simp only [hji22] at H ⊢; exact H)
                         have hji22w : (IntKind.i64.wrap ((t478.length : Int) - 1)) = ji22 := (i64_w _).trans hji22
                         by_cases c23 : 0 ≤ (ji22)
                         · rw [if_pos c23] at H
                           have c23b0 : decide (0 ≤ (ji22)) = true := decide_eq_true c23
                           clear c23
                           by_cases c24 : (ji22) < (t482.length : Int)
                           · rw [if_pos c24] at H
                             have c24b0 : decide ((ji22) < (t482.length : Int)) = true := decide_eq_true c24
                             clear c24
                             by_cases c25 : (ji22) < (t478.length : Int)
                             · rw [if_pos c25] at H
                               have c25b0 : decide ((ji22) < (t478.length : Int)) = true := decide_eq_true c25
                               clear c25
                               have H' := Aside0.mk H
                               clear H
                               obtain ⟨Ao26, co26, eo26⟩ := Kd.R_slice HO_7.out
                               subst eo26
                               have p486 : 0 ≤ (0 : Int) := (by omega)
                               have q486 : 0 < (t482.length : Int) := of_decide_eq_true (by first | (with_reducible assumption) | assumption)
                               obtain ⟨ad486, e486, hx486_0⟩ := Kd.at_int (Kd.R_reads' HO_7.out).2.2 0 p486 q486
                               cases e486
                               have qi486 : (0 < t482.length) = True := eq_true (by omega)
                               (try rw [show ((0 : Int)).toNat = 0 from rfl] at hx486_0)
                               (try rw [Addr.add_zero'] at hx486_0)
                               replace p486 := eq_true p486
                               replace q486 := eq_true q486
                               have p487 : 0 ≤ (0 : Int) := (by omega)
                               have q487 : 0 < (t478.length : Int) := of_decide_eq_true (by first | (with_reducible assumption) | assumption)
                               obtain ⟨ad487, e487, hx487_0⟩ := Kd.at_int (Kd.R_reads' HO_5.out).2.2 0 p487 q487
                               cases e487
                               have qi487 : (0 < t478.length) = True := eq_true (by omega)
                               (try rw [show ((0 : Int)).toNat = 0 from rfl] at hx487_0)
                               (try rw [Addr.add_zero'] at hx487_0)
                               replace p487 := eq_true p487
                               replace q487 := eq_true q487
                               have p488 : 0 ≤ ((ji22) : Int) := of_decide_eq_true (by first | (with_reducible assumption) | assumption)
                               have q488 : (ji22) < (t482.length : Int) := of_decide_eq_true (by first | (with_reducible assumption) | assumption)
                               obtain ⟨ad488, e488, hx488_0⟩ := Kd.at_int (Kd.R_reads' HO_7.out).2.2 (ji22) p488 q488
                               obtain rfl : ad486 = ad488 := (by injection e488)
                               replace p488 := eq_true p488
                               replace q488 := eq_true q488
                               have p489 : 0 ≤ ((ji22) : Int) := of_decide_eq_true (by first | (with_reducible assumption) | assumption)
                               have q489 : (ji22) < (t478.length : Int) := of_decide_eq_true (by first | (with_reducible assumption) | assumption)
                               obtain ⟨ad489, e489, hx489_0⟩ := Kd.at_int (Kd.R_reads' HO_5.out).2.2 (ji22) p489 q489
                               obtain rfl : ad487 = ad489 := (by injection e489)
                               replace p489 := eq_true p489
                               replace q489 := eq_true q489
                               go_wp2
                               repeat (go_quiet (fail); try go_wp2)
                               go_meet
                               case rel => exact ⟨_, (((rd t482 (ji22)) != (rd t478 (ji22)))), (by first | rfl | (simp; done) | (simp only [← hji22] <;> (first | rfl | simp)) | (simp [*]; done)), H', ⟨by have := HJ2.out; have := HJ9.out; first | omega | exact Nat.le_refl _⟩, ⟨by (with_reducible repeat (first | apply qra | apply qrn | apply qrd)); exact HO_5.out⟩, ⟨by (with_reducible repeat (first | apply qra | apply qrn | apply qrd)); exact HO_7.out⟩, ⟨by repeat (first | (with_reducible first | exact HB.out | apply qba | apply qbn | apply qb1) | exact HB.out)⟩⟩
                             · rw [if_neg c25] at H
                               exact absurd H (by simp)
                           · rw [if_neg c24] at H
                             exact absurd H (by simp)
                         · rw [if_neg c23] at H
                           exact absurd H (by simp)
                      · rw [if_neg c21] at H
                        have c21b0 : ((rd t482 0) == (rd t478 0)) = false := beq_eq_false_iff_ne.mpr c21
                        have c21b1 : ((rd t482 0) != (rd t478 0)) = true := bne_iff_ne.mpr c21
                        have H' := Aside0.mk H
                        clear H
                        obtain ⟨Ao27, co27, eo27⟩ := Kd.R_slice HO_7.out
                        subst eo27
                        have p486 : 0 ≤ (0 : Int) := (by omega)
                        have q486 : 0 < (t482.length : Int) := of_decide_eq_true (by first | (with_reducible assumption) | assumption)
                        obtain ⟨ad486, e486, hx486_0⟩ := Kd.at_int (Kd.R_reads' HO_7.out).2.2 0 p486 q486
                        cases e486
                        have qi486 : (0 < t482.length) = True := eq_true (by omega)
                        (try rw [show ((0 : Int)).toNat = 0 from rfl] at hx486_0)
                        (try rw [Addr.add_zero'] at hx486_0)
                        replace p486 := eq_true p486
                        replace q486 := eq_true q486
                        have p487 : 0 ≤ (0 : Int) := (by omega)
                        have q487 : 0 < (t478.length : Int) := of_decide_eq_true (by first | (with_reducible assumption) | assumption)
                        obtain ⟨ad487, e487, hx487_0⟩ := Kd.at_int (Kd.R_reads' HO_5.out).2.2 0 p487 q487
                        cases e487
                        have qi487 : (0 < t478.length) = True := eq_true (by omega)
                        (try rw [show ((0 : Int)).toNat = 0 from rfl] at hx487_0)
                        (try rw [Addr.add_zero'] at hx487_0)
                        replace p487 := eq_true p487
                        replace q487 := eq_true q487
                        go_wp2
                        repeat (go_quiet (fail); try go_wp2)
                        go_meet
                        case rel => exact ⟨_, (true), (by first | rfl | (simp; done) | (simp [*]; done)), H', ⟨by have := HJ2.out; have := HJ9.out; first | omega | exact Nat.le_refl _⟩, ⟨by (with_reducible repeat (first | apply qra | apply qrn | apply qrd)); exact HO_5.out⟩, ⟨by (with_reducible repeat (first | apply qra | apply qrn | apply qrd)); exact HO_7.out⟩, ⟨by repeat (first | (with_reducible first | exact HB.out | apply qba | apply qbn | apply qb1) | exact HB.out)⟩⟩
                   · rw [if_neg c20] at H
                     exact absurd H (by simp)
                · rw [if_neg c19] at H
                  exact absurd H (by simp)
             · rw [if_neg c18] at H
               have c18b0 : ((t482.length : Int) == (t478.length : Int)) = false := beq_eq_false_iff_ne.mpr c18
               have c18b1 : ((t482.length : Int) != (t478.length : Int)) = true := bne_iff_ne.mpr c18
               have c18b2 : (t482.length == t478.length) = false := by first | simpa using c18 | (simp at c18 ⊢; omega)
               (first | rw [c18b0] | (simp only [i64_w, i32_w]; rw [c18b0]) | skip)
               have H' := Aside0.mk H
               clear H
               obtain ⟨Ao28, co28, eo28⟩ := Kd.R_slice HO_7.out
               subst eo28
               go_wp2
               repeat (go_quiet (fail); try go_wp2)
               go_meet
               case rel => exact ⟨_, (true), (by first | rfl | (simp; done) | (simp [*]; done)), H', ⟨by have := HJ2.out; have := HJ9.out; first | omega | exact Nat.le_refl _⟩, ⟨by (with_reducible repeat (first | apply qra | apply qrn | apply qrd)); exact HO_5.out⟩, ⟨by (with_reducible repeat (first | apply qra | apply qrn | apply qrd)); exact HO_7.out⟩, ⟨by repeat (first | (with_reducible first | exact HB.out | apply qba | apply qbn | apply qb1) | exact HB.out)⟩⟩
            case rest => as_aux_lemma =>
             clear HC17
             try clear c1
             try clear c2
             try clear p2
             try clear p4
             try clear q4
             try clear hx4
             try clear qi4
             try clear c5
             try clear p6
             try clear c7
             try clear c9
             try clear c14
             try clear c14b0
             try clear c14b1
             try clear c16
             try clear c18
             try clear c18b0
             try clear c18b1
             try clear c18b2
             try clear c19
             try clear c19b0
             try clear c19b1
             try clear c20
             try clear c20b0
             try clear c20b1
             try clear c21
             try clear c21b0
             try clear c21b1
             try clear c23
             try clear c23b0
             try clear c24
             try clear c24b0
             try clear c25
             try clear c25b0
             try clear hx486_0
             try clear hx487_0
             try clear hx488_0
             try clear hx489_0
             try clear p2
             try clear p486
             try clear p487
             try clear p488
             try clear p489
             try clear q486
             try clear q487
             try clear q488
             try clear q489
             obtain ⟨kq, x91_16, rfl, HA, HJ16, HO_5, HO_7, HB⟩ := hcut
             cases kq with
             | zero => exact absurd HA.out (by simp [laws_FnCurves.j2])
             | succ kj16 =>
              have H := HA.out
              clear HA
              simp only [laws_FnCurves.j2] at H
              by_cases c29 : x91_16 = true
              · subst c29
                have H1 : (some false) = some r := by rw [if_pos rfl] at H; exact H
                clear H
                have H := H1
                clear H1
                obtain rfl := Option.some.inj H
                go_wp2
                repeat (go_quiet (fail); try go_wp2)
                go_ret
                exact ⟨by first | rfl | (simp [errW_none, errW_some] <;> rfl) | (simp [*, errW_none, errW_some] <;> rfl), by repeat (first | (with_reducible first | exact HB.out | apply qba | apply qbn | apply qb1) | exact HB.out)⟩
              · as_aux_lemma =>
                 replace c29 := Bool.eq_false_iff.mpr c29
                 subst c29
                 have H1 : (if 0 < (t478.length : Int) then (laws_FnCurves.l0 kj16 l0 l1 t478 t482 (rd t478 0) (rd t478 0) 0) else (none)) = some r := by rw [if_neg (show ¬ (false = true) by decide)] at H; exact H
                 clear H
                 have H := H1
                 clear H1
                 by_cases c30 : 0 < (t478.length : Int)
                 · as_aux_lemma =>
                    rw [if_pos c30] at H
                    have c30b0 : decide (0 < (t478.length : Int)) = true := decide_eq_true c30
                    have c30b1 : decide (0 < t478.length) = true := decide_eq_true (by omega)
                    clear c30
                    have H' := Aside0.mk H
                    clear H
                    have p490 : 0 ≤ (0 : Int) := (by omega)
                    have q490 : 0 < (t478.length : Int) := of_decide_eq_true (by first | (with_reducible assumption) | assumption)
                    obtain ⟨ad490, e490, hx490_0⟩ := Kd.at_int (Kd.R_reads' HO_5.out).2.2 0 p490 q490
                    cases e490
                    have qi490 : (0 < t478.length) = True := eq_true (by omega)
                    (try rw [show ((0 : Int)).toNat = 0 from rfl] at hx490_0)
                    (try rw [Addr.add_zero'] at hx490_0)
                    replace p490 := eq_true p490
                    replace q490 := eq_true q490
                    have p491 : 0 ≤ (0 : Int) := (by omega)
                    have q491 : 0 < (t478.length : Int) := of_decide_eq_true (by first | (with_reducible assumption) | assumption)
                    obtain ⟨ad491, e491, hx491_0⟩ := Kd.at_int (Kd.R_reads' HO_5.out).2.2 0 p491 q491
                    obtain rfl : ad490 = ad491 := (by injection e491)
                    have qi491 : (0 < t478.length) = True := eq_true (by omega)
                    (try rw [show ((0 : Int)).toNat = 0 from rfl] at hx491_0)
                    (try rw [Addr.add_zero'] at hx491_0)
                    replace p491 := eq_true p491
                    replace q491 := eq_true q491
                    go_wp2
                    repeat (go_quiet (fail); try go_wp2)
                    go_loopg [9, 10, 11] kj16 (fun kq v9 v10 v11 w' => ∃ (x9_4 : Int) (x10_4 : Int) (x11_4 : Int), v9 = .int .i64 x9_4 ∧ v10 = .int .i64 x10_4 ∧ v11 = .int .i64 x11_4 ∧ Aside0 (laws_FnCurves.l0 kq l0 l1 t478 t482 x9_4 x10_4 x11_4 = some r) ∧ Aside0 (kq ≤ kj16) ∧ Aside0 (Kd.R (Kd.int .i64) 2 w' w.heap.size (fun k_ => some k_ ≠ (v484 : Value).ownBlock) (.slice (some ad490) t478.length co12) t478) ∧ Aside0 (Kd.R (Kd.int .i64) 2 w' w.heap.size (fun k_ => some k_ ≠ ((.slice (some ad490) t478.length co12) : Value).ownBlock) v484 t482) ∧ Aside0 (Below w.heap.size w w'))
                    case atStart => exact ⟨(rd t478 0), (rd t478 0), (0), (by first | rfl | (simp; done) | (simp [*]; done)), (by first | rfl | (simp; done) | (simp [*]; done)), (by first | rfl | (simp; done) | (simp [*]; done)), H', ⟨Nat.le_refl _⟩, ⟨by (with_reducible repeat (first | apply qra | apply qrn | apply qrd)); exact HO_5.out⟩, ⟨by (with_reducible repeat (first | apply qra | apply qrn | apply qrd)); exact HO_7.out⟩, ⟨by repeat (first | (with_reducible first | exact HB.out | apply qba | apply qbn | apply qb1) | exact HB.out)⟩⟩
                    case round =>
                     clear H'
                     try clear c1
                     try clear c2
                     try clear p2
                     try clear c3
                     try clear p4
                     try clear q4
                     try clear hx4
                     try clear qi4
                     try clear c5
                     try clear p6
                     try clear c7
                     try clear c9
                     try clear c14
                     try clear c14b0
                     try clear c14b1
                     try clear c16
                     try clear c18
                     try clear c18b0
                     try clear c18b1
                     try clear c18b2
                     try clear c19
                     try clear c19b0
                     try clear c19b1
                     try clear c20
                     try clear c20b0
                     try clear c20b1
                     try clear c21
                     try clear c21b0
                     try clear c21b1
                     try clear c23
                     try clear c23b0
                     try clear c24
                     try clear c24b0
                     try clear c25
                     try clear c25b0
                     try clear c29
                     try clear c30
                     try clear c30b0
                     try clear c30b1
                     try clear hx486_0
                     try clear hx487_0
                     try clear hx488_0
                     try clear hx489_0
                     try clear hx490_0
                     try clear hx491_0
                     try clear p2
                     try clear p4
                     try clear p486
                     try clear p487
                     try clear p488
                     try clear p489
                     try clear p490
                     try clear p491
                     try clear p6
                     try clear q4
                     try clear q486
                     try clear q487
                     try clear q488
                     try clear q489
                     try clear q490
                     try clear q491
                     obtain ⟨x9_4, x10_4, x11_4, rfl, rfl, rfl, HA, HK4, HO_5, HO_7, HB⟩ := hrel
                     cases gk with
                     | zero => exact absurd HA.out (by simp [laws_FnCurves.l0])
                     | succ k4 =>
                      have H := HA.out
                      clear HA
                      simp only [laws_FnCurves.l0] at H
                      by_cases c31 : x11_4 < (t478.length : Int)
                      · rw [if_pos c31] at H
                        have c31b0 : decide (x11_4 < (t478.length : Int)) = true := decide_eq_true c31
                        clear c31
                        by_cases c32 : 0 ≤ x11_4
                        · rw [if_pos c32] at H
                          have c32b0 : decide (0 ≤ x11_4) = true := decide_eq_true c32
                          clear c32
                          obtain ⟨ji33, hji33⟩ : ∃ j_ : Int, (mn x9_4 (rd t478 x11_4)) = j_ := ⟨_, rfl⟩
                          replace H : (laws_FnCurves.l0 k4 l0 l1 t478 t482 ji33 (mx x10_4 (rd t478 x11_4)) (wrap64 (x11_4 + 1))) = some r := by first | (rw [hji33] at H; exact H) | (simp only [hji33] at H ⊢; exact H)
                          have hji33_ : (if (rd t478 x11_4) < x9_4 then (rd t478 x11_4) else x9_4) = ji33 := hji33
                          obtain ⟨ji34, hji34⟩ : ∃ j_ : Int, (mx x10_4 (rd t478 x11_4)) = j_ := ⟨_, rfl⟩
                          replace H : (laws_FnCurves.l0 k4 l0 l1 t478 t482 ji33 ji34 (wrap64 (x11_4 + 1))) = some r := by first | (rw [hji34] at H; exact H) | (simp only [hji34] at H ⊢; exact H)
                          have hji34_ : (if x10_4 < (rd t478 x11_4) then (rd t478 x11_4) else x10_4) = ji34 := hji34
                          have H' := Aside0.mk H
                          clear H
                          have p492 : 0 ≤ (x11_4 : Int) := of_decide_eq_true (by first | (with_reducible assumption) | assumption)
                          have q492 : x11_4 < (t478.length : Int) := of_decide_eq_true (by first | (with_reducible assumption) | assumption)
                          obtain ⟨ad492, e492, hx492_0⟩ := Kd.at_int (Kd.R_reads' HO_5.out).2.2 x11_4 p492 q492
                          obtain rfl : ad490 = ad492 := (by injection e492)
                          replace p492 := eq_true p492
                          replace q492 := eq_true q492
                          have p493 : 0 ≤ (x11_4 : Int) := of_decide_eq_true (by first | (with_reducible assumption) | assumption)
                          have q493 : x11_4 < (t478.length : Int) := of_decide_eq_true (by first | (with_reducible assumption) | assumption)
                          obtain ⟨ad493, e493, hx493_0⟩ := Kd.at_int (Kd.R_reads' HO_5.out).2.2 x11_4 p493 q493
                          obtain rfl : ad490 = ad493 := (by injection e493)
                          replace p493 := eq_true p493
                          replace q493 := eq_true q493
                          go_wp2
                          repeat (go_quiet (fail); try go_wp2)
                          go_roundg k4
                          case measure => have := HJ2.out; have := HJ9.out; have := HJ16.out; have := HK4.out; omega
                          case rel => exact ⟨(ji33), (ji34), (wrap64 (x11_4 + 1)), (by first | rfl | (simp; done) | (simp only [← hji33] <;> (first | rfl | simp)) | (simp [*]; done)), (by first | rfl | (simp; done) | (simp only [← hji34] <;> (first | rfl | simp)) | (simp [*]; done)), (by first | rfl | (simp; done) | (simp [*]; done)), H', ⟨by have := HJ2.out; have := HJ9.out; have := HJ16.out; have := HK4.out; omega⟩, ⟨by (with_reducible repeat (first | apply qra | apply qrn | apply qrd)); exact HO_5.out⟩, ⟨by (with_reducible repeat (first | apply qra | apply qrn | apply qrd)); exact HO_7.out⟩, ⟨by repeat (first | (with_reducible first | exact HB.out | apply qba | apply qbn | apply qb1) | exact HB.out)⟩⟩
                        · rw [if_neg c32] at H
                          exact absurd H (by simp)
                      · as_aux_lemma =>
                         rw [if_neg c31] at H
                         have c31b0 : decide (x11_4 < (t478.length : Int)) = false := decide_eq_false c31
                         clear c31
                         have H' := Aside0.mk H
                         clear H
                         go_wp2
                         repeat (go_quiet (fail); try go_wp2)
                         go_loopg [12] k4 (fun kq v12 w' => ∃ (x12_5 : Int), v12 = .int .i64 x12_5 ∧ Aside0 (laws_FnCurves.l1 kq l0 l1 t482 x9_4 x10_4 x12_5 = some r) ∧ Aside0 (kq ≤ k4) ∧ Aside0 (Kd.R (Kd.int .i64) 2 w' w.heap.size (fun _ => True) v484 t482) ∧ Aside0 (Below w.heap.size w w'))
                         case atStart => exact ⟨(0), (by first | rfl | (simp; done) | (simp [*]; done)), H', ⟨Nat.le_refl _⟩, ⟨by (with_reducible repeat (first | apply qra | apply qrn | apply qrd)); exact Kd.R_mono HO_7.out (fun _ hk => trivial)⟩, ⟨by repeat (first | (with_reducible first | exact HB.out | apply qba | apply qbn | apply qb1) | exact HB.out)⟩⟩
                         case round =>
                          clear H'
                          try clear c1
                          try clear c2
                          try clear p2
                          try clear c3
                          try clear p4
                          try clear q4
                          try clear hx4
                          try clear qi4
                          try clear c5
                          try clear p6
                          try clear c7
                          try clear c9
                          try clear c14
                          try clear c14b0
                          try clear c14b1
                          try clear c16
                          try clear c18
                          try clear c18b0
                          try clear c18b1
                          try clear c18b2
                          try clear c19
                          try clear c19b0
                          try clear c19b1
                          try clear c20
                          try clear c20b0
                          try clear c20b1
                          try clear c21
                          try clear c21b0
                          try clear c21b1
                          try clear c23
                          try clear c23b0
                          try clear c24
                          try clear c24b0
                          try clear c25
                          try clear c25b0
                          try clear c29
                          try clear c30
                          try clear c30b0
                          try clear c30b1
                          try clear c31
                          try clear c31b0
                          try clear c32
                          try clear c32b0
                          try clear hx486_0
                          try clear hx487_0
                          try clear hx488_0
                          try clear hx489_0
                          try clear hx490_0
                          try clear hx491_0
                          try clear hx492_0
                          try clear hx493_0
                          try clear p2
                          try clear p4
                          try clear p486
                          try clear p487
                          try clear p488
                          try clear p489
                          try clear p490
                          try clear p491
                          try clear p492
                          try clear p493
                          try clear p6
                          try clear q4
                          try clear q486
                          try clear q487
                          try clear q488
                          try clear q489
                          try clear q490
                          try clear q491
                          try clear q492
                          try clear q493
                          obtain ⟨x12_5, rfl, HA, HK5, HO_7, HB⟩ := hrel
                          cases gk with
                          | zero => exact absurd HA.out (by simp [laws_FnCurves.l1])
                          | succ k5 =>
                           have H := HA.out
                           clear HA
                           simp only [laws_FnCurves.l1] at H
                           by_cases c35 : x12_5 < (t482.length : Int)
                           · as_aux_lemma =>
                              rw [if_pos c35] at H
                              have c35b0 : decide (x12_5 < (t482.length : Int)) = true := decide_eq_true c35
                              clear c35
                              by_cases c36 : 0 ≤ x12_5
                              · as_aux_lemma =>
                                 rw [if_pos c36] at H
                                 have c36b0 : decide (0 ≤ x12_5) = true := decide_eq_true c36
                                 clear c36
                                 by_cases c37 : (rd t482 x12_5) < x9_4
                                 · rw [if_pos c37] at H
                                   have c37b0 : decide ((rd t482 x12_5) < x9_4) = true := decide_eq_true c37
                                   clear c37
                                   obtain rfl := Option.some.inj H
                                   obtain ⟨Ao38, co38, eo38⟩ := Kd.R_slice HO_7.out
                                   subst eo38
                                   have p494 : 0 ≤ (x12_5 : Int) := of_decide_eq_true (by first | (with_reducible assumption) | assumption)
                                   have q494 : x12_5 < (t482.length : Int) := of_decide_eq_true (by first | (with_reducible assumption) | assumption)
                                   obtain ⟨ad494, e494, hx494_0⟩ := Kd.at_int (Kd.R_reads' HO_7.out).2.2 x12_5 p494 q494
                                   cases e494
                                   replace p494 := eq_true p494
                                   replace q494 := eq_true q494
                                   go_wp2
                                   repeat (go_quiet (fail); try go_wp2)
                                   go_ret
                                   exact ⟨by first | rfl | (simp [errW_none, errW_some] <;> rfl) | (simp [*, errW_none, errW_some] <;> rfl), by repeat (first | (with_reducible first | exact HB.out | apply qba | apply qbn | apply qb1) | exact HB.out)⟩
                                 · rw [if_neg c37] at H
                                   have c37b0 : decide ((rd t482 x12_5) < x9_4) = false := decide_eq_false c37
                                   clear c37
                                   by_cases c39 : (rd t482 x12_5) > x10_4
                                   · rw [if_pos c39] at H
                                     have c39b0 : decide (x10_4 < (rd t482 x12_5)) = true := decide_eq_true c39
                                     clear c39
                                     obtain rfl := Option.some.inj H
                                     obtain ⟨Ao40, co40, eo40⟩ := Kd.R_slice HO_7.out
                                     subst eo40
                                     have p494 : 0 ≤ (x12_5 : Int) := of_decide_eq_true (by first | (with_reducible assumption) | assumption)
                                     have q494 : x12_5 < (t482.length : Int) := of_decide_eq_true (by first | (with_reducible assumption) | assumption)
                                     obtain ⟨ad494, e494, hx494_0⟩ := Kd.at_int (Kd.R_reads' HO_7.out).2.2 x12_5 p494 q494
                                     cases e494
                                     replace p494 := eq_true p494
                                     replace q494 := eq_true q494
                                     have p495 : 0 ≤ (x12_5 : Int) := of_decide_eq_true (by first | (with_reducible assumption) | assumption)
                                     have q495 : x12_5 < (t482.length : Int) := of_decide_eq_true (by first | (with_reducible assumption) | assumption)
                                     obtain ⟨ad495, e495, hx495_0⟩ := Kd.at_int (Kd.R_reads' HO_7.out).2.2 x12_5 p495 q495
                                     obtain rfl : ad494 = ad495 := (by injection e495)
                                     replace p495 := eq_true p495
                                     replace q495 := eq_true q495
                                     go_wp2
                                     repeat (go_quiet (fail); try go_wp2)
                                     go_ret
                                     exact ⟨by first | rfl | (simp [errW_none, errW_some] <;> rfl) | (simp [*, errW_none, errW_some] <;> rfl), by repeat (first | (with_reducible first | exact HB.out | apply qba | apply qbn | apply qb1) | exact HB.out)⟩
                                   · rw [if_neg c39] at H
                                     have c39b0 : decide (x10_4 < (rd t482 x12_5)) = false := decide_eq_false c39
                                     clear c39
                                     have H' := Aside0.mk H
                                     clear H
                                     obtain ⟨Ao41, co41, eo41⟩ := Kd.R_slice HO_7.out
                                     subst eo41
                                     have p494 : 0 ≤ (x12_5 : Int) := of_decide_eq_true (by first | (with_reducible assumption) | assumption)
                                     have q494 : x12_5 < (t482.length : Int) := of_decide_eq_true (by first | (with_reducible assumption) | assumption)
                                     obtain ⟨ad494, e494, hx494_0⟩ := Kd.at_int (Kd.R_reads' HO_7.out).2.2 x12_5 p494 q494
                                     cases e494
                                     replace p494 := eq_true p494
                                     replace q494 := eq_true q494
                                     have p495 : 0 ≤ (x12_5 : Int) := of_decide_eq_true (by first | (with_reducible assumption) | assumption)
                                     have q495 : x12_5 < (t482.length : Int) := of_decide_eq_true (by first | (with_reducible assumption) | assumption)
                                     obtain ⟨ad495, e495, hx495_0⟩ := Kd.at_int (Kd.R_reads' HO_7.out).2.2 x12_5 p495 q495
                                     obtain rfl : ad494 = ad495 := (by injection e495)
                                     replace p495 := eq_true p495
                                     replace q495 := eq_true q495
                                     go_wp2
                                     repeat (go_quiet (fail); try go_wp2)
                                     go_roundg k5
                                     case measure => have := HJ2.out; have := HJ9.out; have := HJ16.out; have := HK4.out; have := HK5.out; omega
                                     case rel => exact ⟨(wrap64 (x12_5 + 1)), (by first | rfl | (simp; done) | (simp [*]; done)), H', ⟨by have := HJ2.out; have := HJ9.out; have := HJ16.out; have := HK4.out; have := HK5.out; omega⟩, ⟨by (with_reducible repeat (first | apply qra | apply qrn | apply qrd)); exact HO_7.out⟩, ⟨by repeat (first | (with_reducible first | exact HB.out | apply qba | apply qbn | apply qb1) | exact HB.out)⟩⟩
                              · rw [if_neg c36] at H
                                exact absurd H (by simp)
                           · rw [if_neg c35] at H
                             have c35b0 : decide (x12_5 < (t482.length : Int)) = false := decide_eq_false c35
                             clear c35
                             have H' := Aside0.mk H
                             clear H
                             obtain ⟨Ao42, co42, eo42⟩ := Kd.R_slice HO_7.out
                             subst eo42
                             go_wp2
                             repeat (go_quiet (fail); try go_wp2)
                             go_meet
                             case rel => exact ⟨_, H', ⟨by have := HJ2.out; have := HJ9.out; have := HJ16.out; have := HK4.out; have := HK5.out; first | omega | exact Nat.le_refl _⟩, ⟨by repeat (first | (with_reducible first | exact HB.out | apply qba | apply qbn | apply qb1) | exact HB.out)⟩⟩
                 · rw [if_neg c30] at H
                   exact absurd H (by simp)
         · replace c16 := Bool.eq_false_iff.mpr c16
           subst c16
           have H1 : (laws_FnCurves.j5 kj9 l0 l1) = some r := by rw [if_neg (show ¬ (false = true) by decide)] at H; exact H
           clear H
           have H := H1
           clear H1
           have H' := Aside0.mk H
           clear H
           go_wp2
           repeat (go_quiet (fail); try go_wp2)
           go_meet
           case rel => exact ⟨_, H', ⟨by have := HJ2.out; have := HJ9.out; first | omega | exact Nat.le_refl _⟩, ⟨by repeat (first | (with_reducible first | exact HB.out | apply qba | apply qbn | apply qb1) | exact HB.out)⟩⟩
        case rest => as_aux_lemma =>
         clear HC15
         try clear c1
         try clear c2
         try clear p2
         try clear c3
         try clear p4
         try clear q4
         try clear hx4
         try clear qi4
         try clear c5
         try clear p6
         try clear c7
         try clear c9
         try clear c14
         try clear c14b0
         try clear c14b1
         try clear c16
         try clear c18
         try clear c18b0
         try clear c18b1
         try clear c18b2
         try clear c19
         try clear c19b0
         try clear c19b1
         try clear c20
         try clear c20b0
         try clear c20b1
         try clear c21
         try clear c21b0
         try clear c21b1
         try clear c23
         try clear c23b0
         try clear c24
         try clear c24b0
         try clear c25
         try clear c25b0
         try clear c29
         try clear c30
         try clear c30b0
         try clear c30b1
         try clear c31
         try clear c31b0
         try clear c32
         try clear c32b0
         try clear c35
         try clear c35b0
         try clear c36
         try clear c36b0
         try clear c37
         try clear c37b0
         try clear c39
         try clear c39b0
         try clear hx486_0
         try clear hx487_0
         try clear hx488_0
         try clear hx489_0
         try clear hx490_0
         try clear hx491_0
         try clear hx492_0
         try clear hx493_0
         try clear hx494_0
         try clear hx495_0
         try clear p2
         try clear p4
         try clear p486
         try clear p487
         try clear p488
         try clear p489
         try clear p490
         try clear p491
         try clear p492
         try clear p493
         try clear p494
         try clear p495
         try clear p6
         try clear q4
         try clear q486
         try clear q487
         try clear q488
         try clear q489
         try clear q490
         try clear q491
         try clear q492
         try clear q493
         try clear q494
         try clear q495
         obtain ⟨kq, HA, HJ14, HB⟩ := hcut
         cases kq with
         | zero => exact absurd HA.out (by simp [laws_FnCurves.j5])
         | succ kj14 =>
          have H := HA.out
          clear HA
          simp only [laws_FnCurves.j5] at H
          replace H := Option.bind_eq_some_iff.mp H
          obtain ⟨⟨t496, t497, t498⟩, A430, H⟩ := H
          replace H : ((impl_GlideCurve.f kj14 t496 t497 t498).bind fun bt499 => (if bt499.2 = 0 then (if (bt499.1.length : Int) = t498 then (if (bt499.1.length : Int) = 0 then (laws_FnCurves.j6 kj14 l0 l1 t496 t497 bt499.1 true) else (if 0 < (bt499.1.length : Int) then (laws_FnCurves.j6 kj14 l0 l1 t496 t497 bt499.1 ((rd bt499.1 0) != t496)) else (none))) else (laws_FnCurves.j6 kj14 l0 l1 t496 t497 bt499.1 true)) else (laws_FnCurves.j8 kj14 l0 l1))) = some r := H
          have A43 := Aside0.mk A430
          clear A430
          replace H := Option.bind_eq_some_iff.mp H
          obtain ⟨⟨t499, t500⟩, A440, H⟩ := H
          replace H : (if t500 = 0 then (if (t499.length : Int) = t498 then (if (t499.length : Int) = 0 then (laws_FnCurves.j6 kj14 l0 l1 t496 t497 t499 true) else (if 0 < (t499.length : Int) then (laws_FnCurves.j6 kj14 l0 l1 t496 t497 t499 ((rd t499 0) != t496)) else (none))) else (laws_FnCurves.j6 kj14 l0 l1 t496 t497 t499 true)) else (laws_FnCurves.j8 kj14 l0 l1)) = some r := H
          have A44 := Aside0.mk A440
          clear A440
          have HC45 := Aside0.mk H
          clear H
          go_upto_if 150 with (first | (go_at_call 65; (with_reducible refine (spec_DrawGlideCurve.calls _ _ l1 t496 t497 t498 _ ?side1 ?side2 A43.out).mono ?_); (case side1 => repeat (first | exact (Kd.C_below HR1.out HB.out) | (with_reducible refine Kd.C_alloc ?_ _) | (with_reducible refine Kd.C_drewN ?_ _) | (with_reducible refine Kd.C_drew ?_))); (case side2 => exact HC1.out); rintro e w46 ⟨rfl, hb⟩; have n0_ := Aside0.mk (below_step (by repeat (first | (with_reducible first | exact HB.out | apply qba | apply qbn | apply qb1) | exact HB.out)) hb); clear HB; have HB := n0_; clear n0_; (try clear hb); (try clear hb2); (try clear hk); (try clear hi)) | (go_at_call 66; (with_reducible refine (impl_GlideCurve.calls kj14 t496 t497 t498 t499 t500 _ A44.out).mono ?_); rintro e w47 ⟨v501, rfl, ho0, hb⟩; have n0_ := Aside0.mk (Kd.R_lower ho0 (below_size (by repeat (first | (with_reducible first | exact HB.out | apply qba | apply qbn | apply qb1) | exact HB.out)))); have n1_ := Aside0.mk (below_step (by repeat (first | (with_reducible first | exact HB.out | apply qba | apply qbn | apply qb1) | exact HB.out)) hb); clear HB; have HO502 := n0_; have HB := n1_; clear n0_ n1_; (try clear hb); (try clear hb2); (try clear hk); (try clear hi); (try clear ho0)))
          repeat (go_quiet (first | (go_at_call 65; (with_reducible refine (spec_DrawGlideCurve.calls _ _ l1 t496 t497 t498 _ ?side1 ?side2 A43.out).mono ?_); (case side1 => repeat (first | exact (Kd.C_below HR1.out HB.out) | (with_reducible refine Kd.C_alloc ?_ _) | (with_reducible refine Kd.C_drewN ?_ _) | (with_reducible refine Kd.C_drew ?_))); (case side2 => exact HC1.out); rintro e w46 ⟨rfl, hb⟩; have n0_ := Aside0.mk (below_step (by repeat (first | (with_reducible first | exact HB.out | apply qba | apply qbn | apply qb1) | exact HB.out)) hb); clear HB; have HB := n0_; clear n0_; (try clear hb); (try clear hb2); (try clear hk); (try clear hi)) | (go_at_call 66; (with_reducible refine (impl_GlideCurve.calls kj14 t496 t497 t498 t499 t500 _ A44.out).mono ?_); rintro e w47 ⟨v501, rfl, ho0, hb⟩; have n0_ := Aside0.mk (Kd.R_lower ho0 (below_size (by repeat (first | (with_reducible first | exact HB.out | apply qba | apply qbn | apply qb1) | exact HB.out)))); have n1_ := Aside0.mk (below_step (by repeat (first | (with_reducible first | exact HB.out | apply qba | apply qbn | apply qb1) | exact HB.out)) hb); clear HB; have HO502 := n0_; have HB := n1_; clear n0_ n1_; (try clear hb); (try clear hb2); (try clear hk); (try clear hi); (try clear ho0))); go_upto_if 150 with (first | (go_at_call 65; (with_reducible refine (spec_DrawGlideCurve.calls _ _ l1 t496 t497 t498 _ ?side1 ?side2 A43.out).mono ?_); (case side1 => repeat (first | exact (Kd.C_below HR1.out HB.out) | (with_reducible refine Kd.C_alloc ?_ _) | (with_reducible refine Kd.C_drewN ?_ _) | (with_reducible refine Kd.C_drew ?_))); (case side2 => exact HC1.out); rintro e w46 ⟨rfl, hb⟩; have n0_ := Aside0.mk (below_step (by repeat (first | (with_reducible first | exact HB.out | apply qba | apply qbn | apply qb1) | exact HB.out)) hb); clear HB; have HB := n0_; clear n0_; (try clear hb); (try clear hb2); (try clear hk); (try clear hi)) | (go_at_call 66; (with_reducible refine (impl_GlideCurve.calls kj14 t496 t497 t498 t499 t500 _ A44.out).mono ?_); rintro e w47 ⟨v501, rfl, ho0, hb⟩; have n0_ := Aside0.mk (Kd.R_lower ho0 (below_size (by repeat (first | (with_reducible first | exact HB.out | apply qba | apply qbn | apply qb1) | exact HB.out)))); have n1_ := Aside0.mk (below_step (by repeat (first | (with_reducible first | exact HB.out | apply qba | apply qbn | apply qb1) | exact HB.out)) hb); clear HB; have HO502 := n0_; have HB := n1_; clear n0_ n1_; (try clear hb); (try clear hb2); (try clear hk); (try clear hi); (try clear ho0))))
          (try simp only [Act.put, sx0, sx1, sx2])
          go_cut [] (fun wc => ∃ (kq : Nat), Aside0 (laws_FnCurves.j8 kq l0 l1 = some r) ∧ Aside0 (kq ≤ kj14) ∧ Aside0 (Below w.heap.size w wc))
          case first => as_aux_lemma =>
           have H := HC45.out
           clear HC45
           by_cases c48 : t500 = 0
           · as_aux_lemma =>
              rw [if_pos c48] at H
              have c48b0 : (t500 == 0) = true := beq_iff_eq.mpr c48
              have c48b1 : (t500 != 0) = false := bne_eq_false_iff_eq.mpr c48
              clear c48
              (first | rw [c48b0] | (simp only [i64_w, i32_w]; rw [c48b0]) | skip)
              have HC49 := Aside0.mk H
              clear H
              go_upto_region 23 with (fail)
              repeat (go_quiet (fail); go_upto_region 23 with (fail))
              go_cut [166] (fun v166 wc => ∃ (kq : Nat) (x166_48 : Bool), v166 = .bool x166_48 ∧ Aside0 (laws_FnCurves.j6 kq l0 l1 t496 t497 t499 x166_48 = some r) ∧ Aside0 (kq ≤ kj14) ∧ Aside0 (Kd.R (Kd.int .i64) 2 wc w.heap.size (fun _ => True) v501 t499) ∧ Aside0 (Below w.heap.size w wc))
              case first => as_aux_lemma =>
               have H := HC49.out
               clear HC49
               by_cases c50 : (t499.length : Int) = t498
               · rw [if_pos c50] at H
                 have c50b0 : ((t499.length : Int) == t498) = true := beq_iff_eq.mpr c50
                 have c50b1 : ((t499.length : Int) != t498) = false := bne_eq_false_iff_eq.mpr c50
                 clear c50
                 (first | rw [c50b0] | (simp only [i64_w, i32_w]; rw [c50b0]) | skip)
                 by_cases c51 : (t499.length : Int) = 0
                 · rw [if_pos c51] at H
                   have c51b0 : ((t499.length : Int) == 0) = true := beq_iff_eq.mpr c51
                   have c51b1 : ((t499.length : Int) != 0) = false := bne_eq_false_iff_eq.mpr c51
                   clear c51
                   have H' := Aside0.mk H
                   clear H
                   obtain ⟨Ao52, co52, eo52⟩ := Kd.R_slice HO502.out
                   subst eo52
                   go_wp2
                   repeat (go_quiet (fail); try go_wp2)
                   go_meet
                   case rel => exact ⟨_, (true), (by first | rfl | (simp; done) | (simp [*]; done)), H', ⟨by have := HJ2.out; have := HJ9.out; have := HJ14.out; first | omega | exact Nat.le_refl _⟩, ⟨by (with_reducible repeat (first | apply qra | apply qrn | apply qrd)); exact HO502.out⟩, ⟨by repeat (first | (with_reducible first | exact HB.out | apply qba | apply qbn | apply qb1) | exact HB.out)⟩⟩
                 · rw [if_neg c51] at H
                   have c51b0 : ((t499.length : Int) == 0) = false := beq_eq_false_iff_ne.mpr c51
                   have c51b1 : ((t499.length : Int) != 0) = true := bne_iff_ne.mpr c51
                   have c51b2 : ¬ (t499 = []) := fun h_ => c51 (by rw [h_]; rfl)
                   by_cases c53 : 0 < (t499.length : Int)
                   · rw [if_pos c53] at H
                     have c53b0 : decide (0 < (t499.length : Int)) = true := decide_eq_true c53
                     have c53b1 : decide (0 < t499.length) = true := decide_eq_true (by omega)
                     clear c53
                     have H' := Aside0.mk H
                     clear H
                     obtain ⟨Ao54, co54, eo54⟩ := Kd.R_slice HO502.out
                     subst eo54
                     have p503 : 0 ≤ (0 : Int) := (by omega)
                     have q503 : 0 < (t499.length : Int) := of_decide_eq_true (by first | (with_reducible assumption) | assumption)
                     obtain ⟨ad503, e503, hx503_0⟩ := Kd.at_int (Kd.R_reads' HO502.out).2.2 0 p503 q503
                     cases e503
                     have qi503 : (0 < t499.length) = True := eq_true (by omega)
                     (try rw [show ((0 : Int)).toNat = 0 from rfl] at hx503_0)
                     (try rw [Addr.add_zero'] at hx503_0)
                     replace p503 := eq_true p503
                     replace q503 := eq_true q503
                     go_wp2
                     repeat (go_quiet (fail); try go_wp2)
                     go_meet
                     case rel => exact ⟨_, (((rd t499 0) != t496)), (by first | rfl | (simp; done) | (simp [*]; done)), H', ⟨by have := HJ2.out; have := HJ9.out; have := HJ14.out; first | omega | exact Nat.le_refl _⟩, ⟨by (with_reducible repeat (first | apply qra | apply qrn | apply qrd)); exact HO502.out⟩, ⟨by repeat (first | (with_reducible first | exact HB.out | apply qba | apply qbn | apply qb1) | exact HB.out)⟩⟩
                   · rw [if_neg c53] at H
                     exact absurd H (by simp)
               · rw [if_neg c50] at H
                 have c50b0 : ((t499.length : Int) == t498) = false := beq_eq_false_iff_ne.mpr c50
                 have c50b1 : ((t499.length : Int) != t498) = true := bne_iff_ne.mpr c50
                 (first | rw [c50b0] | (simp only [i64_w, i32_w]; rw [c50b0]) | skip)
                 have H' := Aside0.mk H
                 clear H
                 obtain ⟨Ao55, co55, eo55⟩ := Kd.R_slice HO502.out
                 subst eo55
                 go_wp2
                 repeat (go_quiet (fail); try go_wp2)
                 go_meet
                 case rel => exact ⟨_, (true), (by first | rfl | (simp; done) | (simp [*]; done)), H', ⟨by have := HJ2.out; have := HJ9.out; have := HJ14.out; first | omega | exact Nat.le_refl _⟩, ⟨by (with_reducible repeat (first | apply qra | apply qrn | apply qrd)); exact HO502.out⟩, ⟨by repeat (first | (with_reducible first | exact HB.out | apply qba | apply qbn | apply qb1) | exact HB.out)⟩⟩
              case rest => as_aux_lemma =>
               clear HC49
               try clear c1
               try clear c2
               try clear p2
               try clear c3
               try clear c4
               try clear p4
               try clear q4
               try clear hx4
               try clear qi4
               try clear c5
               try clear p5
               try clear q5
               try clear hx5
               try clear qi5
               try clear p6
               try clear c7
               try clear c9
               try clear c14
               try clear c14b0
               try clear c14b1
               try clear c16
               try clear c18
               try clear c18b0
               try clear c18b1
               try clear c18b2
               try clear c19
               try clear c19b0
               try clear c19b1
               try clear c20
               try clear c20b0
               try clear c20b1
               try clear c21
               try clear c21b0
               try clear c21b1
               try clear c23
               try clear c23b0
               try clear c24
               try clear c24b0
               try clear c25
               try clear c25b0
               try clear c29
               try clear c30
               try clear c30b0
               try clear c30b1
               try clear c31
               try clear c31b0
               try clear c32
               try clear c32b0
               try clear c35
               try clear c35b0
               try clear c36
               try clear c36b0
               try clear c37
               try clear c37b0
               try clear c39
               try clear c39b0
               try clear c48
               try clear c48b0
               try clear c48b1
               try clear p48
               try clear q48
               try clear hx48
               try clear p49
               try clear q49
               try clear hx49
               try clear qi49
               try clear c50
               try clear c50b0
               try clear c50b1
               try clear p50
               try clear q50
               try clear hx50
               try clear qi50
               try clear c51
               try clear c51b0
               try clear c51b1
               try clear c51b2
               try clear c53
               try clear c53b0
               try clear c53b1
               try clear hx486_0
               try clear hx487_0
               try clear hx488_0
               try clear hx489_0
               try clear hx490_0
               try clear hx491_0
               try clear hx492_0
               try clear hx493_0
               try clear hx494_0
               try clear hx495_0
               try clear hx503_0
               try clear p2
               try clear p4
               try clear p486
               try clear p487
               try clear p488
               try clear p489
               try clear p490
               try clear p491
               try clear p492
               try clear p493
               try clear p494
               try clear p495
               try clear p503
               try clear p6
               try clear q4
               try clear q486
               try clear q487
               try clear q488
               try clear q489
               try clear q490
               try clear q491
               try clear q492
               try clear q493
               try clear q494
               try clear q495
               try clear q503
               obtain ⟨kq, x166_48, rfl, HA, HJ48, HO_16, HB⟩ := hcut
               cases kq with
               | zero => exact absurd HA.out (by simp [laws_FnCurves.j6])
               | succ kj48 =>
                have H := HA.out
                clear HA
                simp only [laws_FnCurves.j6] at H
                by_cases c56 : x166_48 = true
                · subst c56
                  have H1 : (some false) = some r := by rw [if_pos rfl] at H; exact H
                  clear H
                  have H := H1
                  clear H1
                  obtain rfl := Option.some.inj H
                  go_wp2
                  repeat (go_quiet (fail); try go_wp2)
                  go_ret
                  exact ⟨by first | rfl | (simp [errW_none, errW_some] <;> rfl) | (simp [*, errW_none, errW_some] <;> rfl), by repeat (first | (with_reducible first | exact HB.out | apply qba | apply qbn | apply qb1) | exact HB.out)⟩
                · as_aux_lemma =>
                   replace c56 := Bool.eq_false_iff.mpr c56
                   subst c56
                   have H1 : (laws_FnCurves.l2 kj48 l0 l1 t496 t497 t499 1) = some r := by rw [if_neg (show ¬ (false = true) by decide)] at H; exact H
                   clear H
                   have H := H1
                   clear H1
                   have H' := Aside0.mk H
                   clear H
                   go_wp2
                   repeat (go_quiet (fail); try go_wp2)
                   go_loopg [18] kj48 (fun kq v18 w' => ∃ (x18_5 : Int), v18 = .int .i64 x18_5 ∧ Aside0 (laws_FnCurves.l2 kq l0 l1 t496 t497 t499 x18_5 = some r) ∧ Aside0 (kq ≤ kj48) ∧ Aside0 (Kd.R (Kd.int .i64) 2 w' w.heap.size (fun _ => True) v501 t499) ∧ Aside0 (Below w.heap.size w w'))
                   case atStart => exact ⟨(1), (by first | rfl | (simp; done) | (simp [*]; done)), H', ⟨Nat.le_refl _⟩, ⟨by (with_reducible repeat (first | apply qra | apply qrn | apply qrd)); exact HO_16.out⟩, ⟨by repeat (first | (with_reducible first | exact HB.out | apply qba | apply qbn | apply qb1) | exact HB.out)⟩⟩
                   case round =>
                    clear H'
                    try clear c1
                    try clear c2
                    try clear p2
                    try clear c3
                    try clear c4
                    try clear p4
                    try clear q4
                    try clear hx4
                    try clear qi4
                    try clear c5
                    try clear p5
                    try clear q5
                    try clear hx5
                    try clear qi5
                    try clear p6
                    try clear c7
                    try clear c9
                    try clear c14
                    try clear c14b0
                    try clear c14b1
                    try clear c16
                    try clear c18
                    try clear c18b0
                    try clear c18b1
                    try clear c18b2
                    try clear c19
                    try clear c19b0
                    try clear c19b1
                    try clear c20
                    try clear c20b0
                    try clear c20b1
                    try clear c21
                    try clear c21b0
                    try clear c21b1
                    try clear c23
                    try clear c23b0
                    try clear c24
                    try clear c24b0
                    try clear c25
                    try clear c25b0
                    try clear c29
                    try clear c30
                    try clear c30b0
                    try clear c30b1
                    try clear c31
                    try clear c31b0
                    try clear c32
                    try clear c32b0
                    try clear c35
                    try clear c35b0
                    try clear c36
                    try clear c36b0
                    try clear c37
                    try clear c37b0
                    try clear c39
                    try clear c39b0
                    try clear c48
                    try clear c48b0
                    try clear c48b1
                    try clear p48
                    try clear q48
                    try clear hx48
                    try clear p49
                    try clear q49
                    try clear hx49
                    try clear qi49
                    try clear c50
                    try clear c50b0
                    try clear c50b1
                    try clear p50
                    try clear q50
                    try clear hx50
                    try clear qi50
                    try clear c51
                    try clear c51b0
                    try clear c51b1
                    try clear c51b2
                    try clear c53
                    try clear c53b0
                    try clear c53b1
                    try clear c56
                    try clear hx486_0
                    try clear hx487_0
                    try clear hx488_0
                    try clear hx489_0
                    try clear hx490_0
                    try clear hx491_0
                    try clear hx492_0
                    try clear hx493_0
                    try clear hx494_0
                    try clear hx495_0
                    try clear hx503_0
                    try clear p2
                    try clear p4
                    try clear p48
                    try clear p486
                    try clear p487
                    try clear p488
                    try clear p489
                    try clear p49
                    try clear p490
                    try clear p491
                    try clear p492
                    try clear p493
                    try clear p494
                    try clear p495
                    try clear p5
                    try clear p50
                    try clear p503
                    try clear p6
                    try clear q4
                    try clear q48
                    try clear q486
                    try clear q487
                    try clear q488
                    try clear q489
                    try clear q49
                    try clear q490
                    try clear q491
                    try clear q492
                    try clear q493
                    try clear q494
                    try clear q495
                    try clear q5
                    try clear q50
                    try clear q503
                    obtain ⟨x18_5, rfl, HA, HK5, HO_16, HB⟩ := hrel
                    cases gk with
                    | zero => exact absurd HA.out (by simp [laws_FnCurves.l2])
                    | succ k5 =>
                     have H := HA.out
                     clear HA
                     simp only [laws_FnCurves.l2] at H
                     by_cases c57 : x18_5 < (t499.length : Int)
                     · as_aux_lemma =>
                        rw [if_pos c57] at H
                        have c57b0 : decide (x18_5 < (t499.length : Int)) = true := decide_eq_true c57
                        clear c57
                        by_cases c58 : t496 ≤ t497
                        · as_aux_lemma =>
                           rw [if_pos c58] at H
                           have c58b0 : decide (t496 ≤ t497) = true := decide_eq_true c58
                           clear c58
                           by_cases c59 : 0 ≤ x18_5
                           · as_aux_lemma =>
                              rw [if_pos c59] at H
                              have c59b0 : decide (0 ≤ x18_5) = true := decide_eq_true c59
                              clear c59
                              obtain ⟨ji60, hji60⟩ : ∃ j_ : Int, (wrap64 (x18_5 - 1)) = j_ := ⟨_, rfl⟩
                              replace H : (if 0 ≤ (ji60) then (if (ji60) < (t499.length : Int) then (if (rd t499 x18_5) < (rd t499 (ji60)) then (some false) else (if t496 ≥ t497 then (if (rd t499 x18_5) > (rd t499 (ji60)) then (some false) else (laws_FnCurves.l2 k5 l0 l1 t496 t497 t499 (wrap64 (x18_5 + 1)))) else (laws_FnCurves.l2 k5 l0 l1 t496 t497 t499 (wrap64 (x18_5 + 1))))) else (none)) else (none)) = some r := by first | (rw [hji60] at H; exact H) | (simp only [hji60] at H ⊢; exact H)
                              have hji60w : (IntKind.i64.wrap (x18_5 - 1)) = ji60 := (i64_w _).trans hji60
                              by_cases c61 : 0 ≤ (ji60)
                              · as_aux_lemma =>
                                 rw [if_pos c61] at H
                                 have c61b0 : decide (0 ≤ (ji60)) = true := decide_eq_true c61
                                 clear c61
                                 by_cases c62 : (ji60) < (t499.length : Int)
                                 · as_aux_lemma =>
                                    rw [if_pos c62] at H
                                    have c62b0 : decide ((ji60) < (t499.length : Int)) = true := decide_eq_true c62
                                    clear c62
                                    by_cases c63 : (rd t499 x18_5) < (rd t499 (ji60))
                                    · rw [if_pos c63] at H
                                      have c63b0 : decide ((rd t499 x18_5) < (rd t499 (ji60))) = true := decide_eq_true c63
                                      clear c63
                                      obtain rfl := Option.some.inj H
                                      obtain ⟨Ao64, co64, eo64⟩ := Kd.R_slice HO_16.out
                                      subst eo64
                                      have p504 : 0 ≤ (x18_5 : Int) := of_decide_eq_true (by first | (with_reducible assumption) | assumption)
                                      have q504 : x18_5 < (t499.length : Int) := of_decide_eq_true (by first | (with_reducible assumption) | assumption)
                                      obtain ⟨ad504, e504, hx504_0⟩ := Kd.at_int (Kd.R_reads' HO_16.out).2.2 x18_5 p504 q504
                                      cases e504
                                      replace p504 := eq_true p504
                                      replace q504 := eq_true q504
                                      have p505 : 0 ≤ ((ji60) : Int) := of_decide_eq_true (by first | (with_reducible assumption) | assumption)
                                      have q505 : (ji60) < (t499.length : Int) := of_decide_eq_true (by first | (with_reducible assumption) | assumption)
                                      obtain ⟨ad505, e505, hx505_0⟩ := Kd.at_int (Kd.R_reads' HO_16.out).2.2 (ji60) p505 q505
                                      obtain rfl : ad504 = ad505 := (by injection e505)
                                      replace p505 := eq_true p505
                                      replace q505 := eq_true q505
                                      go_wp2
                                      repeat (go_quiet (fail); try go_wp2)
                                      go_ret
                                      exact ⟨by first | rfl | (simp [errW_none, errW_some] <;> rfl) | (simp only [← hji60]; first | rfl | (simp [errW_none, errW_some] <;> rfl)) | (simp [*, errW_none, errW_some] <;> rfl), by repeat (first | (with_reducible first | exact HB.out | apply qba | apply qbn | apply qb1) | exact HB.out)⟩
                                    · as_aux_lemma =>
                                       rw [if_neg c63] at H
                                       have c63b0 : decide ((rd t499 x18_5) < (rd t499 (ji60))) = false := decide_eq_false c63
                                       clear c63
                                       by_cases c65 : t496 ≥ t497
                                       · as_aux_lemma =>
                                          rw [if_pos c65] at H
                                          have c65b0 : decide (t497 ≤ t496) = true := decide_eq_true c65
                                          clear c65
                                          by_cases c66 : (rd t499 x18_5) > (rd t499 (ji60))
                                          · rw [if_pos c66] at H
                                            have c66b0 : decide ((rd t499 (ji60)) < (rd t499 x18_5)) = true := decide_eq_true c66
                                            clear c66
                                            obtain rfl := Option.some.inj H
                                            obtain ⟨Ao67, co67, eo67⟩ := Kd.R_slice HO_16.out
                                            subst eo67
                                            have p504 : 0 ≤ (x18_5 : Int) := of_decide_eq_true (by first | (with_reducible assumption) | assumption)
                                            have q504 : x18_5 < (t499.length : Int) := of_decide_eq_true (by first | (with_reducible assumption) | assumption)
                                            obtain ⟨ad504, e504, hx504_0⟩ := Kd.at_int (Kd.R_reads' HO_16.out).2.2 x18_5 p504 q504
                                            cases e504
                                            replace p504 := eq_true p504
                                            replace q504 := eq_true q504
                                            have p505 : 0 ≤ ((ji60) : Int) := of_decide_eq_true (by first | (with_reducible assumption) | assumption)
                                            have q505 : (ji60) < (t499.length : Int) := of_decide_eq_true (by first | (with_reducible assumption) | assumption)
                                            obtain ⟨ad505, e505, hx505_0⟩ := Kd.at_int (Kd.R_reads' HO_16.out).2.2 (ji60) p505 q505
                                            obtain rfl : ad504 = ad505 := (by injection e505)
                                            replace p505 := eq_true p505
                                            replace q505 := eq_true q505
                                            have p506 : 0 ≤ (x18_5 : Int) := of_decide_eq_true (by first | (with_reducible assumption) | assumption)
                                            have q506 : x18_5 < (t499.length : Int) := of_decide_eq_true (by first | (with_reducible assumption) | assumption)
                                            obtain ⟨ad506, e506, hx506_0⟩ := Kd.at_int (Kd.R_reads' HO_16.out).2.2 x18_5 p506 q506
                                            obtain rfl : ad504 = ad506 := (by injection e506)
                                            replace p506 := eq_true p506
                                            replace q506 := eq_true q506
                                            have p507 : 0 ≤ ((ji60) : Int) := of_decide_eq_true (by first | (with_reducible assumption) | assumption)
                                            have q507 : (ji60) < (t499.length : Int) := of_decide_eq_true (by first | (with_reducible assumption) | assumption)
                                            obtain ⟨ad507, e507, hx507_0⟩ := Kd.at_int (Kd.R_reads' HO_16.out).2.2 (ji60) p507 q507
                                            obtain rfl : ad504 = ad507 := (by injection e507)
                                            replace p507 := eq_true p507
                                            replace q507 := eq_true q507
                                            go_wp2
                                            repeat (go_quiet (fail); try go_wp2)
                                            go_ret
                                            exact ⟨by first | rfl | (simp [errW_none, errW_some] <;> rfl) | (simp only [← hji60]; first | rfl | (simp [errW_none, errW_some] <;> rfl)) | (simp [*, errW_none, errW_some] <;> rfl), by repeat (first | (with_reducible first | exact HB.out | apply qba | apply qbn | apply qb1) | exact HB.out)⟩
                                          · rw [if_neg c66] at H
                                            have c66b0 : decide ((rd t499 (ji60)) < (rd t499 x18_5)) = false := decide_eq_false c66
                                            clear c66
                                            have H' := Aside0.mk H
                                            clear H
                                            obtain ⟨Ao68, co68, eo68⟩ := Kd.R_slice HO_16.out
                                            subst eo68
                                            have p504 : 0 ≤ (x18_5 : Int) := of_decide_eq_true (by first | (with_reducible assumption) | assumption)
                                            have q504 : x18_5 < (t499.length : Int) := of_decide_eq_true (by first | (with_reducible assumption) | assumption)
                                            obtain ⟨ad504, e504, hx504_0⟩ := Kd.at_int (Kd.R_reads' HO_16.out).2.2 x18_5 p504 q504
                                            cases e504
                                            replace p504 := eq_true p504
                                            replace q504 := eq_true q504
                                            have p505 : 0 ≤ ((ji60) : Int) := of_decide_eq_true (by first | (with_reducible assumption) | assumption)
                                            have q505 : (ji60) < (t499.length : Int) := of_decide_eq_true (by first | (with_reducible assumption) | assumption)
                                            obtain ⟨ad505, e505, hx505_0⟩ := Kd.at_int (Kd.R_reads' HO_16.out).2.2 (ji60) p505 q505
                                            obtain rfl : ad504 = ad505 := (by injection e505)
                                            replace p505 := eq_true p505
                                            replace q505 := eq_true q505
                                            have p506 : 0 ≤ (x18_5 : Int) := of_decide_eq_true (by first | (with_reducible assumption) | assumption)
                                            have q506 : x18_5 < (t499.length : Int) := of_decide_eq_true (by first | (with_reducible assumption) | assumption)
                                            obtain ⟨ad506, e506, hx506_0⟩ := Kd.at_int (Kd.R_reads' HO_16.out).2.2 x18_5 p506 q506
                                            obtain rfl : ad504 = ad506 := (by injection e506)
                                            replace p506 := eq_true p506
                                            replace q506 := eq_true q506
                                            have p507 : 0 ≤ ((ji60) : Int) := of_decide_eq_true (by first | (with_reducible assumption) | assumption)
                                            have q507 : (ji60) < (t499.length : Int) := of_decide_eq_true (by first | (with_reducible assumption) | assumption)
                                            obtain ⟨ad507, e507, hx507_0⟩ := Kd.at_int (Kd.R_reads' HO_16.out).2.2 (ji60) p507 q507
                                            obtain rfl : ad504 = ad507 := (by injection e507)
                                            replace p507 := eq_true p507
                                            replace q507 := eq_true q507
                                            go_wp2
                                            repeat (go_quiet (fail); try go_wp2)
                                            go_roundg k5
                                            case measure => have := HJ2.out; have := HJ9.out; have := HJ14.out; have := HJ48.out; have := HK5.out; omega
                                            case rel => exact ⟨(wrap64 (x18_5 + 1)), (by first | rfl | (simp; done) | (simp [*]; done)), H', ⟨by have := HJ2.out; have := HJ9.out; have := HJ14.out; have := HJ48.out; have := HK5.out; omega⟩, ⟨by (with_reducible repeat (first | apply qra | apply qrn | apply qrd)); exact HO_16.out⟩, ⟨by repeat (first | (with_reducible first | exact HB.out | apply qba | apply qbn | apply qb1) | exact HB.out)⟩⟩
                                       · rw [if_neg c65] at H
                                         have c65b0 : decide (t497 ≤ t496) = false := decide_eq_false c65
                                         clear c65
                                         have H' := Aside0.mk H
                                         clear H
                                         obtain ⟨Ao69, co69, eo69⟩ := Kd.R_slice HO_16.out
                                         subst eo69
                                         have p504 : 0 ≤ (x18_5 : Int) := of_decide_eq_true (by first | (with_reducible assumption) | assumption)
                                         have q504 : x18_5 < (t499.length : Int) := of_decide_eq_true (by first | (with_reducible assumption) | assumption)
                                         obtain ⟨ad504, e504, hx504_0⟩ := Kd.at_int (Kd.R_reads' HO_16.out).2.2 x18_5 p504 q504
                                         cases e504
                                         replace p504 := eq_true p504
                                         replace q504 := eq_true q504
                                         have p505 : 0 ≤ ((ji60) : Int) := of_decide_eq_true (by first | (with_reducible assumption) | assumption)
                                         have q505 : (ji60) < (t499.length : Int) := of_decide_eq_true (by first | (with_reducible assumption) | assumption)
                                         obtain ⟨ad505, e505, hx505_0⟩ := Kd.at_int (Kd.R_reads' HO_16.out).2.2 (ji60) p505 q505
                                         obtain rfl : ad504 = ad505 := (by injection e505)
                                         replace p505 := eq_true p505
                                         replace q505 := eq_true q505
                                         go_wp2
                                         repeat (go_quiet (fail); try go_wp2)
                                         go_roundg k5
                                         case measure => have := HJ2.out; have := HJ9.out; have := HJ14.out; have := HJ48.out; have := HK5.out; omega
                                         case rel => exact ⟨(wrap64 (x18_5 + 1)), (by first | rfl | (simp; done) | (simp [*]; done)), H', ⟨by have := HJ2.out; have := HJ9.out; have := HJ14.out; have := HJ48.out; have := HK5.out; omega⟩, ⟨by (with_reducible repeat (first | apply qra | apply qrn | apply qrd)); exact HO_16.out⟩, ⟨by repeat (first | (with_reducible first | exact HB.out | apply qba | apply qbn | apply qb1) | exact HB.out)⟩⟩
                                 · rw [if_neg c62] at H
                                   exact absurd H (by simp)
                              · rw [if_neg c61] at H
                                exact absurd H (by simp)
                           · rw [if_neg c59] at H
                             exact absurd H (by simp)
                        · as_aux_lemma =>
                           rw [if_neg c58] at H
                           have c58b0 : decide (t496 ≤ t497) = false := decide_eq_false c58
                           clear c58
                           by_cases c70 : t496 ≥ t497
                           · as_aux_lemma =>
                              rw [if_pos c70] at H
                              have c70b0 : decide (t497 ≤ t496) = true := decide_eq_true c70
                              clear c70
                              by_cases c71 : 0 ≤ x18_5
                              · as_aux_lemma =>
                                 rw [if_pos c71] at H
                                 have c71b0 : decide (0 ≤ x18_5) = true := decide_eq_true c71
                                 clear c71
                                 obtain ⟨ji72, hji72⟩ : ∃ j_ : Int, (wrap64 (x18_5 - 1)) = j_ := ⟨_, rfl⟩
                                 replace H : (if 0 ≤ (ji72) then (if (ji72) < (t499.length : Int) then (if (rd t499 x18_5) > (rd t499 (ji72)) then (some false) else (laws_FnCurves.l2 k5 l0 l1 t496 t497 t499 (wrap64 (x18_5 + 1)))) else (none)) else (none)) = some r := by first | (rw [hji72] at H; exact H) | (simp only [hji72] at H ⊢; exact H)
                                 have hji72w : (IntKind.i64.wrap (x18_5 - 1)) = ji72 := (i64_w _).trans hji72
                                 by_cases c73 : 0 ≤ (ji72)
                                 · rw [if_pos c73] at H
                                   have c73b0 : decide (0 ≤ (ji72)) = true := decide_eq_true c73
                                   clear c73
                                   by_cases c74 : (ji72) < (t499.length : Int)
                                   · rw [if_pos c74] at H
                                     have c74b0 : decide ((ji72) < (t499.length : Int)) = true := decide_eq_true c74
                                     clear c74
                                     by_cases c75 : (rd t499 x18_5) > (rd t499 (ji72))
                                     · rw [if_pos c75] at H
                                       have c75b0 : decide ((rd t499 (ji72)) < (rd t499 x18_5)) = true := decide_eq_true c75
                                       clear c75
                                       obtain rfl := Option.some.inj H
                                       obtain ⟨Ao76, co76, eo76⟩ := Kd.R_slice HO_16.out
                                       subst eo76
                                       have p508 : 0 ≤ (x18_5 : Int) := of_decide_eq_true (by first | (with_reducible assumption) | assumption)
                                       have q508 : x18_5 < (t499.length : Int) := of_decide_eq_true (by first | (with_reducible assumption) | assumption)
                                       obtain ⟨ad508, e508, hx508_0⟩ := Kd.at_int (Kd.R_reads' HO_16.out).2.2 x18_5 p508 q508
                                       cases e508
                                       replace p508 := eq_true p508
                                       replace q508 := eq_true q508
                                       have p509 : 0 ≤ ((ji72) : Int) := of_decide_eq_true (by first | (with_reducible assumption) | assumption)
                                       have q509 : (ji72) < (t499.length : Int) := of_decide_eq_true (by first | (with_reducible assumption) | assumption)
                                       obtain ⟨ad509, e509, hx509_0⟩ := Kd.at_int (Kd.R_reads' HO_16.out).2.2 (ji72) p509 q509
                                       obtain rfl : ad508 = ad509 := (by injection e509)
                                       replace p509 := eq_true p509
                                       replace q509 := eq_true q509
                                       go_wp2
                                       repeat (go_quiet (fail); try go_wp2)
                                       go_ret
                                       exact ⟨by first | rfl | (simp [errW_none, errW_some] <;> rfl) | (simp only [← hji72]; first | rfl | (simp [errW_none, errW_some] <;> rfl)) | (simp [*, errW_none, errW_some] <;> rfl), by repeat (first | (with_reducible first | exact HB.out | apply qba | apply qbn | apply qb1) | exact HB.out)⟩
                                     · rw [if_neg c75] at H
                                       have c75b0 : decide ((rd t499 (ji72)) < (rd t499 x18_5)) = false := decide_eq_false c75
                                       clear c75
                                       have H' := Aside0.mk H
                                       clear H
                                       obtain ⟨Ao77, co77, eo77⟩ := Kd.R_slice HO_16.out
                                       subst eo77
                                       have p508 : 0 ≤ (x18_5 : Int) := of_decide_eq_true (by first | (with_reducible assumption) | assumption)
                                       have q508 : x18_5 < (t499.length : Int) := of_decide_eq_true (by first | (with_reducible assumption) | assumption)
                                       obtain ⟨ad508, e508, hx508_0⟩ := Kd.at_int (Kd.R_reads' HO_16.out).2.2 x18_5 p508 q508
                                       cases e508
                                       replace p508 := eq_true p508
                                       replace q508 := eq_true q508
                                       have p509 : 0 ≤ ((ji72) : Int) := of_decide_eq_true (by first | (with_reducible assumption) | assumption)
                                       have q509 : (ji72) < (t499.length : Int) := of_decide_eq_true (by first | (with_reducible assumption) | assumption)
                                       obtain ⟨ad509, e509, hx509_0⟩ := Kd.at_int (Kd.R_reads' HO_16.out).2.2 (ji72) p509 q509
                                       obtain rfl : ad508 = ad509 := (by injection e509)
                                       replace p509 := eq_true p509
                                       replace q509 := eq_true q509
                                       go_wp2
                                       repeat (go_quiet (fail); try go_wp2)
                                       go_roundg k5
                                       case measure => have := HJ2.out; have := HJ9.out; have := HJ14.out; have := HJ48.out; have := HK5.out; omega
                                       case rel => exact ⟨(wrap64 (x18_5 + 1)), (by first | rfl | (simp; done) | (simp [*]; done)), H', ⟨by have := HJ2.out; have := HJ9.out; have := HJ14.out; have := HJ48.out; have := HK5.out; omega⟩, ⟨by (with_reducible repeat (first | apply qra | apply qrn | apply qrd)); exact HO_16.out⟩, ⟨by repeat (first | (with_reducible first | exact HB.out | apply qba | apply qbn | apply qb1) | exact HB.out)⟩⟩
                                   · rw [if_neg c74] at H
                                     exact absurd H (by simp)
                                 · rw [if_neg c73] at H
                                   exact absurd H (by simp)
                              · rw [if_neg c71] at H
                                exact absurd H (by simp)
                           · rw [if_neg c70] at H
                             have c70b0 : decide (t497 ≤ t496) = false := decide_eq_false c70
                             clear c70
                             have H' := Aside0.mk H
                             clear H
                             obtain ⟨Ao78, co78, eo78⟩ := Kd.R_slice HO_16.out
                             subst eo78
                             go_wp2
                             repeat (go_quiet (fail); try go_wp2)
                             go_roundg k5
                             case measure => have := HJ2.out; have := HJ9.out; have := HJ14.out; have := HJ48.out; have := HK5.out; omega
                             case rel => exact ⟨(wrap64 (x18_5 + 1)), (by first | rfl | (simp; done) | (simp [*]; done)), H', ⟨by have := HJ2.out; have := HJ9.out; have := HJ14.out; have := HJ48.out; have := HK5.out; omega⟩, ⟨by (with_reducible repeat (first | apply qra | apply qrn | apply qrd)); exact HO_16.out⟩, ⟨by repeat (first | (with_reducible first | exact HB.out | apply qba | apply qbn | apply qb1) | exact HB.out)⟩⟩
                     · rw [if_neg c57] at H
                       have c57b0 : decide (x18_5 < (t499.length : Int)) = false := decide_eq_false c57
                       clear c57
                       have H' := Aside0.mk H
                       clear H
                       obtain ⟨Ao79, co79, eo79⟩ := Kd.R_slice HO_16.out
                       subst eo79
                       go_wp2
                       repeat (go_quiet (fail); try go_wp2)
                       go_meet
                       case rel => exact ⟨_, H', ⟨by have := HJ2.out; have := HJ9.out; have := HJ14.out; have := HJ48.out; have := HK5.out; first | omega | exact Nat.le_refl _⟩, ⟨by repeat (first | (with_reducible first | exact HB.out | apply qba | apply qbn | apply qb1) | exact HB.out)⟩⟩
           · rw [if_neg c48] at H
             have c48b0 : (t500 == 0) = false := beq_eq_false_iff_ne.mpr c48
             have c48b1 : (t500 != 0) = true := bne_iff_ne.mpr c48
             (first | rw [c48b0] | (simp only [i64_w, i32_w]; rw [c48b0]) | skip)
             have H' := Aside0.mk H
             clear H
             go_wp2
             repeat (go_quiet (fail); try go_wp2)
             go_meet
             case rel => exact ⟨_, H', ⟨by have := HJ2.out; have := HJ9.out; have := HJ14.out; first | omega | exact Nat.le_refl _⟩, ⟨by repeat (first | (with_reducible first | exact HB.out | apply qba | apply qbn | apply qb1) | exact HB.out)⟩⟩
          case rest => as_aux_lemma =>
           clear HC45
           try clear c1
           try clear c2
           try clear p2
           try clear c3
           try clear c4
           try clear p4
           try clear q4
           try clear hx4
           try clear qi4
           try clear c5
           try clear p5
           try clear q5
           try clear hx5
           try clear qi5
           try clear c6
           try clear p6
           try clear c7
           try clear c9
           try clear c14
           try clear c14b0
           try clear c14b1
           try clear c16
           try clear c18
           try clear c18b0
           try clear c18b1
           try clear c18b2
           try clear c19
           try clear c19b0
           try clear c19b1
           try clear c20
           try clear c20b0
           try clear c20b1
           try clear c21
           try clear c21b0
           try clear c21b1
           try clear c23
           try clear c23b0
           try clear c24
           try clear c24b0
           try clear c25
           try clear c25b0
           try clear c29
           try clear c30
           try clear c30b0
           try clear c30b1
           try clear c31
           try clear c31b0
           try clear c32
           try clear c32b0
           try clear c35
           try clear c35b0
           try clear c36
           try clear c36b0
           try clear c37
           try clear c37b0
           try clear c39
           try clear c39b0
           try clear c48
           try clear c48b0
           try clear c48b1
           try clear p48
           try clear q48
           try clear hx48
           try clear p49
           try clear q49
           try clear hx49
           try clear qi49
           try clear c50
           try clear c50b0
           try clear c50b1
           try clear p50
           try clear q50
           try clear hx50
           try clear qi50
           try clear c51
           try clear c51b0
           try clear c51b1
           try clear c51b2
           try clear c53
           try clear c53b0
           try clear c53b1
           try clear c56
           try clear c57
           try clear c57b0
           try clear c58
           try clear c58b0
           try clear c59
           try clear c59b0
           try clear c61
           try clear c61b0
           try clear c62
           try clear c62b0
           try clear c63
           try clear c63b0
           try clear p64
           try clear c65
           try clear c65b0
           try clear c66
           try clear c66b0
           try clear c70
           try clear c70b0
           try clear c71
           try clear c71b0
           try clear c73
           try clear c73b0
           try clear c74
           try clear c74b0
           try clear c75
           try clear c75b0
           try clear hx486_0
           try clear hx487_0
           try clear hx488_0
           try clear hx489_0
           try clear hx490_0
           try clear hx491_0
           try clear hx492_0
           try clear hx493_0
           try clear hx494_0
           try clear hx495_0
           try clear hx503_0
           try clear hx504_0
           try clear hx505_0
           try clear hx506_0
           try clear hx507_0
           try clear hx508_0
           try clear hx509_0
           try clear p2
           try clear p4
           try clear p48
           try clear p486
           try clear p487
           try clear p488
           try clear p489
           try clear p49
           try clear p490
           try clear p491
           try clear p492
           try clear p493
           try clear p494
           try clear p495
           try clear p5
           try clear p50
           try clear p503
           try clear p504
           try clear p505
           try clear p506
           try clear p507
           try clear p508
           try clear p509
           try clear p6
           try clear q4
           try clear q48
           try clear q486
           try clear q487
           try clear q488
           try clear q489
           try clear q49
           try clear q490
           try clear q491
           try clear q492
           try clear q493
           try clear q494
           try clear q495
           try clear q5
           try clear q50
           try clear q503
           try clear q504
           try clear q505
           try clear q506
           try clear q507
           try clear q508
           try clear q509
           obtain ⟨kq, HA, HJ44, HB⟩ := hcut
           cases kq with
           | zero => exact absurd HA.out (by simp [laws_FnCurves.j8])
           | succ kj44 =>
            have H := HA.out
            clear HA
            simp only [laws_FnCurves.j8] at H
            replace H := Option.bind_eq_some_iff.mp H
            obtain ⟨⟨t510, t511, t512, t513⟩, A800, H⟩ := H
            replace H : ((impl_GraceNotes.f kj44 t510 t511 t512 t513).bind fun bt516 => (if bt516.2 = 0 then ((spec_DurationOf.f kj44 t510).bind fun bt520 => ((spec_DurationOf.f kj44 bt516.1).bind fun bt522 => (if bt520.2 = 0 then (if bt522.2 = 0 then (if bt520.1 = bt522.1 then ((spec_ValidMelody.f kj44 bt516.1).bind fun t524 => (if t524 = true then (if (bt516.1.length : Int) = (wrap64 ((t510.length : Int) + 1)) then (laws_FnCurves.j9 kj44 l0) else (some false)) else (some false))) else (some false)) else (some false)) else (some false)))) else (laws_FnCurves.j9 kj44 l0))) = some r := H
            have A80 := Aside0.mk A800
            clear A800
            replace H := Option.bind_eq_some_iff.mp H
            obtain ⟨⟨t516, t519⟩, A810, H⟩ := H
            replace H : (if t519 = 0 then ((spec_DurationOf.f kj44 t510).bind fun bt520 => ((spec_DurationOf.f kj44 t516).bind fun bt522 => (if bt520.2 = 0 then (if bt522.2 = 0 then (if bt520.1 = bt522.1 then ((spec_ValidMelody.f kj44 t516).bind fun t524 => (if t524 = true then (if (t516.length : Int) = (wrap64 ((t510.length : Int) + 1)) then (laws_FnCurves.j9 kj44 l0) else (some false)) else (some false))) else (some false)) else (some false)) else (some false)))) else (laws_FnCurves.j9 kj44 l0)) = some r := H
            have A81 := Aside0.mk A810
            clear A810
            have HC82 := Aside0.mk H
            clear H
            go_upto_if 221 with (first | (go_at_call 67; (with_reducible refine (spec_DrawGraceNotes.calls kj44 _ _ l1 t510 t511 t512 t513 _ ?side1 ?side2 A80.out).mono ?_); (case side1 => repeat (first | exact (Kd.C_below HR1.out HB.out) | (with_reducible refine Kd.C_alloc ?_ _) | (with_reducible refine Kd.C_drewN ?_ _) | (with_reducible refine Kd.C_drew ?_))); (case side2 => exact HC1.out); rintro e w83 ⟨v514, rfl, ho0, hb⟩; have n0_ := Aside0.mk (Kd.R_lower ho0 (below_size (by repeat (first | (with_reducible first | exact HB.out | apply qba | apply qbn | apply qb1) | exact HB.out)))); have n1_ := Aside0.mk (below_step (by repeat (first | (with_reducible first | exact HB.out | apply qba | apply qbn | apply qb1) | exact HB.out)) hb); clear HB; have HO515 := n0_; have HB := n1_; clear n0_ n1_; (try clear hb); (try clear hb2); (try clear hk); (try clear hi); (try clear ho0); obtain ⟨Ao84, co84, eo84⟩ := Kd.R_slice HO515.out; subst eo84) | (go_at_call 68; (with_reducible refine (impl_GraceNotes.calls kj44 (fun k_ => some k_ = (.slice Ao84 t510.length co84 : Value).ownBlock) _ _ t510 t511 t512 t513 t516 t519 _ ?side1 A81.out).mono ?_); (case side1 => exact Kd.R_V (Kd.R_tight rfl (HO515.out))); rintro e w85 ⟨v517, rfl, ho0, hb⟩; have n0_ := Aside0.mk (Kd.R_elder' (by (with_reducible repeat (first | apply qra | apply qrn | apply qrd)); exact HO515.out) (Kd.R_base ho0) hb); have n1_ := Aside0.mk (Kd.R_lower (Kd.R_new' (Kd.R_mono (ok' := fun k_ => True) ho0 (fun _ hk_ => trivial)) (Kd.R_lt (by (with_reducible repeat (first | apply qra | apply qrn | apply qrd)); exact HO515.out))) (below_size (by repeat (first | (with_reducible first | exact HB.out | apply qba | apply qbn | apply qb1) | exact HB.out)))); have n2_ := Aside0.mk (below_step (by repeat (first | (with_reducible first | exact HB.out | apply qba | apply qbn | apply qb1) | exact HB.out)) hb); clear HO515; clear HB; have HO515 := n0_; have HO518 := n1_; have HB := n2_; clear n0_ n1_ n2_; (try clear hb); (try clear hb2); (try clear hk); (try clear hi); (try clear ho0)))
            repeat (go_quiet (first | (go_at_call 67; (with_reducible refine (spec_DrawGraceNotes.calls kj44 _ _ l1 t510 t511 t512 t513 _ ?side1 ?side2 A80.out).mono ?_); (case side1 => repeat (first | exact (Kd.C_below HR1.out HB.out) | (with_reducible refine Kd.C_alloc ?_ _) | (with_reducible refine Kd.C_drewN ?_ _) | (with_reducible refine Kd.C_drew ?_))); (case side2 => exact HC1.out); rintro e w83 ⟨v514, rfl, ho0, hb⟩; have n0_ := Aside0.mk (Kd.R_lower ho0 (below_size (by repeat (first | (with_reducible first | exact HB.out | apply qba | apply qbn | apply qb1) | exact HB.out)))); have n1_ := Aside0.mk (below_step (by repeat (first | (with_reducible first | exact HB.out | apply qba | apply qbn | apply qb1) | exact HB.out)) hb); clear HB; have HO515 := n0_; have HB := n1_; clear n0_ n1_; (try clear hb); (try clear hb2); (try clear hk); (try clear hi); (try clear ho0); obtain ⟨Ao84, co84, eo84⟩ := Kd.R_slice HO515.out; subst eo84) | (go_at_call 68; (with_reducible refine (impl_GraceNotes.calls kj44 (fun k_ => some k_ = (.slice Ao84 t510.length co84 : Value).ownBlock) _ _ t510 t511 t512 t513 t516 t519 _ ?side1 A81.out).mono ?_); (case side1 => exact Kd.R_V (Kd.R_tight rfl (HO515.out))); rintro e w85 ⟨v517, rfl, ho0, hb⟩; have n0_ := Aside0.mk (Kd.R_elder' (by (with_reducible repeat (first | apply qra | apply qrn | apply qrd)); exact HO515.out) (Kd.R_base ho0) hb); have n1_ := Aside0.mk (Kd.R_lower (Kd.R_new' (Kd.R_mono (ok' := fun k_ => True) ho0 (fun _ hk_ => trivial)) (Kd.R_lt (by (with_reducible repeat (first | apply qra | apply qrn | apply qrd)); exact HO515.out))) (below_size (by repeat (first | (with_reducible first | exact HB.out | apply qba | apply qbn | apply qb1) | exact HB.out)))); have n2_ := Aside0.mk (below_step (by repeat (first | (with_reducible first | exact HB.out | apply qba | apply qbn | apply qb1) | exact HB.out)) hb); clear HO515; clear HB; have HO515 := n0_; have HO518 := n1_; have HB := n2_; clear n0_ n1_ n2_; (try clear hb); (try clear hb2); (try clear hk); (try clear hi); (try clear ho0))); go_upto_if 221 with (first | (go_at_call 67; (with_reducible refine (spec_DrawGraceNotes.calls kj44 _ _ l1 t510 t511 t512 t513 _ ?side1 ?side2 A80.out).mono ?_); (case side1 => repeat (first | exact (Kd.C_below HR1.out HB.out) | (with_reducible refine Kd.C_alloc ?_ _) | (with_reducible refine Kd.C_drewN ?_ _) | (with_reducible refine Kd.C_drew ?_))); (case side2 => exact HC1.out); rintro e w83 ⟨v514, rfl, ho0, hb⟩; have n0_ := Aside0.mk (Kd.R_lower ho0 (below_size (by repeat (first | (with_reducible first | exact HB.out | apply qba | apply qbn | apply qb1) | exact HB.out)))); have n1_ := Aside0.mk (below_step (by repeat (first | (with_reducible first | exact HB.out | apply qba | apply qbn | apply qb1) | exact HB.out)) hb); clear HB; have HO515 := n0_; have HB := n1_; clear n0_ n1_; (try clear hb); (try clear hb2); (try clear hk); (try clear hi); (try clear ho0); obtain ⟨Ao84, co84, eo84⟩ := Kd.R_slice HO515.out; subst eo84) | (go_at_call 68; (with_reducible refine (impl_GraceNotes.calls kj44 (fun k_ => some k_ = (.slice Ao84 t510.length co84 : Value).ownBlock) _ _ t510 t511 t512 t513 t516 t519 _ ?side1 A81.out).mono ?_); (case side1 => exact Kd.R_V (Kd.R_tight rfl (HO515.out))); rintro e w85 ⟨v517, rfl, ho0, hb⟩; have n0_ := Aside0.mk (Kd.R_elder' (by (with_reducible repeat (first | apply qra | apply qrn | apply qrd)); exact HO515.out) (Kd.R_base ho0) hb); have n1_ := Aside0.mk (Kd.R_lower (Kd.R_new' (Kd.R_mono (ok' := fun k_ => True) ho0 (fun _ hk_ => trivial)) (Kd.R_lt (by (with_reducible repeat (first | apply qra | apply qrn | apply qrd)); exact HO515.out))) (below_size (by repeat (first | (with_reducible first | exact HB.out | apply qba | apply qbn | apply qb1) | exact HB.out)))); have n2_ := Aside0.mk (below_step (by repeat (first | (with_reducible first | exact HB.out | apply qba | apply qbn | apply qb1) | exact HB.out)) hb); clear HO515; clear HB; have HO515 := n0_; have HO518 := n1_; have HB := n2_; clear n0_ n1_ n2_; (try clear hb); (try clear hb2); (try clear hk); (try clear hi); (try clear ho0))))
            (try simp only [Act.put, sx0, sx1, sx2])
            go_cut [] (fun wc => ∃ (kq : Nat), Aside0 (laws_FnCurves.j9 kq l0 = some r) ∧ Aside0 (kq ≤ kj44) ∧ Aside0 (Below w.heap.size w wc))
            case first => as_aux_lemma =>
             have H := HC82.out
             clear HC82
             by_cases c86 : t519 = 0
             · as_aux_lemma =>
                rw [if_pos c86] at H
                have c86b0 : (t519 == 0) = true := beq_iff_eq.mpr c86
                have c86b1 : (t519 != 0) = false := bne_eq_false_iff_eq.mpr c86
                clear c86
                (first | rw [c86b0] | (simp only [i64_w, i32_w]; rw [c86b0]) | skip)
                replace H := Option.bind_eq_some_iff.mp H
                obtain ⟨⟨t520, t521⟩, A870, H⟩ := H
                replace H : ((spec_DurationOf.f kj44 t516).bind fun bt522 => (if t521 = 0 then (if bt522.2 = 0 then (if t520 = bt522.1 then ((spec_ValidMelody.f kj44 t516).bind fun t524 => (if t524 = true then (if (t516.length : Int) = (wrap64 ((t510.length : Int) + 1)) then (laws_FnCurves.j9 kj44 l0) else (some false)) else (some false))) else (some false)) else (some false)) else (some false))) = some r := H
                have A87 := Aside0.mk A870
                clear A870
                replace H := Option.bind_eq_some_iff.mp H
                obtain ⟨⟨t522, t523⟩, A880, H⟩ := H
                replace H : (if t521 = 0 then (if t523 = 0 then (if t520 = t522 then ((spec_ValidMelody.f kj44 t516).bind fun t524 => (if t524 = true then (if (t516.length : Int) = (wrap64 ((t510.length : Int) + 1)) then (laws_FnCurves.j9 kj44 l0) else (some false)) else (some false))) else (some false)) else (some false)) else (some false)) = some r := H
                have A88 := Aside0.mk A880
                clear A880
                by_cases c89 : t521 = 0
                · as_aux_lemma =>
                   rw [if_pos c89] at H
                   have c89b0 : (t521 == 0) = true := beq_iff_eq.mpr c89
                   have c89b1 : (t521 != 0) = false := bne_eq_false_iff_eq.mpr c89
                   clear c89
                   by_cases c90 : t523 = 0
                   · rw [if_pos c90] at H
                     have c90b0 : (t523 == 0) = true := beq_iff_eq.mpr c90
                     have c90b1 : (t523 != 0) = false := bne_eq_false_iff_eq.mpr c90
                     clear c90
                     by_cases c91 : t520 = t522
                     · rw [if_pos c91] at H
                       have c91b0 : (t520 == t522) = true := beq_iff_eq.mpr c91
                       have c91b1 : (t520 != t522) = false := bne_eq_false_iff_eq.mpr c91
                       clear c91
                       replace H := Option.bind_eq_some_iff.mp H
                       obtain ⟨t524, A920, H⟩ := H
                       replace H : (if t524 = true then (if (t516.length : Int) = (wrap64 ((t510.length : Int) + 1)) then (laws_FnCurves.j9 kj44 l0) else (some false)) else (some false)) = some r := H
                       have A92 := Aside0.mk A920
                       clear A920
                       by_cases c93 : t524 = true
                       · subst c93
                         have H1 : (if (t516.length : Int) = (wrap64 ((t510.length : Int) + 1)) then (laws_FnCurves.j9 kj44 l0) else (some false)) = some r := by rw [if_pos rfl] at H; exact H
                         clear H
                         have H := H1
                         clear H1
                         by_cases c94 : (t516.length : Int) = (wrap64 ((t510.length : Int) + 1))
                         · rw [if_pos c94] at H
                           have c94b0 : ((t516.length : Int) == (wrap64 ((t510.length : Int) + 1))) = true := beq_iff_eq.mpr c94
                           have c94b1 : ((t516.length : Int) != (wrap64 ((t510.length : Int) + 1))) = false := bne_eq_false_iff_eq.mpr c94
                           clear c94
                           have H' := Aside0.mk H
                           clear H
                           go_wp2_with (first | (go_at_call 29; (with_reducible refine (spec_DurationOf.calls kj44 _ _ t510 t520 t521 _ ?side1 ?side2 A87.out).mono ?_); (case side1 => repeat (first | exact (Kd.R_reads' HO515.out).2.2 | (with_reducible refine Kd.C_alloc ?_ _) | (with_reducible refine Kd.C_drewN ?_ _) | (with_reducible refine Kd.C_drew ?_))); (case side2 => exact (Kd.R_reads' HO515.out).2.1); rintro e w' ⟨rfl, ⟨nd, rfl⟩⟩; (try first | exact ⟨rfl, _, qww _ _ _⟩ | exact ⟨rfl, _, Eq.trans (qww _ _ _) (congrArg (World.drewN _) (Nat.add_assoc _ _ _))⟩); obtain ⟨Ao95, co95, eo95⟩ := Kd.R_slice HO518.out; subst eo95) | (go_at_call 29; (with_reducible refine (spec_DurationOf.calls kj44 _ _ t516 t522 t523 _ ?side1 ?side2 A88.out).mono ?_); (case side1 => repeat (first | exact (Kd.R_reads' HO518.out).2.2 | (with_reducible refine Kd.C_alloc ?_ _) | (with_reducible refine Kd.C_drewN ?_ _) | (with_reducible refine Kd.C_drew ?_))); (case side2 => exact (Kd.R_reads' HO518.out).2.1); rintro e w' ⟨rfl, ⟨nd, rfl⟩⟩; (try first | exact ⟨rfl, _, qww _ _ _⟩ | exact ⟨rfl, _, Eq.trans (qww _ _ _) (congrArg (World.drewN _) (Nat.add_assoc _ _ _))⟩)) | (go_at_call 69; (with_reducible refine (spec_ValidMelody.calls kj44 _ _ t516 true _ ?side1 ?side2 A92.out).mono ?_); (case side1 => repeat (first | exact (Kd.R_reads' HO518.out).2.2 | (with_reducible refine Kd.C_alloc ?_ _) | (with_reducible refine Kd.C_drewN ?_ _) | (with_reducible refine Kd.C_drew ?_))); (case side2 => exact (Kd.R_reads' HO518.out).2.1); rintro e w' ⟨rfl, ⟨nd, rfl⟩⟩; (try first | exact ⟨rfl, _, qww _ _ _⟩ | exact ⟨rfl, _, Eq.trans (qww _ _ _) (congrArg (World.drewN _) (Nat.add_assoc _ _ _))⟩)))
                           repeat (go_quiet (first | (go_at_call 29; (with_reducible refine (spec_DurationOf.calls kj44 _ _ t510 t520 t521 _ ?side1 ?side2 A87.out).mono ?_); (case side1 => repeat (first | exact (Kd.R_reads' HO515.out).2.2 | (with_reducible refine Kd.C_alloc ?_ _) | (with_reducible refine Kd.C_drewN ?_ _) | (with_reducible refine Kd.C_drew ?_))); (case side2 => exact (Kd.R_reads' HO515.out).2.1); rintro e w' ⟨rfl, ⟨nd, rfl⟩⟩; (try first | exact ⟨rfl, _, qww _ _ _⟩ | exact ⟨rfl, _, Eq.trans (qww _ _ _) (congrArg (World.drewN _) (Nat.add_assoc _ _ _))⟩); obtain ⟨Ao95, co95, eo95⟩ := Kd.R_slice HO518.out; subst eo95) | (go_at_call 29; (with_reducible refine (spec_DurationOf.calls kj44 _ _ t516 t522 t523 _ ?side1 ?side2 A88.out).mono ?_); (case side1 => repeat (first | exact (Kd.R_reads' HO518.out).2.2 | (with_reducible refine Kd.C_alloc ?_ _) | (with_reducible refine Kd.C_drewN ?_ _) | (with_reducible refine Kd.C_drew ?_))); (case side2 => exact (Kd.R_reads' HO518.out).2.1); rintro e w' ⟨rfl, ⟨nd, rfl⟩⟩; (try first | exact ⟨rfl, _, qww _ _ _⟩ | exact ⟨rfl, _, Eq.trans (qww _ _ _) (congrArg (World.drewN _) (Nat.add_assoc _ _ _))⟩)) | (go_at_call 69; (with_reducible refine (spec_ValidMelody.calls kj44 _ _ t516 true _ ?side1 ?side2 A92.out).mono ?_); (case side1 => repeat (first | exact (Kd.R_reads' HO518.out).2.2 | (with_reducible refine Kd.C_alloc ?_ _) | (with_reducible refine Kd.C_drewN ?_ _) | (with_reducible refine Kd.C_drew ?_))); (case side2 => exact (Kd.R_reads' HO518.out).2.1); rintro e w' ⟨rfl, ⟨nd, rfl⟩⟩; (try first | exact ⟨rfl, _, qww _ _ _⟩ | exact ⟨rfl, _, Eq.trans (qww _ _ _) (congrArg (World.drewN _) (Nat.add_assoc _ _ _))⟩))); try go_wp2_with (first | (go_at_call 29; (with_reducible refine (spec_DurationOf.calls kj44 _ _ t510 t520 t521 _ ?side1 ?side2 A87.out).mono ?_); (case side1 => repeat (first | exact (Kd.R_reads' HO515.out).2.2 | (with_reducible refine Kd.C_alloc ?_ _) | (with_reducible refine Kd.C_drewN ?_ _) | (with_reducible refine Kd.C_drew ?_))); (case side2 => exact (Kd.R_reads' HO515.out).2.1); rintro e w' ⟨rfl, ⟨nd, rfl⟩⟩; (try first | exact ⟨rfl, _, qww _ _ _⟩ | exact ⟨rfl, _, Eq.trans (qww _ _ _) (congrArg (World.drewN _) (Nat.add_assoc _ _ _))⟩); obtain ⟨Ao95, co95, eo95⟩ := Kd.R_slice HO518.out; subst eo95) | (go_at_call 29; (with_reducible refine (spec_DurationOf.calls kj44 _ _ t516 t522 t523 _ ?side1 ?side2 A88.out).mono ?_); (case side1 => repeat (first | exact (Kd.R_reads' HO518.out).2.2 | (with_reducible refine Kd.C_alloc ?_ _) | (with_reducible refine Kd.C_drewN ?_ _) | (with_reducible refine Kd.C_drew ?_))); (case side2 => exact (Kd.R_reads' HO518.out).2.1); rintro e w' ⟨rfl, ⟨nd, rfl⟩⟩; (try first | exact ⟨rfl, _, qww _ _ _⟩ | exact ⟨rfl, _, Eq.trans (qww _ _ _) (congrArg (World.drewN _) (Nat.add_assoc _ _ _))⟩)) | (go_at_call 69; (with_reducible refine (spec_ValidMelody.calls kj44 _ _ t516 true _ ?side1 ?side2 A92.out).mono ?_); (case side1 => repeat (first | exact (Kd.R_reads' HO518.out).2.2 | (with_reducible refine Kd.C_alloc ?_ _) | (with_reducible refine Kd.C_drewN ?_ _) | (with_reducible refine Kd.C_drew ?_))); (case side2 => exact (Kd.R_reads' HO518.out).2.1); rintro e w' ⟨rfl, ⟨nd, rfl⟩⟩; (try first | exact ⟨rfl, _, qww _ _ _⟩ | exact ⟨rfl, _, Eq.trans (qww _ _ _) (congrArg (World.drewN _) (Nat.add_assoc _ _ _))⟩))))
                           go_meet
                           case rel => exact ⟨_, H', ⟨by have := HJ2.out; have := HJ9.out; have := HJ14.out; have := HJ44.out; first | omega | exact Nat.le_refl _⟩, ⟨by repeat (first | (with_reducible first | exact HB.out | apply qba | apply qbn | apply qb1) | exact HB.out)⟩⟩
                         · rw [if_neg c94] at H
                           have c94b0 : ((t516.length : Int) == (wrap64 ((t510.length : Int) + 1))) = false := beq_eq_false_iff_ne.mpr c94
                           have c94b1 : ((t516.length : Int) != (wrap64 ((t510.length : Int) + 1))) = true := bne_iff_ne.mpr c94
                           obtain rfl := Option.some.inj H
                           go_wp2_with (first | (go_at_call 29; (with_reducible refine (spec_DurationOf.calls kj44 _ _ t510 t520 t521 _ ?side1 ?side2 A87.out).mono ?_); (case side1 => repeat (first | exact (Kd.R_reads' HO515.out).2.2 | (with_reducible refine Kd.C_alloc ?_ _) | (with_reducible refine Kd.C_drewN ?_ _) | (with_reducible refine Kd.C_drew ?_))); (case side2 => exact (Kd.R_reads' HO515.out).2.1); rintro e w' ⟨rfl, ⟨nd, rfl⟩⟩; (try first | exact ⟨rfl, _, qww _ _ _⟩ | exact ⟨rfl, _, Eq.trans (qww _ _ _) (congrArg (World.drewN _) (Nat.add_assoc _ _ _))⟩); obtain ⟨Ao96, co96, eo96⟩ := Kd.R_slice HO518.out; subst eo96) | (go_at_call 29; (with_reducible refine (spec_DurationOf.calls kj44 _ _ t516 t522 t523 _ ?side1 ?side2 A88.out).mono ?_); (case side1 => repeat (first | exact (Kd.R_reads' HO518.out).2.2 | (with_reducible refine Kd.C_alloc ?_ _) | (with_reducible refine Kd.C_drewN ?_ _) | (with_reducible refine Kd.C_drew ?_))); (case side2 => exact (Kd.R_reads' HO518.out).2.1); rintro e w' ⟨rfl, ⟨nd, rfl⟩⟩; (try first | exact ⟨rfl, _, qww _ _ _⟩ | exact ⟨rfl, _, Eq.trans (qww _ _ _) (congrArg (World.drewN _) (Nat.add_assoc _ _ _))⟩)) | (go_at_call 69; (with_reducible refine (spec_ValidMelody.calls kj44 _ _ t516 true _ ?side1 ?side2 A92.out).mono ?_); (case side1 => repeat (first | exact (Kd.R_reads' HO518.out).2.2 | (with_reducible refine Kd.C_alloc ?_ _) | (with_reducible refine Kd.C_drewN ?_ _) | (with_reducible refine Kd.C_drew ?_))); (case side2 => exact (Kd.R_reads' HO518.out).2.1); rintro e w' ⟨rfl, ⟨nd, rfl⟩⟩; (try first | exact ⟨rfl, _, qww _ _ _⟩ | exact ⟨rfl, _, Eq.trans (qww _ _ _) (congrArg (World.drewN _) (Nat.add_assoc _ _ _))⟩)))
                           repeat (go_quiet (first | (go_at_call 29; (with_reducible refine (spec_DurationOf.calls kj44 _ _ t510 t520 t521 _ ?side1 ?side2 A87.out).mono ?_); (case side1 => repeat (first | exact (Kd.R_reads' HO515.out).2.2 | (with_reducible refine Kd.C_alloc ?_ _) | (with_reducible refine Kd.C_drewN ?_ _) | (with_reducible refine Kd.C_drew ?_))); (case side2 => exact (Kd.R_reads' HO515.out).2.1); rintro e w' ⟨rfl, ⟨nd, rfl⟩⟩; (try first | exact ⟨rfl, _, qww _ _ _⟩ | exact ⟨rfl, _, Eq.trans (qww _ _ _) (congrArg (World.drewN _) (Nat.add_assoc _ _ _))⟩); obtain ⟨Ao96, co96, eo96⟩ := Kd.R_slice HO518.out; subst eo96) | (go_at_call 29; (with_reducible refine (spec_DurationOf.calls kj44 _ _ t516 t522 t523 _ ?side1 ?side2 A88.out).mono ?_); (case side1 => repeat (first | exact (Kd.R_reads' HO518.out).2.2 | (with_reducible refine Kd.C_alloc ?_ _) | (with_reducible refine Kd.C_drewN ?_ _) | (with_reducible refine Kd.C_drew ?_))); (case side2 => exact (Kd.R_reads' HO518.out).2.1); rintro e w' ⟨rfl, ⟨nd, rfl⟩⟩; (try first | exact ⟨rfl, _, qww _ _ _⟩ | exact ⟨rfl, _, Eq.trans (qww _ _ _) (congrArg (World.drewN _) (Nat.add_assoc _ _ _))⟩)) | (go_at_call 69; (with_reducible refine (spec_ValidMelody.calls kj44 _ _ t516 true _ ?side1 ?side2 A92.out).mono ?_); (case side1 => repeat (first | exact (Kd.R_reads' HO518.out).2.2 | (with_reducible refine Kd.C_alloc ?_ _) | (with_reducible refine Kd.C_drewN ?_ _) | (with_reducible refine Kd.C_drew ?_))); (case side2 => exact (Kd.R_reads' HO518.out).2.1); rintro e w' ⟨rfl, ⟨nd, rfl⟩⟩; (try first | exact ⟨rfl, _, qww _ _ _⟩ | exact ⟨rfl, _, Eq.trans (qww _ _ _) (congrArg (World.drewN _) (Nat.add_assoc _ _ _))⟩))); try go_wp2_with (first | (go_at_call 29; (with_reducible refine (spec_DurationOf.calls kj44 _ _ t510 t520 t521 _ ?side1 ?side2 A87.out).mono ?_); (case side1 => repeat (first | exact (Kd.R_reads' HO515.out).2.2 | (with_reducible refine Kd.C_alloc ?_ _) | (with_reducible refine Kd.C_drewN ?_ _) | (with_reducible refine Kd.C_drew ?_))); (case side2 => exact (Kd.R_reads' HO515.out).2.1); rintro e w' ⟨rfl, ⟨nd, rfl⟩⟩; (try first | exact ⟨rfl, _, qww _ _ _⟩ | exact ⟨rfl, _, Eq.trans (qww _ _ _) (congrArg (World.drewN _) (Nat.add_assoc _ _ _))⟩); obtain ⟨Ao96, co96, eo96⟩ := Kd.R_slice HO518.out; subst eo96) | (go_at_call 29; (with_reducible refine (spec_DurationOf.calls kj44 _ _ t516 t522 t523 _ ?side1 ?side2 A88.out).mono ?_); (case side1 => repeat (first | exact (Kd.R_reads' HO518.out).2.2 | (with_reducible refine Kd.C_alloc ?_ _) | (with_reducible refine Kd.C_drewN ?_ _) | (with_reducible refine Kd.C_drew ?_))); (case side2 => exact (Kd.R_reads' HO518.out).2.1); rintro e w' ⟨rfl, ⟨nd, rfl⟩⟩; (try first | exact ⟨rfl, _, qww _ _ _⟩ | exact ⟨rfl, _, Eq.trans (qww _ _ _) (congrArg (World.drewN _) (Nat.add_assoc _ _ _))⟩)) | (go_at_call 69; (with_reducible refine (spec_ValidMelody.calls kj44 _ _ t516 true _ ?side1 ?side2 A92.out).mono ?_); (case side1 => repeat (first | exact (Kd.R_reads' HO518.out).2.2 | (with_reducible refine Kd.C_alloc ?_ _) | (with_reducible refine Kd.C_drewN ?_ _) | (with_reducible refine Kd.C_drew ?_))); (case side2 => exact (Kd.R_reads' HO518.out).2.1); rintro e w' ⟨rfl, ⟨nd, rfl⟩⟩; (try first | exact ⟨rfl, _, qww _ _ _⟩ | exact ⟨rfl, _, Eq.trans (qww _ _ _) (congrArg (World.drewN _) (Nat.add_assoc _ _ _))⟩))))
                           go_ret
                           exact ⟨by first | rfl | (simp [errW_none, errW_some] <;> rfl) | (simp [*, errW_none, errW_some] <;> rfl), by repeat (first | (with_reducible first | exact HB.out | apply qba | apply qbn | apply qb1) | exact HB.out)⟩
                       · replace c93 := Bool.eq_false_iff.mpr c93
                         subst c93
                         have H1 : (some false) = some r := by rw [if_neg (show ¬ (false = true) by decide)] at H; exact H
                         clear H
                         have H := H1
                         clear H1
                         obtain rfl := Option.some.inj H
                         go_wp2_with (first | (go_at_call 29; (with_reducible refine (spec_DurationOf.calls kj44 _ _ t510 t520 t521 _ ?side1 ?side2 A87.out).mono ?_); (case side1 => repeat (first | exact (Kd.R_reads' HO515.out).2.2 | (with_reducible refine Kd.C_alloc ?_ _) | (with_reducible refine Kd.C_drewN ?_ _) | (with_reducible refine Kd.C_drew ?_))); (case side2 => exact (Kd.R_reads' HO515.out).2.1); rintro e w' ⟨rfl, ⟨nd, rfl⟩⟩; (try first | exact ⟨rfl, _, qww _ _ _⟩ | exact ⟨rfl, _, Eq.trans (qww _ _ _) (congrArg (World.drewN _) (Nat.add_assoc _ _ _))⟩); obtain ⟨Ao97, co97, eo97⟩ := Kd.R_slice HO518.out; subst eo97) | (go_at_call 29; (with_reducible refine (spec_DurationOf.calls kj44 _ _ t516 t522 t523 _ ?side1 ?side2 A88.out).mono ?_); (case side1 => repeat (first | exact (Kd.R_reads' HO518.out).2.2 | (with_reducible refine Kd.C_alloc ?_ _) | (with_reducible refine Kd.C_drewN ?_ _) | (with_reducible refine Kd.C_drew ?_))); (case side2 => exact (Kd.R_reads' HO518.out).2.1); rintro e w' ⟨rfl, ⟨nd, rfl⟩⟩; (try first | exact ⟨rfl, _, qww _ _ _⟩ | exact ⟨rfl, _, Eq.trans (qww _ _ _) (congrArg (World.drewN _) (Nat.add_assoc _ _ _))⟩)) | (go_at_call 69; (with_reducible refine (spec_ValidMelody.calls kj44 _ _ t516 false _ ?side1 ?side2 A92.out).mono ?_); (case side1 => repeat (first | exact (Kd.R_reads' HO518.out).2.2 | (with_reducible refine Kd.C_alloc ?_ _) | (with_reducible refine Kd.C_drewN ?_ _) | (with_reducible refine Kd.C_drew ?_))); (case side2 => exact (Kd.R_reads' HO518.out).2.1); rintro e w' ⟨rfl, ⟨nd, rfl⟩⟩; (try first | exact ⟨rfl, _, qww _ _ _⟩ | exact ⟨rfl, _, Eq.trans (qww _ _ _) (congrArg (World.drewN _) (Nat.add_assoc _ _ _))⟩)))
                         repeat (go_quiet (first | (go_at_call 29; (with_reducible refine (spec_DurationOf.calls kj44 _ _ t510 t520 t521 _ ?side1 ?side2 A87.out).mono ?_); (case side1 => repeat (first | exact (Kd.R_reads' HO515.out).2.2 | (with_reducible refine Kd.C_alloc ?_ _) | (with_reducible refine Kd.C_drewN ?_ _) | (with_reducible refine Kd.C_drew ?_))); (case side2 => exact (Kd.R_reads' HO515.out).2.1); rintro e w' ⟨rfl, ⟨nd, rfl⟩⟩; (try first | exact ⟨rfl, _, qww _ _ _⟩ | exact ⟨rfl, _, Eq.trans (qww _ _ _) (congrArg (World.drewN _) (Nat.add_assoc _ _ _))⟩); obtain ⟨Ao97, co97, eo97⟩ := Kd.R_slice HO518.out; subst eo97) | (go_at_call 29; (with_reducible refine (spec_DurationOf.calls kj44 _ _ t516 t522 t523 _ ?side1 ?side2 A88.out).mono ?_); (case side1 => repeat (first | exact (Kd.R_reads' HO518.out).2.2 | (with_reducible refine Kd.C_alloc ?_ _) | (with_reducible refine Kd.C_drewN ?_ _) | (with_reducible refine Kd.C_drew ?_))); (case side2 => exact (Kd.R_reads' HO518.out).2.1); rintro e w' ⟨rfl, ⟨nd, rfl⟩⟩; (try first | exact ⟨rfl, _, qww _ _ _⟩ | exact ⟨rfl, _, Eq.trans (qww _ _ _) (congrArg (World.drewN _) (Nat.add_assoc _ _ _))⟩)) | (go_at_call 69; (with_reducible refine (spec_ValidMelody.calls kj44 _ _ t516 false _ ?side1 ?side2 A92.out).mono ?_); (case side1 => repeat (first | exact (Kd.R_reads' HO518.out).2.2 | (with_reducible refine Kd.C_alloc ?_ _) | (with_reducible refine Kd.C_drewN ?_ _) | (with_reducible refine Kd.C_drew ?_))); (case side2 => exact (Kd.R_reads' HO518.out).2.1); rintro e w' ⟨rfl, ⟨nd, rfl⟩⟩; (try first | exact ⟨rfl, _, qww _ _ _⟩ | exact ⟨rfl, _, Eq.trans (qww _ _ _) (congrArg (World.drewN _) (Nat.add_assoc _ _ _))⟩))); try go_wp2_with (first | (go_at_call 29; (with_reducible refine (spec_DurationOf.calls kj44 _ _ t510 t520 t521 _ ?side1 ?side2 A87.out).mono ?_); (case side1 => repeat (first | exact (Kd.R_reads' HO515.out).2.2 | (with_reducible refine Kd.C_alloc ?_ _) | (with_reducible refine Kd.C_drewN ?_ _) | (with_reducible refine Kd.C_drew ?_))); (case side2 => exact (Kd.R_reads' HO515.out).2.1); rintro e w' ⟨rfl, ⟨nd, rfl⟩⟩; (try first | exact ⟨rfl, _, qww _ _ _⟩ | exact ⟨rfl, _, Eq.trans (qww _ _ _) (congrArg (World.drewN _) (Nat.add_assoc _ _ _))⟩); obtain ⟨Ao97, co97, eo97⟩ := Kd.R_slice HO518.out; subst eo97) | (go_at_call 29; (with_reducible refine (spec_DurationOf.calls kj44 _ _ t516 t522 t523 _ ?side1 ?side2 A88.out).mono ?_); (case side1 => repeat (first | exact (Kd.R_reads' HO518.out).2.2 | (with_reducible refine Kd.C_alloc ?_ _) | (with_reducible refine Kd.C_drewN ?_ _) | (with_reducible refine Kd.C_drew ?_))); (case side2 => exact (Kd.R_reads' HO518.out).2.1); rintro e w' ⟨rfl, ⟨nd, rfl⟩⟩; (try first | exact ⟨rfl, _, qww _ _ _⟩ | exact ⟨rfl, _, Eq.trans (qww _ _ _) (congrArg (World.drewN _) (Nat.add_assoc _ _ _))⟩)) | (go_at_call 69; (with_reducible refine (spec_ValidMelody.calls kj44 _ _ t516 false _ ?side1 ?side2 A92.out).mono ?_); (case side1 => repeat (first | exact (Kd.R_reads' HO518.out).2.2 | (with_reducible refine Kd.C_alloc ?_ _) | (with_reducible refine Kd.C_drewN ?_ _) | (with_reducible refine Kd.C_drew ?_))); (case side2 => exact (Kd.R_reads' HO518.out).2.1); rintro e w' ⟨rfl, ⟨nd, rfl⟩⟩; (try first | exact ⟨rfl, _, qww _ _ _⟩ | exact ⟨rfl, _, Eq.trans (qww _ _ _) (congrArg (World.drewN _) (Nat.add_assoc _ _ _))⟩))))
                         go_ret
                         exact ⟨by first | rfl | (simp [errW_none, errW_some] <;> rfl) | (simp [*, errW_none, errW_some] <;> rfl), by repeat (first | (with_reducible first | exact HB.out | apply qba | apply qbn | apply qb1) | exact HB.out)⟩
                     · rw [if_neg c91] at H
                       have c91b0 : (t520 == t522) = false := beq_eq_false_iff_ne.mpr c91
                       have c91b1 : (t520 != t522) = true := bne_iff_ne.mpr c91
                       obtain rfl := Option.some.inj H
                       go_wp2_with (first | (go_at_call 29; (with_reducible refine (spec_DurationOf.calls kj44 _ _ t510 t520 t521 _ ?side1 ?side2 A87.out).mono ?_); (case side1 => repeat (first | exact (Kd.R_reads' HO515.out).2.2 | (with_reducible refine Kd.C_alloc ?_ _) | (with_reducible refine Kd.C_drewN ?_ _) | (with_reducible refine Kd.C_drew ?_))); (case side2 => exact (Kd.R_reads' HO515.out).2.1); rintro e w' ⟨rfl, ⟨nd, rfl⟩⟩; (try first | exact ⟨rfl, _, qww _ _ _⟩ | exact ⟨rfl, _, Eq.trans (qww _ _ _) (congrArg (World.drewN _) (Nat.add_assoc _ _ _))⟩); obtain ⟨Ao98, co98, eo98⟩ := Kd.R_slice HO518.out; subst eo98) | (go_at_call 29; (with_reducible refine (spec_DurationOf.calls kj44 _ _ t516 t522 t523 _ ?side1 ?side2 A88.out).mono ?_); (case side1 => repeat (first | exact (Kd.R_reads' HO518.out).2.2 | (with_reducible refine Kd.C_alloc ?_ _) | (with_reducible refine Kd.C_drewN ?_ _) | (with_reducible refine Kd.C_drew ?_))); (case side2 => exact (Kd.R_reads' HO518.out).2.1); rintro e w' ⟨rfl, ⟨nd, rfl⟩⟩; (try first | exact ⟨rfl, _, qww _ _ _⟩ | exact ⟨rfl, _, Eq.trans (qww _ _ _) (congrArg (World.drewN _) (Nat.add_assoc _ _ _))⟩)))
                       repeat (go_quiet (first | (go_at_call 29; (with_reducible refine (spec_DurationOf.calls kj44 _ _ t510 t520 t521 _ ?side1 ?side2 A87.out).mono ?_); (case side1 => repeat (first | exact (Kd.R_reads' HO515.out).2.2 | (with_reducible refine Kd.C_alloc ?_ _) | (with_reducible refine Kd.C_drewN ?_ _) | (with_reducible refine Kd.C_drew ?_))); (case side2 => exact (Kd.R_reads' HO515.out).2.1); rintro e w' ⟨rfl, ⟨nd, rfl⟩⟩; (try first | exact ⟨rfl, _, qww _ _ _⟩ | exact ⟨rfl, _, Eq.trans (qww _ _ _) (congrArg (World.drewN _) (Nat.add_assoc _ _ _))⟩); obtain ⟨Ao98, co98, eo98⟩ := Kd.R_slice HO518.out; subst eo98) | (go_at_call 29; (with_reducible refine (spec_DurationOf.calls kj44 _ _ t516 t522 t523 _ ?side1 ?side2 A88.out).mono ?_); (case side1 => repeat (first | exact (Kd.R_reads' HO518.out).2.2 | (with_reducible refine Kd.C_alloc ?_ _) | (with_reducible refine Kd.C_drewN ?_ _) | (with_reducible refine Kd.C_drew ?_))); (case side2 => exact (Kd.R_reads' HO518.out).2.1); rintro e w' ⟨rfl, ⟨nd, rfl⟩⟩; (try first | exact ⟨rfl, _, qww _ _ _⟩ | exact ⟨rfl, _, Eq.trans (qww _ _ _) (congrArg (World.drewN _) (Nat.add_assoc _ _ _))⟩))); try go_wp2_with (first | (go_at_call 29; (with_reducible refine (spec_DurationOf.calls kj44 _ _ t510 t520 t521 _ ?side1 ?side2 A87.out).mono ?_); (case side1 => repeat (first | exact (Kd.R_reads' HO515.out).2.2 | (with_reducible refine Kd.C_alloc ?_ _) | (with_reducible refine Kd.C_drewN ?_ _) | (with_reducible refine Kd.C_drew ?_))); (case side2 => exact (Kd.R_reads' HO515.out).2.1); rintro e w' ⟨rfl, ⟨nd, rfl⟩⟩; (try first | exact ⟨rfl, _, qww _ _ _⟩ | exact ⟨rfl, _, Eq.trans (qww _ _ _) (congrArg (World.drewN _) (Nat.add_assoc _ _ _))⟩); obtain ⟨Ao98, co98, eo98⟩ := Kd.R_slice HO518.out; subst eo98) | (go_at_call 29; (with_reducible refine (spec_DurationOf.calls kj44 _ _ t516 t522 t523 _ ?side1 ?side2 A88.out).mono ?_); (case side1 => repeat (first | exact (Kd.R_reads' HO518.out).2.2 | (with_reducible refine Kd.C_alloc ?_ _) | (with_reducible refine Kd.C_drewN ?_ _) | (with_reducible refine Kd.C_drew ?_))); (case side2 => exact (Kd.R_reads' HO518.out).2.1); rintro e w' ⟨rfl, ⟨nd, rfl⟩⟩; (try first | exact ⟨rfl, _, qww _ _ _⟩ | exact ⟨rfl, _, Eq.trans (qww _ _ _) (congrArg (World.drewN _) (Nat.add_assoc _ _ _))⟩))))
                       go_ret
                       exact ⟨by first | rfl | (simp [errW_none, errW_some] <;> rfl) | (simp [*, errW_none, errW_some] <;> rfl), by repeat (first | (with_reducible first | exact HB.out | apply qba | apply qbn | apply qb1) | exact HB.out)⟩
                   · rw [if_neg c90] at H
                     have c90b0 : (t523 == 0) = false := beq_eq_false_iff_ne.mpr c90
                     have c90b1 : (t523 != 0) = true := bne_iff_ne.mpr c90
                     obtain rfl := Option.some.inj H
                     go_wp2_with (first | (go_at_call 29; (with_reducible refine (spec_DurationOf.calls kj44 _ _ t510 t520 t521 _ ?side1 ?side2 A87.out).mono ?_); (case side1 => repeat (first | exact (Kd.R_reads' HO515.out).2.2 | (with_reducible refine Kd.C_alloc ?_ _) | (with_reducible refine Kd.C_drewN ?_ _) | (with_reducible refine Kd.C_drew ?_))); (case side2 => exact (Kd.R_reads' HO515.out).2.1); rintro e w' ⟨rfl, ⟨nd, rfl⟩⟩; (try first | exact ⟨rfl, _, qww _ _ _⟩ | exact ⟨rfl, _, Eq.trans (qww _ _ _) (congrArg (World.drewN _) (Nat.add_assoc _ _ _))⟩); obtain ⟨Ao99, co99, eo99⟩ := Kd.R_slice HO518.out; subst eo99) | (go_at_call 29; (with_reducible refine (spec_DurationOf.calls kj44 _ _ t516 t522 t523 _ ?side1 ?side2 A88.out).mono ?_); (case side1 => repeat (first | exact (Kd.R_reads' HO518.out).2.2 | (with_reducible refine Kd.C_alloc ?_ _) | (with_reducible refine Kd.C_drewN ?_ _) | (with_reducible refine Kd.C_drew ?_))); (case side2 => exact (Kd.R_reads' HO518.out).2.1); rintro e w' ⟨rfl, ⟨nd, rfl⟩⟩; (try first | exact ⟨rfl, _, qww _ _ _⟩ | exact ⟨rfl, _, Eq.trans (qww _ _ _) (congrArg (World.drewN _) (Nat.add_assoc _ _ _))⟩)))
                     repeat (go_quiet (first | (go_at_call 29; (with_reducible refine (spec_DurationOf.calls kj44 _ _ t510 t520 t521 _ ?side1 ?side2 A87.out).mono ?_); (case side1 => repeat (first | exact (Kd.R_reads' HO515.out).2.2 | (with_reducible refine Kd.C_alloc ?_ _) | (with_reducible refine Kd.C_drewN ?_ _) | (with_reducible refine Kd.C_drew ?_))); (case side2 => exact (Kd.R_reads' HO515.out).2.1); rintro e w' ⟨rfl, ⟨nd, rfl⟩⟩; (try first | exact ⟨rfl, _, qww _ _ _⟩ | exact ⟨rfl, _, Eq.trans (qww _ _ _) (congrArg (World.drewN _) (Nat.add_assoc _ _ _))⟩); obtain ⟨Ao99, co99, eo99⟩ := Kd.R_slice HO518.out; subst eo99) | (go_at_call 29; (with_reducible refine (spec_DurationOf.calls kj44 _ _ t516 t522 t523 _ ?side1 ?side2 A88.out).mono ?_); (case side1 => repeat (first | exact (Kd.R_reads' HO518.out).2.2 | (with_reducible refine Kd.C_alloc ?_ _) | (with_reducible refine Kd.C_drewN ?_ _) | (with_reducible refine Kd.C_drew ?_))); (case side2 => exact (Kd.R_reads' HO518.out).2.1); rintro e w' ⟨rfl, ⟨nd, rfl⟩⟩; (try first | exact ⟨rfl, _, qww _ _ _⟩ | exact ⟨rfl, _, Eq.trans (qww _ _ _) (congrArg (World.drewN _) (Nat.add_assoc _ _ _))⟩))); try go_wp2_with (first | (go_at_call 29; (with_reducible refine (spec_DurationOf.calls kj44 _ _ t510 t520 t521 _ ?side1 ?side2 A87.out).mono ?_); (case side1 => repeat (first | exact (Kd.R_reads' HO515.out).2.2 | (with_reducible refine Kd.C_alloc ?_ _) | (with_reducible refine Kd.C_drewN ?_ _) | (with_reducible refine Kd.C_drew ?_))); (case side2 => exact (Kd.R_reads' HO515.out).2.1); rintro e w' ⟨rfl, ⟨nd, rfl⟩⟩; (try first | exact ⟨rfl, _, qww _ _ _⟩ | exact ⟨rfl, _, Eq.trans (qww _ _ _) (congrArg (World.drewN _) (Nat.add_assoc _ _ _))⟩); obtain ⟨Ao99, co99, eo99⟩ := Kd.R_slice HO518.out; subst eo99) | (go_at_call 29; (with_reducible refine (spec_DurationOf.calls kj44 _ _ t516 t522 t523 _ ?side1 ?side2 A88.out).mono ?_); (case side1 => repeat (first | exact (Kd.R_reads' HO518.out).2.2 | (with_reducible refine Kd.C_alloc ?_ _) | (with_reducible refine Kd.C_drewN ?_ _) | (with_reducible refine Kd.C_drew ?_))); (case side2 => exact (Kd.R_reads' HO518.out).2.1); rintro e w' ⟨rfl, ⟨nd, rfl⟩⟩; (try first | exact ⟨rfl, _, qww _ _ _⟩ | exact ⟨rfl, _, Eq.trans (qww _ _ _) (congrArg (World.drewN _) (Nat.add_assoc _ _ _))⟩))))
                     go_ret
                     exact ⟨by first | rfl | (simp [errW_none, errW_some] <;> rfl) | (simp [*, errW_none, errW_some] <;> rfl), by repeat (first | (with_reducible first | exact HB.out | apply qba | apply qbn | apply qb1) | exact HB.out)⟩
                · rw [if_neg c89] at H
                  have c89b0 : (t521 == 0) = false := beq_eq_false_iff_ne.mpr c89
                  have c89b1 : (t521 != 0) = true := bne_iff_ne.mpr c89
                  obtain rfl := Option.some.inj H
                  go_wp2_with (first | (go_at_call 29; (with_reducible refine (spec_DurationOf.calls kj44 _ _ t510 t520 t521 _ ?side1 ?side2 A87.out).mono ?_); (case side1 => repeat (first | exact (Kd.R_reads' HO515.out).2.2 | (with_reducible refine Kd.C_alloc ?_ _) | (with_reducible refine Kd.C_drewN ?_ _) | (with_reducible refine Kd.C_drew ?_))); (case side2 => exact (Kd.R_reads' HO515.out).2.1); rintro e w' ⟨rfl, ⟨nd, rfl⟩⟩; (try first | exact ⟨rfl, _, qww _ _ _⟩ | exact ⟨rfl, _, Eq.trans (qww _ _ _) (congrArg (World.drewN _) (Nat.add_assoc _ _ _))⟩); obtain ⟨Ao100, co100, eo100⟩ := Kd.R_slice HO518.out; subst eo100) | (go_at_call 29; (with_reducible refine (spec_DurationOf.calls kj44 _ _ t516 t522 t523 _ ?side1 ?side2 A88.out).mono ?_); (case side1 => repeat (first | exact (Kd.R_reads' HO518.out).2.2 | (with_reducible refine Kd.C_alloc ?_ _) | (with_reducible refine Kd.C_drewN ?_ _) | (with_reducible refine Kd.C_drew ?_))); (case side2 => exact (Kd.R_reads' HO518.out).2.1); rintro e w' ⟨rfl, ⟨nd, rfl⟩⟩; (try first | exact ⟨rfl, _, qww _ _ _⟩ | exact ⟨rfl, _, Eq.trans (qww _ _ _) (congrArg (World.drewN _) (Nat.add_assoc _ _ _))⟩)))
                  repeat (go_quiet (first | (go_at_call 29; (with_reducible refine (spec_DurationOf.calls kj44 _ _ t510 t520 t521 _ ?side1 ?side2 A87.out).mono ?_); (case side1 => repeat (first | exact (Kd.R_reads' HO515.out).2.2 | (with_reducible refine Kd.C_alloc ?_ _) | (with_reducible refine Kd.C_drewN ?_ _) | (with_reducible refine Kd.C_drew ?_))); (case side2 => exact (Kd.R_reads' HO515.out).2.1); rintro e w' ⟨rfl, ⟨nd, rfl⟩⟩; (try first | exact ⟨rfl, _, qww _ _ _⟩ | exact ⟨rfl, _, Eq.trans (qww _ _ _) (congrArg (World.drewN _) (Nat.add_assoc _ _ _))⟩); obtain ⟨Ao100, co100, eo100⟩ := Kd.R_slice HO518.out; subst eo100) | (go_at_call 29; (with_reducible refine (spec_DurationOf.calls kj44 _ _ t516 t522 t523 _ ?side1 ?side2 A88.out).mono ?_); (case side1 => repeat (first | exact (Kd.R_reads' HO518.out).2.2 | (with_reducible refine Kd.C_alloc ?_ _) | (with_reducible refine Kd.C_drewN ?_ _) | (with_reducible refine Kd.C_drew ?_))); (case side2 => exact (Kd.R_reads' HO518.out).2.1); rintro e w' ⟨rfl, ⟨nd, rfl⟩⟩; (try first | exact ⟨rfl, _, qww _ _ _⟩ | exact ⟨rfl, _, Eq.trans (qww _ _ _) (congrArg (World.drewN _) (Nat.add_assoc _ _ _))⟩))); try go_wp2_with (first | (go_at_call 29; (with_reducible refine (spec_DurationOf.calls kj44 _ _ t510 t520 t521 _ ?side1 ?side2 A87.out).mono ?_); (case side1 => repeat (first | exact (Kd.R_reads' HO515.out).2.2 | (with_reducible refine Kd.C_alloc ?_ _) | (with_reducible refine Kd.C_drewN ?_ _) | (with_reducible refine Kd.C_drew ?_))); (case side2 => exact (Kd.R_reads' HO515.out).2.1); rintro e w' ⟨rfl, ⟨nd, rfl⟩⟩; (try first | exact ⟨rfl, _, qww _ _ _⟩ | exact ⟨rfl, _, Eq.trans (qww _ _ _) (congrArg (World.drewN _) (Nat.add_assoc _ _ _))⟩); obtain ⟨Ao100, co100, eo100⟩ := Kd.R_slice HO518.out; subst eo100) | (go_at_call 29; (with_reducible refine (spec_DurationOf.calls kj44 _ _ t516 t522 t523 _ ?side1 ?side2 A88.out).mono ?_); (case side1 => repeat (first | exact (Kd.R_reads' HO518.out).2.2 | (with_reducible refine Kd.C_alloc ?_ _) | (with_reducible refine Kd.C_drewN ?_ _) | (with_reducible refine Kd.C_drew ?_))); (case side2 => exact (Kd.R_reads' HO518.out).2.1); rintro e w' ⟨rfl, ⟨nd, rfl⟩⟩; (try first | exact ⟨rfl, _, qww _ _ _⟩ | exact ⟨rfl, _, Eq.trans (qww _ _ _) (congrArg (World.drewN _) (Nat.add_assoc _ _ _))⟩))))
                  go_ret
                  exact ⟨by first | rfl | (simp [errW_none, errW_some] <;> rfl) | (simp [*, errW_none, errW_some] <;> rfl), by repeat (first | (with_reducible first | exact HB.out | apply qba | apply qbn | apply qb1) | exact HB.out)⟩
             · rw [if_neg c86] at H
               have c86b0 : (t519 == 0) = false := beq_eq_false_iff_ne.mpr c86
               have c86b1 : (t519 != 0) = true := bne_iff_ne.mpr c86
               (first | rw [c86b0] | (simp only [i64_w, i32_w]; rw [c86b0]) | skip)
               have H' := Aside0.mk H
               clear H
               go_wp2
               repeat (go_quiet (fail); try go_wp2)
               go_meet
               case rel => exact ⟨_, H', ⟨by have := HJ2.out; have := HJ9.out; have := HJ14.out; have := HJ44.out; first | omega | exact Nat.le_refl _⟩, ⟨by repeat (first | (with_reducible first | exact HB.out | apply qba | apply qbn | apply qb1) | exact HB.out)⟩⟩
            case rest => as_aux_lemma =>
             clear HC82
             try clear c1
             try clear c2
             try clear p2
             try clear c3
             try clear c4
             try clear p4
             try clear q4
             try clear hx4
             try clear qi4
             try clear c5
             try clear p5
             try clear q5
             try clear hx5
             try clear qi5
             try clear c6
             try clear p6
             try clear c7
             try clear c8
             try clear c9
             try clear c14
             try clear c14b0
             try clear c14b1
             try clear c16
             try clear c18
             try clear c18b0
             try clear c18b1
             try clear c18b2
             try clear c19
             try clear c19b0
             try clear c19b1
             try clear c20
             try clear c20b0
             try clear c20b1
             try clear c21
             try clear c21b0
             try clear c21b1
             try clear c23
             try clear c23b0
             try clear c24
             try clear c24b0
             try clear c25
             try clear c25b0
             try clear c29
             try clear c30
             try clear c30b0
             try clear c30b1
             try clear c31
             try clear c31b0
             try clear c32
             try clear c32b0
             try clear c35
             try clear c35b0
             try clear c36
             try clear c36b0
             try clear c37
             try clear c37b0
             try clear c39
             try clear c39b0
             try clear c48
             try clear c48b0
             try clear c48b1
             try clear p48
             try clear q48
             try clear hx48
             try clear p49
             try clear q49
             try clear hx49
             try clear qi49
             try clear c50
             try clear c50b0
             try clear c50b1
             try clear p50
             try clear q50
             try clear hx50
             try clear qi50
             try clear c51
             try clear c51b0
             try clear c51b1
             try clear c51b2
             try clear c53
             try clear c53b0
             try clear c53b1
             try clear c56
             try clear c57
             try clear c57b0
             try clear c58
             try clear c58b0
             try clear c59
             try clear c59b0
             try clear c61
             try clear c61b0
             try clear c62
             try clear c62b0
             try clear c63
             try clear c63b0
             try clear p64
             try clear c65
             try clear c65b0
             try clear c66
             try clear c66b0
             try clear c70
             try clear c70b0
             try clear c71
             try clear c71b0
             try clear c73
             try clear c73b0
             try clear c74
             try clear c74b0
             try clear c75
             try clear c75b0
             try clear c86
             try clear c86b0
             try clear c86b1
             try clear c89
             try clear c89b0
             try clear c89b1
             try clear c90
             try clear c90b0
             try clear c90b1
             try clear c91
             try clear c91b0
             try clear c91b1
             try clear c93
             try clear c94
             try clear c94b0
             try clear c94b1
             try clear hx486_0
             try clear hx487_0
             try clear hx488_0
             try clear hx489_0
             try clear hx490_0
             try clear hx491_0
             try clear hx492_0
             try clear hx493_0
             try clear hx494_0
             try clear hx495_0
             try clear hx503_0
             try clear hx504_0
             try clear hx505_0
             try clear hx506_0
             try clear hx507_0
             try clear hx508_0
             try clear hx509_0
             try clear p2
             try clear p4
             try clear p48
             try clear p486
             try clear p487
             try clear p488
             try clear p489
             try clear p49
             try clear p490
             try clear p491
             try clear p492
             try clear p493
             try clear p494
             try clear p495
             try clear p5
             try clear p50
             try clear p503
             try clear p504
             try clear p505
             try clear p506
             try clear p507
             try clear p508
             try clear p509
             try clear p6
             try clear p64
             try clear q4
             try clear q48
             try clear q486
             try clear q487
             try clear q488
             try clear q489
             try clear q49
             try clear q490
             try clear q491
             try clear q492
             try clear q493
             try clear q494
             try clear q495
             try clear q5
             try clear q50
             try clear q503
             try clear q504
             try clear q505
             try clear q506
             try clear q507
             try clear q508
             try clear q509
             obtain ⟨kq, HA, HJ81, HB⟩ := hcut
             cases kq with
             | zero => exact absurd HA.out (by simp [laws_FnCurves.j9])
             | succ kj81 =>
              have H := HA.out
              clear HA
              simp only [laws_FnCurves.j9] at H
              replace H := Option.bind_eq_some_iff.mp H
              obtain ⟨⟨t525, t526, t527, t528⟩, A1010, H⟩ := H
              replace H : ((impl_TrillNote.f kj81 t525 t526 t527 t528).bind fun bt531 => (if bt531.2 = 0 then ((spec_DurationOf.f kj81 t525).bind fun bt535 => ((spec_DurationOf.f kj81 bt531.1).bind fun bt537 => (if bt535.2 = 0 then (if bt537.2 = 0 then (if bt535.1 = bt537.1 then ((spec_ValidMelody.f kj81 bt531.1).bind fun t539 => (some t539)) else (some false)) else (some false)) else (some false)))) else (some ((bt531.1.length : Int) == 0)))) = some r := H
              have A101 := Aside0.mk A1010
              clear A1010
              replace H := Option.bind_eq_some_iff.mp H
              obtain ⟨⟨t531, t534⟩, A1020, H⟩ := H
              replace H : (if t534 = 0 then ((spec_DurationOf.f kj81 t525).bind fun bt535 => ((spec_DurationOf.f kj81 t531).bind fun bt537 => (if bt535.2 = 0 then (if bt537.2 = 0 then (if bt535.1 = bt537.1 then ((spec_ValidMelody.f kj81 t531).bind fun t539 => (some t539)) else (some false)) else (some false)) else (some false)))) else (some ((t531.length : Int) == 0))) = some r := H
              have A102 := Aside0.mk A1020
              clear A1020
              by_cases c103 : t534 = 0
              · as_aux_lemma =>
                 rw [if_pos c103] at H
                 have c103b0 : (t534 == 0) = true := beq_iff_eq.mpr c103
                 have c103b1 : (t534 != 0) = false := bne_eq_false_iff_eq.mpr c103
                 clear c103
                 replace H := Option.bind_eq_some_iff.mp H
                 obtain ⟨⟨t535, t536⟩, A1040, H⟩ := H
                 replace H : ((spec_DurationOf.f kj81 t531).bind fun bt537 => (if t536 = 0 then (if bt537.2 = 0 then (if t535 = bt537.1 then ((spec_ValidMelody.f kj81 t531).bind fun t539 => (some t539)) else (some false)) else (some false)) else (some false))) = some r := H
                 have A104 := Aside0.mk A1040
                 clear A1040
                 replace H := Option.bind_eq_some_iff.mp H
                 obtain ⟨⟨t537, t538⟩, A1050, H⟩ := H
                 replace H : (if t536 = 0 then (if t538 = 0 then (if t535 = t537 then ((spec_ValidMelody.f kj81 t531).bind fun t539 => (some t539)) else (some false)) else (some false)) else (some false)) = some r := H
                 have A105 := Aside0.mk A1050
                 clear A1050
                 by_cases c106 : t536 = 0
                 · rw [if_pos c106] at H
                   have c106b0 : (t536 == 0) = true := beq_iff_eq.mpr c106
                   have c106b1 : (t536 != 0) = false := bne_eq_false_iff_eq.mpr c106
                   clear c106
                   by_cases c107 : t538 = 0
                   · rw [if_pos c107] at H
                     have c107b0 : (t538 == 0) = true := beq_iff_eq.mpr c107
                     have c107b1 : (t538 != 0) = false := bne_eq_false_iff_eq.mpr c107
                     clear c107
                     by_cases c108 : t535 = t537
                     · rw [if_pos c108] at H
                       have c108b0 : (t535 == t537) = true := beq_iff_eq.mpr c108
                       have c108b1 : (t535 != t537) = false := bne_eq_false_iff_eq.mpr c108
                       clear c108
                       replace H := Option.bind_eq_some_iff.mp H
                       obtain ⟨t539, A1090, H⟩ := H
                       replace H : (some t539) = some r := H
                       have A109 := Aside0.mk A1090
                       clear A1090
                       obtain rfl := Option.some.inj H
                       go_wp2_with (first | (go_at_call 70; (with_reducible refine (spec_DrawTrillNote.calls kj81 _ _ l0 t525 t526 t527 t528 _ ?side1 ?side2 A101.out).mono ?_); (case side1 => repeat (first | exact (Kd.C_below HR0.out HB.out) | (with_reducible refine Kd.C_alloc ?_ _) | (with_reducible refine Kd.C_drewN ?_ _) | (with_reducible refine Kd.C_drew ?_))); (case side2 => exact HC0.out); rintro e w110 ⟨v529, rfl, ho0, hb⟩; have n0_ := Aside0.mk (Kd.R_lower ho0 (below_size (by repeat (first | (with_reducible first | exact HB.out | apply qba | apply qbn | apply qb1) | exact HB.out)))); have n1_ := Aside0.mk (below_step (by repeat (first | (with_reducible first | exact HB.out | apply qba | apply qbn | apply qb1) | exact HB.out)) hb); clear HB; have HO530 := n0_; have HB := n1_; clear n0_ n1_; (try clear hb); (try clear hb2); (try clear hk); (try clear hi); (try clear ho0); obtain ⟨Ao111, co111, eo111⟩ := Kd.R_slice HO530.out; subst eo111) | (go_at_call 71; (with_reducible refine (impl_TrillNote.calls kj81 (fun k_ => some k_ = (.slice Ao111 t525.length co111 : Value).ownBlock) _ _ t525 t526 t527 t528 t531 t534 _ ?side1 A102.out).mono ?_); (case side1 => exact Kd.R_V (Kd.R_tight rfl (HO530.out))); rintro e w112 ⟨v532, rfl, ho0, hb⟩; have n0_ := Aside0.mk (Kd.R_elder' (by (with_reducible repeat (first | apply qra | apply qrn | apply qrd)); exact HO530.out) (Kd.R_base ho0) hb); have n1_ := Aside0.mk (Kd.R_lower (Kd.R_new' (Kd.R_mono (ok' := fun k_ => True) ho0 (fun _ hk_ => trivial)) (Kd.R_lt (by (with_reducible repeat (first | apply qra | apply qrn | apply qrd)); exact HO530.out))) (below_size (by repeat (first | (with_reducible first | exact HB.out | apply qba | apply qbn | apply qb1) | exact HB.out)))); have n2_ := Aside0.mk (below_step (by repeat (first | (with_reducible first | exact HB.out | apply qba | apply qbn | apply qb1) | exact HB.out)) hb); clear HO530; clear HB; have HO530 := n0_; have HO533 := n1_; have HB := n2_; clear n0_ n1_ n2_; (try clear hb); (try clear hb2); (try clear hk); (try clear hi); (try clear ho0)) | (go_at_call 29; (with_reducible refine (spec_DurationOf.calls kj81 _ _ t525 t535 t536 _ ?side1 ?side2 A104.out).mono ?_); (case side1 => repeat (first | exact (Kd.R_reads' HO530.out).2.2 | (with_reducible refine Kd.C_alloc ?_ _) | (with_reducible refine Kd.C_drewN ?_ _) | (with_reducible refine Kd.C_drew ?_))); (case side2 => exact (Kd.R_reads' HO530.out).2.1); rintro e w' ⟨rfl, ⟨nd, rfl⟩⟩; (try first | exact ⟨rfl, _, qww _ _ _⟩ | exact ⟨rfl, _, Eq.trans (qww _ _ _) (congrArg (World.drewN _) (Nat.add_assoc _ _ _))⟩); obtain ⟨Ao113, co113, eo113⟩ := Kd.R_slice HO533.out; subst eo113) | (go_at_call 29; (with_reducible refine (spec_DurationOf.calls kj81 _ _ t531 t537 t538 _ ?side1 ?side2 A105.out).mono ?_); (case side1 => repeat (first | exact (Kd.R_reads' HO533.out).2.2 | (with_reducible refine Kd.C_alloc ?_ _) | (with_reducible refine Kd.C_drewN ?_ _) | (with_reducible refine Kd.C_drew ?_))); (case side2 => exact (Kd.R_reads' HO533.out).2.1); rintro e w' ⟨rfl, ⟨nd, rfl⟩⟩; (try first | exact ⟨rfl, _, qww _ _ _⟩ | exact ⟨rfl, _, Eq.trans (qww _ _ _) (congrArg (World.drewN _) (Nat.add_assoc _ _ _))⟩)) | (go_at_call 69; (with_reducible refine (spec_ValidMelody.calls kj81 _ _ t531 t539 _ ?side1 ?side2 A109.out).mono ?_); (case side1 => repeat (first | exact (Kd.R_reads' HO533.out).2.2 | (with_reducible refine Kd.C_alloc ?_ _) | (with_reducible refine Kd.C_drewN ?_ _) | (with_reducible refine Kd.C_drew ?_))); (case side2 => exact (Kd.R_reads' HO533.out).2.1); rintro e w' ⟨rfl, ⟨nd, rfl⟩⟩; (try first | exact ⟨rfl, _, qww _ _ _⟩ | exact ⟨rfl, _, Eq.trans (qww _ _ _) (congrArg (World.drewN _) (Nat.add_assoc _ _ _))⟩)))
                       repeat (go_quiet (first | (go_at_call 70; (with_reducible refine (spec_DrawTrillNote.calls kj81 _ _ l0 t525 t526 t527 t528 _ ?side1 ?side2 A101.out).mono ?_); (case side1 => repeat (first | exact (Kd.C_below HR0.out HB.out) | (with_reducible refine Kd.C_alloc ?_ _) | (with_reducible refine Kd.C_drewN ?_ _) | (with_reducible refine Kd.C_drew ?_))); (case side2 => exact HC0.out); rintro e w110 ⟨v529, rfl, ho0, hb⟩; have n0_ := Aside0.mk (Kd.R_lower ho0 (below_size (by repeat (first | (with_reducible first | exact HB.out | apply qba | apply qbn | apply qb1) | exact HB.out)))); have n1_ := Aside0.mk (below_step (by repeat (first | (with_reducible first | exact HB.out | apply qba | apply qbn | apply qb1) | exact HB.out)) hb); clear HB; have HO530 := n0_; have HB := n1_; clear n0_ n1_; (try clear hb); (try clear hb2); (try clear hk); (try clear hi); (try clear ho0); obtain ⟨Ao111, co111, eo111⟩ := Kd.R_slice HO530.out; subst eo111) | (go_at_call 71; (with_reducible refine (impl_TrillNote.calls kj81 (fun k_ => some k_ = (.slice Ao111 t525.length co111 : Value).ownBlock) _ _ t525 t526 t527 t528 t531 t534 _ ?side1 A102.out).mono ?_); (case side1 => exact Kd.R_V (Kd.R_tight rfl (HO530.out))); rintro e w112 ⟨v532, rfl, ho0, hb⟩; have n0_ := Aside0.mk (Kd.R_elder' (by (with_reducible repeat (first | apply qra | apply qrn | apply qrd)); exact HO530.out) (Kd.R_base ho0) hb); have n1_ := Aside0.mk (Kd.R_lower (Kd.R_new' (Kd.R_mono (ok' := fun k_ => True) ho0 (fun _ hk_ => trivial)) (Kd.R_lt (by (with_reducible repeat (first | apply qra | apply qrn | apply qrd)); exact HO530.out))) (below_size (by repeat (first | (with_reducible first | exact HB.out | apply qba | apply qbn | apply qb1) | exact HB.out)))); have n2_ := Aside0.mk (below_step (by repeat (first | (with_reducible first | exact HB.out | apply qba | apply qbn | apply qb1) | exact HB.out)) hb); clear HO530; clear HB; have HO530 := n0_; have HO533 := n1_; have HB := n2_; clear n0_ n1_ n2_; (try clear hb); (try clear hb2); (try clear hk); (try clear hi); (try clear ho0)) | (go_at_call 29; (with_reducible refine (spec_DurationOf.calls kj81 _ _ t525 t535 t536 _ ?side1 ?side2 A104.out).mono ?_); (case side1 => repeat (first | exact (Kd.R_reads' HO530.out).2.2 | (with_reducible refine Kd.C_alloc ?_ _) | (with_reducible refine Kd.C_drewN ?_ _) | (with_reducible refine Kd.C_drew ?_))); (case side2 => exact (Kd.R_reads' HO530.out).2.1); rintro e w' ⟨rfl, ⟨nd, rfl⟩⟩; (try first | exact ⟨rfl, _, qww _ _ _⟩ | exact ⟨rfl, _, Eq.trans (qww _ _ _) (congrArg (World.drewN _) (Nat.add_assoc _ _ _))⟩); obtain ⟨Ao113, co113, eo113⟩ := Kd.R_slice HO533.out; subst eo113) | (go_at_call 29; (with_reducible refine (spec_DurationOf.calls kj81 _ _ t531 t537 t538 _ ?side1 ?side2 A105.out).mono ?_); (case side1 => repeat (first | exact (Kd.R_reads' HO533.out).2.2 | (with_reducible refine Kd.C_alloc ?_ _) | (with_reducible refine Kd.C_drewN ?_ _) | (with_reducible refine Kd.C_drew ?_))); (case side2 => exact (Kd.R_reads' HO533.out).2.1); rintro e w' ⟨rfl, ⟨nd, rfl⟩⟩; (try first | exact ⟨rfl, _, qww _ _ _⟩ | exact ⟨rfl, _, Eq.trans (qww _ _ _) (congrArg (World.drewN _) (Nat.add_assoc _ _ _))⟩)) | (go_at_call 69; (with_reducible refine (spec_ValidMelody.calls kj81 _ _ t531 t539 _ ?side1 ?side2 A109.out).mono ?_); (case side1 => repeat (first | exact (Kd.R_reads' HO533.out).2.2 | (with_reducible refine Kd.C_alloc ?_ _) | (with_reducible refine Kd.C_drewN ?_ _) | (with_reducible refine Kd.C_drew ?_))); (case side2 => exact (Kd.R_reads' HO533.out).2.1); rintro e w' ⟨rfl, ⟨nd, rfl⟩⟩; (try first | exact ⟨rfl, _, qww _ _ _⟩ | exact ⟨rfl, _, Eq.trans (qww _ _ _) (congrArg (World.drewN _) (Nat.add_assoc _ _ _))⟩))); try go_wp2_with (first | (go_at_call 70; (with_reducible refine (spec_DrawTrillNote.calls kj81 _ _ l0 t525 t526 t527 t528 _ ?side1 ?side2 A101.out).mono ?_); (case side1 => repeat (first | exact (Kd.C_below HR0.out HB.out) | (with_reducible refine Kd.C_alloc ?_ _) | (with_reducible refine Kd.C_drewN ?_ _) | (with_reducible refine Kd.C_drew ?_))); (case side2 => exact HC0.out); rintro e w110 ⟨v529, rfl, ho0, hb⟩; have n0_ := Aside0.mk (Kd.R_lower ho0 (below_size (by repeat (first | (with_reducible first | exact HB.out | apply qba | apply qbn | apply qb1) | exact HB.out)))); have n1_ := Aside0.mk (below_step (by repeat (first | (with_reducible first | exact HB.out | apply qba | apply qbn | apply qb1) | exact HB.out)) hb); clear HB; have HO530 := n0_; have HB := n1_; clear n0_ n1_; (try clear hb); (try clear hb2); (try clear hk); (try clear hi); (try clear ho0); obtain ⟨Ao111, co111, eo111⟩ := Kd.R_slice HO530.out; subst eo111) | (go_at_call 71; (with_reducible refine (impl_TrillNote.calls kj81 (fun k_ => some k_ = (.slice Ao111 t525.length co111 : Value).ownBlock) _ _ t525 t526 t527 t528 t531 t534 _ ?side1 A102.out).mono ?_); (case side1 => exact Kd.R_V (Kd.R_tight rfl (HO530.out))); rintro e w112 ⟨v532, rfl, ho0, hb⟩; have n0_ := Aside0.mk (Kd.R_elder' (by (with_reducible repeat (first | apply qra | apply qrn | apply qrd)); exact HO530.out) (Kd.R_base ho0) hb); have n1_ := Aside0.mk (Kd.R_lower (Kd.R_new' (Kd.R_mono (ok' := fun k_ => True) ho0 (fun _ hk_ => trivial)) (Kd.R_lt (by (with_reducible repeat (first | apply qra | apply qrn | apply qrd)); exact HO530.out))) (below_size (by repeat (first | (with_reducible first | exact HB.out | apply qba | apply qbn | apply qb1) | exact HB.out)))); have n2_ := Aside0.mk (below_step (by repeat (first | (with_reducible first | exact HB.out | apply qba | apply qbn | apply qb1) | exact HB.out)) hb); clear HO530; clear HB; have HO530 := n0_; have HO533 := n1_; have HB := n2_; clear n0_ n1_ n2_; (try clear hb); (try clear hb2); (try clear hk); (try clear hi); (try clear ho0)) | (go_at_call 29; (with_reducible refine (spec_DurationOf.calls kj81 _ _ t525 t535 t536 _ ?side1 ?side2 A104.out).mono ?_); (case side1 => repeat (first | exact (Kd.R_reads' HO530.out).2.2 | (with_reducible refine Kd.C_alloc ?_ _) | (with_reducible refine Kd.C_drewN ?_ _) | (with_reducible refine Kd.C_drew ?_))); (case side2 => exact (Kd.R_reads' HO530.out).2.1); rintro e w' ⟨rfl, ⟨nd, rfl⟩⟩; (try first | exact ⟨rfl, _, qww _ _ _⟩ | exact ⟨rfl, _, Eq.trans (qww _ _ _) (congrArg (World.drewN _) (Nat.add_assoc _ _ _))⟩); obtain ⟨Ao113, co113, eo113⟩ := Kd.R_slice HO533.out; subst eo113) | (go_at_call 29; (with_reducible refine (spec_DurationOf.calls kj81 _ _ t531 t537 t538 _ ?side1 ?side2 A105.out).mono ?_); (case side1 => repeat (first | exact (Kd.R_reads' HO533.out).2.2 | (with_reducible refine Kd.C_alloc ?_ _) | (with_reducible refine Kd.C_drewN ?_ _) | (with_reducible refine Kd.C_drew ?_))); (case side2 => exact (Kd.R_reads' HO533.out).2.1); rintro e w' ⟨rfl, ⟨nd, rfl⟩⟩; (try first | exact ⟨rfl, _, qww _ _ _⟩ | exact ⟨rfl, _, Eq.trans (qww _ _ _) (congrArg (World.drewN _) (Nat.add_assoc _ _ _))⟩)) | (go_at_call 69; (with_reducible refine (spec_ValidMelody.calls kj81 _ _ t531 t539 _ ?side1 ?side2 A109.out).mono ?_); (case side1 => repeat (first | exact (Kd.R_reads' HO533.out).2.2 | (with_reducible refine Kd.C_alloc ?_ _) | (with_reducible refine Kd.C_drewN ?_ _) | (with_reducible refine Kd.C_drew ?_))); (case side2 => exact (Kd.R_reads' HO533.out).2.1); rintro e w' ⟨rfl, ⟨nd, rfl⟩⟩; (try first | exact ⟨rfl, _, qww _ _ _⟩ | exact ⟨rfl, _, Eq.trans (qww _ _ _) (congrArg (World.drewN _) (Nat.add_assoc _ _ _))⟩))))
                       go_ret
                       exact ⟨by first | rfl | (simp [errW_none, errW_some] <;> rfl) | (simp [*, errW_none, errW_some] <;> rfl), by repeat (first | (with_reducible first | exact HB.out | apply qba | apply qbn | apply qb1) | exact HB.out)⟩
                     · rw [if_neg c108] at H
                       have c108b0 : (t535 == t537) = false := beq_eq_false_iff_ne.mpr c108
                       have c108b1 : (t535 != t537) = true := bne_iff_ne.mpr c108
                       obtain rfl := Option.some.inj H
                       go_wp2_with (first | (go_at_call 70; (with_reducible refine (spec_DrawTrillNote.calls kj81 _ _ l0 t525 t526 t527 t528 _ ?side1 ?side2 A101.out).mono ?_); (case side1 => repeat (first | exact (Kd.C_below HR0.out HB.out) | (with_reducible refine Kd.C_alloc ?_ _) | (with_reducible refine Kd.C_drewN ?_ _) | (with_reducible refine Kd.C_drew ?_))); (case side2 => exact HC0.out); rintro e w114 ⟨v529, rfl, ho0, hb⟩; have n0_ := Aside0.mk (Kd.R_lower ho0 (below_size (by repeat (first | (with_reducible first | exact HB.out | apply qba | apply qbn | apply qb1) | exact HB.out)))); have n1_ := Aside0.mk (below_step (by repeat (first | (with_reducible first | exact HB.out | apply qba | apply qbn | apply qb1) | exact HB.out)) hb); clear HB; have HO530 := n0_; have HB := n1_; clear n0_ n1_; (try clear hb); (try clear hb2); (try clear hk); (try clear hi); (try clear ho0); obtain ⟨Ao115, co115, eo115⟩ := Kd.R_slice HO530.out; subst eo115) | (go_at_call 71; (with_reducible refine (impl_TrillNote.calls kj81 (fun k_ => some k_ = (.slice Ao115 t525.length co115 : Value).ownBlock) _ _ t525 t526 t527 t528 t531 t534 _ ?side1 A102.out).mono ?_); (case side1 => exact Kd.R_V (Kd.R_tight rfl (HO530.out))); rintro e w116 ⟨v532, rfl, ho0, hb⟩; have n0_ := Aside0.mk (Kd.R_elder' (by (with_reducible repeat (first | apply qra | apply qrn | apply qrd)); exact HO530.out) (Kd.R_base ho0) hb); have n1_ := Aside0.mk (Kd.R_lower (Kd.R_new' (Kd.R_mono (ok' := fun k_ => True) ho0 (fun _ hk_ => trivial)) (Kd.R_lt (by (with_reducible repeat (first | apply qra | apply qrn | apply qrd)); exact HO530.out))) (below_size (by repeat (first | (with_reducible first | exact HB.out | apply qba | apply qbn | apply qb1) | exact HB.out)))); have n2_ := Aside0.mk (below_step (by repeat (first | (with_reducible first | exact HB.out | apply qba | apply qbn | apply qb1) | exact HB.out)) hb); clear HO530; clear HB; have HO530 := n0_; have HO533 := n1_; have HB := n2_; clear n0_ n1_ n2_; (try clear hb); (try clear hb2); (try clear hk); (try clear hi); (try clear ho0)) | (go_at_call 29; (with_reducible refine (spec_DurationOf.calls kj81 _ _ t525 t535 t536 _ ?side1 ?side2 A104.out).mono ?_); (case side1 => repeat (first | exact (Kd.R_reads' HO530.out).2.2 | (with_reducible refine Kd.C_alloc ?_ _) | (with_reducible refine Kd.C_drewN ?_ _) | (with_reducible refine Kd.C_drew ?_))); (case side2 => exact (Kd.R_reads' HO530.out).2.1); rintro e w' ⟨rfl, ⟨nd, rfl⟩⟩; (try first | exact ⟨rfl, _, qww _ _ _⟩ | exact ⟨rfl, _, Eq.trans (qww _ _ _) (congrArg (World.drewN _) (Nat.add_assoc _ _ _))⟩); obtain ⟨Ao117, co117, eo117⟩ := Kd.R_slice HO533.out; subst eo117) | (go_at_call 29; (with_reducible refine (spec_DurationOf.calls kj81 _ _ t531 t537 t538 _ ?side1 ?side2 A105.out).mono ?_); (case side1 => repeat (first | exact (Kd.R_reads' HO533.out).2.2 | (with_reducible refine Kd.C_alloc ?_ _) | (with_reducible refine Kd.C_drewN ?_ _) | (with_reducible refine Kd.C_drew ?_))); (case side2 => exact (Kd.R_reads' HO533.out).2.1); rintro e w' ⟨rfl, ⟨nd, rfl⟩⟩; (try first | exact ⟨rfl, _, qww _ _ _⟩ | exact ⟨rfl, _, Eq.trans (qww _ _ _) (congrArg (World.drewN _) (Nat.add_assoc _ _ _))⟩)))
                       repeat (go_quiet (first | (go_at_call 70; (with_reducible refine (spec_DrawTrillNote.calls kj81 _ _ l0 t525 t526 t527 t528 _ ?side1 ?side2 A101.out).mono ?_); (case side1 => repeat (first | exact (Kd.C_below HR0.out HB.out) | (with_reducible refine Kd.C_alloc ?_ _) | (with_reducible refine Kd.C_drewN ?_ _) | (with_reducible refine Kd.C_drew ?_))); (case side2 => exact HC0.out); rintro e w114 ⟨v529, rfl, ho0, hb⟩; have n0_ := Aside0.mk (Kd.R_lower ho0 (below_size (by repeat (first | (with_reducible first | exact HB.out | apply qba | apply qbn | apply qb1) | exact HB.out)))); have n1_ := Aside0.mk (below_step (by repeat (first | (with_reducible first | exact HB.out | apply qba | apply qbn | apply qb1) | exact HB.out)) hb); clear HB; have HO530 := n0_; have HB := n1_; clear n0_ n1_; (try clear hb); (try clear hb2); (try clear hk); (try clear hi); (try clear ho0); obtain ⟨Ao115, co115, eo115⟩ := Kd.R_slice HO530.out; subst eo115) | (go_at_call 71; (with_reducible refine (impl_TrillNote.calls kj81 (fun k_ => some k_ = (.slice Ao115 t525.length co115 : Value).ownBlock) _ _ t525 t526 t527 t528 t531 t534 _ ?side1 A102.out).mono ?_); (case side1 => exact Kd.R_V (Kd.R_tight rfl (HO530.out))); rintro e w116 ⟨v532, rfl, ho0, hb⟩; have n0_ := Aside0.mk (Kd.R_elder' (by (with_reducible repeat (first | apply qra | apply qrn | apply qrd)); exact HO530.out) (Kd.R_base ho0) hb); have n1_ := Aside0.mk (Kd.R_lower (Kd.R_new' (Kd.R_mono (ok' := fun k_ => True) ho0 (fun _ hk_ => trivial)) (Kd.R_lt (by (with_reducible repeat (first | apply qra | apply qrn | apply qrd)); exact HO530.out))) (below_size (by repeat (first | (with_reducible first | exact HB.out | apply qba | apply qbn | apply qb1) | exact HB.out)))); have n2_ := Aside0.mk (below_step (by repeat (first | (with_reducible first | exact HB.out | apply qba | apply qbn | apply qb1) | exact HB.out)) hb); clear HO530; clear HB; have HO530 := n0_; have HO533 := n1_; have HB := n2_; clear n0_ n1_ n2_; (try clear hb); (try clear hb2); (try clear hk); (try clear hi); (try clear ho0)) | (go_at_call 29; (with_reducible refine (spec_DurationOf.calls kj81 _ _ t525 t535 t536 _ ?side1 ?side2 A104.out).mono ?_); (case side1 => repeat (first | exact (Kd.R_reads' HO530.out).2.2 | (with_reducible refine Kd.C_alloc ?_ _) | (with_reducible refine Kd.C_drewN ?_ _) | (with_reducible refine Kd.C_drew ?_))); (case side2 => exact (Kd.R_reads' HO530.out).2.1); rintro e w' ⟨rfl, ⟨nd, rfl⟩⟩; (try first | exact ⟨rfl, _, qww _ _ _⟩ | exact ⟨rfl, _, Eq.trans (qww _ _ _) (congrArg (World.drewN _) (Nat.add_assoc _ _ _))⟩); obtain ⟨Ao117, co117, eo117⟩ := Kd.R_slice HO533.out; subst eo117) | (go_at_call 29; (with_reducible refine (spec_DurationOf.calls kj81 _ _ t531 t537 t538 _ ?side1 ?side2 A105.out).mono ?_); (case side1 => repeat (first | exact (Kd.R_reads' HO533.out).2.2 | (with_reducible refine Kd.C_alloc ?_ _) | (with_reducible refine Kd.C_drewN ?_ _) | (with_reducible refine Kd.C_drew ?_))); (case side2 => exact (Kd.R_reads' HO533.out).2.1); rintro e w' ⟨rfl, ⟨nd, rfl⟩⟩; (try first | exact ⟨rfl, _, qww _ _ _⟩ | exact ⟨rfl, _, Eq.trans (qww _ _ _) (congrArg (World.drewN _) (Nat.add_assoc _ _ _))⟩))); try go_wp2_with (first | (go_at_call 70; (with_reducible refine (spec_DrawTrillNote.calls kj81 _ _ l0 t525 t526 t527 t528 _ ?side1 ?side2 A101.out).mono ?_); (case side1 => repeat (first | exact (Kd.C_below HR0.out HB.out) | (with_reducible refine Kd.C_alloc ?_ _) | (with_reducible refine Kd.C_drewN ?_ _) | (with_reducible refine Kd.C_drew ?_))); (case side2 => exact HC0.out); rintro e w114 ⟨v529, rfl, ho0, hb⟩; have n0_ := Aside0.mk (Kd.R_lower ho0 (below_size (by repeat (first | (with_reducible first | exact HB.out | apply qba | apply qbn | apply qb1) | exact HB.out)))); have n1_ := Aside0.mk (below_step (by repeat (first | (with_reducible first | exact HB.out | apply qba | apply qbn | apply qb1) | exact HB.out)) hb); clear HB; have HO530 := n0_; have HB := n1_; clear n0_ n1_; (try clear hb); (try clear hb2); (try clear hk); (try clear hi); (try clear ho0); obtain ⟨Ao115, co115, eo115⟩ := Kd.R_slice HO530.out; subst eo115) | (go_at_call 71; (with_reducible refine (impl_TrillNote.calls kj81 (fun k_ => some k_ = (.slice Ao115 t525.length co115 : Value).ownBlock) _ _ t525 t526 t527 t528 t531 t534 _ ?side1 A102.out).mono ?_); (case side1 => exact Kd.R_V (Kd.R_tight rfl (HO530.out))); rintro e w116 ⟨v532, rfl, ho0, hb⟩; have n0_ := Aside0.mk (Kd.R_elder' (by (with_reducible repeat (first | apply qra | apply qrn | apply qrd)); exact HO530.out) (Kd.R_base ho0) hb); have n1_ := Aside0.mk (Kd.R_lower (Kd.R_new' (Kd.R_mono (ok' := fun k_ => True) ho0 (fun _ hk_ => trivial)) (Kd.R_lt (by (with_reducible repeat (first | apply qra | apply qrn | apply qrd)); exact HO530.out))) (below_size (by repeat (first | (with_reducible first | exact HB.out | apply qba | apply qbn | apply qb1) | exact HB.out)))); have n2_ := Aside0.mk (below_step (by repeat (first | (with_reducible first | exact HB.out | apply qba | apply qbn | apply qb1) | exact HB.out)) hb); clear HO530; clear HB; have HO530 := n0_; have HO533 := n1_; have HB := n2_; clear n0_ n1_ n2_; (try clear hb); (try clear hb2); (try clear hk); (try clear hi); (try clear ho0)) | (go_at_call 29; (with_reducible refine (spec_DurationOf.calls kj81 _ _ t525 t535 t536 _ ?side1 ?side2 A104.out).mono ?_); (case side1 => repeat (first | exact (Kd.R_reads' HO530.out).2.2 | (with_reducible refine Kd.C_alloc ?_ _) | (with_reducible refine Kd.C_drewN ?_ _) | (with_reducible refine Kd.C_drew ?_))); (case side2 => exact (Kd.R_reads' HO530.out).2.1); rintro e w' ⟨rfl, ⟨nd, rfl⟩⟩; (try first | exact ⟨rfl, _, qww _ _ _⟩ | exact ⟨rfl, _, Eq.trans (qww _ _ _) (congrArg (World.drewN _) (Nat.add_assoc _ _ _))⟩); obtain ⟨Ao117, co117, eo117⟩ := Kd.R_slice HO533.out; subst eo117) | (go_at_call 29; (with_reducible refine (spec_DurationOf.calls kj81 _ _ t531 t537 t538 _ ?side1 ?side2 A105.out).mono ?_); (case side1 => repeat (first | exact (Kd.R_reads' HO533.out).2.2 | (with_reducible refine Kd.C_alloc ?_ _) | (with_reducible refine Kd.C_drewN ?_ _) | (with_reducible refine Kd.C_drew ?_))); (case side2 => exact (Kd.R_reads' HO533.out).2.1); rintro e w' ⟨rfl, ⟨nd, rfl⟩⟩; (try first | exact ⟨rfl, _, qww _ _ _⟩ | exact ⟨rfl, _, Eq.trans (qww _ _ _) (congrArg (World.drewN _) (Nat.add_assoc _ _ _))⟩))))
                       go_ret
                       exact ⟨by first | rfl | (simp [errW_none, errW_some] <;> rfl) | (simp [*, errW_none, errW_some] <;> rfl), by repeat (first | (with_reducible first | exact HB.out | apply qba | apply qbn | apply qb1) | exact HB.out)⟩
                   · rw [if_neg c107] at H
                     have c107b0 : (t538 == 0) = false := beq_eq_false_iff_ne.mpr c107
                     have c107b1 : (t538 != 0) = true := bne_iff_ne.mpr c107
                     obtain rfl := Option.some.inj H
                     go_wp2_with (first | (go_at_call 70; (with_reducible refine (spec_DrawTrillNote.calls kj81 _ _ l0 t525 t526 t527 t528 _ ?side1 ?side2 A101.out).mono ?_); (case side1 => repeat (first | exact (Kd.C_below HR0.out HB.out) | (with_reducible refine Kd.C_alloc ?_ _) | (with_reducible refine Kd.C_drewN ?_ _) | (with_reducible refine Kd.C_drew ?_))); (case side2 => exact HC0.out); rintro e w118 ⟨v529, rfl, ho0, hb⟩; have n0_ := Aside0.mk (Kd.R_lower ho0 (below_size (by repeat (first | (with_reducible first | exact HB.out | apply qba | apply qbn | apply qb1) | exact HB.out)))); have n1_ := Aside0.mk (below_step (by repeat (first | (with_reducible first | exact HB.out | apply qba | apply qbn | apply qb1) | exact HB.out)) hb); clear HB; have HO530 := n0_; have HB := n1_; clear n0_ n1_; (try clear hb); (try clear hb2); (try clear hk); (try clear hi); (try clear ho0); obtain ⟨Ao119, co119, eo119⟩ := Kd.R_slice HO530.out; subst eo119) | (go_at_call 71; (with_reducible refine (impl_TrillNote.calls kj81 (fun k_ => some k_ = (.slice Ao119 t525.length co119 : Value).ownBlock) _ _ t525 t526 t527 t528 t531 t534 _ ?side1 A102.out).mono ?_); (case side1 => exact Kd.R_V (Kd.R_tight rfl (HO530.out))); rintro e w120 ⟨v532, rfl, ho0, hb⟩; have n0_ := Aside0.mk (Kd.R_elder' (by (with_reducible repeat (first | apply qra | apply qrn | apply qrd)); exact HO530.out) (Kd.R_base ho0) hb); have n1_ := Aside0.mk (Kd.R_lower (Kd.R_new' (Kd.R_mono (ok' := fun k_ => True) ho0 (fun _ hk_ => trivial)) (Kd.R_lt (by (with_reducible repeat (first | apply qra | apply qrn | apply qrd)); exact HO530.out))) (below_size (by repeat (first | (with_reducible first | exact HB.out | apply qba | apply qbn | apply qb1) | exact HB.out)))); have n2_ := Aside0.mk (below_step (by repeat (first | (with_reducible first | exact HB.out | apply qba | apply qbn | apply qb1) | exact HB.out)) hb); clear HO530; clear HB; have HO530 := n0_; have HO533 := n1_; have HB := n2_; clear n0_ n1_ n2_; (try clear hb); (try clear hb2); (try clear hk); (try clear hi); (try clear ho0)) | (go_at_call 29; (with_reducible refine (spec_DurationOf.calls kj81 _ _ t525 t535 t536 _ ?side1 ?side2 A104.out).mono ?_); (case side1 => repeat (first | exact (Kd.R_reads' HO530.out).2.2 | (with_reducible refine Kd.C_alloc ?_ _) | (with_reducible refine Kd.C_drewN ?_ _) | (with_reducible refine Kd.C_drew ?_))); (case side2 => exact (Kd.R_reads' HO530.out).2.1); rintro e w' ⟨rfl, ⟨nd, rfl⟩⟩; (try first | exact ⟨rfl, _, qww _ _ _⟩ | exact ⟨rfl, _, Eq.trans (qww _ _ _) (congrArg (World.drewN _) (Nat.add_assoc _ _ _))⟩); obtain ⟨Ao121, co121, eo121⟩ := Kd.R_slice HO533.out; subst eo121) | (go_at_call 29; (with_reducible refine (spec_DurationOf.calls kj81 _ _ t531 t537 t538 _ ?side1 ?side2 A105.out).mono ?_); (case side1 => repeat (first | exact (Kd.R_reads' HO533.out).2.2 | (with_reducible refine Kd.C_alloc ?_ _) | (with_reducible refine Kd.C_drewN ?_ _) | (with_reducible refine Kd.C_drew ?_))); (case side2 => exact (Kd.R_reads' HO533.out).2.1); rintro e w' ⟨rfl, ⟨nd, rfl⟩⟩; (try first | exact ⟨rfl, _, qww _ _ _⟩ | exact ⟨rfl, _, Eq.trans (qww _ _ _) (congrArg (World.drewN _) (Nat.add_assoc _ _ _))⟩)))
                     repeat (go_quiet (first | (go_at_call 70; (with_reducible refine (spec_DrawTrillNote.calls kj81 _ _ l0 t525 t526 t527 t528 _ ?side1 ?side2 A101.out).mono ?_); (case side1 => repeat (first | exact (Kd.C_below HR0.out HB.out) | (with_reducible refine Kd.C_alloc ?_ _) | (with_reducible refine Kd.C_drewN ?_ _) | (with_reducible refine Kd.C_drew ?_))); (case side2 => exact HC0.out); rintro e w118 ⟨v529, rfl, ho0, hb⟩; have n0_ := Aside0.mk (Kd.R_lower ho0 (below_size (by repeat (first | (with_reducible first | exact HB.out | apply qba | apply qbn | apply qb1) | exact HB.out)))); have n1_ := Aside0.mk (below_step (by repeat (first | (with_reducible first | exact HB.out | apply qba | apply qbn | apply qb1) | exact HB.out)) hb); clear HB; have HO530 := n0_; have HB := n1_; clear n0_ n1_; (try clear hb); (try clear hb2); (try clear hk); (try clear hi); (try clear ho0); obtain ⟨Ao119, co119, eo119⟩ := Kd.R_slice HO530.out; subst eo119) | (go_at_call 71; (with_reducible refine (impl_TrillNote.calls kj81 (fun k_ => some k_ = (.slice Ao119 t525.length co119 : Value).ownBlock) _ _ t525 t526 t527 t528 t531 t534 _ ?side1 A102.out).mono ?_); (case side1 => exact Kd.R_V (Kd.R_tight rfl (HO530.out))); rintro e w120 ⟨v532, rfl, ho0, hb⟩; have n0_ := Aside0.mk (Kd.R_elder' (by (with_reducible repeat (first | apply qra | apply qrn | apply qrd)); exact HO530.out) (Kd.R_base ho0) hb); have n1_ := Aside0.mk (Kd.R_lower (Kd.R_new' (Kd.R_mono (ok' := fun k_ => True) ho0 (fun _ hk_ => trivial)) (Kd.R_lt (by (with_reducible repeat (first | apply qra | apply qrn | apply qrd)); exact HO530.out))) (below_size (by repeat (first | (with_reducible first | exact HB.out | apply qba | apply qbn | apply qb1) | exact HB.out)))); have n2_ := Aside0.mk (below_step (by repeat (first | (with_reducible first | exact HB.out | apply qba | apply qbn | apply qb1) | exact HB.out)) hb); clear HO530; clear HB; have HO530 := n0_; have HO533 := n1_; have HB := n2_; clear n0_ n1_ n2_; (try clear hb); (try clear hb2); (try clear hk); (try clear hi); (try clear ho0)) | (go_at_call 29; (with_reducible refine (spec_DurationOf.calls kj81 _ _ t525 t535 t536 _ ?side1 ?side2 A104.out).mono ?_); (case side1 => repeat (first | exact (Kd.R_reads' HO530.out).2.2 | (with_reducible refine Kd.C_alloc ?_ _) | (with_reducible refine Kd.C_drewN ?_ _) | (with_reducible refine Kd.C_drew ?_))); (case side2 => exact (Kd.R_reads' HO530.out).2.1); rintro e w' ⟨rfl, ⟨nd, rfl⟩⟩; (try first | exact ⟨rfl, _, qww _ _ _⟩ | exact ⟨rfl, _, Eq.trans (qww _ _ _) (congrArg (World.drewN _) (Nat.add_assoc _ _ _))⟩); obtain ⟨Ao121, co121, eo121⟩ := Kd.R_slice HO533.out; subst eo121) | (go_at_call 29; (with_reducible refine (spec_DurationOf.calls kj81 _ _ t531 t537 t538 _ ?side1 ?side2 A105.out).mono ?_); (case side1 => repeat (first | exact (Kd.R_reads' HO533.out).2.2 | (with_reducible refine Kd.C_alloc ?_ _) | (with_reducible refine Kd.C_drewN ?_ _) | (with_reducible refine Kd.C_drew ?_))); (case side2 => exact (Kd.R_reads' HO533.out).2.1); rintro e w' ⟨rfl, ⟨nd, rfl⟩⟩; (try first | exact ⟨rfl, _, qww _ _ _⟩ | exact ⟨rfl, _, Eq.trans (qww _ _ _) (congrArg (World.drewN _) (Nat.add_assoc _ _ _))⟩))); try go_wp2_with (first | (go_at_call 70; (with_reducible refine (spec_DrawTrillNote.calls kj81 _ _ l0 t525 t526 t527 t528 _ ?side1 ?side2 A101.out).mono ?_); (case side1 => repeat (first | exact (Kd.C_below HR0.out HB.out) | (with_reducible refine Kd.C_alloc ?_ _) | (with_reducible refine Kd.C_drewN ?_ _) | (with_reducible refine Kd.C_drew ?_))); (case side2 => exact HC0.out); rintro e w118 ⟨v529, rfl, ho0, hb⟩; have n0_ := Aside0.mk (Kd.R_lower ho0 (below_size (by repeat (first | (with_reducible first | exact HB.out | apply qba | apply qbn | apply qb1) | exact HB.out)))); have n1_ := Aside0.mk (below_step (by repeat (first | (with_reducible first | exact HB.out | apply qba | apply qbn | apply qb1) | exact HB.out)) hb); clear HB; have HO530 := n0_; have HB := n1_; clear n0_ n1_; (try clear hb); (try clear hb2); (try clear hk); (try clear hi); (try clear ho0); obtain ⟨Ao119, co119, eo119⟩ := Kd.R_slice HO530.out; subst eo119) | (go_at_call 71; (with_reducible refine (impl_TrillNote.calls kj81 (fun k_ => some k_ = (.slice Ao119 t525.length co119 : Value).ownBlock) _ _ t525 t526 t527 t528 t531 t534 _ ?side1 A102.out).mono ?_); (case side1 => exact Kd.R_V (Kd.R_tight rfl (HO530.out))); rintro e w120 ⟨v532, rfl, ho0, hb⟩; have n0_ := Aside0.mk (Kd.R_elder' (by (with_reducible repeat (first | apply qra | apply qrn | apply qrd)); exact HO530.out) (Kd.R_base ho0) hb); have n1_ := Aside0.mk (Kd.R_lower (Kd.R_new' (Kd.R_mono (ok' := fun k_ => True) ho0 (fun _ hk_ => trivial)) (Kd.R_lt (by (with_reducible repeat (first | apply qra | apply qrn | apply qrd)); exact HO530.out))) (below_size (by repeat (first | (with_reducible first | exact HB.out | apply qba | apply qbn | apply qb1) | exact HB.out)))); have n2_ := Aside0.mk (below_step (by repeat (first | (with_reducible first | exact HB.out | apply qba | apply qbn | apply qb1) | exact HB.out)) hb); clear HO530; clear HB; have HO530 := n0_; have HO533 := n1_; have HB := n2_; clear n0_ n1_ n2_; (try clear hb); (try clear hb2); (try clear hk); (try clear hi); (try clear ho0)) | (go_at_call 29; (with_reducible refine (spec_DurationOf.calls kj81 _ _ t525 t535 t536 _ ?side1 ?side2 A104.out).mono ?_); (case side1 => repeat (first | exact (Kd.R_reads' HO530.out).2.2 | (with_reducible refine Kd.C_alloc ?_ _) | (with_reducible refine Kd.C_drewN ?_ _) | (with_reducible refine Kd.C_drew ?_))); (case side2 => exact (Kd.R_reads' HO530.out).2.1); rintro e w' ⟨rfl, ⟨nd, rfl⟩⟩; (try first | exact ⟨rfl, _, qww _ _ _⟩ | exact ⟨rfl, _, Eq.trans (qww _ _ _) (congrArg (World.drewN _) (Nat.add_assoc _ _ _))⟩); obtain ⟨Ao121, co121, eo121⟩ := Kd.R_slice HO533.out; subst eo121) | (go_at_call 29; (with_reducible refine (spec_DurationOf.calls kj81 _ _ t531 t537 t538 _ ?side1 ?side2 A105.out).mono ?_); (case side1 => repeat (first | exact (Kd.R_reads' HO533.out).2.2 | (with_reducible refine Kd.C_alloc ?_ _) | (with_reducible refine Kd.C_drewN ?_ _) | (with_reducible refine Kd.C_drew ?_))); (case side2 => exact (Kd.R_reads' HO533.out).2.1); rintro e w' ⟨rfl, ⟨nd, rfl⟩⟩; (try first | exact ⟨rfl, _, qww _ _ _⟩ | exact ⟨rfl, _, Eq.trans (qww _ _ _) (congrArg (World.drewN _) (Nat.add_assoc _ _ _))⟩))))
                     go_ret
                     exact ⟨by first | rfl | (simp [errW_none, errW_some] <;> rfl) | (simp [*, errW_none, errW_some] <;> rfl), by repeat (first | (with_reducible first | exact HB.out | apply qba | apply qbn | apply qb1) | exact HB.out)⟩
                 · rw [if_neg c106] at H
                   have c106b0 : (t536 == 0) = false := beq_eq_false_iff_ne.mpr c106
                   have c106b1 : (t536 != 0) = true := bne_iff_ne.mpr c106
                   obtain rfl := Option.some.inj H
                   go_wp2_with (first | (go_at_call 70; (with_reducible refine (spec_DrawTrillNote.calls kj81 _ _ l0 t525 t526 t527 t528 _ ?side1 ?side2 A101.out).mono ?_); (case side1 => repeat (first | exact (Kd.C_below HR0.out HB.out) | (with_reducible refine Kd.C_alloc ?_ _) | (with_reducible refine Kd.C_drewN ?_ _) | (with_reducible refine Kd.C_drew ?_))); (case side2 => exact HC0.out); rintro e w122 ⟨v529, rfl, ho0, hb⟩; have n0_ := Aside0.mk (Kd.R_lower ho0 (below_size (by repeat (first | (with_reducible first | exact HB.out | apply qba | apply qbn | apply qb1) | exact HB.out)))); have n1_ := Aside0.mk (below_step (by repeat (first | (with_reducible first | exact HB.out | apply qba | apply qbn | apply qb1) | exact HB.out)) hb); clear HB; have HO530 := n0_; have HB := n1_; clear n0_ n1_; (try clear hb); (try clear hb2); (try clear hk); (try clear hi); (try clear ho0); obtain ⟨Ao123, co123, eo123⟩ := Kd.R_slice HO530.out; subst eo123) | (go_at_call 71; (with_reducible refine (impl_TrillNote.calls kj81 (fun k_ => some k_ = (.slice Ao123 t525.length co123 : Value).ownBlock) _ _ t525 t526 t527 t528 t531 t534 _ ?side1 A102.out).mono ?_); (case side1 => exact Kd.R_V (Kd.R_tight rfl (HO530.out))); rintro e w124 ⟨v532, rfl, ho0, hb⟩; have n0_ := Aside0.mk (Kd.R_elder' (by (with_reducible repeat (first | apply qra | apply qrn | apply qrd)); exact HO530.out) (Kd.R_base ho0) hb); have n1_ := Aside0.mk (Kd.R_lower (Kd.R_new' (Kd.R_mono (ok' := fun k_ => True) ho0 (fun _ hk_ => trivial)) (Kd.R_lt (by (with_reducible repeat (first | apply qra | apply qrn | apply qrd)); exact HO530.out))) (below_size (by repeat (first | (with_reducible first | exact HB.out | apply qba | apply qbn | apply qb1) | exact HB.out)))); have n2_ := Aside0.mk (below_step (by repeat (first | (with_reducible first | exact HB.out | apply qba | apply qbn | apply qb1) | exact HB.out)) hb); clear HO530; clear HB; have HO530 := n0_; have HO533 := n1_; have HB := n2_; clear n0_ n1_ n2_; (try clear hb); (try clear hb2); (try clear hk); (try clear hi); (try clear ho0)) | (go_at_call 29; (with_reducible refine (spec_DurationOf.calls kj81 _ _ t525 t535 t536 _ ?side1 ?side2 A104.out).mono ?_); (case side1 => repeat (first | exact (Kd.R_reads' HO530.out).2.2 | (with_reducible refine Kd.C_alloc ?_ _) | (with_reducible refine Kd.C_drewN ?_ _) | (with_reducible refine Kd.C_drew ?_))); (case side2 => exact (Kd.R_reads' HO530.out).2.1); rintro e w' ⟨rfl, ⟨nd, rfl⟩⟩; (try first | exact ⟨rfl, _, qww _ _ _⟩ | exact ⟨rfl, _, Eq.trans (qww _ _ _) (congrArg (World.drewN _) (Nat.add_assoc _ _ _))⟩); obtain ⟨Ao125, co125, eo125⟩ := Kd.R_slice HO533.out; subst eo125) | (go_at_call 29; (with_reducible refine (spec_DurationOf.calls kj81 _ _ t531 t537 t538 _ ?side1 ?side2 A105.out).mono ?_); (case side1 => repeat (first | exact (Kd.R_reads' HO533.out).2.2 | (with_reducible refine Kd.C_alloc ?_ _) | (with_reducible refine Kd.C_drewN ?_ _) | (with_reducible refine Kd.C_drew ?_))); (case side2 => exact (Kd.R_reads' HO533.out).2.1); rintro e w' ⟨rfl, ⟨nd, rfl⟩⟩; (try first | exact ⟨rfl, _, qww _ _ _⟩ | exact ⟨rfl, _, Eq.trans (qww _ _ _) (congrArg (World.drewN _) (Nat.add_assoc _ _ _))⟩)))
                   repeat (go_quiet (first | (go_at_call 70; (with_reducible refine (spec_DrawTrillNote.calls kj81 _ _ l0 t525 t526 t527 t528 _ ?side1 ?side2 A101.out).mono ?_); (case side1 => repeat (first | exact (Kd.C_below HR0.out HB.out) | (with_reducible refine Kd.C_alloc ?_ _) | (with_reducible refine Kd.C_drewN ?_ _) | (with_reducible refine Kd.C_drew ?_))); (case side2 => exact HC0.out); rintro e w122 ⟨v529, rfl, ho0, hb⟩; have n0_ := Aside0.mk (Kd.R_lower ho0 (below_size (by repeat (first | (with_reducible first | exact HB.out | apply qba | apply qbn | apply qb1) | exact HB.out)))); have n1_ := Aside0.mk (below_step (by repeat (first | (with_reducible first | exact HB.out | apply qba | apply qbn | apply qb1) | exact HB.out)) hb); clear HB; have HO530 := n0_; have HB := n1_; clear n0_ n1_; (try clear hb); (try clear hb2); (try clear hk); (try clear hi); (try clear ho0); obtain ⟨Ao123, co123, eo123⟩ := Kd.R_slice HO530.out; subst eo123) | (go_at_call 71; (with_reducible refine (impl_TrillNote.calls kj81 (fun k_ => some k_ = (.slice Ao123 t525.length co123 : Value).ownBlock) _ _ t525 t526 t527 t528 t531 t534 _ ?side1 A102.out).mono ?_); (case side1 => exact Kd.R_V (Kd.R_tight rfl (HO530.out))); rintro e w124 ⟨v532, rfl, ho0, hb⟩; have n0_ := Aside0.mk (Kd.R_elder' (by (with_reducible repeat (first | apply qra | apply qrn | apply qrd)); exact HO530.out) (Kd.R_base ho0) hb); have n1_ := Aside0.mk (Kd.R_lower (Kd.R_new' (Kd.R_mono (ok' := fun k_ => True) ho0 (fun _ hk_ => trivial)) (Kd.R_lt (by (with_reducible repeat (first | apply qra | apply qrn | apply qrd)); exact HO530.out))) (below_size (by repeat (first | (with_reducible first | exact HB.out | apply qba | apply qbn | apply qb1) | exact HB.out)))); have n2_ := Aside0.mk (below_step (by repeat (first | (with_reducible first | exact HB.out | apply qba | apply qbn | apply qb1) | exact HB.out)) hb); clear HO530; clear HB; have HO530 := n0_; have HO533 := n1_; have HB := n2_; clear n0_ n1_ n2_; (try clear hb); (try clear hb2); (try clear hk); (try clear hi); (try clear ho0)) | (go_at_call 29; (with_reducible refine (spec_DurationOf.calls kj81 _ _ t525 t535 t536 _ ?side1 ?side2 A104.out).mono ?_); (case side1 => repeat (first | exact (Kd.R_reads' HO530.out).2.2 | (with_reducible refine Kd.C_alloc ?_ _) | (with_reducible refine Kd.C_drewN ?_ _) | (with_reducible refine Kd.C_drew ?_))); (case side2 => exact (Kd.R_reads' HO530.out).2.1); rintro e w' ⟨rfl, ⟨nd, rfl⟩⟩; (try first | exact ⟨rfl, _, qww _ _ _⟩ | exact ⟨rfl, _, Eq.trans (qww _ _ _) (congrArg (World.drewN _) (Nat.add_assoc _ _ _))⟩); obtain ⟨Ao125, co125, eo125⟩ := Kd.R_slice HO533.out; subst eo125) | (go_at_call 29; (with_reducible refine (spec_DurationOf.calls kj81 _ _ t531 t537 t538 _ ?side1 ?side2 A105.out).mono ?_); (case side1 => repeat (first | exact (Kd.R_reads' HO533.out).2.2 | (with_reducible refine Kd.C_alloc ?_ _) | (with_reducible refine Kd.C_drewN ?_ _) | (with_reducible refine Kd.C_drew ?_))); (case side2 => exact (Kd.R_reads' HO533.out).2.1); rintro e w' ⟨rfl, ⟨nd, rfl⟩⟩; (try first | exact ⟨rfl, _, qww _ _ _⟩ | exact ⟨rfl, _, Eq.trans (qww _ _ _) (congrArg (World.drewN _) (Nat.add_assoc _ _ _))⟩))); try go_wp2_with (first | (go_at_call 70; (with_reducible refine (spec_DrawTrillNote.calls kj81 _ _ l0 t525 t526 t527 t528 _ ?side1 ?side2 A101.out).mono ?_); (case side1 => repeat (first | exact (Kd.C_below HR0.out HB.out) | (with_reducible refine Kd.C_alloc ?_ _) | (with_reducible refine Kd.C_drewN ?_ _) | (with_reducible refine Kd.C_drew ?_))); (case side2 => exact HC0.out); rintro e w122 ⟨v529, rfl, ho0, hb⟩; have n0_ := Aside0.mk (Kd.R_lower ho0 (below_size (by repeat (first | (with_reducible first | exact HB.out | apply qba | apply qbn | apply qb1) | exact HB.out)))); have n1_ := Aside0.mk (below_step (by repeat (first | (with_reducible first | exact HB.out | apply qba | apply qbn | apply qb1) | exact HB.out)) hb); clear HB; have HO530 := n0_; have HB := n1_; clear n0_ n1_; (try clear hb); (try clear hb2); (try clear hk); (try clear hi); (try clear ho0); obtain ⟨Ao123, co123, eo123⟩ := Kd.R_slice HO530.out; subst eo123) | (go_at_call 71; (with_reducible refine (impl_TrillNote.calls kj81 (fun k_ => some k_ = (.slice Ao123 t525.length co123 : Value).ownBlock) _ _ t525 t526 t527 t528 t531 t534 _ ?side1 A102.out).mono ?_); (case side1 => exact Kd.R_V (Kd.R_tight rfl (HO530.out))); rintro e w124 ⟨v532, rfl, ho0, hb⟩; have n0_ := Aside0.mk (Kd.R_elder' (by (with_reducible repeat (first | apply qra | apply qrn | apply qrd)); exact HO530.out) (Kd.R_base ho0) hb); have n1_ := Aside0.mk (Kd.R_lower (Kd.R_new' (Kd.R_mono (ok' := fun k_ => True) ho0 (fun _ hk_ => trivial)) (Kd.R_lt (by (with_reducible repeat (first | apply qra | apply qrn | apply qrd)); exact HO530.out))) (below_size (by repeat (first | (with_reducible first | exact HB.out | apply qba | apply qbn | apply qb1) | exact HB.out)))); have n2_ := Aside0.mk (below_step (by repeat (first | (with_reducible first | exact HB.out | apply qba | apply qbn | apply qb1) | exact HB.out)) hb); clear HO530; clear HB; have HO530 := n0_; have HO533 := n1_; have HB := n2_; clear n0_ n1_ n2_; (try clear hb); (try clear hb2); (try clear hk); (try clear hi); (try clear ho0)) | (go_at_call 29; (with_reducible refine (spec_DurationOf.calls kj81 _ _ t525 t535 t536 _ ?side1 ?side2 A104.out).mono ?_); (case side1 => repeat (first | exact (Kd.R_reads' HO530.out).2.2 | (with_reducible refine Kd.C_alloc ?_ _) | (with_reducible refine Kd.C_drewN ?_ _) | (with_reducible refine Kd.C_drew ?_))); (case side2 => exact (Kd.R_reads' HO530.out).2.1); rintro e w' ⟨rfl, ⟨nd, rfl⟩⟩; (try first | exact ⟨rfl, _, qww _ _ _⟩ | exact ⟨rfl, _, Eq.trans (qww _ _ _) (congrArg (World.drewN _) (Nat.add_assoc _ _ _))⟩); obtain ⟨Ao125, co125, eo125⟩ := Kd.R_slice HO533.out; subst eo125) | (go_at_call 29; (with_reducible refine (spec_DurationOf.calls kj81 _ _ t531 t537 t538 _ ?side1 ?side2 A105.out).mono ?_); (case side1 => repeat (first | exact (Kd.R_reads' HO533.out).2.2 | (with_reducible refine Kd.C_alloc ?_ _) | (with_reducible refine Kd.C_drewN ?_ _) | (with_reducible refine Kd.C_drew ?_))); (case side2 => exact (Kd.R_reads' HO533.out).2.1); rintro e w' ⟨rfl, ⟨nd, rfl⟩⟩; (try first | exact ⟨rfl, _, qww _ _ _⟩ | exact ⟨rfl, _, Eq.trans (qww _ _ _) (congrArg (World.drewN _) (Nat.add_assoc _ _ _))⟩))))
                   go_ret
                   exact ⟨by first | rfl | (simp [errW_none, errW_some] <;> rfl) | (simp [*, errW_none, errW_some] <;> rfl), by repeat (first | (with_reducible first | exact HB.out | apply qba | apply qbn | apply qb1) | exact HB.out)⟩
              · rw [if_neg c103] at H
                have c103b0 : (t534 == 0) = false := beq_eq_false_iff_ne.mpr c103
                have c103b1 : (t534 != 0) = true := bne_iff_ne.mpr c103
                obtain rfl := Option.some.inj H
                go_wp2_with (first | (go_at_call 70; (with_reducible refine (spec_DrawTrillNote.calls kj81 _ _ l0 t525 t526 t527 t528 _ ?side1 ?side2 A101.out).mono ?_); (case side1 => repeat (first | exact (Kd.C_below HR0.out HB.out) | (with_reducible refine Kd.C_alloc ?_ _) | (with_reducible refine Kd.C_drewN ?_ _) | (with_reducible refine Kd.C_drew ?_))); (case side2 => exact HC0.out); rintro e w126 ⟨v529, rfl, ho0, hb⟩; have n0_ := Aside0.mk (Kd.R_lower ho0 (below_size (by repeat (first | (with_reducible first | exact HB.out | apply qba | apply qbn | apply qb1) | exact HB.out)))); have n1_ := Aside0.mk (below_step (by repeat (first | (with_reducible first | exact HB.out | apply qba | apply qbn | apply qb1) | exact HB.out)) hb); clear HB; have HO530 := n0_; have HB := n1_; clear n0_ n1_; (try clear hb); (try clear hb2); (try clear hk); (try clear hi); (try clear ho0); obtain ⟨Ao127, co127, eo127⟩ := Kd.R_slice HO530.out; subst eo127) | (go_at_call 71; (with_reducible refine (impl_TrillNote.calls kj81 (fun k_ => some k_ = (.slice Ao127 t525.length co127 : Value).ownBlock) _ _ t525 t526 t527 t528 t531 t534 _ ?side1 A102.out).mono ?_); (case side1 => exact Kd.R_V (Kd.R_tight rfl (HO530.out))); rintro e w128 ⟨v532, rfl, ho0, hb⟩; have n0_ := Aside0.mk (Kd.R_elder' (by (with_reducible repeat (first | apply qra | apply qrn | apply qrd)); exact HO530.out) (Kd.R_base ho0) hb); have n1_ := Aside0.mk (Kd.R_lower (Kd.R_new' (Kd.R_mono (ok' := fun k_ => True) ho0 (fun _ hk_ => trivial)) (Kd.R_lt (by (with_reducible repeat (first | apply qra | apply qrn | apply qrd)); exact HO530.out))) (below_size (by repeat (first | (with_reducible first | exact HB.out | apply qba | apply qbn | apply qb1) | exact HB.out)))); have n2_ := Aside0.mk (below_step (by repeat (first | (with_reducible first | exact HB.out | apply qba | apply qbn | apply qb1) | exact HB.out)) hb); clear HO530; clear HB; have HO530 := n0_; have HO533 := n1_; have HB := n2_; clear n0_ n1_ n2_; (try clear hb); (try clear hb2); (try clear hk); (try clear hi); (try clear ho0); obtain ⟨Ao129, co129, eo129⟩ := Kd.R_slice HO533.out; subst eo129))
                repeat (go_quiet (first | (go_at_call 70; (with_reducible refine (spec_DrawTrillNote.calls kj81 _ _ l0 t525 t526 t527 t528 _ ?side1 ?side2 A101.out).mono ?_); (case side1 => repeat (first | exact (Kd.C_below HR0.out HB.out) | (with_reducible refine Kd.C_alloc ?_ _) | (with_reducible refine Kd.C_drewN ?_ _) | (with_reducible refine Kd.C_drew ?_))); (case side2 => exact HC0.out); rintro e w126 ⟨v529, rfl, ho0, hb⟩; have n0_ := Aside0.mk (Kd.R_lower ho0 (below_size (by repeat (first | (with_reducible first | exact HB.out | apply qba | apply qbn | apply qb1) | exact HB.out)))); have n1_ := Aside0.mk (below_step (by repeat (first | (with_reducible first | exact HB.out | apply qba | apply qbn | apply qb1) | exact HB.out)) hb); clear HB; have HO530 := n0_; have HB := n1_; clear n0_ n1_; (try clear hb); (try clear hb2); (try clear hk); (try clear hi); (try clear ho0); obtain ⟨Ao127, co127, eo127⟩ := Kd.R_slice HO530.out; subst eo127) | (go_at_call 71; (with_reducible refine (impl_TrillNote.calls kj81 (fun k_ => some k_ = (.slice Ao127 t525.length co127 : Value).ownBlock) _ _ t525 t526 t527 t528 t531 t534 _ ?side1 A102.out).mono ?_); (case side1 => exact Kd.R_V (Kd.R_tight rfl (HO530.out))); rintro e w128 ⟨v532, rfl, ho0, hb⟩; have n0_ := Aside0.mk (Kd.R_elder' (by (with_reducible repeat (first | apply qra | apply qrn | apply qrd)); exact HO530.out) (Kd.R_base ho0) hb); have n1_ := Aside0.mk (Kd.R_lower (Kd.R_new' (Kd.R_mono (ok' := fun k_ => True) ho0 (fun _ hk_ => trivial)) (Kd.R_lt (by (with_reducible repeat (first | apply qra | apply qrn | apply qrd)); exact HO530.out))) (below_size (by repeat (first | (with_reducible first | exact HB.out | apply qba | apply qbn | apply qb1) | exact HB.out)))); have n2_ := Aside0.mk (below_step (by repeat (first | (with_reducible first | exact HB.out | apply qba | apply qbn | apply qb1) | exact HB.out)) hb); clear HO530; clear HB; have HO530 := n0_; have HO533 := n1_; have HB := n2_; clear n0_ n1_ n2_; (try clear hb); (try clear hb2); (try clear hk); (try clear hi); (try clear ho0); obtain ⟨Ao129, co129, eo129⟩ := Kd.R_slice HO533.out; subst eo129)); try go_wp2_with (first | (go_at_call 70; (with_reducible refine (spec_DrawTrillNote.calls kj81 _ _ l0 t525 t526 t527 t528 _ ?side1 ?side2 A101.out).mono ?_); (case side1 => repeat (first | exact (Kd.C_below HR0.out HB.out) | (with_reducible refine Kd.C_alloc ?_ _) | (with_reducible refine Kd.C_drewN ?_ _) | (with_reducible refine Kd.C_drew ?_))); (case side2 => exact HC0.out); rintro e w126 ⟨v529, rfl, ho0, hb⟩; have n0_ := Aside0.mk (Kd.R_lower ho0 (below_size (by repeat (first | (with_reducible first | exact HB.out | apply qba | apply qbn | apply qb1) | exact HB.out)))); have n1_ := Aside0.mk (below_step (by repeat (first | (with_reducible first | exact HB.out | apply qba | apply qbn | apply qb1) | exact HB.out)) hb); clear HB; have HO530 := n0_; have HB := n1_; clear n0_ n1_; (try clear hb); (try clear hb2); (try clear hk); (try clear hi); (try clear ho0); obtain ⟨Ao127, co127, eo127⟩ := Kd.R_slice HO530.out; subst eo127) | (go_at_call 71; (with_reducible refine (impl_TrillNote.calls kj81 (fun k_ => some k_ = (.slice Ao127 t525.length co127 : Value).ownBlock) _ _ t525 t526 t527 t528 t531 t534 _ ?side1 A102.out).mono ?_); (case side1 => exact Kd.R_V (Kd.R_tight rfl (HO530.out))); rintro e w128 ⟨v532, rfl, ho0, hb⟩; have n0_ := Aside0.mk (Kd.R_elder' (by (with_reducible repeat (first | apply qra | apply qrn | apply qrd)); exact HO530.out) (Kd.R_base ho0) hb); have n1_ := Aside0.mk (Kd.R_lower (Kd.R_new' (Kd.R_mono (ok' := fun k_ => True) ho0 (fun _ hk_ => trivial)) (Kd.R_lt (by (with_reducible repeat (first | apply qra | apply qrn | apply qrd)); exact HO530.out))) (below_size (by repeat (first | (with_reducible first | exact HB.out | apply qba | apply qbn | apply qb1) | exact HB.out)))); have n2_ := Aside0.mk (below_step (by repeat (first | (with_reducible first | exact HB.out | apply qba | apply qbn | apply qb1) | exact HB.out)) hb); clear HO530; clear HB; have HO530 := n0_; have HO533 := n1_; have HB := n2_; clear n0_ n1_ n2_; (try clear hb); (try clear hb2); (try clear hk); (try clear hi); (try clear ho0); obtain ⟨Ao129, co129, eo129⟩ := Kd.R_slice HO533.out; subst eo129)))
                go_ret
                exact ⟨by first | rfl | (simp [errW_none, errW_some] <;> rfl) | (simp [*, errW_none, errW_some] <;> rfl), by repeat (first | (with_reducible first | exact HB.out | apply qba | apply qbn | apply qb1) | exact HB.out)⟩

/-- THE ONE PURE STATEMENT of laws_FnCurves: yours. -/
def laws_FnCurves.Pure : Prop := ∀ (l0 : List Int) (l1 : List Int), (l0.length ≤ maxLen ∧ ∀ y0 ∈ l0, (Lit.int .u8 y0).wf = true) → (l1.length ≤ maxLen ∧ ∀ y0 ∈ l1, (Lit.int .u8 y0).wf = true) → ∃ k, laws_FnCurves.f k l0 l1 = some true
theorem laws_FnCurves.walk (P : laws_FnCurves.Pure) (A0 : Option Addr) (c0 : Nat) (l0 : List Int) (A1 : Option Addr) (c1 : Nat) (l1 : List Int) (w : World) (hr0 : Kd.C (Kd.int .u8) w A0 l0.length l0) (hc0 : l0.length ≤ c0) (hr1 : Kd.C (Kd.int .u8) w A1 l1.length l1) (hc1 : l1.length ≤ c1) (hk0 : (l0.length ≤ maxLen ∧ ∀ y0 ∈ l0, (Lit.int .u8 y0).wf = true)) (hk1 : (l1.length ≤ maxLen ∧ ∀ y0 ∈ l1, (Lit.int .u8 y0).wf = true)) :
 Calls Try.prog 9 #[.slice A0 l0.length c0, .slice A1 l1.length c1] w fun e w' => e = .returned (.bool true) ∧ Below w.heap.size w w' := by
 obtain ⟨k, h⟩ := P l0 l1 hk0 hk1
 refine (laws_FnCurves.calls k _ _ l0 _ _ l1 true w hr0 hc0 hr1 hc1 h).mono ?_
 rintro e w' ⟨rfl, hd⟩
 exact ⟨rfl, hd⟩

end Go.Proofs.Ytomeeimjlagbbaa.PU
