-- WRITTEN BY wip/gprint.py, a program of this session's over the kit's print, with contracts given by hand
import Derived.Test.YtomeeimjlagbbaaPSx0
import Derived.Test.YtomeeimjlagbbaaPSx1
import Derived.Test.YtomeeimjlagbbaaPSx2
import Derived.Test.YtomeeimjlagbbaaPSx3
import Derived.Test.YtomeeimjlagbbaaPSx4
import Derived.Test.YtomeeimjlagbbaaPSx6
import Derived.Test.YtomeeimjlagbbaaPSx8
import Derived.Test.YtomeeimjlagbbaaPSx9
import Derived.Test.YtomeeimjlagbbaaPSx10
namespace Go.Proofs.Ytomeeimjlagbbaa.PS
open Go.RowKit Go.Proofs.YtomeeimjlagbbaaW.PrintWords Go.Proofs.YtomeeimjlagbbaaW.PrintLast Go.Proofs.YtomeeimjlagbbaaW.PrintMore
attribute [local go_sem] max2_int min2_int max_two min_two max_three min_three max_four min_four   -- for this text's walks alone
set_option linter.unusedVariables false
set_option linter.unusedSimpArgs false

attribute [local go_sem high] eqA40
set_option maxHeartbeats 8000000 in
set_option maxRecDepth 100000 in
theorem laws_FnStages.calls (k : Nat) (A0 : Option Addr) (c0 : Nat) (l0 : List Int) (A1 : Option Addr) (c1 : Nat) (l1 : List Int) (r : Bool) (w : World) (hr0 : Kd.C (Kd.int .u8) w A0 l0.length l0) (hc0 : l0.length ≤ c0) (hr1 : Kd.C (Kd.int .u8) w A1 l1.length l1) (hc1 : l1.length ≤ c1) (h : laws_FnStages.f k l0 l1 = some r) :
    Calls Try.prog 3 #[.slice A0 l0.length c0, .slice A1 l1.length c1] w fun e w' => e = .returned (.bool r) ∧ Below w.heap.size w w' := by
  have hu40 := Try.underlying40
  have HR0 := Aside0.mk hr0
  have HC0 := Aside0.mk hc0
  clear hr0 hc0
  have HR1 := Aside0.mk hr1
  have HC1 := Aside0.mk hc1
  clear hr1 hc1
  have HB := Aside0.mk (Below.refl w.heap.size w)
  have H : ((laws_r8Long.f l0 l1).bind fun t200 => (if t200 = true then (some true) else ((laws_r8At.f l1 0 10).bind fun t201 => ((laws_r8At.f l1 1 20).bind fun t202 => ((laws_r8At.f l1 2 (wrap64 ((wrap64 ((wrap64 ((wrap64 (t201 - 10)) + t202)) - (wrap64 (t201 - 10)))) + 1))).bind fun t203 => ((laws_r8At.f l1 3 8).bind fun t204 => ((impl_RangesOf.f k (wrap64 (t201 - 10)) (wrap64 ((wrap64 (t201 - 10)) + t202)) (wrap64 ((wrap64 (t201 - 10)) + t203)) (wrap64 (1 + t204))).bind fun bt205 => (if bt205.2 = 0 then (laws_FnStages.j0 k l0 l1 (wrap64 (t201 - 10)) (wrap64 ((wrap64 (t201 - 10)) + t202)) (wrap64 ((wrap64 (t201 - 10)) + t203)) (wrap64 (1 + t204)) bt205.1 ((bt205.1.length : Int) != (wrap64 (1 + t204)))) else (laws_FnStages.j0 k l0 l1 (wrap64 (t201 - 10)) (wrap64 ((wrap64 (t201 - 10)) + t202)) (wrap64 ((wrap64 (t201 - 10)) + t203)) (wrap64 (1 + t204)) bt205.1 true))))))))) = some r := h
  clear h
  replace H := Option.bind_eq_some_iff.mp H
  obtain ⟨t200, A30, H⟩ := H
  replace H : (if t200 = true then (some true) else ((laws_r8At.f l1 0 10).bind fun t201 => ((laws_r8At.f l1 1 20).bind fun t202 => ((laws_r8At.f l1 2 (wrap64 ((wrap64 ((wrap64 ((wrap64 (t201 - 10)) + t202)) - (wrap64 (t201 - 10)))) + 1))).bind fun t203 => ((laws_r8At.f l1 3 8).bind fun t204 => ((impl_RangesOf.f k (wrap64 (t201 - 10)) (wrap64 ((wrap64 (t201 - 10)) + t202)) (wrap64 ((wrap64 (t201 - 10)) + t203)) (wrap64 (1 + t204))).bind fun bt205 => (if bt205.2 = 0 then (laws_FnStages.j0 k l0 l1 (wrap64 (t201 - 10)) (wrap64 ((wrap64 (t201 - 10)) + t202)) (wrap64 ((wrap64 (t201 - 10)) + t203)) (wrap64 (1 + t204)) bt205.1 ((bt205.1.length : Int) != (wrap64 (1 + t204)))) else (laws_FnStages.j0 k l0 l1 (wrap64 (t201 - 10)) (wrap64 ((wrap64 (t201 - 10)) + t202)) (wrap64 ((wrap64 (t201 - 10)) + t203)) (wrap64 (1 + t204)) bt205.1 true)))))))) = some r := H
  have A3 := Aside0.mk A30
  clear A30
  by_cases c4 : t200 = true
  · subst c4
    have H1 : (some true) = some r := by rw [if_pos rfl] at H; exact H
    clear H
    have H := H1
    clear H1
    obtain rfl := Option.some.inj H
    go_enter Try.func3, Try.ntmps3
    go_wp2_with (first | (go_at_call 10; (with_reducible refine (laws_r8Long.calls _ _ l0 _ _ l1 true _ ?side1 ?side2 ?side3 ?side4 A3.out).mono ?_); (case side1 => repeat (first | exact HR0.out | (with_reducible refine Kd.C_alloc ?_ _) | (with_reducible refine Kd.C_drewN ?_ _) | (with_reducible refine Kd.C_drew ?_))); (case side2 => exact HC0.out); (case side3 => repeat (first | exact HR1.out | (with_reducible refine Kd.C_alloc ?_ _) | (with_reducible refine Kd.C_drewN ?_ _) | (with_reducible refine Kd.C_drew ?_))); (case side4 => exact HC1.out); rintro e w' ⟨rfl, ⟨nd, rfl⟩⟩; (try first | exact ⟨rfl, _, World.drewN_drewN _ _ _⟩ | exact ⟨rfl, _, Eq.trans (World.drewN_drewN _ _ _) (congrArg (World.drewN _) (Nat.add_assoc _ _ _))⟩)))
    repeat (go_quiet (first | (go_at_call 10; (with_reducible refine (laws_r8Long.calls _ _ l0 _ _ l1 true _ ?side1 ?side2 ?side3 ?side4 A3.out).mono ?_); (case side1 => repeat (first | exact HR0.out | (with_reducible refine Kd.C_alloc ?_ _) | (with_reducible refine Kd.C_drewN ?_ _) | (with_reducible refine Kd.C_drew ?_))); (case side2 => exact HC0.out); (case side3 => repeat (first | exact HR1.out | (with_reducible refine Kd.C_alloc ?_ _) | (with_reducible refine Kd.C_drewN ?_ _) | (with_reducible refine Kd.C_drew ?_))); (case side4 => exact HC1.out); rintro e w' ⟨rfl, ⟨nd, rfl⟩⟩; (try first | exact ⟨rfl, _, World.drewN_drewN _ _ _⟩ | exact ⟨rfl, _, Eq.trans (World.drewN_drewN _ _ _) (congrArg (World.drewN _) (Nat.add_assoc _ _ _))⟩))); try go_wp2_with (first | (go_at_call 10; (with_reducible refine (laws_r8Long.calls _ _ l0 _ _ l1 true _ ?side1 ?side2 ?side3 ?side4 A3.out).mono ?_); (case side1 => repeat (first | exact HR0.out | (with_reducible refine Kd.C_alloc ?_ _) | (with_reducible refine Kd.C_drewN ?_ _) | (with_reducible refine Kd.C_drew ?_))); (case side2 => exact HC0.out); (case side3 => repeat (first | exact HR1.out | (with_reducible refine Kd.C_alloc ?_ _) | (with_reducible refine Kd.C_drewN ?_ _) | (with_reducible refine Kd.C_drew ?_))); (case side4 => exact HC1.out); rintro e w' ⟨rfl, ⟨nd, rfl⟩⟩; (try first | exact ⟨rfl, _, World.drewN_drewN _ _ _⟩ | exact ⟨rfl, _, Eq.trans (World.drewN_drewN _ _ _) (congrArg (World.drewN _) (Nat.add_assoc _ _ _))⟩))))
    go_ret
    exact ⟨by first | rfl | (simp [errW_none, errW_some] <;> rfl) | (simp [*, errW_none, errW_some] <;> rfl), by repeat (first | (with_reducible first | exact HB.out | apply below_alloc | apply pw_below_drewN | apply below_drew1) | exact HB.out)⟩
  · as_aux_lemma =>
     replace c4 := Bool.eq_false_iff.mpr c4
     subst c4
     have H1 : ((laws_r8At.f l1 0 10).bind fun t201 => ((laws_r8At.f l1 1 20).bind fun t202 => ((laws_r8At.f l1 2 (wrap64 ((wrap64 ((wrap64 ((wrap64 (t201 - 10)) + t202)) - (wrap64 (t201 - 10)))) + 1))).bind fun t203 => ((laws_r8At.f l1 3 8).bind fun t204 => ((impl_RangesOf.f k (wrap64 (t201 - 10)) (wrap64 ((wrap64 (t201 - 10)) + t202)) (wrap64 ((wrap64 (t201 - 10)) + t203)) (wrap64 (1 + t204))).bind fun bt205 => (if bt205.2 = 0 then (laws_FnStages.j0 k l0 l1 (wrap64 (t201 - 10)) (wrap64 ((wrap64 (t201 - 10)) + t202)) (wrap64 ((wrap64 (t201 - 10)) + t203)) (wrap64 (1 + t204)) bt205.1 ((bt205.1.length : Int) != (wrap64 (1 + t204)))) else (laws_FnStages.j0 k l0 l1 (wrap64 (t201 - 10)) (wrap64 ((wrap64 (t201 - 10)) + t202)) (wrap64 ((wrap64 (t201 - 10)) + t203)) (wrap64 (1 + t204)) bt205.1 true))))))) = some r := by rw [if_neg (show ¬ (false = true) by decide)] at H; exact H
     clear H
     have H := H1
     clear H1
     replace H := Option.bind_eq_some_iff.mp H
     obtain ⟨t201, A50, H⟩ := H
     replace H : ((laws_r8At.f l1 1 20).bind fun t202 => ((laws_r8At.f l1 2 (wrap64 ((wrap64 ((wrap64 ((wrap64 (t201 - 10)) + t202)) - (wrap64 (t201 - 10)))) + 1))).bind fun t203 => ((laws_r8At.f l1 3 8).bind fun t204 => ((impl_RangesOf.f k (wrap64 (t201 - 10)) (wrap64 ((wrap64 (t201 - 10)) + t202)) (wrap64 ((wrap64 (t201 - 10)) + t203)) (wrap64 (1 + t204))).bind fun bt205 => (if bt205.2 = 0 then (laws_FnStages.j0 k l0 l1 (wrap64 (t201 - 10)) (wrap64 ((wrap64 (t201 - 10)) + t202)) (wrap64 ((wrap64 (t201 - 10)) + t203)) (wrap64 (1 + t204)) bt205.1 ((bt205.1.length : Int) != (wrap64 (1 + t204)))) else (laws_FnStages.j0 k l0 l1 (wrap64 (t201 - 10)) (wrap64 ((wrap64 (t201 - 10)) + t202)) (wrap64 ((wrap64 (t201 - 10)) + t203)) (wrap64 (1 + t204)) bt205.1 true)))))) = some r := H
     have A5 := Aside0.mk A50
     clear A50
     replace H := Option.bind_eq_some_iff.mp H
     obtain ⟨t202, A60, H⟩ := H
     replace H : ((laws_r8At.f l1 2 (wrap64 ((wrap64 ((wrap64 ((wrap64 (t201 - 10)) + t202)) - (wrap64 (t201 - 10)))) + 1))).bind fun t203 => ((laws_r8At.f l1 3 8).bind fun t204 => ((impl_RangesOf.f k (wrap64 (t201 - 10)) (wrap64 ((wrap64 (t201 - 10)) + t202)) (wrap64 ((wrap64 (t201 - 10)) + t203)) (wrap64 (1 + t204))).bind fun bt205 => (if bt205.2 = 0 then (laws_FnStages.j0 k l0 l1 (wrap64 (t201 - 10)) (wrap64 ((wrap64 (t201 - 10)) + t202)) (wrap64 ((wrap64 (t201 - 10)) + t203)) (wrap64 (1 + t204)) bt205.1 ((bt205.1.length : Int) != (wrap64 (1 + t204)))) else (laws_FnStages.j0 k l0 l1 (wrap64 (t201 - 10)) (wrap64 ((wrap64 (t201 - 10)) + t202)) (wrap64 ((wrap64 (t201 - 10)) + t203)) (wrap64 (1 + t204)) bt205.1 true))))) = some r := H
     have A6 := Aside0.mk A60
     clear A60
     replace H := Option.bind_eq_some_iff.mp H
     obtain ⟨t203, A70, H⟩ := H
     replace H : ((laws_r8At.f l1 3 8).bind fun t204 => ((impl_RangesOf.f k (wrap64 (t201 - 10)) (wrap64 ((wrap64 (t201 - 10)) + t202)) (wrap64 ((wrap64 (t201 - 10)) + t203)) (wrap64 (1 + t204))).bind fun bt205 => (if bt205.2 = 0 then (laws_FnStages.j0 k l0 l1 (wrap64 (t201 - 10)) (wrap64 ((wrap64 (t201 - 10)) + t202)) (wrap64 ((wrap64 (t201 - 10)) + t203)) (wrap64 (1 + t204)) bt205.1 ((bt205.1.length : Int) != (wrap64 (1 + t204)))) else (laws_FnStages.j0 k l0 l1 (wrap64 (t201 - 10)) (wrap64 ((wrap64 (t201 - 10)) + t202)) (wrap64 ((wrap64 (t201 - 10)) + t203)) (wrap64 (1 + t204)) bt205.1 true)))) = some r := H
     have A7 := Aside0.mk A70
     clear A70
     replace H := Option.bind_eq_some_iff.mp H
     obtain ⟨t204, A80, H⟩ := H
     replace H : ((impl_RangesOf.f k (wrap64 (t201 - 10)) (wrap64 ((wrap64 (t201 - 10)) + t202)) (wrap64 ((wrap64 (t201 - 10)) + t203)) (wrap64 (1 + t204))).bind fun bt205 => (if bt205.2 = 0 then (laws_FnStages.j0 k l0 l1 (wrap64 (t201 - 10)) (wrap64 ((wrap64 (t201 - 10)) + t202)) (wrap64 ((wrap64 (t201 - 10)) + t203)) (wrap64 (1 + t204)) bt205.1 ((bt205.1.length : Int) != (wrap64 (1 + t204)))) else (laws_FnStages.j0 k l0 l1 (wrap64 (t201 - 10)) (wrap64 ((wrap64 (t201 - 10)) + t202)) (wrap64 ((wrap64 (t201 - 10)) + t203)) (wrap64 (1 + t204)) bt205.1 true))) = some r := H
     have A8 := Aside0.mk A80
     clear A80
     replace H := Option.bind_eq_some_iff.mp H
     obtain ⟨⟨t205, t206⟩, A90, H⟩ := H
     replace H : (if t206 = 0 then (laws_FnStages.j0 k l0 l1 (wrap64 (t201 - 10)) (wrap64 ((wrap64 (t201 - 10)) + t202)) (wrap64 ((wrap64 (t201 - 10)) + t203)) (wrap64 (1 + t204)) t205 ((t205.length : Int) != (wrap64 (1 + t204)))) else (laws_FnStages.j0 k l0 l1 (wrap64 (t201 - 10)) (wrap64 ((wrap64 (t201 - 10)) + t202)) (wrap64 ((wrap64 (t201 - 10)) + t203)) (wrap64 (1 + t204)) t205 true)) = some r := H
     have A9 := Aside0.mk A90
     clear A90
     have HC10 := Aside0.mk H
     clear H
     go_enter Try.func3, Try.ntmps3
     go_upto_region 8 with (first | (go_at_call 10; (with_reducible refine (laws_r8Long.calls _ _ l0 _ _ l1 false _ ?side1 ?side2 ?side3 ?side4 A3.out).mono ?_); (case side1 => repeat (first | exact HR0.out | (with_reducible refine Kd.C_alloc ?_ _) | (with_reducible refine Kd.C_drewN ?_ _) | (with_reducible refine Kd.C_drew ?_))); (case side2 => exact HC0.out); (case side3 => repeat (first | exact HR1.out | (with_reducible refine Kd.C_alloc ?_ _) | (with_reducible refine Kd.C_drewN ?_ _) | (with_reducible refine Kd.C_drew ?_))); (case side4 => exact HC1.out); rintro e w' ⟨rfl, ⟨nd, rfl⟩⟩; (try first | exact ⟨rfl, _, World.drewN_drewN _ _ _⟩ | exact ⟨rfl, _, Eq.trans (World.drewN_drewN _ _ _) (congrArg (World.drewN _) (Nat.add_assoc _ _ _))⟩)) | (go_at_call 11; (with_reducible refine (laws_r8At.calls _ _ l1 0 10 t201 _ ?side1 ?side2 A5.out).mono ?_); (case side1 => repeat (first | exact HR1.out | (with_reducible refine Kd.C_alloc ?_ _) | (with_reducible refine Kd.C_drewN ?_ _) | (with_reducible refine Kd.C_drew ?_))); (case side2 => exact HC1.out); rintro e w' ⟨rfl, ⟨nd, rfl⟩⟩; (try first | exact ⟨rfl, _, World.drewN_drewN _ _ _⟩ | exact ⟨rfl, _, Eq.trans (World.drewN_drewN _ _ _) (congrArg (World.drewN _) (Nat.add_assoc _ _ _))⟩)) | (go_at_call 11; (with_reducible refine (laws_r8At.calls _ _ l1 1 20 t202 _ ?side1 ?side2 A6.out).mono ?_); (case side1 => repeat (first | exact HR1.out | (with_reducible refine Kd.C_alloc ?_ _) | (with_reducible refine Kd.C_drewN ?_ _) | (with_reducible refine Kd.C_drew ?_))); (case side2 => exact HC1.out); rintro e w' ⟨rfl, ⟨nd, rfl⟩⟩; (try first | exact ⟨rfl, _, World.drewN_drewN _ _ _⟩ | exact ⟨rfl, _, Eq.trans (World.drewN_drewN _ _ _) (congrArg (World.drewN _) (Nat.add_assoc _ _ _))⟩)) | (go_at_call 11; (with_reducible refine (laws_r8At.calls _ _ l1 2 (wrap64 ((wrap64 ((wrap64 ((wrap64 (t201 - 10)) + t202)) - (wrap64 (t201 - 10)))) + 1)) t203 _ ?side1 ?side2 A7.out).mono ?_); (case side1 => repeat (first | exact HR1.out | (with_reducible refine Kd.C_alloc ?_ _) | (with_reducible refine Kd.C_drewN ?_ _) | (with_reducible refine Kd.C_drew ?_))); (case side2 => exact HC1.out); rintro e w' ⟨rfl, ⟨nd, rfl⟩⟩; (try first | exact ⟨rfl, _, World.drewN_drewN _ _ _⟩ | exact ⟨rfl, _, Eq.trans (World.drewN_drewN _ _ _) (congrArg (World.drewN _) (Nat.add_assoc _ _ _))⟩)) | (go_at_call 11; (with_reducible refine (laws_r8At.calls _ _ l1 3 8 t204 _ ?side1 ?side2 A8.out).mono ?_); (case side1 => repeat (first | exact HR1.out | (with_reducible refine Kd.C_alloc ?_ _) | (with_reducible refine Kd.C_drewN ?_ _) | (with_reducible refine Kd.C_drew ?_))); (case side2 => exact HC1.out); rintro e w' ⟨rfl, ⟨nd, rfl⟩⟩; (try first | exact ⟨rfl, _, World.drewN_drewN _ _ _⟩ | exact ⟨rfl, _, Eq.trans (World.drewN_drewN _ _ _) (congrArg (World.drewN _) (Nat.add_assoc _ _ _))⟩)) | (go_at_call 12; (with_reducible refine (impl_RangesOf.calls k (wrap64 (t201 - 10)) (wrap64 ((wrap64 (t201 - 10)) + t202)) (wrap64 ((wrap64 (t201 - 10)) + t203)) (wrap64 (1 + t204)) t205 t206 _ A9.out).mono ?_); rintro e w11 ⟨v207, rfl, ho0, hb⟩; have n0_ := Aside0.mk (Kd.S_lower ho0 (below_size (by repeat (first | (with_reducible first | exact HB.out | apply below_alloc | apply pw_below_drewN | apply below_drew1) | exact HB.out)))); have n1_ := Aside0.mk (below_step (by repeat (first | (with_reducible first | exact HB.out | apply below_alloc | apply pw_below_drewN | apply below_drew1) | exact HB.out)) hb); clear HB; have HO208 := n0_; have HB := n1_; clear n0_ n1_; (try clear hb); (try clear hb2); (try clear hk); (try clear hi); (try clear ho0)))
     repeat (go_quiet (first | (go_at_call 10; (with_reducible refine (laws_r8Long.calls _ _ l0 _ _ l1 false _ ?side1 ?side2 ?side3 ?side4 A3.out).mono ?_); (case side1 => repeat (first | exact HR0.out | (with_reducible refine Kd.C_alloc ?_ _) | (with_reducible refine Kd.C_drewN ?_ _) | (with_reducible refine Kd.C_drew ?_))); (case side2 => exact HC0.out); (case side3 => repeat (first | exact HR1.out | (with_reducible refine Kd.C_alloc ?_ _) | (with_reducible refine Kd.C_drewN ?_ _) | (with_reducible refine Kd.C_drew ?_))); (case side4 => exact HC1.out); rintro e w' ⟨rfl, ⟨nd, rfl⟩⟩; (try first | exact ⟨rfl, _, World.drewN_drewN _ _ _⟩ | exact ⟨rfl, _, Eq.trans (World.drewN_drewN _ _ _) (congrArg (World.drewN _) (Nat.add_assoc _ _ _))⟩)) | (go_at_call 11; (with_reducible refine (laws_r8At.calls _ _ l1 0 10 t201 _ ?side1 ?side2 A5.out).mono ?_); (case side1 => repeat (first | exact HR1.out | (with_reducible refine Kd.C_alloc ?_ _) | (with_reducible refine Kd.C_drewN ?_ _) | (with_reducible refine Kd.C_drew ?_))); (case side2 => exact HC1.out); rintro e w' ⟨rfl, ⟨nd, rfl⟩⟩; (try first | exact ⟨rfl, _, World.drewN_drewN _ _ _⟩ | exact ⟨rfl, _, Eq.trans (World.drewN_drewN _ _ _) (congrArg (World.drewN _) (Nat.add_assoc _ _ _))⟩)) | (go_at_call 11; (with_reducible refine (laws_r8At.calls _ _ l1 1 20 t202 _ ?side1 ?side2 A6.out).mono ?_); (case side1 => repeat (first | exact HR1.out | (with_reducible refine Kd.C_alloc ?_ _) | (with_reducible refine Kd.C_drewN ?_ _) | (with_reducible refine Kd.C_drew ?_))); (case side2 => exact HC1.out); rintro e w' ⟨rfl, ⟨nd, rfl⟩⟩; (try first | exact ⟨rfl, _, World.drewN_drewN _ _ _⟩ | exact ⟨rfl, _, Eq.trans (World.drewN_drewN _ _ _) (congrArg (World.drewN _) (Nat.add_assoc _ _ _))⟩)) | (go_at_call 11; (with_reducible refine (laws_r8At.calls _ _ l1 2 (wrap64 ((wrap64 ((wrap64 ((wrap64 (t201 - 10)) + t202)) - (wrap64 (t201 - 10)))) + 1)) t203 _ ?side1 ?side2 A7.out).mono ?_); (case side1 => repeat (first | exact HR1.out | (with_reducible refine Kd.C_alloc ?_ _) | (with_reducible refine Kd.C_drewN ?_ _) | (with_reducible refine Kd.C_drew ?_))); (case side2 => exact HC1.out); rintro e w' ⟨rfl, ⟨nd, rfl⟩⟩; (try first | exact ⟨rfl, _, World.drewN_drewN _ _ _⟩ | exact ⟨rfl, _, Eq.trans (World.drewN_drewN _ _ _) (congrArg (World.drewN _) (Nat.add_assoc _ _ _))⟩)) | (go_at_call 11; (with_reducible refine (laws_r8At.calls _ _ l1 3 8 t204 _ ?side1 ?side2 A8.out).mono ?_); (case side1 => repeat (first | exact HR1.out | (with_reducible refine Kd.C_alloc ?_ _) | (with_reducible refine Kd.C_drewN ?_ _) | (with_reducible refine Kd.C_drew ?_))); (case side2 => exact HC1.out); rintro e w' ⟨rfl, ⟨nd, rfl⟩⟩; (try first | exact ⟨rfl, _, World.drewN_drewN _ _ _⟩ | exact ⟨rfl, _, Eq.trans (World.drewN_drewN _ _ _) (congrArg (World.drewN _) (Nat.add_assoc _ _ _))⟩)) | (go_at_call 12; (with_reducible refine (impl_RangesOf.calls k (wrap64 (t201 - 10)) (wrap64 ((wrap64 (t201 - 10)) + t202)) (wrap64 ((wrap64 (t201 - 10)) + t203)) (wrap64 (1 + t204)) t205 t206 _ A9.out).mono ?_); rintro e w11 ⟨v207, rfl, ho0, hb⟩; have n0_ := Aside0.mk (Kd.S_lower ho0 (below_size (by repeat (first | (with_reducible first | exact HB.out | apply below_alloc | apply pw_below_drewN | apply below_drew1) | exact HB.out)))); have n1_ := Aside0.mk (below_step (by repeat (first | (with_reducible first | exact HB.out | apply below_alloc | apply pw_below_drewN | apply below_drew1) | exact HB.out)) hb); clear HB; have HO208 := n0_; have HB := n1_; clear n0_ n1_; (try clear hb); (try clear hb2); (try clear hk); (try clear hi); (try clear ho0))); go_upto_region 8 with (first | (go_at_call 10; (with_reducible refine (laws_r8Long.calls _ _ l0 _ _ l1 false _ ?side1 ?side2 ?side3 ?side4 A3.out).mono ?_); (case side1 => repeat (first | exact HR0.out | (with_reducible refine Kd.C_alloc ?_ _) | (with_reducible refine Kd.C_drewN ?_ _) | (with_reducible refine Kd.C_drew ?_))); (case side2 => exact HC0.out); (case side3 => repeat (first | exact HR1.out | (with_reducible refine Kd.C_alloc ?_ _) | (with_reducible refine Kd.C_drewN ?_ _) | (with_reducible refine Kd.C_drew ?_))); (case side4 => exact HC1.out); rintro e w' ⟨rfl, ⟨nd, rfl⟩⟩; (try first | exact ⟨rfl, _, World.drewN_drewN _ _ _⟩ | exact ⟨rfl, _, Eq.trans (World.drewN_drewN _ _ _) (congrArg (World.drewN _) (Nat.add_assoc _ _ _))⟩)) | (go_at_call 11; (with_reducible refine (laws_r8At.calls _ _ l1 0 10 t201 _ ?side1 ?side2 A5.out).mono ?_); (case side1 => repeat (first | exact HR1.out | (with_reducible refine Kd.C_alloc ?_ _) | (with_reducible refine Kd.C_drewN ?_ _) | (with_reducible refine Kd.C_drew ?_))); (case side2 => exact HC1.out); rintro e w' ⟨rfl, ⟨nd, rfl⟩⟩; (try first | exact ⟨rfl, _, World.drewN_drewN _ _ _⟩ | exact ⟨rfl, _, Eq.trans (World.drewN_drewN _ _ _) (congrArg (World.drewN _) (Nat.add_assoc _ _ _))⟩)) | (go_at_call 11; (with_reducible refine (laws_r8At.calls _ _ l1 1 20 t202 _ ?side1 ?side2 A6.out).mono ?_); (case side1 => repeat (first | exact HR1.out | (with_reducible refine Kd.C_alloc ?_ _) | (with_reducible refine Kd.C_drewN ?_ _) | (with_reducible refine Kd.C_drew ?_))); (case side2 => exact HC1.out); rintro e w' ⟨rfl, ⟨nd, rfl⟩⟩; (try first | exact ⟨rfl, _, World.drewN_drewN _ _ _⟩ | exact ⟨rfl, _, Eq.trans (World.drewN_drewN _ _ _) (congrArg (World.drewN _) (Nat.add_assoc _ _ _))⟩)) | (go_at_call 11; (with_reducible refine (laws_r8At.calls _ _ l1 2 (wrap64 ((wrap64 ((wrap64 ((wrap64 (t201 - 10)) + t202)) - (wrap64 (t201 - 10)))) + 1)) t203 _ ?side1 ?side2 A7.out).mono ?_); (case side1 => repeat (first | exact HR1.out | (with_reducible refine Kd.C_alloc ?_ _) | (with_reducible refine Kd.C_drewN ?_ _) | (with_reducible refine Kd.C_drew ?_))); (case side2 => exact HC1.out); rintro e w' ⟨rfl, ⟨nd, rfl⟩⟩; (try first | exact ⟨rfl, _, World.drewN_drewN _ _ _⟩ | exact ⟨rfl, _, Eq.trans (World.drewN_drewN _ _ _) (congrArg (World.drewN _) (Nat.add_assoc _ _ _))⟩)) | (go_at_call 11; (with_reducible refine (laws_r8At.calls _ _ l1 3 8 t204 _ ?side1 ?side2 A8.out).mono ?_); (case side1 => repeat (first | exact HR1.out | (with_reducible refine Kd.C_alloc ?_ _) | (with_reducible refine Kd.C_drewN ?_ _) | (with_reducible refine Kd.C_drew ?_))); (case side2 => exact HC1.out); rintro e w' ⟨rfl, ⟨nd, rfl⟩⟩; (try first | exact ⟨rfl, _, World.drewN_drewN _ _ _⟩ | exact ⟨rfl, _, Eq.trans (World.drewN_drewN _ _ _) (congrArg (World.drewN _) (Nat.add_assoc _ _ _))⟩)) | (go_at_call 12; (with_reducible refine (impl_RangesOf.calls k (wrap64 (t201 - 10)) (wrap64 ((wrap64 (t201 - 10)) + t202)) (wrap64 ((wrap64 (t201 - 10)) + t203)) (wrap64 (1 + t204)) t205 t206 _ A9.out).mono ?_); rintro e w11 ⟨v207, rfl, ho0, hb⟩; have n0_ := Aside0.mk (Kd.S_lower ho0 (below_size (by repeat (first | (with_reducible first | exact HB.out | apply below_alloc | apply pw_below_drewN | apply below_drew1) | exact HB.out)))); have n1_ := Aside0.mk (below_step (by repeat (first | (with_reducible first | exact HB.out | apply below_alloc | apply pw_below_drewN | apply below_drew1) | exact HB.out)) hb); clear HB; have HO208 := n0_; have HB := n1_; clear n0_ n1_; (try clear hb); (try clear hb2); (try clear hk); (try clear hi); (try clear ho0))))
     (try simp only [Act.put, List.setIfInBounds_toArray, List.set_cons_zero, List.set_cons_succ])
     go_cut [68] (fun v68 wc => ∃ (kq : Nat) (x68_9 : Bool), v68 = .bool x68_9 ∧ Aside0 (laws_FnStages.j0 kq l0 l1 (wrap64 (t201 - 10)) (wrap64 ((wrap64 (t201 - 10)) + t202)) (wrap64 ((wrap64 (t201 - 10)) + t203)) (wrap64 (1 + t204)) t205 x68_9 = some r) ∧ Aside0 (kq ≤ k) ∧ Aside0 (Kd.S (Kd.slice 2 (Kd.int .i64)) 28 wc w.heap.size (fun _ => True) v207 t205) ∧ Aside0 (Below w.heap.size w wc))
     case first => as_aux_lemma =>
       have H := HC10.out
       clear HC10
       by_cases c12 : t206 = 0
       · rw [if_pos c12] at H
         have c12b0 : (t206 == 0) = true := beq_iff_eq.mpr c12
         have c12b1 : (t206 != 0) = false := bne_eq_false_iff_eq.mpr c12
         clear c12
         (first | rw [c12b0] | (simp only [i64_w, i32_w]; rw [c12b0]) | skip)
         have H' := Aside0.mk H
         clear H
         obtain ⟨Ao13, co13, eo13⟩ := Kd.S_slice HO208.out
         subst eo13
         go_wp2
         repeat (go_quiet (fail); try go_wp2)
         go_meet
         case rel => exact ⟨_, (((t205.length : Int) != (wrap64 (1 + t204)))), (by first | rfl | (simp; done) | (simp [*]; done)), H', ⟨by first | omega | exact Nat.le_refl _⟩, ⟨by (with_reducible repeat (first | apply Kd.S_alloc | apply Kd.S_drewN | apply Kd.S_drew)); exact HO208.out⟩, ⟨by repeat (first | (with_reducible first | exact HB.out | apply below_alloc | apply pw_below_drewN | apply below_drew1) | exact HB.out)⟩⟩
       · rw [if_neg c12] at H
         have c12b0 : (t206 == 0) = false := beq_eq_false_iff_ne.mpr c12
         have c12b1 : (t206 != 0) = true := bne_iff_ne.mpr c12
         (first | rw [c12b0] | (simp only [i64_w, i32_w]; rw [c12b0]) | skip)
         have H' := Aside0.mk H
         clear H
         go_wp2
         repeat (go_quiet (fail); try go_wp2)
         go_meet
         case rel => exact ⟨_, (true), (by first | rfl | (simp; done) | (simp [*]; done)), H', ⟨by first | omega | exact Nat.le_refl _⟩, ⟨by (with_reducible repeat (first | apply Kd.S_alloc | apply Kd.S_drewN | apply Kd.S_drew)); exact HO208.out⟩, ⟨by repeat (first | (with_reducible first | exact HB.out | apply below_alloc | apply pw_below_drewN | apply below_drew1) | exact HB.out)⟩⟩
     case rest => as_aux_lemma =>
       clear HC10
       try clear c1
       try clear p2
       try clear c3
       try clear c4
       try clear p6
       try clear c12
       try clear c12b0
       try clear c12b1
       obtain ⟨kq, x68_9, rfl, HA, HJ9, HO_9, HB⟩ := hcut
       cases kq with
       | zero => exact absurd HA.out (by simp [laws_FnStages.j0])
       | succ kj9 =>
         have H := HA.out
         clear HA
         simp only [laws_FnStages.j0] at H
         by_cases c14 : x68_9 = true
         · subst c14
           have H1 : (some false) = some r := by rw [if_pos rfl] at H; exact H
           clear H
           have H := H1
           clear H1
           obtain rfl := Option.some.inj H
           go_wp2
           repeat (go_quiet (fail); try go_wp2)
           go_ret
           exact ⟨by first | rfl | (simp [errW_none, errW_some] <;> rfl) | (simp [*, errW_none, errW_some] <;> rfl), by repeat (first | (with_reducible first | exact HB.out | apply below_alloc | apply pw_below_drewN | apply below_drew1) | exact HB.out)⟩
         · as_aux_lemma =>
            replace c14 := Bool.eq_false_iff.mpr c14
            subst c14
            have H1 : (laws_FnStages.l0 kj9 l0 l1 (wrap64 (t201 - 10)) (wrap64 ((wrap64 (t201 - 10)) + t202)) (wrap64 ((wrap64 (t201 - 10)) + t203)) (wrap64 (1 + t204)) t205 0) = some r := by rw [if_neg (show ¬ (false = true) by decide)] at H; exact H
            clear H
            have H := H1
            clear H1
            have H' := Aside0.mk H
            clear H
            go_wp2
            repeat (go_quiet (fail); try go_wp2)
            go_loopg [11] kj9 (fun kq v11 w' => ∃ (x11_2 : Int), v11 = .int .i64 x11_2 ∧ Aside0 (laws_FnStages.l0 kq l0 l1 (wrap64 (t201 - 10)) (wrap64 ((wrap64 (t201 - 10)) + t202)) (wrap64 ((wrap64 (t201 - 10)) + t203)) (wrap64 (1 + t204)) t205 x11_2 = some r) ∧ Aside0 (kq ≤ kj9) ∧ Aside0 (Kd.S (Kd.slice 2 (Kd.int .i64)) 28 w' w.heap.size (fun _ => True) v207 t205) ∧ Aside0 (Below w.heap.size w w'))
            case atStart => exact ⟨(0), (by first | rfl | (simp; done) | (simp [*]; done)), H', ⟨Nat.le_refl _⟩, ⟨by (with_reducible repeat (first | apply Kd.S_alloc | apply Kd.S_drewN | apply Kd.S_drew)); exact HO_9.out⟩, ⟨by repeat (first | (with_reducible first | exact HB.out | apply below_alloc | apply pw_below_drewN | apply below_drew1) | exact HB.out)⟩⟩
            case round =>
              clear H'
              try clear c1
              try clear p2
              try clear c3
              try clear c4
              try clear p6
              try clear c12
              try clear c12b0
              try clear c12b1
              try clear c14
              try clear p2
              try clear p6
              obtain ⟨x11_2, rfl, HA, HK2, HO_9, HB⟩ := hrel
              cases gk with
              | zero => exact absurd HA.out (by simp [laws_FnStages.l0])
              | succ k2 =>
                have H := HA.out
                clear HA
                simp only [laws_FnStages.l0] at H
                by_cases c15 : x11_2 < (t205.length : Int)
                · as_aux_lemma =>
                   rw [if_pos c15] at H
                   have c15b0 : decide (x11_2 < (t205.length : Int)) = true := decide_eq_true c15
                   clear c15
                   by_cases c16 : 0 ≤ x11_2
                   · as_aux_lemma =>
                      rw [if_pos c16] at H
                      have c16b0 : decide (0 ≤ x11_2) = true := decide_eq_true c16
                      clear c16
                      by_cases c17 : ((rd_L2 t205 x11_2).length : Int) = 2
                      · as_aux_lemma =>
                         rw [if_pos c17] at H
                         have c17b0 : (((rd_L2 t205 x11_2).length : Int) == 2) = true := beq_iff_eq.mpr c17
                         have c17b1 : (((rd_L2 t205 x11_2).length : Int) != 2) = false := bne_eq_false_iff_eq.mpr c17
                         clear c17
                         by_cases c18 : 0 < ((rd_L2 t205 x11_2).length : Int)
                         · as_aux_lemma =>
                            rw [if_pos c18] at H
                            have c18b0 : decide (0 < ((rd_L2 t205 x11_2).length : Int)) = true := decide_eq_true c18
                            have c18b1 : decide (0 < (rd_L2 t205 x11_2).length) = true := decide_eq_true (by omega)
                            clear c18
                            by_cases c19 : (rd (rd_L2 t205 x11_2) 0) > (wrap64 ((wrap64 (t201 - 10)) + t203))
                            · rw [if_pos c19] at H
                              have c19b0 : decide ((wrap64 ((wrap64 (t201 - 10)) + t203)) < (rd (rd_L2 t205 x11_2) 0)) = true := decide_eq_true c19
                              clear c19
                              obtain rfl := Option.some.inj H
                              obtain ⟨Ao20, co20, eo20⟩ := Kd.S_slice HO_9.out
                              subst eo20
                              have p209 : 0 ≤ (x11_2 : Int) := of_decide_eq_true (by first | (with_reducible assumption) | assumption)
                              have q209 : x11_2 < (t205.length : Int) := of_decide_eq_true (by first | (with_reducible assumption) | assumption)
                              obtain ⟨ad209, A209_0, c209_0, e209, hx209_0, hl209_0, hi209_0⟩ := at_L2 (Kd.S_reads' HO_9.out).2.2 x11_2 p209 q209
                              cases e209
                              obtain ⟨ce209, hce209, hMe209, hcc209⟩ := Kd.S_get HO_9.out [] x11_2 p209 (by first | exact q209 | exact of_decide_eq_true (by first | (with_reducible assumption) | assumption) | (have e_ := (Kd.S_reads' HO_9.out).1; omega))
                              obtain ⟨ve209_0, rfl, ge209_0⟩ := hMe209
                              have hv209_0 := hcc209 0 _ rfl
                              rw [Nat.add_zero, show ((Kd.slice 2 (Kd.int .i64))).sz = 1 from rfl, Nat.mul_one] at hv209_0
                              replace hv209_0 := Option.some.inj (hv209_0.symm.trans hx209_0)
                              rw [hv209_0] at ge209_0
                              have HL209_0 := Aside0.mk (show Kd.R (Kd.int .i64) 2 _ _ _ _ (rd_L2 t205 x11_2) from ge209_0)
                              clear hv209_0 ge209_0
                              clear hcc209 hce209
                              have HR209_0 := Aside0.mk hi209_0
                              have HC209_0 := Aside0.mk hl209_0
                              clear hi209_0 hl209_0
                              replace p209 := eq_true p209
                              replace q209 := eq_true q209
                              have p210 : 0 ≤ (0 : Int) := (by omega)
                              have q210 : 0 < ((rd_L2 t205 x11_2).length : Int) := of_decide_eq_true (by first | (with_reducible assumption) | assumption)
                              obtain ⟨ad210, e210, hx210_0⟩ := Kd.at_int (by repeat (first | (with_reducible exact HR209_0.out) | (with_reducible refine Kd.C_alloc ?_ _) | (with_reducible refine Kd.C_drewN ?_ _) | (with_reducible refine Kd.C_drew ?_) | exact HR209_0.out)) 0 p210 q210
                              cases e210
                              have qi210 : (0 < (rd_L2 t205 x11_2).length) = True := eq_true (by omega)
                              (try rw [show ((0 : Int)).toNat = 0 from rfl] at hx210_0)
                              (try rw [Addr.add_zero'] at hx210_0)
                              replace p210 := eq_true p210
                              replace q210 := eq_true q210
                              go_wp2
                              repeat (go_quiet (fail); try go_wp2)
                              go_ret
                              exact ⟨by first | rfl | (simp [errW_none, errW_some] <;> rfl) | (simp [*, errW_none, errW_some] <;> rfl), by repeat (first | (with_reducible first | exact HB.out | apply below_alloc | apply pw_below_drewN | apply below_drew1) | exact HB.out)⟩
                            · as_aux_lemma =>
                               rw [if_neg c19] at H
                               have c19b0 : decide ((wrap64 ((wrap64 (t201 - 10)) + t203)) < (rd (rd_L2 t205 x11_2) 0)) = false := decide_eq_false c19
                               clear c19
                               by_cases c21 : 1 < ((rd_L2 t205 x11_2).length : Int)
                               · as_aux_lemma =>
                                  rw [if_pos c21] at H
                                  have c21b0 : decide (1 < ((rd_L2 t205 x11_2).length : Int)) = true := decide_eq_true c21
                                  have c21b1 : decide (1 < (rd_L2 t205 x11_2).length) = true := decide_eq_true (by omega)
                                  clear c21
                                  by_cases c22 : (rd (rd_L2 t205 x11_2) 1) < (wrap64 ((wrap64 (t201 - 10)) + t203))
                                  · rw [if_pos c22] at H
                                    have c22b0 : decide ((rd (rd_L2 t205 x11_2) 1) < (wrap64 ((wrap64 (t201 - 10)) + t203))) = true := decide_eq_true c22
                                    clear c22
                                    obtain rfl := Option.some.inj H
                                    obtain ⟨Ao23, co23, eo23⟩ := Kd.S_slice HO_9.out
                                    subst eo23
                                    have p209 : 0 ≤ (x11_2 : Int) := of_decide_eq_true (by first | (with_reducible assumption) | assumption)
                                    have q209 : x11_2 < (t205.length : Int) := of_decide_eq_true (by first | (with_reducible assumption) | assumption)
                                    obtain ⟨ad209, A209_0, c209_0, e209, hx209_0, hl209_0, hi209_0⟩ := at_L2 (Kd.S_reads' HO_9.out).2.2 x11_2 p209 q209
                                    cases e209
                                    obtain ⟨ce209, hce209, hMe209, hcc209⟩ := Kd.S_get HO_9.out [] x11_2 p209 (by first | exact q209 | exact of_decide_eq_true (by first | (with_reducible assumption) | assumption) | (have e_ := (Kd.S_reads' HO_9.out).1; omega))
                                    obtain ⟨ve209_0, rfl, ge209_0⟩ := hMe209
                                    have hv209_0 := hcc209 0 _ rfl
                                    rw [Nat.add_zero, show ((Kd.slice 2 (Kd.int .i64))).sz = 1 from rfl, Nat.mul_one] at hv209_0
                                    replace hv209_0 := Option.some.inj (hv209_0.symm.trans hx209_0)
                                    rw [hv209_0] at ge209_0
                                    have HL209_0 := Aside0.mk (show Kd.R (Kd.int .i64) 2 _ _ _ _ (rd_L2 t205 x11_2) from ge209_0)
                                    clear hv209_0 ge209_0
                                    clear hcc209 hce209
                                    have HR209_0 := Aside0.mk hi209_0
                                    have HC209_0 := Aside0.mk hl209_0
                                    clear hi209_0 hl209_0
                                    replace p209 := eq_true p209
                                    replace q209 := eq_true q209
                                    have p210 : 0 ≤ (0 : Int) := (by omega)
                                    have q210 : 0 < ((rd_L2 t205 x11_2).length : Int) := of_decide_eq_true (by first | (with_reducible assumption) | assumption)
                                    obtain ⟨ad210, e210, hx210_0⟩ := Kd.at_int (by repeat (first | (with_reducible exact HR209_0.out) | (with_reducible refine Kd.C_alloc ?_ _) | (with_reducible refine Kd.C_drewN ?_ _) | (with_reducible refine Kd.C_drew ?_) | exact HR209_0.out)) 0 p210 q210
                                    cases e210
                                    have qi210 : (0 < (rd_L2 t205 x11_2).length) = True := eq_true (by omega)
                                    (try rw [show ((0 : Int)).toNat = 0 from rfl] at hx210_0)
                                    (try rw [Addr.add_zero'] at hx210_0)
                                    replace p210 := eq_true p210
                                    replace q210 := eq_true q210
                                    have p211 : 0 ≤ (1 : Int) := (by omega)
                                    have q211 : 1 < ((rd_L2 t205 x11_2).length : Int) := of_decide_eq_true (by first | (with_reducible assumption) | assumption)
                                    obtain ⟨ad211, e211, hx211_0⟩ := Kd.at_int (by repeat (first | (with_reducible exact HR209_0.out) | (with_reducible refine Kd.C_alloc ?_ _) | (with_reducible refine Kd.C_drewN ?_ _) | (with_reducible refine Kd.C_drew ?_) | exact HR209_0.out)) 1 p211 q211
                                    obtain rfl : ad210 = ad211 := (by injection e211)
                                    (try simp only [show (1 : Int).toNat = 1 from rfl, Nat.reduceMul, Nat.reduceEqDiff, Go.Addr.add, ↓reduceIte] at hx211_0)
                                    have qi211 : (1 < (rd_L2 t205 x11_2).length) = True := eq_true (by omega)
                                    (try rw [show ((1 : Int)).toNat = 1 from rfl] at hx211_0)
                                    replace p211 := eq_true p211
                                    replace q211 := eq_true q211
                                    go_wp2
                                    repeat (go_quiet (fail); try go_wp2)
                                    go_ret
                                    exact ⟨by first | rfl | (simp [errW_none, errW_some] <;> rfl) | (simp [*, errW_none, errW_some] <;> rfl), by repeat (first | (with_reducible first | exact HB.out | apply below_alloc | apply pw_below_drewN | apply below_drew1) | exact HB.out)⟩
                                  · as_aux_lemma =>
                                     rw [if_neg c22] at H
                                     have c22b0 : decide ((rd (rd_L2 t205 x11_2) 1) < (wrap64 ((wrap64 (t201 - 10)) + t203))) = false := decide_eq_false c22
                                     clear c22
                                     by_cases c24 : (rd (rd_L2 t205 x11_2) 0) < (wrap64 (t201 - 10))
                                     · rw [if_pos c24] at H
                                       have c24b0 : decide ((rd (rd_L2 t205 x11_2) 0) < (wrap64 (t201 - 10))) = true := decide_eq_true c24
                                       clear c24
                                       obtain rfl := Option.some.inj H
                                       obtain ⟨Ao25, co25, eo25⟩ := Kd.S_slice HO_9.out
                                       subst eo25
                                       have p209 : 0 ≤ (x11_2 : Int) := of_decide_eq_true (by first | (with_reducible assumption) | assumption)
                                       have q209 : x11_2 < (t205.length : Int) := of_decide_eq_true (by first | (with_reducible assumption) | assumption)
                                       obtain ⟨ad209, A209_0, c209_0, e209, hx209_0, hl209_0, hi209_0⟩ := at_L2 (Kd.S_reads' HO_9.out).2.2 x11_2 p209 q209
                                       cases e209
                                       obtain ⟨ce209, hce209, hMe209, hcc209⟩ := Kd.S_get HO_9.out [] x11_2 p209 (by first | exact q209 | exact of_decide_eq_true (by first | (with_reducible assumption) | assumption) | (have e_ := (Kd.S_reads' HO_9.out).1; omega))
                                       obtain ⟨ve209_0, rfl, ge209_0⟩ := hMe209
                                       have hv209_0 := hcc209 0 _ rfl
                                       rw [Nat.add_zero, show ((Kd.slice 2 (Kd.int .i64))).sz = 1 from rfl, Nat.mul_one] at hv209_0
                                       replace hv209_0 := Option.some.inj (hv209_0.symm.trans hx209_0)
                                       rw [hv209_0] at ge209_0
                                       have HL209_0 := Aside0.mk (show Kd.R (Kd.int .i64) 2 _ _ _ _ (rd_L2 t205 x11_2) from ge209_0)
                                       clear hv209_0 ge209_0
                                       clear hcc209 hce209
                                       have HR209_0 := Aside0.mk hi209_0
                                       have HC209_0 := Aside0.mk hl209_0
                                       clear hi209_0 hl209_0
                                       replace p209 := eq_true p209
                                       replace q209 := eq_true q209
                                       have p210 : 0 ≤ (0 : Int) := (by omega)
                                       have q210 : 0 < ((rd_L2 t205 x11_2).length : Int) := of_decide_eq_true (by first | (with_reducible assumption) | assumption)
                                       obtain ⟨ad210, e210, hx210_0⟩ := Kd.at_int (by repeat (first | (with_reducible exact HR209_0.out) | (with_reducible refine Kd.C_alloc ?_ _) | (with_reducible refine Kd.C_drewN ?_ _) | (with_reducible refine Kd.C_drew ?_) | exact HR209_0.out)) 0 p210 q210
                                       cases e210
                                       have qi210 : (0 < (rd_L2 t205 x11_2).length) = True := eq_true (by omega)
                                       (try rw [show ((0 : Int)).toNat = 0 from rfl] at hx210_0)
                                       (try rw [Addr.add_zero'] at hx210_0)
                                       replace p210 := eq_true p210
                                       replace q210 := eq_true q210
                                       have p211 : 0 ≤ (1 : Int) := (by omega)
                                       have q211 : 1 < ((rd_L2 t205 x11_2).length : Int) := of_decide_eq_true (by first | (with_reducible assumption) | assumption)
                                       obtain ⟨ad211, e211, hx211_0⟩ := Kd.at_int (by repeat (first | (with_reducible exact HR209_0.out) | (with_reducible refine Kd.C_alloc ?_ _) | (with_reducible refine Kd.C_drewN ?_ _) | (with_reducible refine Kd.C_drew ?_) | exact HR209_0.out)) 1 p211 q211
                                       obtain rfl : ad210 = ad211 := (by injection e211)
                                       (try simp only [show (1 : Int).toNat = 1 from rfl, Nat.reduceMul, Nat.reduceEqDiff, Go.Addr.add, ↓reduceIte] at hx211_0)
                                       have qi211 : (1 < (rd_L2 t205 x11_2).length) = True := eq_true (by omega)
                                       (try rw [show ((1 : Int)).toNat = 1 from rfl] at hx211_0)
                                       replace p211 := eq_true p211
                                       replace q211 := eq_true q211
                                       have p212 : 0 ≤ (0 : Int) := (by omega)
                                       have q212 : 0 < ((rd_L2 t205 x11_2).length : Int) := of_decide_eq_true (by first | (with_reducible assumption) | assumption)
                                       obtain ⟨ad212, e212, hx212_0⟩ := Kd.at_int (by repeat (first | (with_reducible exact HR209_0.out) | (with_reducible refine Kd.C_alloc ?_ _) | (with_reducible refine Kd.C_drewN ?_ _) | (with_reducible refine Kd.C_drew ?_) | exact HR209_0.out)) 0 p212 q212
                                       obtain rfl : ad210 = ad212 := (by injection e212)
                                       have qi212 : (0 < (rd_L2 t205 x11_2).length) = True := eq_true (by omega)
                                       (try rw [show ((0 : Int)).toNat = 0 from rfl] at hx212_0)
                                       (try rw [Addr.add_zero'] at hx212_0)
                                       replace p212 := eq_true p212
                                       replace q212 := eq_true q212
                                       go_wp2
                                       repeat (go_quiet (fail); try go_wp2)
                                       go_ret
                                       exact ⟨by first | rfl | (simp [errW_none, errW_some] <;> rfl) | (simp [*, errW_none, errW_some] <;> rfl), by repeat (first | (with_reducible first | exact HB.out | apply below_alloc | apply pw_below_drewN | apply below_drew1) | exact HB.out)⟩
                                     · as_aux_lemma =>
                                        rw [if_neg c24] at H
                                        have c24b0 : decide ((rd (rd_L2 t205 x11_2) 0) < (wrap64 (t201 - 10))) = false := decide_eq_false c24
                                        clear c24
                                        by_cases c26 : (rd (rd_L2 t205 x11_2) 1) > (wrap64 ((wrap64 (t201 - 10)) + t202))
                                        · as_aux_lemma =>
                                           rw [if_pos c26] at H
                                           have c26b0 : decide ((wrap64 ((wrap64 (t201 - 10)) + t202)) < (rd (rd_L2 t205 x11_2) 1)) = true := decide_eq_true c26
                                           clear c26
                                           obtain rfl := Option.some.inj H
                                           obtain ⟨Ao27, co27, eo27⟩ := Kd.S_slice HO_9.out
                                           subst eo27
                                           have p209 : 0 ≤ (x11_2 : Int) := of_decide_eq_true (by first | (with_reducible assumption) | assumption)
                                           have q209 : x11_2 < (t205.length : Int) := of_decide_eq_true (by first | (with_reducible assumption) | assumption)
                                           obtain ⟨ad209, A209_0, c209_0, e209, hx209_0, hl209_0, hi209_0⟩ := at_L2 (Kd.S_reads' HO_9.out).2.2 x11_2 p209 q209
                                           cases e209
                                           obtain ⟨ce209, hce209, hMe209, hcc209⟩ := Kd.S_get HO_9.out [] x11_2 p209 (by first | exact q209 | exact of_decide_eq_true (by first | (with_reducible assumption) | assumption) | (have e_ := (Kd.S_reads' HO_9.out).1; omega))
                                           obtain ⟨ve209_0, rfl, ge209_0⟩ := hMe209
                                           have hv209_0 := hcc209 0 _ rfl
                                           rw [Nat.add_zero, show ((Kd.slice 2 (Kd.int .i64))).sz = 1 from rfl, Nat.mul_one] at hv209_0
                                           replace hv209_0 := Option.some.inj (hv209_0.symm.trans hx209_0)
                                           rw [hv209_0] at ge209_0
                                           have HL209_0 := Aside0.mk (show Kd.R (Kd.int .i64) 2 _ _ _ _ (rd_L2 t205 x11_2) from ge209_0)
                                           clear hv209_0 ge209_0
                                           clear hcc209 hce209
                                           have HR209_0 := Aside0.mk hi209_0
                                           have HC209_0 := Aside0.mk hl209_0
                                           clear hi209_0 hl209_0
                                           replace p209 := eq_true p209
                                           replace q209 := eq_true q209
                                           have p210 : 0 ≤ (0 : Int) := (by omega)
                                           have q210 : 0 < ((rd_L2 t205 x11_2).length : Int) := of_decide_eq_true (by first | (with_reducible assumption) | assumption)
                                           obtain ⟨ad210, e210, hx210_0⟩ := Kd.at_int (by repeat (first | (with_reducible exact HR209_0.out) | (with_reducible refine Kd.C_alloc ?_ _) | (with_reducible refine Kd.C_drewN ?_ _) | (with_reducible refine Kd.C_drew ?_) | exact HR209_0.out)) 0 p210 q210
                                           cases e210
                                           have qi210 : (0 < (rd_L2 t205 x11_2).length) = True := eq_true (by omega)
                                           (try rw [show ((0 : Int)).toNat = 0 from rfl] at hx210_0)
                                           (try rw [Addr.add_zero'] at hx210_0)
                                           replace p210 := eq_true p210
                                           replace q210 := eq_true q210
                                           have p211 : 0 ≤ (1 : Int) := (by omega)
                                           have q211 : 1 < ((rd_L2 t205 x11_2).length : Int) := of_decide_eq_true (by first | (with_reducible assumption) | assumption)
                                           obtain ⟨ad211, e211, hx211_0⟩ := Kd.at_int (by repeat (first | (with_reducible exact HR209_0.out) | (with_reducible refine Kd.C_alloc ?_ _) | (with_reducible refine Kd.C_drewN ?_ _) | (with_reducible refine Kd.C_drew ?_) | exact HR209_0.out)) 1 p211 q211
                                           obtain rfl : ad210 = ad211 := (by injection e211)
                                           (try simp only [show (1 : Int).toNat = 1 from rfl, Nat.reduceMul, Nat.reduceEqDiff, Go.Addr.add, ↓reduceIte] at hx211_0)
                                           have qi211 : (1 < (rd_L2 t205 x11_2).length) = True := eq_true (by omega)
                                           (try rw [show ((1 : Int)).toNat = 1 from rfl] at hx211_0)
                                           replace p211 := eq_true p211
                                           replace q211 := eq_true q211
                                           have p212 : 0 ≤ (0 : Int) := (by omega)
                                           have q212 : 0 < ((rd_L2 t205 x11_2).length : Int) := of_decide_eq_true (by first | (with_reducible assumption) | assumption)
                                           obtain ⟨ad212, e212, hx212_0⟩ := Kd.at_int (by repeat (first | (with_reducible exact HR209_0.out) | (with_reducible refine Kd.C_alloc ?_ _) | (with_reducible refine Kd.C_drewN ?_ _) | (with_reducible refine Kd.C_drew ?_) | exact HR209_0.out)) 0 p212 q212
                                           obtain rfl : ad210 = ad212 := (by injection e212)
                                           have qi212 : (0 < (rd_L2 t205 x11_2).length) = True := eq_true (by omega)
                                           (try rw [show ((0 : Int)).toNat = 0 from rfl] at hx212_0)
                                           (try rw [Addr.add_zero'] at hx212_0)
                                           replace p212 := eq_true p212
                                           replace q212 := eq_true q212
                                           have p213 : 0 ≤ (1 : Int) := (by omega)
                                           have q213 : 1 < ((rd_L2 t205 x11_2).length : Int) := of_decide_eq_true (by first | (with_reducible assumption) | assumption)
                                           obtain ⟨ad213, e213, hx213_0⟩ := Kd.at_int (by repeat (first | (with_reducible exact HR209_0.out) | (with_reducible refine Kd.C_alloc ?_ _) | (with_reducible refine Kd.C_drewN ?_ _) | (with_reducible refine Kd.C_drew ?_) | exact HR209_0.out)) 1 p213 q213
                                           obtain rfl : ad210 = ad213 := (by injection e213)
                                           (try simp only [show (1 : Int).toNat = 1 from rfl, Nat.reduceMul, Nat.reduceEqDiff, Go.Addr.add, ↓reduceIte] at hx213_0)
                                           have qi213 : (1 < (rd_L2 t205 x11_2).length) = True := eq_true (by omega)
                                           (try rw [show ((1 : Int)).toNat = 1 from rfl] at hx213_0)
                                           replace p213 := eq_true p213
                                           replace q213 := eq_true q213
                                           go_wp2
                                           repeat (go_quiet (fail); try go_wp2)
                                           go_ret
                                           exact ⟨by first | rfl | (simp [errW_none, errW_some] <;> rfl) | (simp [*, errW_none, errW_some] <;> rfl), by repeat (first | (with_reducible first | exact HB.out | apply below_alloc | apply pw_below_drewN | apply below_drew1) | exact HB.out)⟩
                                        · as_aux_lemma =>
                                           rw [if_neg c26] at H
                                           have c26b0 : decide ((wrap64 ((wrap64 (t201 - 10)) + t202)) < (rd (rd_L2 t205 x11_2) 1)) = false := decide_eq_false c26
                                           clear c26
                                           by_cases c28 : x11_2 > 0
                                           · as_aux_lemma =>
                                              rw [if_pos c28] at H
                                              have c28b0 : decide (0 < x11_2) = true := decide_eq_true c28
                                              clear c28
                                              obtain ⟨ji29, hji29⟩ : ∃ j_ : Int, (wrap64 (x11_2 - 1)) = j_ := ⟨_, rfl⟩
                                              replace H : (if 0 ≤ (ji29) then (if (ji29) < (t205.length : Int) then (if 0 < ((rd_L2 t205 (ji29)).length : Int) then (if (rd (rd_L2 t205 x11_2) 0) > (rd (rd_L2 t205 (ji29)) 0) then (some false) else (if 1 < ((rd_L2 t205 (ji29)).length : Int) then (if (rd (rd_L2 t205 x11_2) 1) < (rd (rd_L2 t205 (ji29)) 1) then (some false) else (laws_FnStages.l0 k2 l0 l1 (wrap64 (t201 - 10)) (wrap64 ((wrap64 (t201 - 10)) + t202)) (wrap64 ((wrap64 (t201 - 10)) + t203)) (wrap64 (1 + t204)) t205 (wrap64 (x11_2 + 1)))) else (none))) else (none)) else (none)) else (none)) = some r := by first | (rw [hji29] at H; exact H) | (simp only [hji29] at H ⊢; exact H)
                                              have hji29w : (IntKind.i64.wrap (x11_2 - 1)) = ji29 := (i64_w _).trans hji29
                                              by_cases c30 : 0 ≤ (ji29)
                                              · as_aux_lemma =>
                                                 rw [if_pos c30] at H
                                                 have c30b0 : decide (0 ≤ (ji29)) = true := decide_eq_true c30
                                                 clear c30
                                                 by_cases c31 : (ji29) < (t205.length : Int)
                                                 · as_aux_lemma =>
                                                    rw [if_pos c31] at H
                                                    have c31b0 : decide ((ji29) < (t205.length : Int)) = true := decide_eq_true c31
                                                    clear c31
                                                    by_cases c32 : 0 < ((rd_L2 t205 (ji29)).length : Int)
                                                    · as_aux_lemma =>
                                                       rw [if_pos c32] at H
                                                       have c32b0 : decide (0 < ((rd_L2 t205 (ji29)).length : Int)) = true := decide_eq_true c32
                                                       have c32b1 : decide (0 < (rd_L2 t205 (ji29)).length) = true := decide_eq_true (by omega)
                                                       clear c32
                                                       by_cases c33 : (rd (rd_L2 t205 x11_2) 0) > (rd (rd_L2 t205 (ji29)) 0)
                                                       · as_aux_lemma =>
                                                          rw [if_pos c33] at H
                                                          have c33b0 : decide ((rd (rd_L2 t205 (ji29)) 0) < (rd (rd_L2 t205 x11_2) 0)) = true := decide_eq_true c33
                                                          clear c33
                                                          obtain rfl := Option.some.inj H
                                                          obtain ⟨Ao34, co34, eo34⟩ := Kd.S_slice HO_9.out
                                                          subst eo34
                                                          have p209 : 0 ≤ (x11_2 : Int) := of_decide_eq_true (by first | (with_reducible assumption) | assumption)
                                                          have q209 : x11_2 < (t205.length : Int) := of_decide_eq_true (by first | (with_reducible assumption) | assumption)
                                                          obtain ⟨ad209, A209_0, c209_0, e209, hx209_0, hl209_0, hi209_0⟩ := at_L2 (Kd.S_reads' HO_9.out).2.2 x11_2 p209 q209
                                                          cases e209
                                                          obtain ⟨ce209, hce209, hMe209, hcc209⟩ := Kd.S_get HO_9.out [] x11_2 p209 (by first | exact q209 | exact of_decide_eq_true (by first | (with_reducible assumption) | assumption) | (have e_ := (Kd.S_reads' HO_9.out).1; omega))
                                                          obtain ⟨ve209_0, rfl, ge209_0⟩ := hMe209
                                                          have hv209_0 := hcc209 0 _ rfl
                                                          rw [Nat.add_zero, show ((Kd.slice 2 (Kd.int .i64))).sz = 1 from rfl, Nat.mul_one] at hv209_0
                                                          replace hv209_0 := Option.some.inj (hv209_0.symm.trans hx209_0)
                                                          rw [hv209_0] at ge209_0
                                                          have HL209_0 := Aside0.mk (show Kd.R (Kd.int .i64) 2 _ _ _ _ (rd_L2 t205 x11_2) from ge209_0)
                                                          clear hv209_0 ge209_0
                                                          clear hcc209 hce209
                                                          have HR209_0 := Aside0.mk hi209_0
                                                          have HC209_0 := Aside0.mk hl209_0
                                                          clear hi209_0 hl209_0
                                                          replace p209 := eq_true p209
                                                          replace q209 := eq_true q209
                                                          have p210 : 0 ≤ (0 : Int) := (by omega)
                                                          have q210 : 0 < ((rd_L2 t205 x11_2).length : Int) := of_decide_eq_true (by first | (with_reducible assumption) | assumption)
                                                          obtain ⟨ad210, e210, hx210_0⟩ := Kd.at_int (by repeat (first | (with_reducible exact HR209_0.out) | (with_reducible refine Kd.C_alloc ?_ _) | (with_reducible refine Kd.C_drewN ?_ _) | (with_reducible refine Kd.C_drew ?_) | exact HR209_0.out)) 0 p210 q210
                                                          cases e210
                                                          have qi210 : (0 < (rd_L2 t205 x11_2).length) = True := eq_true (by omega)
                                                          (try rw [show ((0 : Int)).toNat = 0 from rfl] at hx210_0)
                                                          (try rw [Addr.add_zero'] at hx210_0)
                                                          replace p210 := eq_true p210
                                                          replace q210 := eq_true q210
                                                          have p211 : 0 ≤ (1 : Int) := (by omega)
                                                          have q211 : 1 < ((rd_L2 t205 x11_2).length : Int) := of_decide_eq_true (by first | (with_reducible assumption) | assumption)
                                                          obtain ⟨ad211, e211, hx211_0⟩ := Kd.at_int (by repeat (first | (with_reducible exact HR209_0.out) | (with_reducible refine Kd.C_alloc ?_ _) | (with_reducible refine Kd.C_drewN ?_ _) | (with_reducible refine Kd.C_drew ?_) | exact HR209_0.out)) 1 p211 q211
                                                          obtain rfl : ad210 = ad211 := (by injection e211)
                                                          (try simp only [show (1 : Int).toNat = 1 from rfl, Nat.reduceMul, Nat.reduceEqDiff, Go.Addr.add, ↓reduceIte] at hx211_0)
                                                          have qi211 : (1 < (rd_L2 t205 x11_2).length) = True := eq_true (by omega)
                                                          (try rw [show ((1 : Int)).toNat = 1 from rfl] at hx211_0)
                                                          replace p211 := eq_true p211
                                                          replace q211 := eq_true q211
                                                          have p212 : 0 ≤ (0 : Int) := (by omega)
                                                          have q212 : 0 < ((rd_L2 t205 x11_2).length : Int) := of_decide_eq_true (by first | (with_reducible assumption) | assumption)
                                                          obtain ⟨ad212, e212, hx212_0⟩ := Kd.at_int (by repeat (first | (with_reducible exact HR209_0.out) | (with_reducible refine Kd.C_alloc ?_ _) | (with_reducible refine Kd.C_drewN ?_ _) | (with_reducible refine Kd.C_drew ?_) | exact HR209_0.out)) 0 p212 q212
                                                          obtain rfl : ad210 = ad212 := (by injection e212)
                                                          have qi212 : (0 < (rd_L2 t205 x11_2).length) = True := eq_true (by omega)
                                                          (try rw [show ((0 : Int)).toNat = 0 from rfl] at hx212_0)
                                                          (try rw [Addr.add_zero'] at hx212_0)
                                                          replace p212 := eq_true p212
                                                          replace q212 := eq_true q212
                                                          have p213 : 0 ≤ (1 : Int) := (by omega)
                                                          have q213 : 1 < ((rd_L2 t205 x11_2).length : Int) := of_decide_eq_true (by first | (with_reducible assumption) | assumption)
                                                          obtain ⟨ad213, e213, hx213_0⟩ := Kd.at_int (by repeat (first | (with_reducible exact HR209_0.out) | (with_reducible refine Kd.C_alloc ?_ _) | (with_reducible refine Kd.C_drewN ?_ _) | (with_reducible refine Kd.C_drew ?_) | exact HR209_0.out)) 1 p213 q213
                                                          obtain rfl : ad210 = ad213 := (by injection e213)
                                                          (try simp only [show (1 : Int).toNat = 1 from rfl, Nat.reduceMul, Nat.reduceEqDiff, Go.Addr.add, ↓reduceIte] at hx213_0)
                                                          have qi213 : (1 < (rd_L2 t205 x11_2).length) = True := eq_true (by omega)
                                                          (try rw [show ((1 : Int)).toNat = 1 from rfl] at hx213_0)
                                                          replace p213 := eq_true p213
                                                          replace q213 := eq_true q213
                                                          have p214 : 0 ≤ (0 : Int) := (by omega)
                                                          have q214 : 0 < ((rd_L2 t205 x11_2).length : Int) := of_decide_eq_true (by first | (with_reducible assumption) | assumption)
                                                          obtain ⟨ad214, e214, hx214_0⟩ := Kd.at_int (by repeat (first | (with_reducible exact HR209_0.out) | (with_reducible refine Kd.C_alloc ?_ _) | (with_reducible refine Kd.C_drewN ?_ _) | (with_reducible refine Kd.C_drew ?_) | exact HR209_0.out)) 0 p214 q214
                                                          obtain rfl : ad210 = ad214 := (by injection e214)
                                                          have qi214 : (0 < (rd_L2 t205 x11_2).length) = True := eq_true (by omega)
                                                          (try rw [show ((0 : Int)).toNat = 0 from rfl] at hx214_0)
                                                          (try rw [Addr.add_zero'] at hx214_0)
                                                          replace p214 := eq_true p214
                                                          replace q214 := eq_true q214
                                                          have p215 : 0 ≤ ((ji29) : Int) := of_decide_eq_true (by first | (with_reducible assumption) | assumption)
                                                          have q215 : (ji29) < (t205.length : Int) := of_decide_eq_true (by first | (with_reducible assumption) | assumption)
                                                          obtain ⟨ad215, A215_0, c215_0, e215, hx215_0, hl215_0, hi215_0⟩ := at_L2 (Kd.S_reads' HO_9.out).2.2 (ji29) p215 q215
                                                          obtain rfl : ad209 = ad215 := (by injection e215)
                                                          obtain ⟨ce215, hce215, hMe215, hcc215⟩ := Kd.S_get HO_9.out [] (ji29) p215 (by first | exact q215 | exact of_decide_eq_true (by first | (with_reducible assumption) | assumption) | (have e_ := (Kd.S_reads' HO_9.out).1; omega))
                                                          obtain ⟨ve215_0, rfl, ge215_0⟩ := hMe215
                                                          have hv215_0 := hcc215 0 _ rfl
                                                          rw [Nat.add_zero, show ((Kd.slice 2 (Kd.int .i64))).sz = 1 from rfl, Nat.mul_one] at hv215_0
                                                          replace hv215_0 := Option.some.inj (hv215_0.symm.trans hx215_0)
                                                          rw [hv215_0] at ge215_0
                                                          have HL215_0 := Aside0.mk (show Kd.R (Kd.int .i64) 2 _ _ _ _ (rd_L2 t205 (ji29)) from ge215_0)
                                                          clear hv215_0 ge215_0
                                                          clear hcc215 hce215
                                                          have HR215_0 := Aside0.mk hi215_0
                                                          have HC215_0 := Aside0.mk hl215_0
                                                          clear hi215_0 hl215_0
                                                          replace p215 := eq_true p215
                                                          replace q215 := eq_true q215
                                                          have p216 : 0 ≤ (0 : Int) := (by omega)
                                                          have q216 : 0 < ((rd_L2 t205 (ji29)).length : Int) := of_decide_eq_true (by first | (with_reducible assumption) | assumption)
                                                          obtain ⟨ad216, e216, hx216_0⟩ := Kd.at_int (by repeat (first | (with_reducible exact HR215_0.out) | (with_reducible refine Kd.C_alloc ?_ _) | (with_reducible refine Kd.C_drewN ?_ _) | (with_reducible refine Kd.C_drew ?_) | exact HR215_0.out)) 0 p216 q216
                                                          cases e216
                                                          have qi216 : (0 < (rd_L2 t205 (ji29)).length) = True := eq_true (by omega)
                                                          (try rw [show ((0 : Int)).toNat = 0 from rfl] at hx216_0)
                                                          (try rw [Addr.add_zero'] at hx216_0)
                                                          replace p216 := eq_true p216
                                                          replace q216 := eq_true q216
                                                          go_wp2
                                                          repeat (go_quiet (fail); try go_wp2)
                                                          go_ret
                                                          exact ⟨by first | rfl | (simp [errW_none, errW_some] <;> rfl) | (simp only [← hji29]; first | rfl | (simp [errW_none, errW_some] <;> rfl)) | (simp [*, errW_none, errW_some] <;> rfl), by repeat (first | (with_reducible first | exact HB.out | apply below_alloc | apply pw_below_drewN | apply below_drew1) | exact HB.out)⟩
                                                       · as_aux_lemma =>
                                                          rw [if_neg c33] at H
                                                          have c33b0 : decide ((rd (rd_L2 t205 (ji29)) 0) < (rd (rd_L2 t205 x11_2) 0)) = false := decide_eq_false c33
                                                          clear c33
                                                          by_cases c35 : 1 < ((rd_L2 t205 (ji29)).length : Int)
                                                          · as_aux_lemma =>
                                                             rw [if_pos c35] at H
                                                             have c35b0 : decide (1 < ((rd_L2 t205 (ji29)).length : Int)) = true := decide_eq_true c35
                                                             have c35b1 : decide (1 < (rd_L2 t205 (ji29)).length) = true := decide_eq_true (by omega)
                                                             clear c35
                                                             by_cases c36 : (rd (rd_L2 t205 x11_2) 1) < (rd (rd_L2 t205 (ji29)) 1)
                                                             · as_aux_lemma =>
                                                                rw [if_pos c36] at H
                                                                have c36b0 : decide ((rd (rd_L2 t205 x11_2) 1) < (rd (rd_L2 t205 (ji29)) 1)) = true := decide_eq_true c36
                                                                clear c36
                                                                obtain rfl := Option.some.inj H
                                                                obtain ⟨Ao37, co37, eo37⟩ := Kd.S_slice HO_9.out
                                                                subst eo37
                                                                have p209 : 0 ≤ (x11_2 : Int) := of_decide_eq_true (by first | (with_reducible assumption) | assumption)
                                                                have q209 : x11_2 < (t205.length : Int) := of_decide_eq_true (by first | (with_reducible assumption) | assumption)
                                                                obtain ⟨ad209, A209_0, c209_0, e209, hx209_0, hl209_0, hi209_0⟩ := at_L2 (Kd.S_reads' HO_9.out).2.2 x11_2 p209 q209
                                                                cases e209
                                                                obtain ⟨ce209, hce209, hMe209, hcc209⟩ := Kd.S_get HO_9.out [] x11_2 p209 (by first | exact q209 | exact of_decide_eq_true (by first | (with_reducible assumption) | assumption) | (have e_ := (Kd.S_reads' HO_9.out).1; omega))
                                                                obtain ⟨ve209_0, rfl, ge209_0⟩ := hMe209
                                                                have hv209_0 := hcc209 0 _ rfl
                                                                rw [Nat.add_zero, show ((Kd.slice 2 (Kd.int .i64))).sz = 1 from rfl, Nat.mul_one] at hv209_0
                                                                replace hv209_0 := Option.some.inj (hv209_0.symm.trans hx209_0)
                                                                rw [hv209_0] at ge209_0
                                                                have HL209_0 := Aside0.mk (show Kd.R (Kd.int .i64) 2 _ _ _ _ (rd_L2 t205 x11_2) from ge209_0)
                                                                clear hv209_0 ge209_0
                                                                clear hcc209 hce209
                                                                have HR209_0 := Aside0.mk hi209_0
                                                                have HC209_0 := Aside0.mk hl209_0
                                                                clear hi209_0 hl209_0
                                                                replace p209 := eq_true p209
                                                                replace q209 := eq_true q209
                                                                have p210 : 0 ≤ (0 : Int) := (by omega)
                                                                have q210 : 0 < ((rd_L2 t205 x11_2).length : Int) := of_decide_eq_true (by first | (with_reducible assumption) | assumption)
                                                                obtain ⟨ad210, e210, hx210_0⟩ := Kd.at_int (by repeat (first | (with_reducible exact HR209_0.out) | (with_reducible refine Kd.C_alloc ?_ _) | (with_reducible refine Kd.C_drewN ?_ _) | (with_reducible refine Kd.C_drew ?_) | exact HR209_0.out)) 0 p210 q210
                                                                cases e210
                                                                have qi210 : (0 < (rd_L2 t205 x11_2).length) = True := eq_true (by omega)
                                                                (try rw [show ((0 : Int)).toNat = 0 from rfl] at hx210_0)
                                                                (try rw [Addr.add_zero'] at hx210_0)
                                                                replace p210 := eq_true p210
                                                                replace q210 := eq_true q210
                                                                have p211 : 0 ≤ (1 : Int) := (by omega)
                                                                have q211 : 1 < ((rd_L2 t205 x11_2).length : Int) := of_decide_eq_true (by first | (with_reducible assumption) | assumption)
                                                                obtain ⟨ad211, e211, hx211_0⟩ := Kd.at_int (by repeat (first | (with_reducible exact HR209_0.out) | (with_reducible refine Kd.C_alloc ?_ _) | (with_reducible refine Kd.C_drewN ?_ _) | (with_reducible refine Kd.C_drew ?_) | exact HR209_0.out)) 1 p211 q211
                                                                obtain rfl : ad210 = ad211 := (by injection e211)
                                                                (try simp only [show (1 : Int).toNat = 1 from rfl, Nat.reduceMul, Nat.reduceEqDiff, Go.Addr.add, ↓reduceIte] at hx211_0)
                                                                have qi211 : (1 < (rd_L2 t205 x11_2).length) = True := eq_true (by omega)
                                                                (try rw [show ((1 : Int)).toNat = 1 from rfl] at hx211_0)
                                                                replace p211 := eq_true p211
                                                                replace q211 := eq_true q211
                                                                have p212 : 0 ≤ (0 : Int) := (by omega)
                                                                have q212 : 0 < ((rd_L2 t205 x11_2).length : Int) := of_decide_eq_true (by first | (with_reducible assumption) | assumption)
                                                                obtain ⟨ad212, e212, hx212_0⟩ := Kd.at_int (by repeat (first | (with_reducible exact HR209_0.out) | (with_reducible refine Kd.C_alloc ?_ _) | (with_reducible refine Kd.C_drewN ?_ _) | (with_reducible refine Kd.C_drew ?_) | exact HR209_0.out)) 0 p212 q212
                                                                obtain rfl : ad210 = ad212 := (by injection e212)
                                                                have qi212 : (0 < (rd_L2 t205 x11_2).length) = True := eq_true (by omega)
                                                                (try rw [show ((0 : Int)).toNat = 0 from rfl] at hx212_0)
                                                                (try rw [Addr.add_zero'] at hx212_0)
                                                                replace p212 := eq_true p212
                                                                replace q212 := eq_true q212
                                                                have p213 : 0 ≤ (1 : Int) := (by omega)
                                                                have q213 : 1 < ((rd_L2 t205 x11_2).length : Int) := of_decide_eq_true (by first | (with_reducible assumption) | assumption)
                                                                obtain ⟨ad213, e213, hx213_0⟩ := Kd.at_int (by repeat (first | (with_reducible exact HR209_0.out) | (with_reducible refine Kd.C_alloc ?_ _) | (with_reducible refine Kd.C_drewN ?_ _) | (with_reducible refine Kd.C_drew ?_) | exact HR209_0.out)) 1 p213 q213
                                                                obtain rfl : ad210 = ad213 := (by injection e213)
                                                                (try simp only [show (1 : Int).toNat = 1 from rfl, Nat.reduceMul, Nat.reduceEqDiff, Go.Addr.add, ↓reduceIte] at hx213_0)
                                                                have qi213 : (1 < (rd_L2 t205 x11_2).length) = True := eq_true (by omega)
                                                                (try rw [show ((1 : Int)).toNat = 1 from rfl] at hx213_0)
                                                                replace p213 := eq_true p213
                                                                replace q213 := eq_true q213
                                                                have p214 : 0 ≤ (0 : Int) := (by omega)
                                                                have q214 : 0 < ((rd_L2 t205 x11_2).length : Int) := of_decide_eq_true (by first | (with_reducible assumption) | assumption)
                                                                obtain ⟨ad214, e214, hx214_0⟩ := Kd.at_int (by repeat (first | (with_reducible exact HR209_0.out) | (with_reducible refine Kd.C_alloc ?_ _) | (with_reducible refine Kd.C_drewN ?_ _) | (with_reducible refine Kd.C_drew ?_) | exact HR209_0.out)) 0 p214 q214
                                                                obtain rfl : ad210 = ad214 := (by injection e214)
                                                                have qi214 : (0 < (rd_L2 t205 x11_2).length) = True := eq_true (by omega)
                                                                (try rw [show ((0 : Int)).toNat = 0 from rfl] at hx214_0)
                                                                (try rw [Addr.add_zero'] at hx214_0)
                                                                replace p214 := eq_true p214
                                                                replace q214 := eq_true q214
                                                                have p215 : 0 ≤ ((ji29) : Int) := of_decide_eq_true (by first | (with_reducible assumption) | assumption)
                                                                have q215 : (ji29) < (t205.length : Int) := of_decide_eq_true (by first | (with_reducible assumption) | assumption)
                                                                obtain ⟨ad215, A215_0, c215_0, e215, hx215_0, hl215_0, hi215_0⟩ := at_L2 (Kd.S_reads' HO_9.out).2.2 (ji29) p215 q215
                                                                obtain rfl : ad209 = ad215 := (by injection e215)
                                                                obtain ⟨ce215, hce215, hMe215, hcc215⟩ := Kd.S_get HO_9.out [] (ji29) p215 (by first | exact q215 | exact of_decide_eq_true (by first | (with_reducible assumption) | assumption) | (have e_ := (Kd.S_reads' HO_9.out).1; omega))
                                                                obtain ⟨ve215_0, rfl, ge215_0⟩ := hMe215
                                                                have hv215_0 := hcc215 0 _ rfl
                                                                rw [Nat.add_zero, show ((Kd.slice 2 (Kd.int .i64))).sz = 1 from rfl, Nat.mul_one] at hv215_0
                                                                replace hv215_0 := Option.some.inj (hv215_0.symm.trans hx215_0)
                                                                rw [hv215_0] at ge215_0
                                                                have HL215_0 := Aside0.mk (show Kd.R (Kd.int .i64) 2 _ _ _ _ (rd_L2 t205 (ji29)) from ge215_0)
                                                                clear hv215_0 ge215_0
                                                                clear hcc215 hce215
                                                                have HR215_0 := Aside0.mk hi215_0
                                                                have HC215_0 := Aside0.mk hl215_0
                                                                clear hi215_0 hl215_0
                                                                replace p215 := eq_true p215
                                                                replace q215 := eq_true q215
                                                                have p216 : 0 ≤ (0 : Int) := (by omega)
                                                                have q216 : 0 < ((rd_L2 t205 (ji29)).length : Int) := of_decide_eq_true (by first | (with_reducible assumption) | assumption)
                                                                obtain ⟨ad216, e216, hx216_0⟩ := Kd.at_int (by repeat (first | (with_reducible exact HR215_0.out) | (with_reducible refine Kd.C_alloc ?_ _) | (with_reducible refine Kd.C_drewN ?_ _) | (with_reducible refine Kd.C_drew ?_) | exact HR215_0.out)) 0 p216 q216
                                                                cases e216
                                                                have qi216 : (0 < (rd_L2 t205 (ji29)).length) = True := eq_true (by omega)
                                                                (try rw [show ((0 : Int)).toNat = 0 from rfl] at hx216_0)
                                                                (try rw [Addr.add_zero'] at hx216_0)
                                                                replace p216 := eq_true p216
                                                                replace q216 := eq_true q216
                                                                have p217 : 0 ≤ (1 : Int) := (by omega)
                                                                have q217 : 1 < ((rd_L2 t205 x11_2).length : Int) := of_decide_eq_true (by first | (with_reducible assumption) | assumption)
                                                                obtain ⟨ad217, e217, hx217_0⟩ := Kd.at_int (by repeat (first | (with_reducible exact HR209_0.out) | (with_reducible refine Kd.C_alloc ?_ _) | (with_reducible refine Kd.C_drewN ?_ _) | (with_reducible refine Kd.C_drew ?_) | exact HR209_0.out)) 1 p217 q217
                                                                obtain rfl : ad210 = ad217 := (by injection e217)
                                                                (try simp only [show (1 : Int).toNat = 1 from rfl, Nat.reduceMul, Nat.reduceEqDiff, Go.Addr.add, ↓reduceIte] at hx217_0)
                                                                have qi217 : (1 < (rd_L2 t205 x11_2).length) = True := eq_true (by omega)
                                                                (try rw [show ((1 : Int)).toNat = 1 from rfl] at hx217_0)
                                                                replace p217 := eq_true p217
                                                                replace q217 := eq_true q217
                                                                have p218 : 0 ≤ ((ji29) : Int) := of_decide_eq_true (by first | (with_reducible assumption) | assumption)
                                                                have q218 : (ji29) < (t205.length : Int) := of_decide_eq_true (by first | (with_reducible assumption) | assumption)
                                                                obtain ⟨ad218, A218_0, c218_0, e218, hx218_0, hl218_0, hi218_0⟩ := at_L2 (Kd.S_reads' HO_9.out).2.2 (ji29) p218 q218
                                                                obtain rfl : ad209 = ad218 := (by injection e218)
                                                                obtain ⟨ce218, hce218, hMe218, hcc218⟩ := Kd.S_get HO_9.out [] (ji29) p218 (by first | exact q218 | exact of_decide_eq_true (by first | (with_reducible assumption) | assumption) | (have e_ := (Kd.S_reads' HO_9.out).1; omega))
                                                                obtain ⟨ve218_0, rfl, ge218_0⟩ := hMe218
                                                                have hv218_0 := hcc218 0 _ rfl
                                                                rw [Nat.add_zero, show ((Kd.slice 2 (Kd.int .i64))).sz = 1 from rfl, Nat.mul_one] at hv218_0
                                                                replace hv218_0 := Option.some.inj (hv218_0.symm.trans hx218_0)
                                                                rw [hv218_0] at ge218_0
                                                                have HL218_0 := Aside0.mk (show Kd.R (Kd.int .i64) 2 _ _ _ _ (rd_L2 t205 (ji29)) from ge218_0)
                                                                clear hv218_0 ge218_0
                                                                clear hcc218 hce218
                                                                have HR218_0 := Aside0.mk hi218_0
                                                                have HC218_0 := Aside0.mk hl218_0
                                                                clear hi218_0 hl218_0
                                                                replace p218 := eq_true p218
                                                                replace q218 := eq_true q218
                                                                have ea_ := Option.some.inj (hx215_0.symm.trans hx218_0)
                                                                injection ea_ with ea_ en_ ec_
                                                                subst ea_
                                                                subst ec_
                                                                clear en_
                                                                have p219 : 0 ≤ (1 : Int) := (by omega)
                                                                have q219 : 1 < ((rd_L2 t205 (ji29)).length : Int) := of_decide_eq_true (by first | (with_reducible assumption) | assumption)
                                                                obtain ⟨ad219, e219, hx219_0⟩ := Kd.at_int (by repeat (first | (with_reducible exact HR218_0.out) | (with_reducible refine Kd.C_alloc ?_ _) | (with_reducible refine Kd.C_drewN ?_ _) | (with_reducible refine Kd.C_drew ?_) | exact HR218_0.out)) 1 p219 q219
                                                                cases e219
                                                                (try simp only [show (1 : Int).toNat = 1 from rfl, Nat.reduceMul, Nat.reduceEqDiff, Go.Addr.add, ↓reduceIte] at hx219_0)
                                                                have qi219 : (1 < (rd_L2 t205 (ji29)).length) = True := eq_true (by omega)
                                                                (try rw [show ((1 : Int)).toNat = 1 from rfl] at hx219_0)
                                                                replace p219 := eq_true p219
                                                                replace q219 := eq_true q219
                                                                go_wp2
                                                                repeat (go_quiet (fail); try go_wp2)
                                                                go_ret
                                                                exact ⟨by first | rfl | (simp [errW_none, errW_some] <;> rfl) | (simp only [← hji29]; first | rfl | (simp [errW_none, errW_some] <;> rfl)) | (simp [*, errW_none, errW_some] <;> rfl), by repeat (first | (with_reducible first | exact HB.out | apply below_alloc | apply pw_below_drewN | apply below_drew1) | exact HB.out)⟩
                                                             · as_aux_lemma =>
                                                                rw [if_neg c36] at H
                                                                have c36b0 : decide ((rd (rd_L2 t205 x11_2) 1) < (rd (rd_L2 t205 (ji29)) 1)) = false := decide_eq_false c36
                                                                clear c36
                                                                have H' := Aside0.mk H
                                                                clear H
                                                                obtain ⟨Ao38, co38, eo38⟩ := Kd.S_slice HO_9.out
                                                                subst eo38
                                                                have p209 : 0 ≤ (x11_2 : Int) := of_decide_eq_true (by first | (with_reducible assumption) | assumption)
                                                                have q209 : x11_2 < (t205.length : Int) := of_decide_eq_true (by first | (with_reducible assumption) | assumption)
                                                                obtain ⟨ad209, A209_0, c209_0, e209, hx209_0, hl209_0, hi209_0⟩ := at_L2 (Kd.S_reads' HO_9.out).2.2 x11_2 p209 q209
                                                                cases e209
                                                                obtain ⟨ce209, hce209, hMe209, hcc209⟩ := Kd.S_get HO_9.out [] x11_2 p209 (by first | exact q209 | exact of_decide_eq_true (by first | (with_reducible assumption) | assumption) | (have e_ := (Kd.S_reads' HO_9.out).1; omega))
                                                                obtain ⟨ve209_0, rfl, ge209_0⟩ := hMe209
                                                                have hv209_0 := hcc209 0 _ rfl
                                                                rw [Nat.add_zero, show ((Kd.slice 2 (Kd.int .i64))).sz = 1 from rfl, Nat.mul_one] at hv209_0
                                                                replace hv209_0 := Option.some.inj (hv209_0.symm.trans hx209_0)
                                                                rw [hv209_0] at ge209_0
                                                                have HL209_0 := Aside0.mk (show Kd.R (Kd.int .i64) 2 _ _ _ _ (rd_L2 t205 x11_2) from ge209_0)
                                                                clear hv209_0 ge209_0
                                                                clear hcc209 hce209
                                                                have HR209_0 := Aside0.mk hi209_0
                                                                have HC209_0 := Aside0.mk hl209_0
                                                                clear hi209_0 hl209_0
                                                                replace p209 := eq_true p209
                                                                replace q209 := eq_true q209
                                                                have p210 : 0 ≤ (0 : Int) := (by omega)
                                                                have q210 : 0 < ((rd_L2 t205 x11_2).length : Int) := of_decide_eq_true (by first | (with_reducible assumption) | assumption)
                                                                obtain ⟨ad210, e210, hx210_0⟩ := Kd.at_int (by repeat (first | (with_reducible exact HR209_0.out) | (with_reducible refine Kd.C_alloc ?_ _) | (with_reducible refine Kd.C_drewN ?_ _) | (with_reducible refine Kd.C_drew ?_) | exact HR209_0.out)) 0 p210 q210
                                                                cases e210
                                                                have qi210 : (0 < (rd_L2 t205 x11_2).length) = True := eq_true (by omega)
                                                                (try rw [show ((0 : Int)).toNat = 0 from rfl] at hx210_0)
                                                                (try rw [Addr.add_zero'] at hx210_0)
                                                                replace p210 := eq_true p210
                                                                replace q210 := eq_true q210
                                                                have p211 : 0 ≤ (1 : Int) := (by omega)
                                                                have q211 : 1 < ((rd_L2 t205 x11_2).length : Int) := of_decide_eq_true (by first | (with_reducible assumption) | assumption)
                                                                obtain ⟨ad211, e211, hx211_0⟩ := Kd.at_int (by repeat (first | (with_reducible exact HR209_0.out) | (with_reducible refine Kd.C_alloc ?_ _) | (with_reducible refine Kd.C_drewN ?_ _) | (with_reducible refine Kd.C_drew ?_) | exact HR209_0.out)) 1 p211 q211
                                                                obtain rfl : ad210 = ad211 := (by injection e211)
                                                                (try simp only [show (1 : Int).toNat = 1 from rfl, Nat.reduceMul, Nat.reduceEqDiff, Go.Addr.add, ↓reduceIte] at hx211_0)
                                                                have qi211 : (1 < (rd_L2 t205 x11_2).length) = True := eq_true (by omega)
                                                                (try rw [show ((1 : Int)).toNat = 1 from rfl] at hx211_0)
                                                                replace p211 := eq_true p211
                                                                replace q211 := eq_true q211
                                                                have p212 : 0 ≤ (0 : Int) := (by omega)
                                                                have q212 : 0 < ((rd_L2 t205 x11_2).length : Int) := of_decide_eq_true (by first | (with_reducible assumption) | assumption)
                                                                obtain ⟨ad212, e212, hx212_0⟩ := Kd.at_int (by repeat (first | (with_reducible exact HR209_0.out) | (with_reducible refine Kd.C_alloc ?_ _) | (with_reducible refine Kd.C_drewN ?_ _) | (with_reducible refine Kd.C_drew ?_) | exact HR209_0.out)) 0 p212 q212
                                                                obtain rfl : ad210 = ad212 := (by injection e212)
                                                                have qi212 : (0 < (rd_L2 t205 x11_2).length) = True := eq_true (by omega)
                                                                (try rw [show ((0 : Int)).toNat = 0 from rfl] at hx212_0)
                                                                (try rw [Addr.add_zero'] at hx212_0)
                                                                replace p212 := eq_true p212
                                                                replace q212 := eq_true q212
                                                                have p213 : 0 ≤ (1 : Int) := (by omega)
                                                                have q213 : 1 < ((rd_L2 t205 x11_2).length : Int) := of_decide_eq_true (by first | (with_reducible assumption) | assumption)
                                                                obtain ⟨ad213, e213, hx213_0⟩ := Kd.at_int (by repeat (first | (with_reducible exact HR209_0.out) | (with_reducible refine Kd.C_alloc ?_ _) | (with_reducible refine Kd.C_drewN ?_ _) | (with_reducible refine Kd.C_drew ?_) | exact HR209_0.out)) 1 p213 q213
                                                                obtain rfl : ad210 = ad213 := (by injection e213)
                                                                (try simp only [show (1 : Int).toNat = 1 from rfl, Nat.reduceMul, Nat.reduceEqDiff, Go.Addr.add, ↓reduceIte] at hx213_0)
                                                                have qi213 : (1 < (rd_L2 t205 x11_2).length) = True := eq_true (by omega)
                                                                (try rw [show ((1 : Int)).toNat = 1 from rfl] at hx213_0)
                                                                replace p213 := eq_true p213
                                                                replace q213 := eq_true q213
                                                                have p214 : 0 ≤ (0 : Int) := (by omega)
                                                                have q214 : 0 < ((rd_L2 t205 x11_2).length : Int) := of_decide_eq_true (by first | (with_reducible assumption) | assumption)
                                                                obtain ⟨ad214, e214, hx214_0⟩ := Kd.at_int (by repeat (first | (with_reducible exact HR209_0.out) | (with_reducible refine Kd.C_alloc ?_ _) | (with_reducible refine Kd.C_drewN ?_ _) | (with_reducible refine Kd.C_drew ?_) | exact HR209_0.out)) 0 p214 q214
                                                                obtain rfl : ad210 = ad214 := (by injection e214)
                                                                have qi214 : (0 < (rd_L2 t205 x11_2).length) = True := eq_true (by omega)
                                                                (try rw [show ((0 : Int)).toNat = 0 from rfl] at hx214_0)
                                                                (try rw [Addr.add_zero'] at hx214_0)
                                                                replace p214 := eq_true p214
                                                                replace q214 := eq_true q214
                                                                have p215 : 0 ≤ ((ji29) : Int) := of_decide_eq_true (by first | (with_reducible assumption) | assumption)
                                                                have q215 : (ji29) < (t205.length : Int) := of_decide_eq_true (by first | (with_reducible assumption) | assumption)
                                                                obtain ⟨ad215, A215_0, c215_0, e215, hx215_0, hl215_0, hi215_0⟩ := at_L2 (Kd.S_reads' HO_9.out).2.2 (ji29) p215 q215
                                                                obtain rfl : ad209 = ad215 := (by injection e215)
                                                                obtain ⟨ce215, hce215, hMe215, hcc215⟩ := Kd.S_get HO_9.out [] (ji29) p215 (by first | exact q215 | exact of_decide_eq_true (by first | (with_reducible assumption) | assumption) | (have e_ := (Kd.S_reads' HO_9.out).1; omega))
                                                                obtain ⟨ve215_0, rfl, ge215_0⟩ := hMe215
                                                                have hv215_0 := hcc215 0 _ rfl
                                                                rw [Nat.add_zero, show ((Kd.slice 2 (Kd.int .i64))).sz = 1 from rfl, Nat.mul_one] at hv215_0
                                                                replace hv215_0 := Option.some.inj (hv215_0.symm.trans hx215_0)
                                                                rw [hv215_0] at ge215_0
                                                                have HL215_0 := Aside0.mk (show Kd.R (Kd.int .i64) 2 _ _ _ _ (rd_L2 t205 (ji29)) from ge215_0)
                                                                clear hv215_0 ge215_0
                                                                clear hcc215 hce215
                                                                have HR215_0 := Aside0.mk hi215_0
                                                                have HC215_0 := Aside0.mk hl215_0
                                                                clear hi215_0 hl215_0
                                                                replace p215 := eq_true p215
                                                                replace q215 := eq_true q215
                                                                have p216 : 0 ≤ (0 : Int) := (by omega)
                                                                have q216 : 0 < ((rd_L2 t205 (ji29)).length : Int) := of_decide_eq_true (by first | (with_reducible assumption) | assumption)
                                                                obtain ⟨ad216, e216, hx216_0⟩ := Kd.at_int (by repeat (first | (with_reducible exact HR215_0.out) | (with_reducible refine Kd.C_alloc ?_ _) | (with_reducible refine Kd.C_drewN ?_ _) | (with_reducible refine Kd.C_drew ?_) | exact HR215_0.out)) 0 p216 q216
                                                                cases e216
                                                                have qi216 : (0 < (rd_L2 t205 (ji29)).length) = True := eq_true (by omega)
                                                                (try rw [show ((0 : Int)).toNat = 0 from rfl] at hx216_0)
                                                                (try rw [Addr.add_zero'] at hx216_0)
                                                                replace p216 := eq_true p216
                                                                replace q216 := eq_true q216
                                                                have p217 : 0 ≤ (1 : Int) := (by omega)
                                                                have q217 : 1 < ((rd_L2 t205 x11_2).length : Int) := of_decide_eq_true (by first | (with_reducible assumption) | assumption)
                                                                obtain ⟨ad217, e217, hx217_0⟩ := Kd.at_int (by repeat (first | (with_reducible exact HR209_0.out) | (with_reducible refine Kd.C_alloc ?_ _) | (with_reducible refine Kd.C_drewN ?_ _) | (with_reducible refine Kd.C_drew ?_) | exact HR209_0.out)) 1 p217 q217
                                                                obtain rfl : ad210 = ad217 := (by injection e217)
                                                                (try simp only [show (1 : Int).toNat = 1 from rfl, Nat.reduceMul, Nat.reduceEqDiff, Go.Addr.add, ↓reduceIte] at hx217_0)
                                                                have qi217 : (1 < (rd_L2 t205 x11_2).length) = True := eq_true (by omega)
                                                                (try rw [show ((1 : Int)).toNat = 1 from rfl] at hx217_0)
                                                                replace p217 := eq_true p217
                                                                replace q217 := eq_true q217
                                                                have p218 : 0 ≤ ((ji29) : Int) := of_decide_eq_true (by first | (with_reducible assumption) | assumption)
                                                                have q218 : (ji29) < (t205.length : Int) := of_decide_eq_true (by first | (with_reducible assumption) | assumption)
                                                                obtain ⟨ad218, A218_0, c218_0, e218, hx218_0, hl218_0, hi218_0⟩ := at_L2 (Kd.S_reads' HO_9.out).2.2 (ji29) p218 q218
                                                                obtain rfl : ad209 = ad218 := (by injection e218)
                                                                obtain ⟨ce218, hce218, hMe218, hcc218⟩ := Kd.S_get HO_9.out [] (ji29) p218 (by first | exact q218 | exact of_decide_eq_true (by first | (with_reducible assumption) | assumption) | (have e_ := (Kd.S_reads' HO_9.out).1; omega))
                                                                obtain ⟨ve218_0, rfl, ge218_0⟩ := hMe218
                                                                have hv218_0 := hcc218 0 _ rfl
                                                                rw [Nat.add_zero, show ((Kd.slice 2 (Kd.int .i64))).sz = 1 from rfl, Nat.mul_one] at hv218_0
                                                                replace hv218_0 := Option.some.inj (hv218_0.symm.trans hx218_0)
                                                                rw [hv218_0] at ge218_0
                                                                have HL218_0 := Aside0.mk (show Kd.R (Kd.int .i64) 2 _ _ _ _ (rd_L2 t205 (ji29)) from ge218_0)
                                                                clear hv218_0 ge218_0
                                                                clear hcc218 hce218
                                                                have HR218_0 := Aside0.mk hi218_0
                                                                have HC218_0 := Aside0.mk hl218_0
                                                                clear hi218_0 hl218_0
                                                                replace p218 := eq_true p218
                                                                replace q218 := eq_true q218
                                                                have ea_ := Option.some.inj (hx215_0.symm.trans hx218_0)
                                                                injection ea_ with ea_ en_ ec_
                                                                subst ea_
                                                                subst ec_
                                                                clear en_
                                                                have p219 : 0 ≤ (1 : Int) := (by omega)
                                                                have q219 : 1 < ((rd_L2 t205 (ji29)).length : Int) := of_decide_eq_true (by first | (with_reducible assumption) | assumption)
                                                                obtain ⟨ad219, e219, hx219_0⟩ := Kd.at_int (by repeat (first | (with_reducible exact HR218_0.out) | (with_reducible refine Kd.C_alloc ?_ _) | (with_reducible refine Kd.C_drewN ?_ _) | (with_reducible refine Kd.C_drew ?_) | exact HR218_0.out)) 1 p219 q219
                                                                cases e219
                                                                (try simp only [show (1 : Int).toNat = 1 from rfl, Nat.reduceMul, Nat.reduceEqDiff, Go.Addr.add, ↓reduceIte] at hx219_0)
                                                                have qi219 : (1 < (rd_L2 t205 (ji29)).length) = True := eq_true (by omega)
                                                                (try rw [show ((1 : Int)).toNat = 1 from rfl] at hx219_0)
                                                                replace p219 := eq_true p219
                                                                replace q219 := eq_true q219
                                                                go_wp2
                                                                repeat (go_quiet (fail); try go_wp2)
                                                                go_roundg k2
                                                                case measure => have := HJ9.out; have := HK2.out; omega
                                                                case rel => exact ⟨(wrap64 (x11_2 + 1)), (by first | rfl | (simp; done) | (simp [*]; done)), H', ⟨by have := HJ9.out; have := HK2.out; omega⟩, ⟨by (with_reducible repeat (first | apply Kd.S_alloc | apply Kd.S_drewN | apply Kd.S_drew)); exact HO_9.out⟩, ⟨by repeat (first | (with_reducible first | exact HB.out | apply below_alloc | apply pw_below_drewN | apply below_drew1) | exact HB.out)⟩⟩
                                                          · rw [if_neg c35] at H
                                                            exact absurd H (by simp)
                                                    · rw [if_neg c32] at H
                                                      exact absurd H (by simp)
                                                 · rw [if_neg c31] at H
                                                   exact absurd H (by simp)
                                              · rw [if_neg c30] at H
                                                exact absurd H (by simp)
                                           · as_aux_lemma =>
                                              rw [if_neg c28] at H
                                              have c28b0 : decide (0 < x11_2) = false := decide_eq_false c28
                                              clear c28
                                              have H' := Aside0.mk H
                                              clear H
                                              obtain ⟨Ao39, co39, eo39⟩ := Kd.S_slice HO_9.out
                                              subst eo39
                                              have p209 : 0 ≤ (x11_2 : Int) := of_decide_eq_true (by first | (with_reducible assumption) | assumption)
                                              have q209 : x11_2 < (t205.length : Int) := of_decide_eq_true (by first | (with_reducible assumption) | assumption)
                                              obtain ⟨ad209, A209_0, c209_0, e209, hx209_0, hl209_0, hi209_0⟩ := at_L2 (Kd.S_reads' HO_9.out).2.2 x11_2 p209 q209
                                              cases e209
                                              obtain ⟨ce209, hce209, hMe209, hcc209⟩ := Kd.S_get HO_9.out [] x11_2 p209 (by first | exact q209 | exact of_decide_eq_true (by first | (with_reducible assumption) | assumption) | (have e_ := (Kd.S_reads' HO_9.out).1; omega))
                                              obtain ⟨ve209_0, rfl, ge209_0⟩ := hMe209
                                              have hv209_0 := hcc209 0 _ rfl
                                              rw [Nat.add_zero, show ((Kd.slice 2 (Kd.int .i64))).sz = 1 from rfl, Nat.mul_one] at hv209_0
                                              replace hv209_0 := Option.some.inj (hv209_0.symm.trans hx209_0)
                                              rw [hv209_0] at ge209_0
                                              have HL209_0 := Aside0.mk (show Kd.R (Kd.int .i64) 2 _ _ _ _ (rd_L2 t205 x11_2) from ge209_0)
                                              clear hv209_0 ge209_0
                                              clear hcc209 hce209
                                              have HR209_0 := Aside0.mk hi209_0
                                              have HC209_0 := Aside0.mk hl209_0
                                              clear hi209_0 hl209_0
                                              replace p209 := eq_true p209
                                              replace q209 := eq_true q209
                                              have p210 : 0 ≤ (0 : Int) := (by omega)
                                              have q210 : 0 < ((rd_L2 t205 x11_2).length : Int) := of_decide_eq_true (by first | (with_reducible assumption) | assumption)
                                              obtain ⟨ad210, e210, hx210_0⟩ := Kd.at_int (by repeat (first | (with_reducible exact HR209_0.out) | (with_reducible refine Kd.C_alloc ?_ _) | (with_reducible refine Kd.C_drewN ?_ _) | (with_reducible refine Kd.C_drew ?_) | exact HR209_0.out)) 0 p210 q210
                                              cases e210
                                              have qi210 : (0 < (rd_L2 t205 x11_2).length) = True := eq_true (by omega)
                                              (try rw [show ((0 : Int)).toNat = 0 from rfl] at hx210_0)
                                              (try rw [Addr.add_zero'] at hx210_0)
                                              replace p210 := eq_true p210
                                              replace q210 := eq_true q210
                                              have p211 : 0 ≤ (1 : Int) := (by omega)
                                              have q211 : 1 < ((rd_L2 t205 x11_2).length : Int) := of_decide_eq_true (by first | (with_reducible assumption) | assumption)
                                              obtain ⟨ad211, e211, hx211_0⟩ := Kd.at_int (by repeat (first | (with_reducible exact HR209_0.out) | (with_reducible refine Kd.C_alloc ?_ _) | (with_reducible refine Kd.C_drewN ?_ _) | (with_reducible refine Kd.C_drew ?_) | exact HR209_0.out)) 1 p211 q211
                                              obtain rfl : ad210 = ad211 := (by injection e211)
                                              (try simp only [show (1 : Int).toNat = 1 from rfl, Nat.reduceMul, Nat.reduceEqDiff, Go.Addr.add, ↓reduceIte] at hx211_0)
                                              have qi211 : (1 < (rd_L2 t205 x11_2).length) = True := eq_true (by omega)
                                              (try rw [show ((1 : Int)).toNat = 1 from rfl] at hx211_0)
                                              replace p211 := eq_true p211
                                              replace q211 := eq_true q211
                                              have p212 : 0 ≤ (0 : Int) := (by omega)
                                              have q212 : 0 < ((rd_L2 t205 x11_2).length : Int) := of_decide_eq_true (by first | (with_reducible assumption) | assumption)
                                              obtain ⟨ad212, e212, hx212_0⟩ := Kd.at_int (by repeat (first | (with_reducible exact HR209_0.out) | (with_reducible refine Kd.C_alloc ?_ _) | (with_reducible refine Kd.C_drewN ?_ _) | (with_reducible refine Kd.C_drew ?_) | exact HR209_0.out)) 0 p212 q212
                                              obtain rfl : ad210 = ad212 := (by injection e212)
                                              have qi212 : (0 < (rd_L2 t205 x11_2).length) = True := eq_true (by omega)
                                              (try rw [show ((0 : Int)).toNat = 0 from rfl] at hx212_0)
                                              (try rw [Addr.add_zero'] at hx212_0)
                                              replace p212 := eq_true p212
                                              replace q212 := eq_true q212
                                              have p213 : 0 ≤ (1 : Int) := (by omega)
                                              have q213 : 1 < ((rd_L2 t205 x11_2).length : Int) := of_decide_eq_true (by first | (with_reducible assumption) | assumption)
                                              obtain ⟨ad213, e213, hx213_0⟩ := Kd.at_int (by repeat (first | (with_reducible exact HR209_0.out) | (with_reducible refine Kd.C_alloc ?_ _) | (with_reducible refine Kd.C_drewN ?_ _) | (with_reducible refine Kd.C_drew ?_) | exact HR209_0.out)) 1 p213 q213
                                              obtain rfl : ad210 = ad213 := (by injection e213)
                                              (try simp only [show (1 : Int).toNat = 1 from rfl, Nat.reduceMul, Nat.reduceEqDiff, Go.Addr.add, ↓reduceIte] at hx213_0)
                                              have qi213 : (1 < (rd_L2 t205 x11_2).length) = True := eq_true (by omega)
                                              (try rw [show ((1 : Int)).toNat = 1 from rfl] at hx213_0)
                                              replace p213 := eq_true p213
                                              replace q213 := eq_true q213
                                              go_wp2
                                              repeat (go_quiet (fail); try go_wp2)
                                              go_roundg k2
                                              case measure => have := HJ9.out; have := HK2.out; omega
                                              case rel => exact ⟨(wrap64 (x11_2 + 1)), (by first | rfl | (simp; done) | (simp [*]; done)), H', ⟨by have := HJ9.out; have := HK2.out; omega⟩, ⟨by (with_reducible repeat (first | apply Kd.S_alloc | apply Kd.S_drewN | apply Kd.S_drew)); exact HO_9.out⟩, ⟨by repeat (first | (with_reducible first | exact HB.out | apply below_alloc | apply pw_below_drewN | apply below_drew1) | exact HB.out)⟩⟩
                               · rw [if_neg c21] at H
                                 exact absurd H (by simp)
                         · rw [if_neg c18] at H
                           exact absurd H (by simp)
                      · rw [if_neg c17] at H
                        have c17b0 : (((rd_L2 t205 x11_2).length : Int) == 2) = false := beq_eq_false_iff_ne.mpr c17
                        have c17b1 : (((rd_L2 t205 x11_2).length : Int) != 2) = true := bne_iff_ne.mpr c17
                        obtain rfl := Option.some.inj H
                        obtain ⟨Ao40, co40, eo40⟩ := Kd.S_slice HO_9.out
                        subst eo40
                        have p209 : 0 ≤ (x11_2 : Int) := of_decide_eq_true (by first | (with_reducible assumption) | assumption)
                        have q209 : x11_2 < (t205.length : Int) := of_decide_eq_true (by first | (with_reducible assumption) | assumption)
                        obtain ⟨ad209, A209_0, c209_0, e209, hx209_0, hl209_0, hi209_0⟩ := at_L2 (Kd.S_reads' HO_9.out).2.2 x11_2 p209 q209
                        cases e209
                        obtain ⟨ce209, hce209, hMe209, hcc209⟩ := Kd.S_get HO_9.out [] x11_2 p209 (by first | exact q209 | exact of_decide_eq_true (by first | (with_reducible assumption) | assumption) | (have e_ := (Kd.S_reads' HO_9.out).1; omega))
                        obtain ⟨ve209_0, rfl, ge209_0⟩ := hMe209
                        have hv209_0 := hcc209 0 _ rfl
                        rw [Nat.add_zero, show ((Kd.slice 2 (Kd.int .i64))).sz = 1 from rfl, Nat.mul_one] at hv209_0
                        replace hv209_0 := Option.some.inj (hv209_0.symm.trans hx209_0)
                        rw [hv209_0] at ge209_0
                        have HL209_0 := Aside0.mk (show Kd.R (Kd.int .i64) 2 _ _ _ _ (rd_L2 t205 x11_2) from ge209_0)
                        clear hv209_0 ge209_0
                        clear hcc209 hce209
                        have HR209_0 := Aside0.mk hi209_0
                        have HC209_0 := Aside0.mk hl209_0
                        clear hi209_0 hl209_0
                        replace p209 := eq_true p209
                        replace q209 := eq_true q209
                        go_wp2
                        repeat (go_quiet (fail); try go_wp2)
                        go_ret
                        exact ⟨by first | rfl | (simp [errW_none, errW_some] <;> rfl) | (simp [*, errW_none, errW_some] <;> rfl), by repeat (first | (with_reducible first | exact HB.out | apply below_alloc | apply pw_below_drewN | apply below_drew1) | exact HB.out)⟩
                   · rw [if_neg c16] at H
                     exact absurd H (by simp)
                · as_aux_lemma =>
                   rw [if_neg c15] at H
                   have c15b0 : decide (x11_2 < (t205.length : Int)) = false := decide_eq_false c15
                   clear c15
                   have HC41 := Aside0.mk H
                   clear H
                   obtain ⟨Ao42, co42, eo42⟩ := Kd.S_slice HO_9.out
                   subst eo42
                   go_upto_region 16 with (fail)
                   repeat (go_quiet (fail); go_upto_region 16 with (fail))
                   go_cut [159] (fun v159 wc => ∃ (kq : Nat) (x159_40 : Bool), v159 = .bool x159_40 ∧ Aside0 (laws_FnStages.j2 kq l0 l1 x159_40 = some r) ∧ Aside0 (kq ≤ k2) ∧ Aside0 (Below w.heap.size w wc))
                   case first => as_aux_lemma =>
                     have H := HC41.out
                     clear HC41
                     obtain ⟨ji43, hji43⟩ : ∃ j_ : Int, (wrap64 ((wrap64 (1 + t204)) - 1)) = j_ := ⟨_, rfl⟩
                     replace H : (if 0 ≤ (ji43) then (if (ji43) < (t205.length : Int) then (if 0 < ((rd_L2 t205 (ji43)).length : Int) then (if (rd (rd_L2 t205 (ji43)) 0) = (wrap64 (t201 - 10)) then (if 1 < ((rd_L2 t205 (ji43)).length : Int) then (laws_FnStages.j2 k2 l0 l1 ((rd (rd_L2 t205 (ji43)) 1) != (wrap64 ((wrap64 (t201 - 10)) + t202)))) else (none)) else (laws_FnStages.j2 k2 l0 l1 true)) else (none)) else (none)) else (none)) = some r := by first | (rw [hji43] at H; exact H) | (simp only [hji43] at H ⊢; exact H)
                     have hji43w : (IntKind.i64.wrap ((wrap64 (1 + t204)) - 1)) = ji43 := (i64_w _).trans hji43
                     by_cases c44 : 0 ≤ (ji43)
                     · as_aux_lemma =>
                        rw [if_pos c44] at H
                        have c44b0 : decide (0 ≤ (ji43)) = true := decide_eq_true c44
                        clear c44
                        (first | rw [c44b0] | (simp only [i64_w, i32_w]; rw [c44b0]) | skip)
                        by_cases c45 : (ji43) < (t205.length : Int)
                        · as_aux_lemma =>
                           rw [if_pos c45] at H
                           have c45b0 : decide ((ji43) < (t205.length : Int)) = true := decide_eq_true c45
                           clear c45
                           by_cases c46 : 0 < ((rd_L2 t205 (ji43)).length : Int)
                           · as_aux_lemma =>
                              rw [if_pos c46] at H
                              have c46b0 : decide (0 < ((rd_L2 t205 (ji43)).length : Int)) = true := decide_eq_true c46
                              have c46b1 : decide (0 < (rd_L2 t205 (ji43)).length) = true := decide_eq_true (by omega)
                              clear c46
                              by_cases c47 : (rd (rd_L2 t205 (ji43)) 0) = (wrap64 (t201 - 10))
                              · as_aux_lemma =>
                                 rw [if_pos c47] at H
                                 have c47b0 : ((rd (rd_L2 t205 (ji43)) 0) == (wrap64 (t201 - 10))) = true := beq_iff_eq.mpr c47
                                 have c47b1 : ((rd (rd_L2 t205 (ji43)) 0) != (wrap64 (t201 - 10))) = false := bne_eq_false_iff_eq.mpr c47
                                 clear c47
                                 by_cases c48 : 1 < ((rd_L2 t205 (ji43)).length : Int)
                                 · as_aux_lemma =>
                                    rw [if_pos c48] at H
                                    have c48b0 : decide (1 < ((rd_L2 t205 (ji43)).length : Int)) = true := decide_eq_true c48
                                    have c48b1 : decide (1 < (rd_L2 t205 (ji43)).length) = true := decide_eq_true (by omega)
                                    clear c48
                                    have H' := Aside0.mk H
                                    clear H
                                    have p220 : 0 ≤ ((ji43) : Int) := of_decide_eq_true (by first | (with_reducible assumption) | assumption)
                                    have q220 : (ji43) < (t205.length : Int) := of_decide_eq_true (by first | (with_reducible assumption) | assumption)
                                    obtain ⟨ad220, A220_0, c220_0, e220, hx220_0, hl220_0, hi220_0⟩ := at_L2 (Kd.S_reads' HO_9.out).2.2 (ji43) p220 q220
                                    cases e220
                                    obtain ⟨ce220, hce220, hMe220, hcc220⟩ := Kd.S_get HO_9.out [] (ji43) p220 (by first | exact q220 | exact of_decide_eq_true (by first | (with_reducible assumption) | assumption) | (have e_ := (Kd.S_reads' HO_9.out).1; omega))
                                    obtain ⟨ve220_0, rfl, ge220_0⟩ := hMe220
                                    have hv220_0 := hcc220 0 _ rfl
                                    rw [Nat.add_zero, show ((Kd.slice 2 (Kd.int .i64))).sz = 1 from rfl, Nat.mul_one] at hv220_0
                                    replace hv220_0 := Option.some.inj (hv220_0.symm.trans hx220_0)
                                    rw [hv220_0] at ge220_0
                                    have HL220_0 := Aside0.mk (show Kd.R (Kd.int .i64) 2 _ _ _ _ (rd_L2 t205 (ji43)) from ge220_0)
                                    clear hv220_0 ge220_0
                                    clear hcc220 hce220
                                    have HR220_0 := Aside0.mk hi220_0
                                    have HC220_0 := Aside0.mk hl220_0
                                    clear hi220_0 hl220_0
                                    replace p220 := eq_true p220
                                    replace q220 := eq_true q220
                                    have p221 : 0 ≤ (0 : Int) := (by omega)
                                    have q221 : 0 < ((rd_L2 t205 (ji43)).length : Int) := of_decide_eq_true (by first | (with_reducible assumption) | assumption)
                                    obtain ⟨ad221, e221, hx221_0⟩ := Kd.at_int (by repeat (first | (with_reducible exact HR220_0.out) | (with_reducible refine Kd.C_alloc ?_ _) | (with_reducible refine Kd.C_drewN ?_ _) | (with_reducible refine Kd.C_drew ?_) | exact HR220_0.out)) 0 p221 q221
                                    cases e221
                                    have qi221 : (0 < (rd_L2 t205 (ji43)).length) = True := eq_true (by omega)
                                    (try rw [show ((0 : Int)).toNat = 0 from rfl] at hx221_0)
                                    (try rw [Addr.add_zero'] at hx221_0)
                                    replace p221 := eq_true p221
                                    replace q221 := eq_true q221
                                    have p222 : 0 ≤ ((ji43) : Int) := of_decide_eq_true (by first | (with_reducible assumption) | assumption)
                                    have q222 : (ji43) < (t205.length : Int) := of_decide_eq_true (by first | (with_reducible assumption) | assumption)
                                    obtain ⟨ad222, A222_0, c222_0, e222, hx222_0, hl222_0, hi222_0⟩ := at_L2 (Kd.S_reads' HO_9.out).2.2 (ji43) p222 q222
                                    obtain rfl : ad220 = ad222 := (by injection e222)
                                    obtain ⟨ce222, hce222, hMe222, hcc222⟩ := Kd.S_get HO_9.out [] (ji43) p222 (by first | exact q222 | exact of_decide_eq_true (by first | (with_reducible assumption) | assumption) | (have e_ := (Kd.S_reads' HO_9.out).1; omega))
                                    obtain ⟨ve222_0, rfl, ge222_0⟩ := hMe222
                                    have hv222_0 := hcc222 0 _ rfl
                                    rw [Nat.add_zero, show ((Kd.slice 2 (Kd.int .i64))).sz = 1 from rfl, Nat.mul_one] at hv222_0
                                    replace hv222_0 := Option.some.inj (hv222_0.symm.trans hx222_0)
                                    rw [hv222_0] at ge222_0
                                    have HL222_0 := Aside0.mk (show Kd.R (Kd.int .i64) 2 _ _ _ _ (rd_L2 t205 (ji43)) from ge222_0)
                                    clear hv222_0 ge222_0
                                    clear hcc222 hce222
                                    have HR222_0 := Aside0.mk hi222_0
                                    have HC222_0 := Aside0.mk hl222_0
                                    clear hi222_0 hl222_0
                                    replace p222 := eq_true p222
                                    replace q222 := eq_true q222
                                    have ea_ := Option.some.inj (hx220_0.symm.trans hx222_0)
                                    injection ea_ with ea_ en_ ec_
                                    subst ea_
                                    subst ec_
                                    clear en_
                                    have p223 : 0 ≤ (1 : Int) := (by omega)
                                    have q223 : 1 < ((rd_L2 t205 (ji43)).length : Int) := of_decide_eq_true (by first | (with_reducible assumption) | assumption)
                                    obtain ⟨ad223, e223, hx223_0⟩ := Kd.at_int (by repeat (first | (with_reducible exact HR222_0.out) | (with_reducible refine Kd.C_alloc ?_ _) | (with_reducible refine Kd.C_drewN ?_ _) | (with_reducible refine Kd.C_drew ?_) | exact HR222_0.out)) 1 p223 q223
                                    cases e223
                                    (try simp only [show (1 : Int).toNat = 1 from rfl, Nat.reduceMul, Nat.reduceEqDiff, Go.Addr.add, ↓reduceIte] at hx223_0)
                                    have qi223 : (1 < (rd_L2 t205 (ji43)).length) = True := eq_true (by omega)
                                    (try rw [show ((1 : Int)).toNat = 1 from rfl] at hx223_0)
                                    replace p223 := eq_true p223
                                    replace q223 := eq_true q223
                                    go_wp2
                                    repeat (go_quiet (fail); try go_wp2)
                                    go_meet
                                    case rel => exact ⟨_, (((rd (rd_L2 t205 (ji43)) 1) != (wrap64 ((wrap64 (t201 - 10)) + t202)))), (by first | rfl | (simp; done) | (simp only [← hji43] <;> (first | rfl | simp)) | (simp [*]; done)), H', ⟨by have := HJ9.out; have := HK2.out; first | omega | exact Nat.le_refl _⟩, ⟨by repeat (first | (with_reducible first | exact HB.out | apply below_alloc | apply pw_below_drewN | apply below_drew1) | exact HB.out)⟩⟩
                                 · rw [if_neg c48] at H
                                   exact absurd H (by simp)
                              · rw [if_neg c47] at H
                                have c47b0 : ((rd (rd_L2 t205 (ji43)) 0) == (wrap64 (t201 - 10))) = false := beq_eq_false_iff_ne.mpr c47
                                have c47b1 : ((rd (rd_L2 t205 (ji43)) 0) != (wrap64 (t201 - 10))) = true := bne_iff_ne.mpr c47
                                have H' := Aside0.mk H
                                clear H
                                have p220 : 0 ≤ ((ji43) : Int) := of_decide_eq_true (by first | (with_reducible assumption) | assumption)
                                have q220 : (ji43) < (t205.length : Int) := of_decide_eq_true (by first | (with_reducible assumption) | assumption)
                                obtain ⟨ad220, A220_0, c220_0, e220, hx220_0, hl220_0, hi220_0⟩ := at_L2 (Kd.S_reads' HO_9.out).2.2 (ji43) p220 q220
                                cases e220
                                obtain ⟨ce220, hce220, hMe220, hcc220⟩ := Kd.S_get HO_9.out [] (ji43) p220 (by first | exact q220 | exact of_decide_eq_true (by first | (with_reducible assumption) | assumption) | (have e_ := (Kd.S_reads' HO_9.out).1; omega))
                                obtain ⟨ve220_0, rfl, ge220_0⟩ := hMe220
                                have hv220_0 := hcc220 0 _ rfl
                                rw [Nat.add_zero, show ((Kd.slice 2 (Kd.int .i64))).sz = 1 from rfl, Nat.mul_one] at hv220_0
                                replace hv220_0 := Option.some.inj (hv220_0.symm.trans hx220_0)
                                rw [hv220_0] at ge220_0
                                have HL220_0 := Aside0.mk (show Kd.R (Kd.int .i64) 2 _ _ _ _ (rd_L2 t205 (ji43)) from ge220_0)
                                clear hv220_0 ge220_0
                                clear hcc220 hce220
                                have HR220_0 := Aside0.mk hi220_0
                                have HC220_0 := Aside0.mk hl220_0
                                clear hi220_0 hl220_0
                                replace p220 := eq_true p220
                                replace q220 := eq_true q220
                                have p221 : 0 ≤ (0 : Int) := (by omega)
                                have q221 : 0 < ((rd_L2 t205 (ji43)).length : Int) := of_decide_eq_true (by first | (with_reducible assumption) | assumption)
                                obtain ⟨ad221, e221, hx221_0⟩ := Kd.at_int (by repeat (first | (with_reducible exact HR220_0.out) | (with_reducible refine Kd.C_alloc ?_ _) | (with_reducible refine Kd.C_drewN ?_ _) | (with_reducible refine Kd.C_drew ?_) | exact HR220_0.out)) 0 p221 q221
                                cases e221
                                have qi221 : (0 < (rd_L2 t205 (ji43)).length) = True := eq_true (by omega)
                                (try rw [show ((0 : Int)).toNat = 0 from rfl] at hx221_0)
                                (try rw [Addr.add_zero'] at hx221_0)
                                replace p221 := eq_true p221
                                replace q221 := eq_true q221
                                go_wp2
                                repeat (go_quiet (fail); try go_wp2)
                                go_meet
                                case rel => exact ⟨_, (true), (by first | rfl | (simp; done) | (simp [*]; done)), H', ⟨by have := HJ9.out; have := HK2.out; first | omega | exact Nat.le_refl _⟩, ⟨by repeat (first | (with_reducible first | exact HB.out | apply below_alloc | apply pw_below_drewN | apply below_drew1) | exact HB.out)⟩⟩
                           · rw [if_neg c46] at H
                             exact absurd H (by simp)
                        · rw [if_neg c45] at H
                          exact absurd H (by simp)
                     · rw [if_neg c44] at H
                       exact absurd H (by simp)
                   case rest => as_aux_lemma =>
                     clear HC41
                     try clear c1
                     try clear c2
                     try clear p2
                     try clear q2
                     try clear hx2
                     try clear qi2
                     try clear c3
                     try clear c4
                     try clear p6
                     try clear c15
                     try clear c15b0
                     try clear c16
                     try clear c17
                     try clear c17b0
                     try clear c17b1
                     try clear c18
                     try clear c20
                     try clear p20
                     try clear q20
                     try clear hx20
                     try clear c21
                     try clear p21
                     try clear q21
                     try clear hx21
                     try clear qi21
                     try clear c22
                     try clear p22
                     try clear q22
                     try clear hx22
                     try clear qi22
                     try clear c28
                     try clear c28b0
                     try clear c30
                     try clear c31
                     try clear c32
                     try clear c33
                     try clear c33b0
                     try clear c35
                     try clear c35b0
                     try clear c35b1
                     try clear c36
                     try clear c36b0
                     try clear c44
                     try clear c44b0
                     try clear c45
                     try clear c45b0
                     try clear c46
                     try clear c46b0
                     try clear c46b1
                     try clear c47
                     try clear c47b0
                     try clear c47b1
                     try clear c48
                     try clear c48b0
                     try clear c48b1
                     try clear hx209_0
                     try clear hx210_0
                     try clear hx211_0
                     try clear hx212_0
                     try clear hx213_0
                     try clear hx214_0
                     try clear hx215_0
                     try clear hx216_0
                     try clear hx217_0
                     try clear hx218_0
                     try clear hx219_0
                     try clear hx220_0
                     try clear hx221_0
                     try clear hx222_0
                     try clear hx223_0
                     try clear p209
                     try clear p210
                     try clear p211
                     try clear p212
                     try clear p213
                     try clear p214
                     try clear p215
                     try clear p216
                     try clear p217
                     try clear p218
                     try clear p219
                     try clear p220
                     try clear p221
                     try clear p222
                     try clear p223
                     try clear q209
                     try clear q210
                     try clear q211
                     try clear q212
                     try clear q213
                     try clear q214
                     try clear q215
                     try clear q216
                     try clear q217
                     try clear q218
                     try clear q219
                     try clear q220
                     try clear q221
                     try clear q222
                     try clear q223
                     obtain ⟨kq, x159_40, rfl, HA, HJ40, HB⟩ := hcut
                     cases kq with
                     | zero => exact absurd HA.out (by simp [laws_FnStages.j2])
                     | succ kj40 =>
                       have H := HA.out
                       clear HA
                       simp only [laws_FnStages.j2] at H
                       by_cases c49 : x159_40 = true
                       · subst c49
                         have H1 : (some false) = some r := by rw [if_pos rfl] at H; exact H
                         clear H
                         have H := H1
                         clear H1
                         obtain rfl := Option.some.inj H
                         go_wp2
                         repeat (go_quiet (fail); try go_wp2)
                         go_ret
                         exact ⟨by first | rfl | (simp [errW_none, errW_some] <;> rfl) | (simp [*, errW_none, errW_some] <;> rfl), by repeat (first | (with_reducible first | exact HB.out | apply below_alloc | apply pw_below_drewN | apply below_drew1) | exact HB.out)⟩
                       · as_aux_lemma =>
                          replace c49 := Bool.eq_false_iff.mpr c49
                          subst c49
                          have H1 : ((laws_r8At.f l1 4 12).bind fun t224 => ((laws_r8At.f l1 5 4).bind fun t225 => ((impl_DenseLengths.f kj40 (wrap64 (1 + t224)) (wrap64 (1 + t225))).bind fun bt226 => (laws_FnStages.l1 kj40 l0 l1 (wrap64 (1 + t224)) (wrap64 (1 + t225)) bt226.1 bt226.2 0 0)))) = some r := by rw [if_neg (show ¬ (false = true) by decide)] at H; exact H
                          clear H
                          have H := H1
                          clear H1
                          replace H := Option.bind_eq_some_iff.mp H
                          obtain ⟨t224, A500, H⟩ := H
                          replace H : ((laws_r8At.f l1 5 4).bind fun t225 => ((impl_DenseLengths.f kj40 (wrap64 (1 + t224)) (wrap64 (1 + t225))).bind fun bt226 => (laws_FnStages.l1 kj40 l0 l1 (wrap64 (1 + t224)) (wrap64 (1 + t225)) bt226.1 bt226.2 0 0))) = some r := H
                          have A50 := Aside0.mk A500
                          clear A500
                          replace H := Option.bind_eq_some_iff.mp H
                          obtain ⟨t225, A510, H⟩ := H
                          replace H : ((impl_DenseLengths.f kj40 (wrap64 (1 + t224)) (wrap64 (1 + t225))).bind fun bt226 => (laws_FnStages.l1 kj40 l0 l1 (wrap64 (1 + t224)) (wrap64 (1 + t225)) bt226.1 bt226.2 0 0)) = some r := H
                          have A51 := Aside0.mk A510
                          clear A510
                          replace H := Option.bind_eq_some_iff.mp H
                          obtain ⟨⟨t226, t227⟩, A520, H⟩ := H
                          replace H : (laws_FnStages.l1 kj40 l0 l1 (wrap64 (1 + t224)) (wrap64 (1 + t225)) t226 t227 0 0) = some r := H
                          have A52 := Aside0.mk A520
                          clear A520
                          have H' := Aside0.mk H
                          clear H
                          go_wp2_with (first | (go_at_call 11; (with_reducible refine (laws_r8At.calls _ _ l1 4 12 t224 _ ?side1 ?side2 A50.out).mono ?_); (case side1 => repeat (first | exact (Kd.C_below HR1.out HB.out) | (with_reducible refine Kd.C_alloc ?_ _) | (with_reducible refine Kd.C_drewN ?_ _) | (with_reducible refine Kd.C_drew ?_))); (case side2 => exact HC1.out); rintro e w' ⟨rfl, ⟨nd, rfl⟩⟩; (try first | exact ⟨rfl, _, World.drewN_drewN _ _ _⟩ | exact ⟨rfl, _, Eq.trans (World.drewN_drewN _ _ _) (congrArg (World.drewN _) (Nat.add_assoc _ _ _))⟩)) | (go_at_call 11; (with_reducible refine (laws_r8At.calls _ _ l1 5 4 t225 _ ?side1 ?side2 A51.out).mono ?_); (case side1 => repeat (first | exact (Kd.C_below HR1.out (by repeat (first | (with_reducible first | exact HB.out | apply below_alloc | apply pw_below_drewN | apply below_drew1) | exact HB.out))) | (with_reducible refine Kd.C_alloc ?_ _) | (with_reducible refine Kd.C_drewN ?_ _) | (with_reducible refine Kd.C_drew ?_))); (case side2 => exact HC1.out); rintro e w' ⟨rfl, ⟨nd, rfl⟩⟩; (try first | exact ⟨rfl, _, World.drewN_drewN _ _ _⟩ | exact ⟨rfl, _, Eq.trans (World.drewN_drewN _ _ _) (congrArg (World.drewN _) (Nat.add_assoc _ _ _))⟩)) | (go_at_call 13; (with_reducible refine (impl_DenseLengths.calls kj40 (wrap64 (1 + t224)) (wrap64 (1 + t225)) t226 t227 _ A52.out).mono ?_); rintro e w53 ⟨v228, rfl, ho0, hb⟩; have n0_ := Aside0.mk (Kd.R_lower ho0 (below_size (by repeat (first | (with_reducible first | exact HB.out | apply below_alloc | apply pw_below_drewN | apply below_drew1) | exact HB.out)))); have n1_ := Aside0.mk (below_step (by repeat (first | (with_reducible first | exact HB.out | apply below_alloc | apply pw_below_drewN | apply below_drew1) | exact HB.out)) hb); clear HB; have HO229 := n0_; have HB := n1_; clear n0_ n1_; (try clear hb); (try clear hb2); (try clear hk); (try clear hi); (try clear ho0)))
                          repeat (go_quiet (first | (go_at_call 11; (with_reducible refine (laws_r8At.calls _ _ l1 4 12 t224 _ ?side1 ?side2 A50.out).mono ?_); (case side1 => repeat (first | exact (Kd.C_below HR1.out HB.out) | (with_reducible refine Kd.C_alloc ?_ _) | (with_reducible refine Kd.C_drewN ?_ _) | (with_reducible refine Kd.C_drew ?_))); (case side2 => exact HC1.out); rintro e w' ⟨rfl, ⟨nd, rfl⟩⟩; (try first | exact ⟨rfl, _, World.drewN_drewN _ _ _⟩ | exact ⟨rfl, _, Eq.trans (World.drewN_drewN _ _ _) (congrArg (World.drewN _) (Nat.add_assoc _ _ _))⟩)) | (go_at_call 11; (with_reducible refine (laws_r8At.calls _ _ l1 5 4 t225 _ ?side1 ?side2 A51.out).mono ?_); (case side1 => repeat (first | exact (Kd.C_below HR1.out (by repeat (first | (with_reducible first | exact HB.out | apply below_alloc | apply pw_below_drewN | apply below_drew1) | exact HB.out))) | (with_reducible refine Kd.C_alloc ?_ _) | (with_reducible refine Kd.C_drewN ?_ _) | (with_reducible refine Kd.C_drew ?_))); (case side2 => exact HC1.out); rintro e w' ⟨rfl, ⟨nd, rfl⟩⟩; (try first | exact ⟨rfl, _, World.drewN_drewN _ _ _⟩ | exact ⟨rfl, _, Eq.trans (World.drewN_drewN _ _ _) (congrArg (World.drewN _) (Nat.add_assoc _ _ _))⟩)) | (go_at_call 13; (with_reducible refine (impl_DenseLengths.calls kj40 (wrap64 (1 + t224)) (wrap64 (1 + t225)) t226 t227 _ A52.out).mono ?_); rintro e w53 ⟨v228, rfl, ho0, hb⟩; have n0_ := Aside0.mk (Kd.R_lower ho0 (below_size (by repeat (first | (with_reducible first | exact HB.out | apply below_alloc | apply pw_below_drewN | apply below_drew1) | exact HB.out)))); have n1_ := Aside0.mk (below_step (by repeat (first | (with_reducible first | exact HB.out | apply below_alloc | apply pw_below_drewN | apply below_drew1) | exact HB.out)) hb); clear HB; have HO229 := n0_; have HB := n1_; clear n0_ n1_; (try clear hb); (try clear hb2); (try clear hk); (try clear hi); (try clear ho0))); try go_wp2_with (first | (go_at_call 11; (with_reducible refine (laws_r8At.calls _ _ l1 4 12 t224 _ ?side1 ?side2 A50.out).mono ?_); (case side1 => repeat (first | exact (Kd.C_below HR1.out HB.out) | (with_reducible refine Kd.C_alloc ?_ _) | (with_reducible refine Kd.C_drewN ?_ _) | (with_reducible refine Kd.C_drew ?_))); (case side2 => exact HC1.out); rintro e w' ⟨rfl, ⟨nd, rfl⟩⟩; (try first | exact ⟨rfl, _, World.drewN_drewN _ _ _⟩ | exact ⟨rfl, _, Eq.trans (World.drewN_drewN _ _ _) (congrArg (World.drewN _) (Nat.add_assoc _ _ _))⟩)) | (go_at_call 11; (with_reducible refine (laws_r8At.calls _ _ l1 5 4 t225 _ ?side1 ?side2 A51.out).mono ?_); (case side1 => repeat (first | exact (Kd.C_below HR1.out (by repeat (first | (with_reducible first | exact HB.out | apply below_alloc | apply pw_below_drewN | apply below_drew1) | exact HB.out))) | (with_reducible refine Kd.C_alloc ?_ _) | (with_reducible refine Kd.C_drewN ?_ _) | (with_reducible refine Kd.C_drew ?_))); (case side2 => exact HC1.out); rintro e w' ⟨rfl, ⟨nd, rfl⟩⟩; (try first | exact ⟨rfl, _, World.drewN_drewN _ _ _⟩ | exact ⟨rfl, _, Eq.trans (World.drewN_drewN _ _ _) (congrArg (World.drewN _) (Nat.add_assoc _ _ _))⟩)) | (go_at_call 13; (with_reducible refine (impl_DenseLengths.calls kj40 (wrap64 (1 + t224)) (wrap64 (1 + t225)) t226 t227 _ A52.out).mono ?_); rintro e w53 ⟨v228, rfl, ho0, hb⟩; have n0_ := Aside0.mk (Kd.R_lower ho0 (below_size (by repeat (first | (with_reducible first | exact HB.out | apply below_alloc | apply pw_below_drewN | apply below_drew1) | exact HB.out)))); have n1_ := Aside0.mk (below_step (by repeat (first | (with_reducible first | exact HB.out | apply below_alloc | apply pw_below_drewN | apply below_drew1) | exact HB.out)) hb); clear HB; have HO229 := n0_; have HB := n1_; clear n0_ n1_; (try clear hb); (try clear hb2); (try clear hk); (try clear hi); (try clear ho0))))
                          go_loopg [17, 18] kj40 (fun kq v17 v18 w' => ∃ (x17_4 : Int) (x18_4 : Int), v17 = .int .i64 x17_4 ∧ v18 = .int .i64 x18_4 ∧ Aside0 (laws_FnStages.l1 kq l0 l1 (wrap64 (1 + t224)) (wrap64 (1 + t225)) t226 t227 x17_4 x18_4 = some r) ∧ Aside0 (kq ≤ kj40) ∧ Aside0 (Kd.R (Kd.int .i64) 2 w' w.heap.size (fun _ => True) v228 t226) ∧ Aside0 (Below w.heap.size w w'))
                          case atStart => exact ⟨(0), (0), (by first | rfl | (simp; done) | (simp [*]; done)), (by first | rfl | (simp; done) | (simp [*]; done)), H', ⟨Nat.le_refl _⟩, ⟨by (with_reducible repeat (first | apply Kd.R_alloc | apply Kd.R_drewN | apply Kd.R_drew)); exact HO229.out⟩, ⟨by repeat (first | (with_reducible first | exact HB.out | apply below_alloc | apply pw_below_drewN | apply below_drew1) | exact HB.out)⟩⟩
                          case round =>
                            clear H'
                            try clear c1
                            try clear c2
                            try clear p2
                            try clear q2
                            try clear hx2
                            try clear qi2
                            try clear c3
                            try clear c4
                            try clear p6
                            try clear c15
                            try clear c15b0
                            try clear c16
                            try clear c17
                            try clear c17b0
                            try clear c17b1
                            try clear c18
                            try clear c20
                            try clear p20
                            try clear q20
                            try clear hx20
                            try clear c21
                            try clear p21
                            try clear q21
                            try clear hx21
                            try clear qi21
                            try clear c22
                            try clear p22
                            try clear q22
                            try clear hx22
                            try clear qi22
                            try clear c28
                            try clear c28b0
                            try clear c30
                            try clear c31
                            try clear c32
                            try clear c33
                            try clear c33b0
                            try clear c35
                            try clear c35b0
                            try clear c35b1
                            try clear c36
                            try clear c36b0
                            try clear c44
                            try clear c44b0
                            try clear c45
                            try clear c45b0
                            try clear c46
                            try clear c46b0
                            try clear c46b1
                            try clear c47
                            try clear c47b0
                            try clear c47b1
                            try clear c48
                            try clear c48b0
                            try clear c48b1
                            try clear c49
                            try clear hx209_0
                            try clear hx210_0
                            try clear hx211_0
                            try clear hx212_0
                            try clear hx213_0
                            try clear hx214_0
                            try clear hx215_0
                            try clear hx216_0
                            try clear hx217_0
                            try clear hx218_0
                            try clear hx219_0
                            try clear hx220_0
                            try clear hx221_0
                            try clear hx222_0
                            try clear hx223_0
                            try clear p2
                            try clear p20
                            try clear p209
                            try clear p21
                            try clear p210
                            try clear p211
                            try clear p212
                            try clear p213
                            try clear p214
                            try clear p215
                            try clear p216
                            try clear p217
                            try clear p218
                            try clear p219
                            try clear p22
                            try clear p220
                            try clear p221
                            try clear p222
                            try clear p223
                            try clear p6
                            try clear q2
                            try clear q20
                            try clear q209
                            try clear q21
                            try clear q210
                            try clear q211
                            try clear q212
                            try clear q213
                            try clear q214
                            try clear q215
                            try clear q216
                            try clear q217
                            try clear q218
                            try clear q219
                            try clear q22
                            try clear q220
                            try clear q221
                            try clear q222
                            try clear q223
                            obtain ⟨x17_4, x18_4, rfl, rfl, HA, HK4, HO_15, HB⟩ := hrel
                            cases gk with
                            | zero => exact absurd HA.out (by simp [laws_FnStages.l1])
                            | succ k4 =>
                              have H := HA.out
                              clear HA
                              simp only [laws_FnStages.l1] at H
                              by_cases c54 : x18_4 < (t226.length : Int)
                              · as_aux_lemma =>
                                 rw [if_pos c54] at H
                                 have c54b0 : decide (x18_4 < (t226.length : Int)) = true := decide_eq_true c54
                                 clear c54
                                 by_cases c55 : 0 ≤ x18_4
                                 · as_aux_lemma =>
                                    rw [if_pos c55] at H
                                    have c55b0 : decide (0 ≤ x18_4) = true := decide_eq_true c55
                                    clear c55
                                    by_cases c56 : (rd t226 x18_4) < 1
                                    · rw [if_pos c56] at H
                                      have c56b0 : decide ((rd t226 x18_4) < 1) = true := decide_eq_true c56
                                      clear c56
                                      obtain rfl := Option.some.inj H
                                      obtain ⟨Ao57, co57, eo57⟩ := Kd.R_slice HO_15.out
                                      subst eo57
                                      have p230 : 0 ≤ (x18_4 : Int) := of_decide_eq_true (by first | (with_reducible assumption) | assumption)
                                      have q230 : x18_4 < (t226.length : Int) := of_decide_eq_true (by first | (with_reducible assumption) | assumption)
                                      obtain ⟨ad230, e230, hx230_0⟩ := Kd.at_int (Kd.R_reads' HO_15.out).2.2 x18_4 p230 q230
                                      cases e230
                                      replace p230 := eq_true p230
                                      replace q230 := eq_true q230
                                      have p231 : 0 ≤ (x18_4 : Int) := of_decide_eq_true (by first | (with_reducible assumption) | assumption)
                                      have q231 : x18_4 < (t226.length : Int) := of_decide_eq_true (by first | (with_reducible assumption) | assumption)
                                      obtain ⟨ad231, e231, hx231_0⟩ := Kd.at_int (Kd.R_reads' HO_15.out).2.2 x18_4 p231 q231
                                      obtain rfl : ad230 = ad231 := (by injection e231)
                                      replace p231 := eq_true p231
                                      replace q231 := eq_true q231
                                      go_wp2
                                      repeat (go_quiet (fail); try go_wp2)
                                      go_ret
                                      exact ⟨by first | rfl | (simp [errW_none, errW_some] <;> rfl) | (simp [*, errW_none, errW_some] <;> rfl), by repeat (first | (with_reducible first | exact HB.out | apply below_alloc | apply pw_below_drewN | apply below_drew1) | exact HB.out)⟩
                                    · as_aux_lemma =>
                                       rw [if_neg c56] at H
                                       have c56b0 : decide ((rd t226 x18_4) < 1) = false := decide_eq_false c56
                                       clear c56
                                       by_cases c58 : (rd t226 x18_4) > (wrap64 (1 + t225))
                                       · rw [if_pos c58] at H
                                         have c58b0 : decide ((wrap64 (1 + t225)) < (rd t226 x18_4)) = true := decide_eq_true c58
                                         clear c58
                                         obtain rfl := Option.some.inj H
                                         obtain ⟨Ao59, co59, eo59⟩ := Kd.R_slice HO_15.out
                                         subst eo59
                                         have p230 : 0 ≤ (x18_4 : Int) := of_decide_eq_true (by first | (with_reducible assumption) | assumption)
                                         have q230 : x18_4 < (t226.length : Int) := of_decide_eq_true (by first | (with_reducible assumption) | assumption)
                                         obtain ⟨ad230, e230, hx230_0⟩ := Kd.at_int (Kd.R_reads' HO_15.out).2.2 x18_4 p230 q230
                                         cases e230
                                         replace p230 := eq_true p230
                                         replace q230 := eq_true q230
                                         have p231 : 0 ≤ (x18_4 : Int) := of_decide_eq_true (by first | (with_reducible assumption) | assumption)
                                         have q231 : x18_4 < (t226.length : Int) := of_decide_eq_true (by first | (with_reducible assumption) | assumption)
                                         obtain ⟨ad231, e231, hx231_0⟩ := Kd.at_int (Kd.R_reads' HO_15.out).2.2 x18_4 p231 q231
                                         obtain rfl : ad230 = ad231 := (by injection e231)
                                         replace p231 := eq_true p231
                                         replace q231 := eq_true q231
                                         have p232 : 0 ≤ (x18_4 : Int) := of_decide_eq_true (by first | (with_reducible assumption) | assumption)
                                         have q232 : x18_4 < (t226.length : Int) := of_decide_eq_true (by first | (with_reducible assumption) | assumption)
                                         obtain ⟨ad232, e232, hx232_0⟩ := Kd.at_int (Kd.R_reads' HO_15.out).2.2 x18_4 p232 q232
                                         obtain rfl : ad230 = ad232 := (by injection e232)
                                         replace p232 := eq_true p232
                                         replace q232 := eq_true q232
                                         go_wp2
                                         repeat (go_quiet (fail); try go_wp2)
                                         go_ret
                                         exact ⟨by first | rfl | (simp [errW_none, errW_some] <;> rfl) | (simp [*, errW_none, errW_some] <;> rfl), by repeat (first | (with_reducible first | exact HB.out | apply below_alloc | apply pw_below_drewN | apply below_drew1) | exact HB.out)⟩
                                       · rw [if_neg c58] at H
                                         have c58b0 : decide ((wrap64 (1 + t225)) < (rd t226 x18_4)) = false := decide_eq_false c58
                                         clear c58
                                         have H' := Aside0.mk H
                                         clear H
                                         obtain ⟨Ao60, co60, eo60⟩ := Kd.R_slice HO_15.out
                                         subst eo60
                                         have p230 : 0 ≤ (x18_4 : Int) := of_decide_eq_true (by first | (with_reducible assumption) | assumption)
                                         have q230 : x18_4 < (t226.length : Int) := of_decide_eq_true (by first | (with_reducible assumption) | assumption)
                                         obtain ⟨ad230, e230, hx230_0⟩ := Kd.at_int (Kd.R_reads' HO_15.out).2.2 x18_4 p230 q230
                                         cases e230
                                         replace p230 := eq_true p230
                                         replace q230 := eq_true q230
                                         have p231 : 0 ≤ (x18_4 : Int) := of_decide_eq_true (by first | (with_reducible assumption) | assumption)
                                         have q231 : x18_4 < (t226.length : Int) := of_decide_eq_true (by first | (with_reducible assumption) | assumption)
                                         obtain ⟨ad231, e231, hx231_0⟩ := Kd.at_int (Kd.R_reads' HO_15.out).2.2 x18_4 p231 q231
                                         obtain rfl : ad230 = ad231 := (by injection e231)
                                         replace p231 := eq_true p231
                                         replace q231 := eq_true q231
                                         have p232 : 0 ≤ (x18_4 : Int) := of_decide_eq_true (by first | (with_reducible assumption) | assumption)
                                         have q232 : x18_4 < (t226.length : Int) := of_decide_eq_true (by first | (with_reducible assumption) | assumption)
                                         obtain ⟨ad232, e232, hx232_0⟩ := Kd.at_int (Kd.R_reads' HO_15.out).2.2 x18_4 p232 q232
                                         obtain rfl : ad230 = ad232 := (by injection e232)
                                         replace p232 := eq_true p232
                                         replace q232 := eq_true q232
                                         go_wp2
                                         repeat (go_quiet (fail); try go_wp2)
                                         go_roundg k4
                                         case measure => have := HJ9.out; have := HK2.out; have := HJ40.out; have := HK4.out; omega
                                         case rel => exact ⟨(wrap64 (x17_4 + (rd t226 x18_4))), (wrap64 (x18_4 + 1)), (by first | rfl | (simp; done) | (simp [*]; done)), (by first | rfl | (simp; done) | (simp [*]; done)), H', ⟨by have := HJ9.out; have := HK2.out; have := HJ40.out; have := HK4.out; omega⟩, ⟨by (with_reducible repeat (first | apply Kd.R_alloc | apply Kd.R_drewN | apply Kd.R_drew)); exact HO_15.out⟩, ⟨by repeat (first | (with_reducible first | exact HB.out | apply below_alloc | apply pw_below_drewN | apply below_drew1) | exact HB.out)⟩⟩
                                 · rw [if_neg c55] at H
                                   exact absurd H (by simp)
                              · as_aux_lemma =>
                                 rw [if_neg c54] at H
                                 have c54b0 : decide (x18_4 < (t226.length : Int)) = false := decide_eq_false c54
                                 clear c54
                                 have HC61 := Aside0.mk H
                                 clear H
                                 obtain ⟨Ao62, co62, eo62⟩ := Kd.R_slice HO_15.out
                                 subst eo62
                                 go_upto_region 28 with (fail)
                                 repeat (go_quiet (fail); go_upto_region 28 with (fail))
                                 go_cut [205] (fun v205 wc => ∃ (kq : Nat) (x205_60 : Bool), v205 = .bool x205_60 ∧ Aside0 (laws_FnStages.j4 kq l0 l1 x205_60 = some r) ∧ Aside0 (kq ≤ k4) ∧ Aside0 (Below w.heap.size w wc))
                                 case first => as_aux_lemma =>
                                   have H := HC61.out
                                   clear HC61
                                   by_cases c63 : t227 = 0
                                   · rw [if_pos c63] at H
                                     have c63b0 : (t227 == 0) = true := beq_iff_eq.mpr c63
                                     have c63b1 : (t227 != 0) = false := bne_eq_false_iff_eq.mpr c63
                                     clear c63
                                     (first | rw [c63b0] | (simp only [i64_w, i32_w]; rw [c63b0]) | skip)
                                     have H' := Aside0.mk H
                                     clear H
                                     go_wp2
                                     repeat (go_quiet (fail); try go_wp2)
                                     go_meet
                                     case rel => exact ⟨_, ((x17_4 != (wrap64 ((wrap64 (1 + t224)) * (wrap64 (1 + t225)))))), (by first | rfl | (simp; done) | (simp [*]; done)), H', ⟨by have := HJ9.out; have := HK2.out; have := HJ40.out; have := HK4.out; first | omega | exact Nat.le_refl _⟩, ⟨by repeat (first | (with_reducible first | exact HB.out | apply below_alloc | apply pw_below_drewN | apply below_drew1) | exact HB.out)⟩⟩
                                   · rw [if_neg c63] at H
                                     have c63b0 : (t227 == 0) = false := beq_eq_false_iff_ne.mpr c63
                                     have c63b1 : (t227 != 0) = true := bne_iff_ne.mpr c63
                                     (first | rw [c63b0] | (simp only [i64_w, i32_w]; rw [c63b0]) | skip)
                                     have H' := Aside0.mk H
                                     clear H
                                     go_wp2
                                     repeat (go_quiet (fail); try go_wp2)
                                     go_meet
                                     case rel => exact ⟨_, (true), (by first | rfl | (simp; done) | (simp [*]; done)), H', ⟨by have := HJ9.out; have := HK2.out; have := HJ40.out; have := HK4.out; first | omega | exact Nat.le_refl _⟩, ⟨by repeat (first | (with_reducible first | exact HB.out | apply below_alloc | apply pw_below_drewN | apply below_drew1) | exact HB.out)⟩⟩
                                 case rest => as_aux_lemma =>
                                   clear HC61
                                   try clear c1
                                   try clear c2
                                   try clear p2
                                   try clear q2
                                   try clear hx2
                                   try clear qi2
                                   try clear c3
                                   try clear c4
                                   try clear c5
                                   try clear c6
                                   try clear p6
                                   try clear c15
                                   try clear c15b0
                                   try clear c16
                                   try clear c17
                                   try clear c17b0
                                   try clear c17b1
                                   try clear c18
                                   try clear c20
                                   try clear p20
                                   try clear q20
                                   try clear hx20
                                   try clear c21
                                   try clear p21
                                   try clear q21
                                   try clear hx21
                                   try clear qi21
                                   try clear c22
                                   try clear p22
                                   try clear q22
                                   try clear hx22
                                   try clear qi22
                                   try clear p23
                                   try clear q23
                                   try clear hx23
                                   try clear c28
                                   try clear c28b0
                                   try clear c30
                                   try clear c31
                                   try clear c32
                                   try clear c33
                                   try clear c33b0
                                   try clear c35
                                   try clear c35b0
                                   try clear c35b1
                                   try clear c36
                                   try clear c36b0
                                   try clear c44
                                   try clear c44b0
                                   try clear c45
                                   try clear c45b0
                                   try clear c46
                                   try clear c46b0
                                   try clear c46b1
                                   try clear c47
                                   try clear c47b0
                                   try clear c47b1
                                   try clear c48
                                   try clear c48b0
                                   try clear c48b1
                                   try clear c49
                                   try clear c54
                                   try clear c54b0
                                   try clear c55
                                   try clear c55b0
                                   try clear c56
                                   try clear c56b0
                                   try clear c58
                                   try clear c58b0
                                   try clear c63
                                   try clear c63b0
                                   try clear c63b1
                                   try clear hx209_0
                                   try clear hx210_0
                                   try clear hx211_0
                                   try clear hx212_0
                                   try clear hx213_0
                                   try clear hx214_0
                                   try clear hx215_0
                                   try clear hx216_0
                                   try clear hx217_0
                                   try clear hx218_0
                                   try clear hx219_0
                                   try clear hx220_0
                                   try clear hx221_0
                                   try clear hx222_0
                                   try clear hx223_0
                                   try clear hx230_0
                                   try clear hx231_0
                                   try clear hx232_0
                                   try clear p2
                                   try clear p20
                                   try clear p209
                                   try clear p21
                                   try clear p210
                                   try clear p211
                                   try clear p212
                                   try clear p213
                                   try clear p214
                                   try clear p215
                                   try clear p216
                                   try clear p217
                                   try clear p218
                                   try clear p219
                                   try clear p22
                                   try clear p220
                                   try clear p221
                                   try clear p222
                                   try clear p223
                                   try clear p230
                                   try clear p231
                                   try clear p232
                                   try clear p6
                                   try clear q2
                                   try clear q20
                                   try clear q209
                                   try clear q21
                                   try clear q210
                                   try clear q211
                                   try clear q212
                                   try clear q213
                                   try clear q214
                                   try clear q215
                                   try clear q216
                                   try clear q217
                                   try clear q218
                                   try clear q219
                                   try clear q22
                                   try clear q220
                                   try clear q221
                                   try clear q222
                                   try clear q223
                                   try clear q230
                                   try clear q231
                                   try clear q232
                                   obtain ⟨kq, x205_60, rfl, HA, HJ60, HB⟩ := hcut
                                   cases kq with
                                   | zero => exact absurd HA.out (by simp [laws_FnStages.j4])
                                   | succ kj60 =>
                                     have H := HA.out
                                     clear HA
                                     simp only [laws_FnStages.j4] at H
                                     by_cases c64 : x205_60 = true
                                     · subst c64
                                       have H1 : (some false) = some r := by rw [if_pos rfl] at H; exact H
                                       clear H
                                       have H := H1
                                       clear H1
                                       obtain rfl := Option.some.inj H
                                       go_wp2
                                       repeat (go_quiet (fail); try go_wp2)
                                       go_ret
                                       exact ⟨by first | rfl | (simp [errW_none, errW_some] <;> rfl) | (simp [*, errW_none, errW_some] <;> rfl), by repeat (first | (with_reducible first | exact HB.out | apply below_alloc | apply pw_below_drewN | apply below_drew1) | exact HB.out)⟩
                                     · as_aux_lemma =>
                                        replace c64 := Bool.eq_false_iff.mpr c64
                                        subst c64
                                        have H1 : ((spec_R8Melody.f kj60 l0).bind fun t233 => ((laws_r8Wide.f l1 6 60000).bind fun t236 => ((impl_ShuffleNotes.f kj60 t233 t236).bind fun bt237 => ((impl_NextSeed.f t236).bind fun bt241 => ((laws_r8At.f l1 8 30).bind fun t243 => ((impl_PickFrom.f t236 (wrap64 (1 + t243))).bind fun bt244 => (if bt237.2 = 0 then (if (bt237.1.length : Int) = (t233.length : Int) then (if bt241.2 = 0 then (if bt244.2.2 = 0 then (if bt244.2.1 = bt241.1 then (if bt244.1 < 0 then (laws_FnStages.j5 kj60 t233 bt237.1 true) else ((laws_r8At.f l1 8 30).bind fun t247 => (if bt244.1 > t247 then (laws_FnStages.j5 kj60 t233 bt237.1 true) else (if bt241.1 < 0 then (laws_FnStages.j5 kj60 t233 bt237.1 true) else (laws_FnStages.j5 kj60 t233 bt237.1 (decide (bt241.1 ≥ 1000000))))))) else (laws_FnStages.j5 kj60 t233 bt237.1 true)) else (laws_FnStages.j5 kj60 t233 bt237.1 true)) else (laws_FnStages.j5 kj60 t233 bt237.1 true)) else (laws_FnStages.j5 kj60 t233 bt237.1 true)) else (laws_FnStages.j5 kj60 t233 bt237.1 true)))))))) = some r := by rw [if_neg (show ¬ (false = true) by decide)] at H; exact H
                                        clear H
                                        have H := H1
                                        clear H1
                                        replace H := Option.bind_eq_some_iff.mp H
                                        obtain ⟨t233, A650, H⟩ := H
                                        replace H : ((laws_r8Wide.f l1 6 60000).bind fun t236 => ((impl_ShuffleNotes.f kj60 t233 t236).bind fun bt237 => ((impl_NextSeed.f t236).bind fun bt241 => ((laws_r8At.f l1 8 30).bind fun t243 => ((impl_PickFrom.f t236 (wrap64 (1 + t243))).bind fun bt244 => (if bt237.2 = 0 then (if (bt237.1.length : Int) = (t233.length : Int) then (if bt241.2 = 0 then (if bt244.2.2 = 0 then (if bt244.2.1 = bt241.1 then (if bt244.1 < 0 then (laws_FnStages.j5 kj60 t233 bt237.1 true) else ((laws_r8At.f l1 8 30).bind fun t247 => (if bt244.1 > t247 then (laws_FnStages.j5 kj60 t233 bt237.1 true) else (if bt241.1 < 0 then (laws_FnStages.j5 kj60 t233 bt237.1 true) else (laws_FnStages.j5 kj60 t233 bt237.1 (decide (bt241.1 ≥ 1000000))))))) else (laws_FnStages.j5 kj60 t233 bt237.1 true)) else (laws_FnStages.j5 kj60 t233 bt237.1 true)) else (laws_FnStages.j5 kj60 t233 bt237.1 true)) else (laws_FnStages.j5 kj60 t233 bt237.1 true)) else (laws_FnStages.j5 kj60 t233 bt237.1 true))))))) = some r := H
                                        have A65 := Aside0.mk A650
                                        clear A650
                                        replace H := Option.bind_eq_some_iff.mp H
                                        obtain ⟨t236, A660, H⟩ := H
                                        replace H : ((impl_ShuffleNotes.f kj60 t233 t236).bind fun bt237 => ((impl_NextSeed.f t236).bind fun bt241 => ((laws_r8At.f l1 8 30).bind fun t243 => ((impl_PickFrom.f t236 (wrap64 (1 + t243))).bind fun bt244 => (if bt237.2 = 0 then (if (bt237.1.length : Int) = (t233.length : Int) then (if bt241.2 = 0 then (if bt244.2.2 = 0 then (if bt244.2.1 = bt241.1 then (if bt244.1 < 0 then (laws_FnStages.j5 kj60 t233 bt237.1 true) else ((laws_r8At.f l1 8 30).bind fun t247 => (if bt244.1 > t247 then (laws_FnStages.j5 kj60 t233 bt237.1 true) else (if bt241.1 < 0 then (laws_FnStages.j5 kj60 t233 bt237.1 true) else (laws_FnStages.j5 kj60 t233 bt237.1 (decide (bt241.1 ≥ 1000000))))))) else (laws_FnStages.j5 kj60 t233 bt237.1 true)) else (laws_FnStages.j5 kj60 t233 bt237.1 true)) else (laws_FnStages.j5 kj60 t233 bt237.1 true)) else (laws_FnStages.j5 kj60 t233 bt237.1 true)) else (laws_FnStages.j5 kj60 t233 bt237.1 true)))))) = some r := H
                                        have A66 := Aside0.mk A660
                                        clear A660
                                        replace H := Option.bind_eq_some_iff.mp H
                                        obtain ⟨⟨t237, t238⟩, A670, H⟩ := H
                                        replace H : ((impl_NextSeed.f t236).bind fun bt241 => ((laws_r8At.f l1 8 30).bind fun t243 => ((impl_PickFrom.f t236 (wrap64 (1 + t243))).bind fun bt244 => (if t238 = 0 then (if (t237.length : Int) = (t233.length : Int) then (if bt241.2 = 0 then (if bt244.2.2 = 0 then (if bt244.2.1 = bt241.1 then (if bt244.1 < 0 then (laws_FnStages.j5 kj60 t233 t237 true) else ((laws_r8At.f l1 8 30).bind fun t247 => (if bt244.1 > t247 then (laws_FnStages.j5 kj60 t233 t237 true) else (if bt241.1 < 0 then (laws_FnStages.j5 kj60 t233 t237 true) else (laws_FnStages.j5 kj60 t233 t237 (decide (bt241.1 ≥ 1000000))))))) else (laws_FnStages.j5 kj60 t233 t237 true)) else (laws_FnStages.j5 kj60 t233 t237 true)) else (laws_FnStages.j5 kj60 t233 t237 true)) else (laws_FnStages.j5 kj60 t233 t237 true)) else (laws_FnStages.j5 kj60 t233 t237 true))))) = some r := H
                                        have A67 := Aside0.mk A670
                                        clear A670
                                        replace H := Option.bind_eq_some_iff.mp H
                                        obtain ⟨⟨t241, t242⟩, A680, H⟩ := H
                                        replace H : ((laws_r8At.f l1 8 30).bind fun t243 => ((impl_PickFrom.f t236 (wrap64 (1 + t243))).bind fun bt244 => (if t238 = 0 then (if (t237.length : Int) = (t233.length : Int) then (if t242 = 0 then (if bt244.2.2 = 0 then (if bt244.2.1 = t241 then (if bt244.1 < 0 then (laws_FnStages.j5 kj60 t233 t237 true) else ((laws_r8At.f l1 8 30).bind fun t247 => (if bt244.1 > t247 then (laws_FnStages.j5 kj60 t233 t237 true) else (if t241 < 0 then (laws_FnStages.j5 kj60 t233 t237 true) else (laws_FnStages.j5 kj60 t233 t237 (decide (t241 ≥ 1000000))))))) else (laws_FnStages.j5 kj60 t233 t237 true)) else (laws_FnStages.j5 kj60 t233 t237 true)) else (laws_FnStages.j5 kj60 t233 t237 true)) else (laws_FnStages.j5 kj60 t233 t237 true)) else (laws_FnStages.j5 kj60 t233 t237 true)))) = some r := H
                                        have A68 := Aside0.mk A680
                                        clear A680
                                        replace H := Option.bind_eq_some_iff.mp H
                                        obtain ⟨t243, A690, H⟩ := H
                                        replace H : ((impl_PickFrom.f t236 (wrap64 (1 + t243))).bind fun bt244 => (if t238 = 0 then (if (t237.length : Int) = (t233.length : Int) then (if t242 = 0 then (if bt244.2.2 = 0 then (if bt244.2.1 = t241 then (if bt244.1 < 0 then (laws_FnStages.j5 kj60 t233 t237 true) else ((laws_r8At.f l1 8 30).bind fun t247 => (if bt244.1 > t247 then (laws_FnStages.j5 kj60 t233 t237 true) else (if t241 < 0 then (laws_FnStages.j5 kj60 t233 t237 true) else (laws_FnStages.j5 kj60 t233 t237 (decide (t241 ≥ 1000000))))))) else (laws_FnStages.j5 kj60 t233 t237 true)) else (laws_FnStages.j5 kj60 t233 t237 true)) else (laws_FnStages.j5 kj60 t233 t237 true)) else (laws_FnStages.j5 kj60 t233 t237 true)) else (laws_FnStages.j5 kj60 t233 t237 true))) = some r := H
                                        have A69 := Aside0.mk A690
                                        clear A690
                                        replace H := Option.bind_eq_some_iff.mp H
                                        obtain ⟨⟨t244, t245, t246⟩, A700, H⟩ := H
                                        replace H : (if t238 = 0 then (if (t237.length : Int) = (t233.length : Int) then (if t242 = 0 then (if t246 = 0 then (if t245 = t241 then (if t244 < 0 then (laws_FnStages.j5 kj60 t233 t237 true) else ((laws_r8At.f l1 8 30).bind fun t247 => (if t244 > t247 then (laws_FnStages.j5 kj60 t233 t237 true) else (if t241 < 0 then (laws_FnStages.j5 kj60 t233 t237 true) else (laws_FnStages.j5 kj60 t233 t237 (decide (t241 ≥ 1000000))))))) else (laws_FnStages.j5 kj60 t233 t237 true)) else (laws_FnStages.j5 kj60 t233 t237 true)) else (laws_FnStages.j5 kj60 t233 t237 true)) else (laws_FnStages.j5 kj60 t233 t237 true)) else (laws_FnStages.j5 kj60 t233 t237 true)) = some r := H
                                        have A70 := Aside0.mk A700
                                        clear A700
                                        have HC71 := Aside0.mk H
                                        clear H
                                        go_upto_region 35 with (first | (go_at_call 14; (with_reducible refine (spec_R8Melody.calls kj60 _ _ l0 t233 _ ?side1 ?side2 A65.out).mono ?_); (case side1 => repeat (first | exact (Kd.C_below HR0.out HB.out) | (with_reducible refine Kd.C_alloc ?_ _) | (with_reducible refine Kd.C_drewN ?_ _) | (with_reducible refine Kd.C_drew ?_))); (case side2 => exact HC0.out); rintro e w72 ⟨v234, rfl, ho0, hb⟩; have n0_ := Aside0.mk (Kd.R_lower ho0 (below_size (by repeat (first | (with_reducible first | exact HB.out | apply below_alloc | apply pw_below_drewN | apply below_drew1) | exact HB.out)))); have n1_ := Aside0.mk (below_step (by repeat (first | (with_reducible first | exact HB.out | apply below_alloc | apply pw_below_drewN | apply below_drew1) | exact HB.out)) hb); clear HB; have HO235 := n0_; have HB := n1_; clear n0_ n1_; (try clear hb); (try clear hb2); (try clear hk); (try clear hi); (try clear ho0)) | (go_at_call 15; (with_reducible refine (laws_r8Wide.calls _ _ l1 6 60000 t236 _ ?side1 ?side2 A66.out).mono ?_); (case side1 => repeat (first | exact (Kd.C_below HR1.out HB.out) | (with_reducible refine Kd.C_alloc ?_ _) | (with_reducible refine Kd.C_drewN ?_ _) | (with_reducible refine Kd.C_drew ?_))); (case side2 => exact HC1.out); rintro e w' ⟨rfl, ⟨nd, rfl⟩⟩; (try first | exact ⟨rfl, _, World.drewN_drewN _ _ _⟩ | exact ⟨rfl, _, Eq.trans (World.drewN_drewN _ _ _) (congrArg (World.drewN _) (Nat.add_assoc _ _ _))⟩); obtain ⟨Ao73, co73, eo73⟩ := Kd.R_slice HO235.out; subst eo73) | (go_at_call 16; (with_reducible refine (impl_ShuffleNotes.calls kj60 _ _ t233 t236 t237 t238 _ ?side1 ?side2 A67.out).mono ?_); (case side1 => repeat (first | exact (Kd.R_reads' HO235.out).2.2 | (with_reducible refine Kd.C_alloc ?_ _) | (with_reducible refine Kd.C_drewN ?_ _) | (with_reducible refine Kd.C_drew ?_))); (case side2 => exact (Kd.R_reads' HO235.out).2.1); rintro e w74 ⟨v239, rfl, ho0, hb⟩; have n0_ := Aside0.mk (Kd.R_elder' (by (with_reducible repeat (first | apply Kd.R_alloc | apply Kd.R_drewN | apply Kd.R_drew)); exact HO235.out) (Kd.R_base ho0) hb); have n1_ := Aside0.mk (Kd.R_lower (Kd.R_new' ho0 (Kd.R_lt (by (with_reducible repeat (first | apply Kd.R_alloc | apply Kd.R_drewN | apply Kd.R_drew)); exact HO235.out))) (below_size (by repeat (first | (with_reducible first | exact HB.out | apply below_alloc | apply pw_below_drewN | apply below_drew1) | exact HB.out)))); have n2_ := Aside0.mk (below_step (by repeat (first | (with_reducible first | exact HB.out | apply below_alloc | apply pw_below_drewN | apply below_drew1) | exact HB.out)) hb); clear HO235; clear HB; have HO235 := n0_; have HO240 := n1_; have HB := n2_; clear n0_ n1_ n2_; (try clear hb); (try clear hb2); (try clear hk); (try clear hi); (try clear ho0)) | (go_at_call 17; (with_reducible refine (impl_NextSeed.calls t236 t241 t242 _ A68.out).mono ?_); rintro e w' ⟨rfl, ⟨nd, rfl⟩⟩; (try first | exact ⟨rfl, _, World.drewN_drewN _ _ _⟩ | exact ⟨rfl, _, Eq.trans (World.drewN_drewN _ _ _) (congrArg (World.drewN _) (Nat.add_assoc _ _ _))⟩)) | (go_at_call 11; (with_reducible refine (laws_r8At.calls _ _ l1 8 30 t243 _ ?side1 ?side2 A69.out).mono ?_); (case side1 => repeat (first | exact (Kd.C_below HR1.out (by repeat (first | (with_reducible first | exact HB.out | apply below_alloc | apply pw_below_drewN | apply below_drew1) | exact HB.out))) | (with_reducible refine Kd.C_alloc ?_ _) | (with_reducible refine Kd.C_drewN ?_ _) | (with_reducible refine Kd.C_drew ?_))); (case side2 => exact HC1.out); rintro e w' ⟨rfl, ⟨nd, rfl⟩⟩; (try first | exact ⟨rfl, _, World.drewN_drewN _ _ _⟩ | exact ⟨rfl, _, Eq.trans (World.drewN_drewN _ _ _) (congrArg (World.drewN _) (Nat.add_assoc _ _ _))⟩)) | (go_at_call 18; (with_reducible refine (impl_PickFrom.calls t236 (wrap64 (1 + t243)) t244 t245 t246 _ A70.out).mono ?_); rintro e w75 ⟨rfl, hb⟩; have n0_ := Aside0.mk (Kd.R_below (by (with_reducible repeat (first | apply Kd.R_alloc | apply Kd.R_drewN | apply Kd.R_drew)); exact HO235.out) hb); have n1_ := Aside0.mk (Kd.R_below (by (with_reducible repeat (first | apply Kd.R_alloc | apply Kd.R_drewN | apply Kd.R_drew)); exact HO240.out) hb); have n2_ := Aside0.mk (below_step (by repeat (first | (with_reducible first | exact HB.out | apply below_alloc | apply pw_below_drewN | apply below_drew1) | exact HB.out)) hb); clear HO235; clear HO240; clear HB; have HO235 := n0_; have HO240 := n1_; have HB := n2_; clear n0_ n1_ n2_; (try clear hb); (try clear hb2); (try clear hk); (try clear hi)))
                                        repeat (go_quiet (first | (go_at_call 14; (with_reducible refine (spec_R8Melody.calls kj60 _ _ l0 t233 _ ?side1 ?side2 A65.out).mono ?_); (case side1 => repeat (first | exact (Kd.C_below HR0.out HB.out) | (with_reducible refine Kd.C_alloc ?_ _) | (with_reducible refine Kd.C_drewN ?_ _) | (with_reducible refine Kd.C_drew ?_))); (case side2 => exact HC0.out); rintro e w72 ⟨v234, rfl, ho0, hb⟩; have n0_ := Aside0.mk (Kd.R_lower ho0 (below_size (by repeat (first | (with_reducible first | exact HB.out | apply below_alloc | apply pw_below_drewN | apply below_drew1) | exact HB.out)))); have n1_ := Aside0.mk (below_step (by repeat (first | (with_reducible first | exact HB.out | apply below_alloc | apply pw_below_drewN | apply below_drew1) | exact HB.out)) hb); clear HB; have HO235 := n0_; have HB := n1_; clear n0_ n1_; (try clear hb); (try clear hb2); (try clear hk); (try clear hi); (try clear ho0)) | (go_at_call 15; (with_reducible refine (laws_r8Wide.calls _ _ l1 6 60000 t236 _ ?side1 ?side2 A66.out).mono ?_); (case side1 => repeat (first | exact (Kd.C_below HR1.out HB.out) | (with_reducible refine Kd.C_alloc ?_ _) | (with_reducible refine Kd.C_drewN ?_ _) | (with_reducible refine Kd.C_drew ?_))); (case side2 => exact HC1.out); rintro e w' ⟨rfl, ⟨nd, rfl⟩⟩; (try first | exact ⟨rfl, _, World.drewN_drewN _ _ _⟩ | exact ⟨rfl, _, Eq.trans (World.drewN_drewN _ _ _) (congrArg (World.drewN _) (Nat.add_assoc _ _ _))⟩); obtain ⟨Ao73, co73, eo73⟩ := Kd.R_slice HO235.out; subst eo73) | (go_at_call 16; (with_reducible refine (impl_ShuffleNotes.calls kj60 _ _ t233 t236 t237 t238 _ ?side1 ?side2 A67.out).mono ?_); (case side1 => repeat (first | exact (Kd.R_reads' HO235.out).2.2 | (with_reducible refine Kd.C_alloc ?_ _) | (with_reducible refine Kd.C_drewN ?_ _) | (with_reducible refine Kd.C_drew ?_))); (case side2 => exact (Kd.R_reads' HO235.out).2.1); rintro e w74 ⟨v239, rfl, ho0, hb⟩; have n0_ := Aside0.mk (Kd.R_elder' (by (with_reducible repeat (first | apply Kd.R_alloc | apply Kd.R_drewN | apply Kd.R_drew)); exact HO235.out) (Kd.R_base ho0) hb); have n1_ := Aside0.mk (Kd.R_lower (Kd.R_new' ho0 (Kd.R_lt (by (with_reducible repeat (first | apply Kd.R_alloc | apply Kd.R_drewN | apply Kd.R_drew)); exact HO235.out))) (below_size (by repeat (first | (with_reducible first | exact HB.out | apply below_alloc | apply pw_below_drewN | apply below_drew1) | exact HB.out)))); have n2_ := Aside0.mk (below_step (by repeat (first | (with_reducible first | exact HB.out | apply below_alloc | apply pw_below_drewN | apply below_drew1) | exact HB.out)) hb); clear HO235; clear HB; have HO235 := n0_; have HO240 := n1_; have HB := n2_; clear n0_ n1_ n2_; (try clear hb); (try clear hb2); (try clear hk); (try clear hi); (try clear ho0)) | (go_at_call 17; (with_reducible refine (impl_NextSeed.calls t236 t241 t242 _ A68.out).mono ?_); rintro e w' ⟨rfl, ⟨nd, rfl⟩⟩; (try first | exact ⟨rfl, _, World.drewN_drewN _ _ _⟩ | exact ⟨rfl, _, Eq.trans (World.drewN_drewN _ _ _) (congrArg (World.drewN _) (Nat.add_assoc _ _ _))⟩)) | (go_at_call 11; (with_reducible refine (laws_r8At.calls _ _ l1 8 30 t243 _ ?side1 ?side2 A69.out).mono ?_); (case side1 => repeat (first | exact (Kd.C_below HR1.out (by repeat (first | (with_reducible first | exact HB.out | apply below_alloc | apply pw_below_drewN | apply below_drew1) | exact HB.out))) | (with_reducible refine Kd.C_alloc ?_ _) | (with_reducible refine Kd.C_drewN ?_ _) | (with_reducible refine Kd.C_drew ?_))); (case side2 => exact HC1.out); rintro e w' ⟨rfl, ⟨nd, rfl⟩⟩; (try first | exact ⟨rfl, _, World.drewN_drewN _ _ _⟩ | exact ⟨rfl, _, Eq.trans (World.drewN_drewN _ _ _) (congrArg (World.drewN _) (Nat.add_assoc _ _ _))⟩)) | (go_at_call 18; (with_reducible refine (impl_PickFrom.calls t236 (wrap64 (1 + t243)) t244 t245 t246 _ A70.out).mono ?_); rintro e w75 ⟨rfl, hb⟩; have n0_ := Aside0.mk (Kd.R_below (by (with_reducible repeat (first | apply Kd.R_alloc | apply Kd.R_drewN | apply Kd.R_drew)); exact HO235.out) hb); have n1_ := Aside0.mk (Kd.R_below (by (with_reducible repeat (first | apply Kd.R_alloc | apply Kd.R_drewN | apply Kd.R_drew)); exact HO240.out) hb); have n2_ := Aside0.mk (below_step (by repeat (first | (with_reducible first | exact HB.out | apply below_alloc | apply pw_below_drewN | apply below_drew1) | exact HB.out)) hb); clear HO235; clear HO240; clear HB; have HO235 := n0_; have HO240 := n1_; have HB := n2_; clear n0_ n1_ n2_; (try clear hb); (try clear hb2); (try clear hk); (try clear hi))); go_upto_region 35 with (first | (go_at_call 14; (with_reducible refine (spec_R8Melody.calls kj60 _ _ l0 t233 _ ?side1 ?side2 A65.out).mono ?_); (case side1 => repeat (first | exact (Kd.C_below HR0.out HB.out) | (with_reducible refine Kd.C_alloc ?_ _) | (with_reducible refine Kd.C_drewN ?_ _) | (with_reducible refine Kd.C_drew ?_))); (case side2 => exact HC0.out); rintro e w72 ⟨v234, rfl, ho0, hb⟩; have n0_ := Aside0.mk (Kd.R_lower ho0 (below_size (by repeat (first | (with_reducible first | exact HB.out | apply below_alloc | apply pw_below_drewN | apply below_drew1) | exact HB.out)))); have n1_ := Aside0.mk (below_step (by repeat (first | (with_reducible first | exact HB.out | apply below_alloc | apply pw_below_drewN | apply below_drew1) | exact HB.out)) hb); clear HB; have HO235 := n0_; have HB := n1_; clear n0_ n1_; (try clear hb); (try clear hb2); (try clear hk); (try clear hi); (try clear ho0)) | (go_at_call 15; (with_reducible refine (laws_r8Wide.calls _ _ l1 6 60000 t236 _ ?side1 ?side2 A66.out).mono ?_); (case side1 => repeat (first | exact (Kd.C_below HR1.out HB.out) | (with_reducible refine Kd.C_alloc ?_ _) | (with_reducible refine Kd.C_drewN ?_ _) | (with_reducible refine Kd.C_drew ?_))); (case side2 => exact HC1.out); rintro e w' ⟨rfl, ⟨nd, rfl⟩⟩; (try first | exact ⟨rfl, _, World.drewN_drewN _ _ _⟩ | exact ⟨rfl, _, Eq.trans (World.drewN_drewN _ _ _) (congrArg (World.drewN _) (Nat.add_assoc _ _ _))⟩); obtain ⟨Ao73, co73, eo73⟩ := Kd.R_slice HO235.out; subst eo73) | (go_at_call 16; (with_reducible refine (impl_ShuffleNotes.calls kj60 _ _ t233 t236 t237 t238 _ ?side1 ?side2 A67.out).mono ?_); (case side1 => repeat (first | exact (Kd.R_reads' HO235.out).2.2 | (with_reducible refine Kd.C_alloc ?_ _) | (with_reducible refine Kd.C_drewN ?_ _) | (with_reducible refine Kd.C_drew ?_))); (case side2 => exact (Kd.R_reads' HO235.out).2.1); rintro e w74 ⟨v239, rfl, ho0, hb⟩; have n0_ := Aside0.mk (Kd.R_elder' (by (with_reducible repeat (first | apply Kd.R_alloc | apply Kd.R_drewN | apply Kd.R_drew)); exact HO235.out) (Kd.R_base ho0) hb); have n1_ := Aside0.mk (Kd.R_lower (Kd.R_new' ho0 (Kd.R_lt (by (with_reducible repeat (first | apply Kd.R_alloc | apply Kd.R_drewN | apply Kd.R_drew)); exact HO235.out))) (below_size (by repeat (first | (with_reducible first | exact HB.out | apply below_alloc | apply pw_below_drewN | apply below_drew1) | exact HB.out)))); have n2_ := Aside0.mk (below_step (by repeat (first | (with_reducible first | exact HB.out | apply below_alloc | apply pw_below_drewN | apply below_drew1) | exact HB.out)) hb); clear HO235; clear HB; have HO235 := n0_; have HO240 := n1_; have HB := n2_; clear n0_ n1_ n2_; (try clear hb); (try clear hb2); (try clear hk); (try clear hi); (try clear ho0)) | (go_at_call 17; (with_reducible refine (impl_NextSeed.calls t236 t241 t242 _ A68.out).mono ?_); rintro e w' ⟨rfl, ⟨nd, rfl⟩⟩; (try first | exact ⟨rfl, _, World.drewN_drewN _ _ _⟩ | exact ⟨rfl, _, Eq.trans (World.drewN_drewN _ _ _) (congrArg (World.drewN _) (Nat.add_assoc _ _ _))⟩)) | (go_at_call 11; (with_reducible refine (laws_r8At.calls _ _ l1 8 30 t243 _ ?side1 ?side2 A69.out).mono ?_); (case side1 => repeat (first | exact (Kd.C_below HR1.out (by repeat (first | (with_reducible first | exact HB.out | apply below_alloc | apply pw_below_drewN | apply below_drew1) | exact HB.out))) | (with_reducible refine Kd.C_alloc ?_ _) | (with_reducible refine Kd.C_drewN ?_ _) | (with_reducible refine Kd.C_drew ?_))); (case side2 => exact HC1.out); rintro e w' ⟨rfl, ⟨nd, rfl⟩⟩; (try first | exact ⟨rfl, _, World.drewN_drewN _ _ _⟩ | exact ⟨rfl, _, Eq.trans (World.drewN_drewN _ _ _) (congrArg (World.drewN _) (Nat.add_assoc _ _ _))⟩)) | (go_at_call 18; (with_reducible refine (impl_PickFrom.calls t236 (wrap64 (1 + t243)) t244 t245 t246 _ A70.out).mono ?_); rintro e w75 ⟨rfl, hb⟩; have n0_ := Aside0.mk (Kd.R_below (by (with_reducible repeat (first | apply Kd.R_alloc | apply Kd.R_drewN | apply Kd.R_drew)); exact HO235.out) hb); have n1_ := Aside0.mk (Kd.R_below (by (with_reducible repeat (first | apply Kd.R_alloc | apply Kd.R_drewN | apply Kd.R_drew)); exact HO240.out) hb); have n2_ := Aside0.mk (below_step (by repeat (first | (with_reducible first | exact HB.out | apply below_alloc | apply pw_below_drewN | apply below_drew1) | exact HB.out)) hb); clear HO235; clear HO240; clear HB; have HO235 := n0_; have HO240 := n1_; have HB := n2_; clear n0_ n1_ n2_; (try clear hb); (try clear hb2); (try clear hk); (try clear hi))))
                                        (try simp only [Act.put, List.setIfInBounds_toArray, List.set_cons_zero, List.set_cons_succ])
                                        go_cut [269] (fun v269 wc => ∃ (kq : Nat) (x269_70 : Bool), v269 = .bool x269_70 ∧ Aside0 (laws_FnStages.j5 kq t233 t237 x269_70 = some r) ∧ Aside0 (kq ≤ kj60) ∧ Aside0 (Kd.R k40 40 wc w.heap.size (fun k_ => some k_ ≠ (v239 : Value).ownBlock) (.slice Ao73 t233.length co73) t233) ∧ Aside0 (Kd.R k40 40 wc w.heap.size (fun k_ => some k_ ≠ ((.slice Ao73 t233.length co73) : Value).ownBlock) v239 t237) ∧ Aside0 (Below w.heap.size w wc))
                                        case first => as_aux_lemma =>
                                          have H := HC71.out
                                          clear HC71
                                          by_cases c76 : t238 = 0
                                          · as_aux_lemma =>
                                             rw [if_pos c76] at H
                                             have c76b0 : (t238 == 0) = true := beq_iff_eq.mpr c76
                                             have c76b1 : (t238 != 0) = false := bne_eq_false_iff_eq.mpr c76
                                             clear c76
                                             (first | rw [c76b0] | (simp only [i64_w, i32_w]; rw [c76b0]) | skip)
                                             by_cases c77 : (t237.length : Int) = (t233.length : Int)
                                             · as_aux_lemma =>
                                                rw [if_pos c77] at H
                                                have c77b0 : ((t237.length : Int) == (t233.length : Int)) = true := beq_iff_eq.mpr c77
                                                have c77b1 : ((t237.length : Int) != (t233.length : Int)) = false := bne_eq_false_iff_eq.mpr c77
                                                have c77b2 : (t237.length == t233.length) = true := by first | simpa using c77 | (simp at c77 ⊢; omega)
                                                clear c77
                                                by_cases c78 : t242 = 0
                                                · as_aux_lemma =>
                                                   rw [if_pos c78] at H
                                                   have c78b0 : (t242 == 0) = true := beq_iff_eq.mpr c78
                                                   have c78b1 : (t242 != 0) = false := bne_eq_false_iff_eq.mpr c78
                                                   clear c78
                                                   by_cases c79 : t246 = 0
                                                   · as_aux_lemma =>
                                                      rw [if_pos c79] at H
                                                      have c79b0 : (t246 == 0) = true := beq_iff_eq.mpr c79
                                                      have c79b1 : (t246 != 0) = false := bne_eq_false_iff_eq.mpr c79
                                                      clear c79
                                                      by_cases c80 : t245 = t241
                                                      · as_aux_lemma =>
                                                         rw [if_pos c80] at H
                                                         have c80b0 : (t245 == t241) = true := beq_iff_eq.mpr c80
                                                         have c80b1 : (t245 != t241) = false := bne_eq_false_iff_eq.mpr c80
                                                         clear c80
                                                         by_cases c81 : t244 < 0
                                                         · rw [if_pos c81] at H
                                                           have c81b0 : decide (t244 < 0) = true := decide_eq_true c81
                                                           clear c81
                                                           have H' := Aside0.mk H
                                                           clear H
                                                           obtain ⟨Ao82, co82, eo82⟩ := Kd.R_slice HO240.out
                                                           subst eo82
                                                           go_wp2
                                                           repeat (go_quiet (fail); try go_wp2)
                                                           go_meet
                                                           case rel => exact ⟨_, (true), (by first | rfl | (simp; done) | (simp [*]; done)), H', ⟨by have := HJ9.out; have := HK2.out; have := HJ40.out; have := HK4.out; have := HJ60.out; first | omega | exact Nat.le_refl _⟩, ⟨by (with_reducible repeat (first | apply Kd.R_alloc | apply Kd.R_drewN | apply Kd.R_drew)); exact Kd.R_mono HO235.out (fun _ hk => hk.2)⟩, ⟨by (with_reducible repeat (first | apply Kd.R_alloc | apply Kd.R_drewN | apply Kd.R_drew)); exact Kd.R_mono HO240.out (fun _ hk => hk.2)⟩, ⟨by repeat (first | (with_reducible first | exact HB.out | apply below_alloc | apply pw_below_drewN | apply below_drew1) | exact HB.out)⟩⟩
                                                         · rw [if_neg c81] at H
                                                           have c81b0 : decide (t244 < 0) = false := decide_eq_false c81
                                                           clear c81
                                                           replace H := Option.bind_eq_some_iff.mp H
                                                           obtain ⟨t247, A830, H⟩ := H
                                                           replace H : (if t244 > t247 then (laws_FnStages.j5 kj60 t233 t237 true) else (if t241 < 0 then (laws_FnStages.j5 kj60 t233 t237 true) else (laws_FnStages.j5 kj60 t233 t237 (decide (t241 ≥ 1000000))))) = some r := H
                                                           have A83 := Aside0.mk A830
                                                           clear A830
                                                           by_cases c84 : t244 > t247
                                                           · rw [if_pos c84] at H
                                                             have c84b0 : decide (t247 < t244) = true := decide_eq_true c84
                                                             clear c84
                                                             have H' := Aside0.mk H
                                                             clear H
                                                             obtain ⟨Ao85, co85, eo85⟩ := Kd.R_slice HO240.out
                                                             subst eo85
                                                             go_wp2_with (first | (go_at_call 11; (with_reducible refine (laws_r8At.calls _ _ l1 8 30 t247 _ ?side1 ?side2 A83.out).mono ?_); (case side1 => repeat (first | exact (Kd.C_below HR1.out HB.out) | (with_reducible refine Kd.C_alloc ?_ _) | (with_reducible refine Kd.C_drewN ?_ _) | (with_reducible refine Kd.C_drew ?_))); (case side2 => exact HC1.out); rintro e w' ⟨rfl, ⟨nd, rfl⟩⟩; (try first | exact ⟨rfl, _, World.drewN_drewN _ _ _⟩ | exact ⟨rfl, _, Eq.trans (World.drewN_drewN _ _ _) (congrArg (World.drewN _) (Nat.add_assoc _ _ _))⟩)))
                                                             repeat (go_quiet (first | (go_at_call 11; (with_reducible refine (laws_r8At.calls _ _ l1 8 30 t247 _ ?side1 ?side2 A83.out).mono ?_); (case side1 => repeat (first | exact (Kd.C_below HR1.out HB.out) | (with_reducible refine Kd.C_alloc ?_ _) | (with_reducible refine Kd.C_drewN ?_ _) | (with_reducible refine Kd.C_drew ?_))); (case side2 => exact HC1.out); rintro e w' ⟨rfl, ⟨nd, rfl⟩⟩; (try first | exact ⟨rfl, _, World.drewN_drewN _ _ _⟩ | exact ⟨rfl, _, Eq.trans (World.drewN_drewN _ _ _) (congrArg (World.drewN _) (Nat.add_assoc _ _ _))⟩))); try go_wp2_with (first | (go_at_call 11; (with_reducible refine (laws_r8At.calls _ _ l1 8 30 t247 _ ?side1 ?side2 A83.out).mono ?_); (case side1 => repeat (first | exact (Kd.C_below HR1.out HB.out) | (with_reducible refine Kd.C_alloc ?_ _) | (with_reducible refine Kd.C_drewN ?_ _) | (with_reducible refine Kd.C_drew ?_))); (case side2 => exact HC1.out); rintro e w' ⟨rfl, ⟨nd, rfl⟩⟩; (try first | exact ⟨rfl, _, World.drewN_drewN _ _ _⟩ | exact ⟨rfl, _, Eq.trans (World.drewN_drewN _ _ _) (congrArg (World.drewN _) (Nat.add_assoc _ _ _))⟩))))
                                                             go_meet
                                                             case rel => exact ⟨_, (true), (by first | rfl | (simp; done) | (simp [*]; done)), H', ⟨by have := HJ9.out; have := HK2.out; have := HJ40.out; have := HK4.out; have := HJ60.out; first | omega | exact Nat.le_refl _⟩, ⟨by (with_reducible repeat (first | apply Kd.R_alloc | apply Kd.R_drewN | apply Kd.R_drew)); exact Kd.R_mono HO235.out (fun _ hk => hk.2)⟩, ⟨by (with_reducible repeat (first | apply Kd.R_alloc | apply Kd.R_drewN | apply Kd.R_drew)); exact Kd.R_mono HO240.out (fun _ hk => hk.2)⟩, ⟨by repeat (first | (with_reducible first | exact HB.out | apply below_alloc | apply pw_below_drewN | apply below_drew1) | exact HB.out)⟩⟩
                                                           · rw [if_neg c84] at H
                                                             have c84b0 : decide (t247 < t244) = false := decide_eq_false c84
                                                             clear c84
                                                             by_cases c86 : t241 < 0
                                                             · rw [if_pos c86] at H
                                                               have c86b0 : decide (t241 < 0) = true := decide_eq_true c86
                                                               clear c86
                                                               have H' := Aside0.mk H
                                                               clear H
                                                               obtain ⟨Ao87, co87, eo87⟩ := Kd.R_slice HO240.out
                                                               subst eo87
                                                               go_wp2_with (first | (go_at_call 11; (with_reducible refine (laws_r8At.calls _ _ l1 8 30 t247 _ ?side1 ?side2 A83.out).mono ?_); (case side1 => repeat (first | exact (Kd.C_below HR1.out HB.out) | (with_reducible refine Kd.C_alloc ?_ _) | (with_reducible refine Kd.C_drewN ?_ _) | (with_reducible refine Kd.C_drew ?_))); (case side2 => exact HC1.out); rintro e w' ⟨rfl, ⟨nd, rfl⟩⟩; (try first | exact ⟨rfl, _, World.drewN_drewN _ _ _⟩ | exact ⟨rfl, _, Eq.trans (World.drewN_drewN _ _ _) (congrArg (World.drewN _) (Nat.add_assoc _ _ _))⟩)))
                                                               repeat (go_quiet (first | (go_at_call 11; (with_reducible refine (laws_r8At.calls _ _ l1 8 30 t247 _ ?side1 ?side2 A83.out).mono ?_); (case side1 => repeat (first | exact (Kd.C_below HR1.out HB.out) | (with_reducible refine Kd.C_alloc ?_ _) | (with_reducible refine Kd.C_drewN ?_ _) | (with_reducible refine Kd.C_drew ?_))); (case side2 => exact HC1.out); rintro e w' ⟨rfl, ⟨nd, rfl⟩⟩; (try first | exact ⟨rfl, _, World.drewN_drewN _ _ _⟩ | exact ⟨rfl, _, Eq.trans (World.drewN_drewN _ _ _) (congrArg (World.drewN _) (Nat.add_assoc _ _ _))⟩))); try go_wp2_with (first | (go_at_call 11; (with_reducible refine (laws_r8At.calls _ _ l1 8 30 t247 _ ?side1 ?side2 A83.out).mono ?_); (case side1 => repeat (first | exact (Kd.C_below HR1.out HB.out) | (with_reducible refine Kd.C_alloc ?_ _) | (with_reducible refine Kd.C_drewN ?_ _) | (with_reducible refine Kd.C_drew ?_))); (case side2 => exact HC1.out); rintro e w' ⟨rfl, ⟨nd, rfl⟩⟩; (try first | exact ⟨rfl, _, World.drewN_drewN _ _ _⟩ | exact ⟨rfl, _, Eq.trans (World.drewN_drewN _ _ _) (congrArg (World.drewN _) (Nat.add_assoc _ _ _))⟩))))
                                                               go_meet
                                                               case rel => exact ⟨_, (true), (by first | rfl | (simp; done) | (simp [*]; done)), H', ⟨by have := HJ9.out; have := HK2.out; have := HJ40.out; have := HK4.out; have := HJ60.out; first | omega | exact Nat.le_refl _⟩, ⟨by (with_reducible repeat (first | apply Kd.R_alloc | apply Kd.R_drewN | apply Kd.R_drew)); exact Kd.R_mono HO235.out (fun _ hk => hk.2)⟩, ⟨by (with_reducible repeat (first | apply Kd.R_alloc | apply Kd.R_drewN | apply Kd.R_drew)); exact Kd.R_mono HO240.out (fun _ hk => hk.2)⟩, ⟨by repeat (first | (with_reducible first | exact HB.out | apply below_alloc | apply pw_below_drewN | apply below_drew1) | exact HB.out)⟩⟩
                                                             · rw [if_neg c86] at H
                                                               have c86b0 : decide (t241 < 0) = false := decide_eq_false c86
                                                               clear c86
                                                               have H' := Aside0.mk H
                                                               clear H
                                                               obtain ⟨Ao88, co88, eo88⟩ := Kd.R_slice HO240.out
                                                               subst eo88
                                                               go_wp2_with (first | (go_at_call 11; (with_reducible refine (laws_r8At.calls _ _ l1 8 30 t247 _ ?side1 ?side2 A83.out).mono ?_); (case side1 => repeat (first | exact (Kd.C_below HR1.out HB.out) | (with_reducible refine Kd.C_alloc ?_ _) | (with_reducible refine Kd.C_drewN ?_ _) | (with_reducible refine Kd.C_drew ?_))); (case side2 => exact HC1.out); rintro e w' ⟨rfl, ⟨nd, rfl⟩⟩; (try first | exact ⟨rfl, _, World.drewN_drewN _ _ _⟩ | exact ⟨rfl, _, Eq.trans (World.drewN_drewN _ _ _) (congrArg (World.drewN _) (Nat.add_assoc _ _ _))⟩)))
                                                               repeat (go_quiet (first | (go_at_call 11; (with_reducible refine (laws_r8At.calls _ _ l1 8 30 t247 _ ?side1 ?side2 A83.out).mono ?_); (case side1 => repeat (first | exact (Kd.C_below HR1.out HB.out) | (with_reducible refine Kd.C_alloc ?_ _) | (with_reducible refine Kd.C_drewN ?_ _) | (with_reducible refine Kd.C_drew ?_))); (case side2 => exact HC1.out); rintro e w' ⟨rfl, ⟨nd, rfl⟩⟩; (try first | exact ⟨rfl, _, World.drewN_drewN _ _ _⟩ | exact ⟨rfl, _, Eq.trans (World.drewN_drewN _ _ _) (congrArg (World.drewN _) (Nat.add_assoc _ _ _))⟩))); try go_wp2_with (first | (go_at_call 11; (with_reducible refine (laws_r8At.calls _ _ l1 8 30 t247 _ ?side1 ?side2 A83.out).mono ?_); (case side1 => repeat (first | exact (Kd.C_below HR1.out HB.out) | (with_reducible refine Kd.C_alloc ?_ _) | (with_reducible refine Kd.C_drewN ?_ _) | (with_reducible refine Kd.C_drew ?_))); (case side2 => exact HC1.out); rintro e w' ⟨rfl, ⟨nd, rfl⟩⟩; (try first | exact ⟨rfl, _, World.drewN_drewN _ _ _⟩ | exact ⟨rfl, _, Eq.trans (World.drewN_drewN _ _ _) (congrArg (World.drewN _) (Nat.add_assoc _ _ _))⟩))))
                                                               go_meet
                                                               case rel => exact ⟨_, (decide (t241 ≥ 1000000)), (by first | rfl | (simp; done) | (simp [*]; done)), H', ⟨by have := HJ9.out; have := HK2.out; have := HJ40.out; have := HK4.out; have := HJ60.out; first | omega | exact Nat.le_refl _⟩, ⟨by (with_reducible repeat (first | apply Kd.R_alloc | apply Kd.R_drewN | apply Kd.R_drew)); exact Kd.R_mono HO235.out (fun _ hk => hk.2)⟩, ⟨by (with_reducible repeat (first | apply Kd.R_alloc | apply Kd.R_drewN | apply Kd.R_drew)); exact Kd.R_mono HO240.out (fun _ hk => hk.2)⟩, ⟨by repeat (first | (with_reducible first | exact HB.out | apply below_alloc | apply pw_below_drewN | apply below_drew1) | exact HB.out)⟩⟩
                                                      · rw [if_neg c80] at H
                                                        have c80b0 : (t245 == t241) = false := beq_eq_false_iff_ne.mpr c80
                                                        have c80b1 : (t245 != t241) = true := bne_iff_ne.mpr c80
                                                        have H' := Aside0.mk H
                                                        clear H
                                                        obtain ⟨Ao89, co89, eo89⟩ := Kd.R_slice HO240.out
                                                        subst eo89
                                                        go_wp2
                                                        repeat (go_quiet (fail); try go_wp2)
                                                        go_meet
                                                        case rel => exact ⟨_, (true), (by first | rfl | (simp; done) | (simp [*]; done)), H', ⟨by have := HJ9.out; have := HK2.out; have := HJ40.out; have := HK4.out; have := HJ60.out; first | omega | exact Nat.le_refl _⟩, ⟨by (with_reducible repeat (first | apply Kd.R_alloc | apply Kd.R_drewN | apply Kd.R_drew)); exact Kd.R_mono HO235.out (fun _ hk => hk.2)⟩, ⟨by (with_reducible repeat (first | apply Kd.R_alloc | apply Kd.R_drewN | apply Kd.R_drew)); exact Kd.R_mono HO240.out (fun _ hk => hk.2)⟩, ⟨by repeat (first | (with_reducible first | exact HB.out | apply below_alloc | apply pw_below_drewN | apply below_drew1) | exact HB.out)⟩⟩
                                                   · rw [if_neg c79] at H
                                                     have c79b0 : (t246 == 0) = false := beq_eq_false_iff_ne.mpr c79
                                                     have c79b1 : (t246 != 0) = true := bne_iff_ne.mpr c79
                                                     have H' := Aside0.mk H
                                                     clear H
                                                     obtain ⟨Ao90, co90, eo90⟩ := Kd.R_slice HO240.out
                                                     subst eo90
                                                     go_wp2
                                                     repeat (go_quiet (fail); try go_wp2)
                                                     go_meet
                                                     case rel => exact ⟨_, (true), (by first | rfl | (simp; done) | (simp [*]; done)), H', ⟨by have := HJ9.out; have := HK2.out; have := HJ40.out; have := HK4.out; have := HJ60.out; first | omega | exact Nat.le_refl _⟩, ⟨by (with_reducible repeat (first | apply Kd.R_alloc | apply Kd.R_drewN | apply Kd.R_drew)); exact Kd.R_mono HO235.out (fun _ hk => hk.2)⟩, ⟨by (with_reducible repeat (first | apply Kd.R_alloc | apply Kd.R_drewN | apply Kd.R_drew)); exact Kd.R_mono HO240.out (fun _ hk => hk.2)⟩, ⟨by repeat (first | (with_reducible first | exact HB.out | apply below_alloc | apply pw_below_drewN | apply below_drew1) | exact HB.out)⟩⟩
                                                · rw [if_neg c78] at H
                                                  have c78b0 : (t242 == 0) = false := beq_eq_false_iff_ne.mpr c78
                                                  have c78b1 : (t242 != 0) = true := bne_iff_ne.mpr c78
                                                  have H' := Aside0.mk H
                                                  clear H
                                                  obtain ⟨Ao91, co91, eo91⟩ := Kd.R_slice HO240.out
                                                  subst eo91
                                                  go_wp2
                                                  repeat (go_quiet (fail); try go_wp2)
                                                  go_meet
                                                  case rel => exact ⟨_, (true), (by first | rfl | (simp; done) | (simp [*]; done)), H', ⟨by have := HJ9.out; have := HK2.out; have := HJ40.out; have := HK4.out; have := HJ60.out; first | omega | exact Nat.le_refl _⟩, ⟨by (with_reducible repeat (first | apply Kd.R_alloc | apply Kd.R_drewN | apply Kd.R_drew)); exact Kd.R_mono HO235.out (fun _ hk => hk.2)⟩, ⟨by (with_reducible repeat (first | apply Kd.R_alloc | apply Kd.R_drewN | apply Kd.R_drew)); exact Kd.R_mono HO240.out (fun _ hk => hk.2)⟩, ⟨by repeat (first | (with_reducible first | exact HB.out | apply below_alloc | apply pw_below_drewN | apply below_drew1) | exact HB.out)⟩⟩
                                             · rw [if_neg c77] at H
                                               have c77b0 : ((t237.length : Int) == (t233.length : Int)) = false := beq_eq_false_iff_ne.mpr c77
                                               have c77b1 : ((t237.length : Int) != (t233.length : Int)) = true := bne_iff_ne.mpr c77
                                               have c77b2 : (t237.length == t233.length) = false := by first | simpa using c77 | (simp at c77 ⊢; omega)
                                               have H' := Aside0.mk H
                                               clear H
                                               obtain ⟨Ao92, co92, eo92⟩ := Kd.R_slice HO240.out
                                               subst eo92
                                               go_wp2
                                               repeat (go_quiet (fail); try go_wp2)
                                               go_meet
                                               case rel => exact ⟨_, (true), (by first | rfl | (simp; done) | (simp [*]; done)), H', ⟨by have := HJ9.out; have := HK2.out; have := HJ40.out; have := HK4.out; have := HJ60.out; first | omega | exact Nat.le_refl _⟩, ⟨by (with_reducible repeat (first | apply Kd.R_alloc | apply Kd.R_drewN | apply Kd.R_drew)); exact Kd.R_mono HO235.out (fun _ hk => hk.2)⟩, ⟨by (with_reducible repeat (first | apply Kd.R_alloc | apply Kd.R_drewN | apply Kd.R_drew)); exact Kd.R_mono HO240.out (fun _ hk => hk.2)⟩, ⟨by repeat (first | (with_reducible first | exact HB.out | apply below_alloc | apply pw_below_drewN | apply below_drew1) | exact HB.out)⟩⟩
                                          · rw [if_neg c76] at H
                                            have c76b0 : (t238 == 0) = false := beq_eq_false_iff_ne.mpr c76
                                            have c76b1 : (t238 != 0) = true := bne_iff_ne.mpr c76
                                            (first | rw [c76b0] | (simp only [i64_w, i32_w]; rw [c76b0]) | skip)
                                            have H' := Aside0.mk H
                                            clear H
                                            go_wp2
                                            repeat (go_quiet (fail); try go_wp2)
                                            go_meet
                                            case rel => exact ⟨_, (true), (by first | rfl | (simp; done) | (simp [*]; done)), H', ⟨by have := HJ9.out; have := HK2.out; have := HJ40.out; have := HK4.out; have := HJ60.out; first | omega | exact Nat.le_refl _⟩, ⟨by (with_reducible repeat (first | apply Kd.R_alloc | apply Kd.R_drewN | apply Kd.R_drew)); exact Kd.R_mono HO235.out (fun _ hk => hk.2)⟩, ⟨by (with_reducible repeat (first | apply Kd.R_alloc | apply Kd.R_drewN | apply Kd.R_drew)); exact Kd.R_mono HO240.out (fun _ hk => hk.2)⟩, ⟨by repeat (first | (with_reducible first | exact HB.out | apply below_alloc | apply pw_below_drewN | apply below_drew1) | exact HB.out)⟩⟩
                                        case rest => as_aux_lemma =>
                                          clear HC71
                                          try clear c1
                                          try clear c2
                                          try clear p2
                                          try clear q2
                                          try clear hx2
                                          try clear qi2
                                          try clear c3
                                          try clear c4
                                          try clear c5
                                          try clear c6
                                          try clear p6
                                          try clear c7
                                          try clear c8
                                          try clear c15
                                          try clear c15b0
                                          try clear c16
                                          try clear c17
                                          try clear c17b0
                                          try clear c17b1
                                          try clear c18
                                          try clear c20
                                          try clear p20
                                          try clear q20
                                          try clear hx20
                                          try clear c21
                                          try clear p21
                                          try clear q21
                                          try clear hx21
                                          try clear qi21
                                          try clear c22
                                          try clear p22
                                          try clear q22
                                          try clear hx22
                                          try clear qi22
                                          try clear p23
                                          try clear q23
                                          try clear hx23
                                          try clear c28
                                          try clear c28b0
                                          try clear c30
                                          try clear c31
                                          try clear c32
                                          try clear c33
                                          try clear c33b0
                                          try clear c35
                                          try clear c35b0
                                          try clear c35b1
                                          try clear c36
                                          try clear c36b0
                                          try clear c44
                                          try clear c44b0
                                          try clear c45
                                          try clear c45b0
                                          try clear c46
                                          try clear c46b0
                                          try clear c46b1
                                          try clear c47
                                          try clear c47b0
                                          try clear c47b1
                                          try clear c48
                                          try clear c48b0
                                          try clear c48b1
                                          try clear c49
                                          try clear c54
                                          try clear c54b0
                                          try clear c55
                                          try clear c55b0
                                          try clear c56
                                          try clear c56b0
                                          try clear c58
                                          try clear c58b0
                                          try clear c63
                                          try clear c63b0
                                          try clear c63b1
                                          try clear c64
                                          try clear p64
                                          try clear c76
                                          try clear c76b0
                                          try clear c76b1
                                          try clear c77
                                          try clear c77b0
                                          try clear c77b1
                                          try clear c77b2
                                          try clear c78
                                          try clear c78b0
                                          try clear c78b1
                                          try clear c79
                                          try clear c79b0
                                          try clear c79b1
                                          try clear c80
                                          try clear c80b0
                                          try clear c80b1
                                          try clear c81
                                          try clear c81b0
                                          try clear c84
                                          try clear c84b0
                                          try clear c86
                                          try clear c86b0
                                          try clear hx209_0
                                          try clear hx210_0
                                          try clear hx211_0
                                          try clear hx212_0
                                          try clear hx213_0
                                          try clear hx214_0
                                          try clear hx215_0
                                          try clear hx216_0
                                          try clear hx217_0
                                          try clear hx218_0
                                          try clear hx219_0
                                          try clear hx220_0
                                          try clear hx221_0
                                          try clear hx222_0
                                          try clear hx223_0
                                          try clear hx230_0
                                          try clear hx231_0
                                          try clear hx232_0
                                          try clear p2
                                          try clear p20
                                          try clear p209
                                          try clear p21
                                          try clear p210
                                          try clear p211
                                          try clear p212
                                          try clear p213
                                          try clear p214
                                          try clear p215
                                          try clear p216
                                          try clear p217
                                          try clear p218
                                          try clear p219
                                          try clear p22
                                          try clear p220
                                          try clear p221
                                          try clear p222
                                          try clear p223
                                          try clear p23
                                          try clear p230
                                          try clear p231
                                          try clear p232
                                          try clear p6
                                          try clear q2
                                          try clear q20
                                          try clear q209
                                          try clear q21
                                          try clear q210
                                          try clear q211
                                          try clear q212
                                          try clear q213
                                          try clear q214
                                          try clear q215
                                          try clear q216
                                          try clear q217
                                          try clear q218
                                          try clear q219
                                          try clear q22
                                          try clear q220
                                          try clear q221
                                          try clear q222
                                          try clear q223
                                          try clear q23
                                          try clear q230
                                          try clear q231
                                          try clear q232
                                          obtain ⟨kq, x269_70, rfl, HA, HJ70, HO_19, HO_21, HB⟩ := hcut
                                          cases kq with
                                          | zero => exact absurd HA.out (by simp [laws_FnStages.j5])
                                          | succ kj70 =>
                                            have H := HA.out
                                            clear HA
                                            simp only [laws_FnStages.j5] at H
                                            by_cases c93 : x269_70 = true
                                            · subst c93
                                              have H1 : (some false) = some r := by rw [if_pos rfl] at H; exact H
                                              clear H
                                              have H := H1
                                              clear H1
                                              obtain rfl := Option.some.inj H
                                              go_wp2
                                              repeat (go_quiet (fail); try go_wp2)
                                              go_ret
                                              exact ⟨by first | rfl | (simp [errW_none, errW_some] <;> rfl) | (simp [*, errW_none, errW_some] <;> rfl), by repeat (first | (with_reducible first | exact HB.out | apply below_alloc | apply pw_below_drewN | apply below_drew1) | exact HB.out)⟩
                                            · as_aux_lemma =>
                                               replace c93 := Bool.eq_false_iff.mpr c93
                                               subst c93
                                               have H1 : (laws_FnStages.l2 kj70 t233 t237 0) = some r := by rw [if_neg (show ¬ (false = true) by decide)] at H; exact H
                                               clear H
                                               have H := H1
                                               clear H1
                                               have H' := Aside0.mk H
                                               clear H
                                               go_wp2
                                               repeat (go_quiet (fail); try go_wp2)
                                               go_loopg [28] kj70 (fun kq v28 w' => ∃ (x28_7 : Int), v28 = .int .i64 x28_7 ∧ Aside0 (laws_FnStages.l2 kq t233 t237 x28_7 = some r) ∧ Aside0 (kq ≤ kj70) ∧ Aside0 (Kd.R k40 40 w' w.heap.size (fun k_ => some k_ ≠ (v239 : Value).ownBlock) (.slice Ao73 t233.length co73) t233) ∧ Aside0 (Kd.R k40 40 w' w.heap.size (fun k_ => some k_ ≠ ((.slice Ao73 t233.length co73) : Value).ownBlock) v239 t237) ∧ Aside0 (Below w.heap.size w w'))
                                               case atStart => exact ⟨(0), (by first | rfl | (simp; done) | (simp [*]; done)), H', ⟨Nat.le_refl _⟩, ⟨by (with_reducible repeat (first | apply Kd.R_alloc | apply Kd.R_drewN | apply Kd.R_drew)); exact HO_19.out⟩, ⟨by (with_reducible repeat (first | apply Kd.R_alloc | apply Kd.R_drewN | apply Kd.R_drew)); exact HO_21.out⟩, ⟨by repeat (first | (with_reducible first | exact HB.out | apply below_alloc | apply pw_below_drewN | apply below_drew1) | exact HB.out)⟩⟩
                                               case round =>
                                                 clear H'
                                                 try clear c1
                                                 try clear c2
                                                 try clear p2
                                                 try clear q2
                                                 try clear hx2
                                                 try clear qi2
                                                 try clear c3
                                                 try clear c4
                                                 try clear c5
                                                 try clear c6
                                                 try clear p6
                                                 try clear c7
                                                 try clear c8
                                                 try clear c9
                                                 try clear c15
                                                 try clear c15b0
                                                 try clear c16
                                                 try clear c17
                                                 try clear c17b0
                                                 try clear c17b1
                                                 try clear c18
                                                 try clear c20
                                                 try clear p20
                                                 try clear q20
                                                 try clear hx20
                                                 try clear c21
                                                 try clear p21
                                                 try clear q21
                                                 try clear hx21
                                                 try clear qi21
                                                 try clear c22
                                                 try clear p22
                                                 try clear q22
                                                 try clear hx22
                                                 try clear qi22
                                                 try clear p23
                                                 try clear q23
                                                 try clear hx23
                                                 try clear c28
                                                 try clear c28b0
                                                 try clear c30
                                                 try clear c31
                                                 try clear c32
                                                 try clear c33
                                                 try clear c33b0
                                                 try clear c35
                                                 try clear c35b0
                                                 try clear c35b1
                                                 try clear c36
                                                 try clear c36b0
                                                 try clear c44
                                                 try clear c44b0
                                                 try clear c45
                                                 try clear c45b0
                                                 try clear c46
                                                 try clear c46b0
                                                 try clear c46b1
                                                 try clear c47
                                                 try clear c47b0
                                                 try clear c47b1
                                                 try clear c48
                                                 try clear c48b0
                                                 try clear c48b1
                                                 try clear c49
                                                 try clear c54
                                                 try clear c54b0
                                                 try clear c55
                                                 try clear c55b0
                                                 try clear c56
                                                 try clear c56b0
                                                 try clear c58
                                                 try clear c58b0
                                                 try clear c63
                                                 try clear c63b0
                                                 try clear c63b1
                                                 try clear c64
                                                 try clear p64
                                                 try clear c76
                                                 try clear c76b0
                                                 try clear c76b1
                                                 try clear c77
                                                 try clear c77b0
                                                 try clear c77b1
                                                 try clear c77b2
                                                 try clear c78
                                                 try clear c78b0
                                                 try clear c78b1
                                                 try clear c79
                                                 try clear c79b0
                                                 try clear c79b1
                                                 try clear c80
                                                 try clear c80b0
                                                 try clear c80b1
                                                 try clear c81
                                                 try clear c81b0
                                                 try clear c84
                                                 try clear c84b0
                                                 try clear c86
                                                 try clear c86b0
                                                 try clear c93
                                                 try clear hx209_0
                                                 try clear hx210_0
                                                 try clear hx211_0
                                                 try clear hx212_0
                                                 try clear hx213_0
                                                 try clear hx214_0
                                                 try clear hx215_0
                                                 try clear hx216_0
                                                 try clear hx217_0
                                                 try clear hx218_0
                                                 try clear hx219_0
                                                 try clear hx220_0
                                                 try clear hx221_0
                                                 try clear hx222_0
                                                 try clear hx223_0
                                                 try clear hx230_0
                                                 try clear hx231_0
                                                 try clear hx232_0
                                                 try clear p2
                                                 try clear p20
                                                 try clear p209
                                                 try clear p21
                                                 try clear p210
                                                 try clear p211
                                                 try clear p212
                                                 try clear p213
                                                 try clear p214
                                                 try clear p215
                                                 try clear p216
                                                 try clear p217
                                                 try clear p218
                                                 try clear p219
                                                 try clear p22
                                                 try clear p220
                                                 try clear p221
                                                 try clear p222
                                                 try clear p223
                                                 try clear p23
                                                 try clear p230
                                                 try clear p231
                                                 try clear p232
                                                 try clear p6
                                                 try clear p64
                                                 try clear q2
                                                 try clear q20
                                                 try clear q209
                                                 try clear q21
                                                 try clear q210
                                                 try clear q211
                                                 try clear q212
                                                 try clear q213
                                                 try clear q214
                                                 try clear q215
                                                 try clear q216
                                                 try clear q217
                                                 try clear q218
                                                 try clear q219
                                                 try clear q22
                                                 try clear q220
                                                 try clear q221
                                                 try clear q222
                                                 try clear q223
                                                 try clear q23
                                                 try clear q230
                                                 try clear q231
                                                 try clear q232
                                                 obtain ⟨x28_7, rfl, HA, HK7, HO_19, HO_21, HB⟩ := hrel
                                                 cases gk with
                                                 | zero => exact absurd HA.out (by simp [laws_FnStages.l2])
                                                 | succ k7 =>
                                                   have H := HA.out
                                                   clear HA
                                                   simp only [laws_FnStages.l2] at H
                                                   by_cases c94 : x28_7 < (t233.length : Int)
                                                   · as_aux_lemma =>
                                                      rw [if_pos c94] at H
                                                      have c94b0 : decide (x28_7 < (t233.length : Int)) = true := decide_eq_true c94
                                                      clear c94
                                                      have H' := Aside0.mk H
                                                      clear H
                                                      go_wp2
                                                      repeat (go_quiet (fail); try go_wp2)
                                                      go_loopg [29, 30, 31] k7 (fun kq v29 v30 v31 w' => ∃ (x29_8 : Int) (x30_8 : Int) (x31_8 : Int), v29 = .int .i64 x29_8 ∧ v30 = .int .i64 x30_8 ∧ v31 = .int .i64 x31_8 ∧ Aside0 (laws_FnStages.l3 kq t233 t237 x28_7 x29_8 x30_8 x31_8 = some r) ∧ Aside0 (kq ≤ k7) ∧ Aside0 (Kd.R k40 40 w' w.heap.size (fun k_ => some k_ ≠ (v239 : Value).ownBlock) (.slice Ao73 t233.length co73) t233) ∧ Aside0 (Kd.R k40 40 w' w.heap.size (fun k_ => some k_ ≠ ((.slice Ao73 t233.length co73) : Value).ownBlock) v239 t237) ∧ Aside0 (Below w.heap.size w w'))
                                                      case atStart => exact ⟨(0), (0), (0), (by first | rfl | (simp; done) | (simp [*]; done)), (by first | rfl | (simp; done) | (simp [*]; done)), (by first | rfl | (simp; done) | (simp [*]; done)), H', ⟨Nat.le_refl _⟩, ⟨by (with_reducible repeat (first | apply Kd.R_alloc | apply Kd.R_drewN | apply Kd.R_drew)); exact HO_19.out⟩, ⟨by (with_reducible repeat (first | apply Kd.R_alloc | apply Kd.R_drewN | apply Kd.R_drew)); exact HO_21.out⟩, ⟨by repeat (first | (with_reducible first | exact HB.out | apply below_alloc | apply pw_below_drewN | apply below_drew1) | exact HB.out)⟩⟩
                                                      case round =>
                                                        clear H'
                                                        try clear c1
                                                        try clear c2
                                                        try clear p2
                                                        try clear q2
                                                        try clear hx2
                                                        try clear qi2
                                                        try clear c3
                                                        try clear c4
                                                        try clear c5
                                                        try clear c6
                                                        try clear p6
                                                        try clear c7
                                                        try clear c8
                                                        try clear c9
                                                        try clear c15
                                                        try clear c15b0
                                                        try clear c16
                                                        try clear c17
                                                        try clear c17b0
                                                        try clear c17b1
                                                        try clear c18
                                                        try clear c20
                                                        try clear p20
                                                        try clear q20
                                                        try clear hx20
                                                        try clear c21
                                                        try clear p21
                                                        try clear q21
                                                        try clear hx21
                                                        try clear qi21
                                                        try clear c22
                                                        try clear p22
                                                        try clear q22
                                                        try clear hx22
                                                        try clear qi22
                                                        try clear p23
                                                        try clear q23
                                                        try clear hx23
                                                        try clear c28
                                                        try clear c28b0
                                                        try clear c30
                                                        try clear c31
                                                        try clear c32
                                                        try clear c33
                                                        try clear c33b0
                                                        try clear c35
                                                        try clear c35b0
                                                        try clear c35b1
                                                        try clear c36
                                                        try clear c36b0
                                                        try clear c44
                                                        try clear c44b0
                                                        try clear c45
                                                        try clear c45b0
                                                        try clear c46
                                                        try clear c46b0
                                                        try clear c46b1
                                                        try clear c47
                                                        try clear c47b0
                                                        try clear c47b1
                                                        try clear c48
                                                        try clear c48b0
                                                        try clear c48b1
                                                        try clear c49
                                                        try clear c54
                                                        try clear c54b0
                                                        try clear c55
                                                        try clear c55b0
                                                        try clear c56
                                                        try clear c56b0
                                                        try clear c58
                                                        try clear c58b0
                                                        try clear c63
                                                        try clear c63b0
                                                        try clear c63b1
                                                        try clear c64
                                                        try clear p64
                                                        try clear c76
                                                        try clear c76b0
                                                        try clear c76b1
                                                        try clear c77
                                                        try clear c77b0
                                                        try clear c77b1
                                                        try clear c77b2
                                                        try clear c78
                                                        try clear c78b0
                                                        try clear c78b1
                                                        try clear c79
                                                        try clear c79b0
                                                        try clear c79b1
                                                        try clear c80
                                                        try clear c80b0
                                                        try clear c80b1
                                                        try clear c81
                                                        try clear c81b0
                                                        try clear c84
                                                        try clear c84b0
                                                        try clear c86
                                                        try clear c86b0
                                                        try clear c93
                                                        try clear c94
                                                        try clear c94b0
                                                        try clear hx209_0
                                                        try clear hx210_0
                                                        try clear hx211_0
                                                        try clear hx212_0
                                                        try clear hx213_0
                                                        try clear hx214_0
                                                        try clear hx215_0
                                                        try clear hx216_0
                                                        try clear hx217_0
                                                        try clear hx218_0
                                                        try clear hx219_0
                                                        try clear hx220_0
                                                        try clear hx221_0
                                                        try clear hx222_0
                                                        try clear hx223_0
                                                        try clear hx230_0
                                                        try clear hx231_0
                                                        try clear hx232_0
                                                        try clear p2
                                                        try clear p20
                                                        try clear p209
                                                        try clear p21
                                                        try clear p210
                                                        try clear p211
                                                        try clear p212
                                                        try clear p213
                                                        try clear p214
                                                        try clear p215
                                                        try clear p216
                                                        try clear p217
                                                        try clear p218
                                                        try clear p219
                                                        try clear p22
                                                        try clear p220
                                                        try clear p221
                                                        try clear p222
                                                        try clear p223
                                                        try clear p23
                                                        try clear p230
                                                        try clear p231
                                                        try clear p232
                                                        try clear p6
                                                        try clear p64
                                                        try clear q2
                                                        try clear q20
                                                        try clear q209
                                                        try clear q21
                                                        try clear q210
                                                        try clear q211
                                                        try clear q212
                                                        try clear q213
                                                        try clear q214
                                                        try clear q215
                                                        try clear q216
                                                        try clear q217
                                                        try clear q218
                                                        try clear q219
                                                        try clear q22
                                                        try clear q220
                                                        try clear q221
                                                        try clear q222
                                                        try clear q223
                                                        try clear q23
                                                        try clear q230
                                                        try clear q231
                                                        try clear q232
                                                        obtain ⟨x29_8, x30_8, x31_8, rfl, rfl, rfl, HA, HK8, HO_19, HO_21, HB⟩ := hrel
                                                        cases gk with
                                                        | zero => exact absurd HA.out (by simp [laws_FnStages.l3])
                                                        | succ k8 =>
                                                          have H := HA.out
                                                          clear HA
                                                          simp only [laws_FnStages.l3] at H
                                                          by_cases c95 : x31_8 < (t233.length : Int)
                                                          · as_aux_lemma =>
                                                             rw [if_pos c95] at H
                                                             have c95b0 : decide (x31_8 < (t233.length : Int)) = true := decide_eq_true c95
                                                             clear c95
                                                             by_cases c96 : 0 ≤ x31_8
                                                             · as_aux_lemma =>
                                                                rw [if_pos c96] at H
                                                                have c96b0 : decide (0 ≤ x31_8) = true := decide_eq_true c96
                                                                clear c96
                                                                by_cases c97 : 0 ≤ x28_7
                                                                · as_aux_lemma =>
                                                                   rw [if_pos c97] at H
                                                                   have c97b0 : decide (0 ≤ x28_7) = true := decide_eq_true c97
                                                                   clear c97
                                                                   by_cases c98 : x28_7 < (t233.length : Int)
                                                                   · as_aux_lemma =>
                                                                      rw [if_pos c98] at H
                                                                      have c98b0 : decide (x28_7 < (t233.length : Int)) = true := decide_eq_true c98
                                                                      clear c98
                                                                      by_cases c99 : (((rd_T40 t233 x31_8).f0) == ((rd_T40 t233 x28_7).f0) && (((rd_T40 t233 x31_8).f1) == ((rd_T40 t233 x28_7).f1))) = true
                                                                      · as_aux_lemma =>
                                                                         rw [if_pos c99] at H
                                                                         have c99b0 : (((rd_T40 t233 x31_8).f0) == ((rd_T40 t233 x28_7).f0) && (((rd_T40 t233 x31_8).f1) == ((rd_T40 t233 x28_7).f1))) = true := c99
                                                                         (try (have c99b1 : decide (((rd_T40 t233 x31_8).f0) = ((rd_T40 t233 x28_7).f0) && (((rd_T40 t233 x31_8).f1) == ((rd_T40 t233 x28_7).f1))) = true := by simpa using c99))
                                                                         (try (have c99b2 : (((rd_T40 t233 x31_8).f0) == ((rd_T40 t233 x28_7).f0) && (((rd_T40 t233 x31_8).f1) == ((rd_T40 t233 x28_7).f1))) = true := by simpa using c99))
                                                                         clear c99
                                                                         by_cases c100 : x31_8 < (t237.length : Int)
                                                                         · as_aux_lemma =>
                                                                            rw [if_pos c100] at H
                                                                            have c100b0 : decide (x31_8 < (t237.length : Int)) = true := decide_eq_true c100
                                                                            clear c100
                                                                            by_cases c101 : (((rd_T40 t237 x31_8).f0) == ((rd_T40 t233 x28_7).f0) && (((rd_T40 t237 x31_8).f1) == ((rd_T40 t233 x28_7).f1))) = true
                                                                            · rw [if_pos c101] at H
                                                                              have c101b0 : (((rd_T40 t237 x31_8).f0) == ((rd_T40 t233 x28_7).f0) && (((rd_T40 t237 x31_8).f1) == ((rd_T40 t233 x28_7).f1))) = true := c101
                                                                              (try (have c101b1 : decide (((rd_T40 t237 x31_8).f0) = ((rd_T40 t233 x28_7).f0) && (((rd_T40 t237 x31_8).f1) == ((rd_T40 t233 x28_7).f1))) = true := by simpa using c101))
                                                                              (try (have c101b2 : (((rd_T40 t237 x31_8).f0) == ((rd_T40 t233 x28_7).f0) && (((rd_T40 t237 x31_8).f1) == ((rd_T40 t233 x28_7).f1))) = true := by simpa using c101))
                                                                              clear c101
                                                                              have H' := Aside0.mk H
                                                                              clear H
                                                                              have p248 : 0 ≤ (x31_8 : Int) := of_decide_eq_true (by first | (with_reducible assumption) | assumption)
                                                                              have q248 : x31_8 < (t233.length : Int) := of_decide_eq_true (by first | (with_reducible assumption) | assumption)
                                                                              obtain ⟨ad248, e248, hx248_0, hx248_1⟩ := at_T40 (Kd.R_reads' HO_19.out).2.2 x31_8 p248 q248
                                                                              cases e248
                                                                              replace p248 := eq_true p248
                                                                              replace q248 := eq_true q248
                                                                              have p249 : 0 ≤ (x28_7 : Int) := of_decide_eq_true (by first | (with_reducible assumption) | assumption)
                                                                              have q249 : x28_7 < (t233.length : Int) := of_decide_eq_true (by first | (with_reducible assumption) | assumption)
                                                                              obtain ⟨ad249, e249, hx249_0, hx249_1⟩ := at_T40 (Kd.R_reads' HO_19.out).2.2 x28_7 p249 q249
                                                                              obtain rfl : ad248 = ad249 := (by injection e249)
                                                                              replace p249 := eq_true p249
                                                                              replace q249 := eq_true q249
                                                                              obtain ⟨Ao102, co102, eo102⟩ := Kd.R_slice HO_21.out
                                                                              subst eo102
                                                                              have p250 : 0 ≤ (x31_8 : Int) := of_decide_eq_true (by first | (with_reducible assumption) | assumption)
                                                                              have q250 : x31_8 < (t237.length : Int) := of_decide_eq_true (by first | (with_reducible assumption) | assumption)
                                                                              obtain ⟨ad250, e250, hx250_0, hx250_1⟩ := at_T40 (Kd.R_reads' HO_21.out).2.2 x31_8 p250 q250
                                                                              cases e250
                                                                              replace p250 := eq_true p250
                                                                              replace q250 := eq_true q250
                                                                              have p251 : 0 ≤ (x28_7 : Int) := of_decide_eq_true (by first | (with_reducible assumption) | assumption)
                                                                              have q251 : x28_7 < (t233.length : Int) := of_decide_eq_true (by first | (with_reducible assumption) | assumption)
                                                                              obtain ⟨ad251, e251, hx251_0, hx251_1⟩ := at_T40 (Kd.R_reads' HO_19.out).2.2 x28_7 p251 q251
                                                                              obtain rfl : ad248 = ad251 := (by injection e251)
                                                                              replace p251 := eq_true p251
                                                                              replace q251 := eq_true q251
                                                                              go_wp2
                                                                              repeat (go_quiet (fail); try go_wp2)
                                                                              go_roundg k8
                                                                              case measure => have := HJ9.out; have := HK2.out; have := HJ40.out; have := HK4.out; have := HJ60.out; have := HJ70.out; have := HK7.out; have := HK8.out; omega
                                                                              case rel => exact ⟨(wrap64 (x29_8 + 1)), (wrap64 (x30_8 + 1)), (wrap64 (x31_8 + 1)), (by first | rfl | (simp; done) | (simp [*]; done)), (by first | rfl | (simp; done) | (simp [*]; done)), (by first | rfl | (simp; done) | (simp [*]; done)), H', ⟨by have := HJ9.out; have := HK2.out; have := HJ40.out; have := HK4.out; have := HJ60.out; have := HJ70.out; have := HK7.out; have := HK8.out; omega⟩, ⟨by (with_reducible repeat (first | apply Kd.R_alloc | apply Kd.R_drewN | apply Kd.R_drew)); exact HO_19.out⟩, ⟨by (with_reducible repeat (first | apply Kd.R_alloc | apply Kd.R_drewN | apply Kd.R_drew)); exact HO_21.out⟩, ⟨by repeat (first | (with_reducible first | exact HB.out | apply below_alloc | apply pw_below_drewN | apply below_drew1) | exact HB.out)⟩⟩
                                                                            · rw [if_neg c101] at H
                                                                              have c101b0 : (((rd_T40 t237 x31_8).f0) == ((rd_T40 t233 x28_7).f0) && (((rd_T40 t237 x31_8).f1) == ((rd_T40 t233 x28_7).f1))) = false := by simpa using c101
                                                                              (try (have c101b1 : decide (((rd_T40 t237 x31_8).f0) = ((rd_T40 t233 x28_7).f0) && (((rd_T40 t237 x31_8).f1) == ((rd_T40 t233 x28_7).f1))) = false := by simpa using c101))
                                                                              (try (have c101b2 : (((rd_T40 t237 x31_8).f0) == ((rd_T40 t233 x28_7).f0) && (((rd_T40 t237 x31_8).f1) == ((rd_T40 t233 x28_7).f1))) = false := by simpa using c101))
                                                                              (try (have c101b3 : ¬ (((rd_T40 t237 x31_8).f0) = ((rd_T40 t233 x28_7).f0) && (((rd_T40 t237 x31_8).f1) == ((rd_T40 t233 x28_7).f1))) := by simpa using c101))
                                                                              clear c101
                                                                              have H' := Aside0.mk H
                                                                              clear H
                                                                              have p248 : 0 ≤ (x31_8 : Int) := of_decide_eq_true (by first | (with_reducible assumption) | assumption)
                                                                              have q248 : x31_8 < (t233.length : Int) := of_decide_eq_true (by first | (with_reducible assumption) | assumption)
                                                                              obtain ⟨ad248, e248, hx248_0, hx248_1⟩ := at_T40 (Kd.R_reads' HO_19.out).2.2 x31_8 p248 q248
                                                                              cases e248
                                                                              replace p248 := eq_true p248
                                                                              replace q248 := eq_true q248
                                                                              have p249 : 0 ≤ (x28_7 : Int) := of_decide_eq_true (by first | (with_reducible assumption) | assumption)
                                                                              have q249 : x28_7 < (t233.length : Int) := of_decide_eq_true (by first | (with_reducible assumption) | assumption)
                                                                              obtain ⟨ad249, e249, hx249_0, hx249_1⟩ := at_T40 (Kd.R_reads' HO_19.out).2.2 x28_7 p249 q249
                                                                              obtain rfl : ad248 = ad249 := (by injection e249)
                                                                              replace p249 := eq_true p249
                                                                              replace q249 := eq_true q249
                                                                              obtain ⟨Ao103, co103, eo103⟩ := Kd.R_slice HO_21.out
                                                                              subst eo103
                                                                              have p250 : 0 ≤ (x31_8 : Int) := of_decide_eq_true (by first | (with_reducible assumption) | assumption)
                                                                              have q250 : x31_8 < (t237.length : Int) := of_decide_eq_true (by first | (with_reducible assumption) | assumption)
                                                                              obtain ⟨ad250, e250, hx250_0, hx250_1⟩ := at_T40 (Kd.R_reads' HO_21.out).2.2 x31_8 p250 q250
                                                                              cases e250
                                                                              replace p250 := eq_true p250
                                                                              replace q250 := eq_true q250
                                                                              have p251 : 0 ≤ (x28_7 : Int) := of_decide_eq_true (by first | (with_reducible assumption) | assumption)
                                                                              have q251 : x28_7 < (t233.length : Int) := of_decide_eq_true (by first | (with_reducible assumption) | assumption)
                                                                              obtain ⟨ad251, e251, hx251_0, hx251_1⟩ := at_T40 (Kd.R_reads' HO_19.out).2.2 x28_7 p251 q251
                                                                              obtain rfl : ad248 = ad251 := (by injection e251)
                                                                              replace p251 := eq_true p251
                                                                              replace q251 := eq_true q251
                                                                              go_wp2
                                                                              repeat (go_quiet (fail); try go_wp2)
                                                                              go_roundg k8
                                                                              case measure => have := HJ9.out; have := HK2.out; have := HJ40.out; have := HK4.out; have := HJ60.out; have := HJ70.out; have := HK7.out; have := HK8.out; omega
                                                                              case rel => exact ⟨(wrap64 (x29_8 + 1)), (x30_8), (wrap64 (x31_8 + 1)), (by first | rfl | (simp; done) | (simp [*]; done)), (by first | rfl | (simp; done) | (simp [*]; done)), (by first | rfl | (simp; done) | (simp [*]; done)), H', ⟨by have := HJ9.out; have := HK2.out; have := HJ40.out; have := HK4.out; have := HJ60.out; have := HJ70.out; have := HK7.out; have := HK8.out; omega⟩, ⟨by (with_reducible repeat (first | apply Kd.R_alloc | apply Kd.R_drewN | apply Kd.R_drew)); exact HO_19.out⟩, ⟨by (with_reducible repeat (first | apply Kd.R_alloc | apply Kd.R_drewN | apply Kd.R_drew)); exact HO_21.out⟩, ⟨by repeat (first | (with_reducible first | exact HB.out | apply below_alloc | apply pw_below_drewN | apply below_drew1) | exact HB.out)⟩⟩
                                                                         · rw [if_neg c100] at H
                                                                           exact absurd H (by simp)
                                                                      · as_aux_lemma =>
                                                                         rw [if_neg c99] at H
                                                                         have c99b0 : (((rd_T40 t233 x31_8).f0) == ((rd_T40 t233 x28_7).f0) && (((rd_T40 t233 x31_8).f1) == ((rd_T40 t233 x28_7).f1))) = false := by simpa using c99
                                                                         (try (have c99b1 : decide (((rd_T40 t233 x31_8).f0) = ((rd_T40 t233 x28_7).f0) && (((rd_T40 t233 x31_8).f1) == ((rd_T40 t233 x28_7).f1))) = false := by simpa using c99))
                                                                         (try (have c99b2 : (((rd_T40 t233 x31_8).f0) == ((rd_T40 t233 x28_7).f0) && (((rd_T40 t233 x31_8).f1) == ((rd_T40 t233 x28_7).f1))) = false := by simpa using c99))
                                                                         (try (have c99b3 : ¬ (((rd_T40 t233 x31_8).f0) = ((rd_T40 t233 x28_7).f0) && (((rd_T40 t233 x31_8).f1) == ((rd_T40 t233 x28_7).f1))) := by simpa using c99))
                                                                         clear c99
                                                                         by_cases c104 : x31_8 < (t237.length : Int)
                                                                         · as_aux_lemma =>
                                                                            rw [if_pos c104] at H
                                                                            have c104b0 : decide (x31_8 < (t237.length : Int)) = true := decide_eq_true c104
                                                                            clear c104
                                                                            by_cases c105 : (((rd_T40 t237 x31_8).f0) == ((rd_T40 t233 x28_7).f0) && (((rd_T40 t237 x31_8).f1) == ((rd_T40 t233 x28_7).f1))) = true
                                                                            · rw [if_pos c105] at H
                                                                              have c105b0 : (((rd_T40 t237 x31_8).f0) == ((rd_T40 t233 x28_7).f0) && (((rd_T40 t237 x31_8).f1) == ((rd_T40 t233 x28_7).f1))) = true := c105
                                                                              (try (have c105b1 : decide (((rd_T40 t237 x31_8).f0) = ((rd_T40 t233 x28_7).f0) && (((rd_T40 t237 x31_8).f1) == ((rd_T40 t233 x28_7).f1))) = true := by simpa using c105))
                                                                              (try (have c105b2 : (((rd_T40 t237 x31_8).f0) == ((rd_T40 t233 x28_7).f0) && (((rd_T40 t237 x31_8).f1) == ((rd_T40 t233 x28_7).f1))) = true := by simpa using c105))
                                                                              clear c105
                                                                              have H' := Aside0.mk H
                                                                              clear H
                                                                              have p248 : 0 ≤ (x31_8 : Int) := of_decide_eq_true (by first | (with_reducible assumption) | assumption)
                                                                              have q248 : x31_8 < (t233.length : Int) := of_decide_eq_true (by first | (with_reducible assumption) | assumption)
                                                                              obtain ⟨ad248, e248, hx248_0, hx248_1⟩ := at_T40 (Kd.R_reads' HO_19.out).2.2 x31_8 p248 q248
                                                                              cases e248
                                                                              replace p248 := eq_true p248
                                                                              replace q248 := eq_true q248
                                                                              have p249 : 0 ≤ (x28_7 : Int) := of_decide_eq_true (by first | (with_reducible assumption) | assumption)
                                                                              have q249 : x28_7 < (t233.length : Int) := of_decide_eq_true (by first | (with_reducible assumption) | assumption)
                                                                              obtain ⟨ad249, e249, hx249_0, hx249_1⟩ := at_T40 (Kd.R_reads' HO_19.out).2.2 x28_7 p249 q249
                                                                              obtain rfl : ad248 = ad249 := (by injection e249)
                                                                              replace p249 := eq_true p249
                                                                              replace q249 := eq_true q249
                                                                              obtain ⟨Ao106, co106, eo106⟩ := Kd.R_slice HO_21.out
                                                                              subst eo106
                                                                              have p252 : 0 ≤ (x31_8 : Int) := of_decide_eq_true (by first | (with_reducible assumption) | assumption)
                                                                              have q252 : x31_8 < (t237.length : Int) := of_decide_eq_true (by first | (with_reducible assumption) | assumption)
                                                                              obtain ⟨ad252, e252, hx252_0, hx252_1⟩ := at_T40 (Kd.R_reads' HO_21.out).2.2 x31_8 p252 q252
                                                                              cases e252
                                                                              replace p252 := eq_true p252
                                                                              replace q252 := eq_true q252
                                                                              have p253 : 0 ≤ (x28_7 : Int) := of_decide_eq_true (by first | (with_reducible assumption) | assumption)
                                                                              have q253 : x28_7 < (t233.length : Int) := of_decide_eq_true (by first | (with_reducible assumption) | assumption)
                                                                              obtain ⟨ad253, e253, hx253_0, hx253_1⟩ := at_T40 (Kd.R_reads' HO_19.out).2.2 x28_7 p253 q253
                                                                              obtain rfl : ad248 = ad253 := (by injection e253)
                                                                              replace p253 := eq_true p253
                                                                              replace q253 := eq_true q253
                                                                              go_wp2
                                                                              repeat (go_quiet (fail); try go_wp2)
                                                                              go_roundg k8
                                                                              case measure => have := HJ9.out; have := HK2.out; have := HJ40.out; have := HK4.out; have := HJ60.out; have := HJ70.out; have := HK7.out; have := HK8.out; omega
                                                                              case rel => exact ⟨(x29_8), (wrap64 (x30_8 + 1)), (wrap64 (x31_8 + 1)), (by first | rfl | (simp; done) | (simp [*]; done)), (by first | rfl | (simp; done) | (simp [*]; done)), (by first | rfl | (simp; done) | (simp [*]; done)), H', ⟨by have := HJ9.out; have := HK2.out; have := HJ40.out; have := HK4.out; have := HJ60.out; have := HJ70.out; have := HK7.out; have := HK8.out; omega⟩, ⟨by (with_reducible repeat (first | apply Kd.R_alloc | apply Kd.R_drewN | apply Kd.R_drew)); exact HO_19.out⟩, ⟨by (with_reducible repeat (first | apply Kd.R_alloc | apply Kd.R_drewN | apply Kd.R_drew)); exact HO_21.out⟩, ⟨by repeat (first | (with_reducible first | exact HB.out | apply below_alloc | apply pw_below_drewN | apply below_drew1) | exact HB.out)⟩⟩
                                                                            · rw [if_neg c105] at H
                                                                              have c105b0 : (((rd_T40 t237 x31_8).f0) == ((rd_T40 t233 x28_7).f0) && (((rd_T40 t237 x31_8).f1) == ((rd_T40 t233 x28_7).f1))) = false := by simpa using c105
                                                                              (try (have c105b1 : decide (((rd_T40 t237 x31_8).f0) = ((rd_T40 t233 x28_7).f0) && (((rd_T40 t237 x31_8).f1) == ((rd_T40 t233 x28_7).f1))) = false := by simpa using c105))
                                                                              (try (have c105b2 : (((rd_T40 t237 x31_8).f0) == ((rd_T40 t233 x28_7).f0) && (((rd_T40 t237 x31_8).f1) == ((rd_T40 t233 x28_7).f1))) = false := by simpa using c105))
                                                                              (try (have c105b3 : ¬ (((rd_T40 t237 x31_8).f0) = ((rd_T40 t233 x28_7).f0) && (((rd_T40 t237 x31_8).f1) == ((rd_T40 t233 x28_7).f1))) := by simpa using c105))
                                                                              clear c105
                                                                              have H' := Aside0.mk H
                                                                              clear H
                                                                              have p248 : 0 ≤ (x31_8 : Int) := of_decide_eq_true (by first | (with_reducible assumption) | assumption)
                                                                              have q248 : x31_8 < (t233.length : Int) := of_decide_eq_true (by first | (with_reducible assumption) | assumption)
                                                                              obtain ⟨ad248, e248, hx248_0, hx248_1⟩ := at_T40 (Kd.R_reads' HO_19.out).2.2 x31_8 p248 q248
                                                                              cases e248
                                                                              replace p248 := eq_true p248
                                                                              replace q248 := eq_true q248
                                                                              have p249 : 0 ≤ (x28_7 : Int) := of_decide_eq_true (by first | (with_reducible assumption) | assumption)
                                                                              have q249 : x28_7 < (t233.length : Int) := of_decide_eq_true (by first | (with_reducible assumption) | assumption)
                                                                              obtain ⟨ad249, e249, hx249_0, hx249_1⟩ := at_T40 (Kd.R_reads' HO_19.out).2.2 x28_7 p249 q249
                                                                              obtain rfl : ad248 = ad249 := (by injection e249)
                                                                              replace p249 := eq_true p249
                                                                              replace q249 := eq_true q249
                                                                              obtain ⟨Ao107, co107, eo107⟩ := Kd.R_slice HO_21.out
                                                                              subst eo107
                                                                              have p252 : 0 ≤ (x31_8 : Int) := of_decide_eq_true (by first | (with_reducible assumption) | assumption)
                                                                              have q252 : x31_8 < (t237.length : Int) := of_decide_eq_true (by first | (with_reducible assumption) | assumption)
                                                                              obtain ⟨ad252, e252, hx252_0, hx252_1⟩ := at_T40 (Kd.R_reads' HO_21.out).2.2 x31_8 p252 q252
                                                                              cases e252
                                                                              replace p252 := eq_true p252
                                                                              replace q252 := eq_true q252
                                                                              have p253 : 0 ≤ (x28_7 : Int) := of_decide_eq_true (by first | (with_reducible assumption) | assumption)
                                                                              have q253 : x28_7 < (t233.length : Int) := of_decide_eq_true (by first | (with_reducible assumption) | assumption)
                                                                              obtain ⟨ad253, e253, hx253_0, hx253_1⟩ := at_T40 (Kd.R_reads' HO_19.out).2.2 x28_7 p253 q253
                                                                              obtain rfl : ad248 = ad253 := (by injection e253)
                                                                              replace p253 := eq_true p253
                                                                              replace q253 := eq_true q253
                                                                              go_wp2
                                                                              repeat (go_quiet (fail); try go_wp2)
                                                                              go_roundg k8
                                                                              case measure => have := HJ9.out; have := HK2.out; have := HJ40.out; have := HK4.out; have := HJ60.out; have := HJ70.out; have := HK7.out; have := HK8.out; omega
                                                                              case rel => exact ⟨(x29_8), (x30_8), (wrap64 (x31_8 + 1)), (by first | rfl | (simp; done) | (simp [*]; done)), (by first | rfl | (simp; done) | (simp [*]; done)), (by first | rfl | (simp; done) | (simp [*]; done)), H', ⟨by have := HJ9.out; have := HK2.out; have := HJ40.out; have := HK4.out; have := HJ60.out; have := HJ70.out; have := HK7.out; have := HK8.out; omega⟩, ⟨by (with_reducible repeat (first | apply Kd.R_alloc | apply Kd.R_drewN | apply Kd.R_drew)); exact HO_19.out⟩, ⟨by (with_reducible repeat (first | apply Kd.R_alloc | apply Kd.R_drewN | apply Kd.R_drew)); exact HO_21.out⟩, ⟨by repeat (first | (with_reducible first | exact HB.out | apply below_alloc | apply pw_below_drewN | apply below_drew1) | exact HB.out)⟩⟩
                                                                         · rw [if_neg c104] at H
                                                                           exact absurd H (by simp)
                                                                   · rw [if_neg c98] at H
                                                                     exact absurd H (by simp)
                                                                · rw [if_neg c97] at H
                                                                  exact absurd H (by simp)
                                                             · rw [if_neg c96] at H
                                                               exact absurd H (by simp)
                                                          · rw [if_neg c95] at H
                                                            have c95b0 : decide (x31_8 < (t233.length : Int)) = false := decide_eq_false c95
                                                            clear c95
                                                            by_cases c108 : x29_8 = x30_8
                                                            · rw [if_pos c108] at H
                                                              have c108b0 : (x29_8 == x30_8) = true := beq_iff_eq.mpr c108
                                                              have c108b1 : (x29_8 != x30_8) = false := bne_eq_false_iff_eq.mpr c108
                                                              clear c108
                                                              have H' := Aside0.mk H
                                                              clear H
                                                              go_wp2
                                                              repeat (go_quiet (fail); try go_wp2)
                                                              go_roundg k8
                                                              case measure => have := HJ9.out; have := HK2.out; have := HJ40.out; have := HK4.out; have := HJ60.out; have := HJ70.out; have := HK7.out; have := HK8.out; omega
                                                              case rel => exact ⟨(wrap64 (x28_7 + 1)), (by first | rfl | (simp; done) | (simp [*]; done)), H', ⟨by have := HJ9.out; have := HK2.out; have := HJ40.out; have := HK4.out; have := HJ60.out; have := HJ70.out; have := HK7.out; have := HK8.out; omega⟩, ⟨by (with_reducible repeat (first | apply Kd.R_alloc | apply Kd.R_drewN | apply Kd.R_drew)); exact HO_19.out⟩, ⟨by (with_reducible repeat (first | apply Kd.R_alloc | apply Kd.R_drewN | apply Kd.R_drew)); exact HO_21.out⟩, ⟨by repeat (first | (with_reducible first | exact HB.out | apply below_alloc | apply pw_below_drewN | apply below_drew1) | exact HB.out)⟩⟩
                                                            · rw [if_neg c108] at H
                                                              have c108b0 : (x29_8 == x30_8) = false := beq_eq_false_iff_ne.mpr c108
                                                              have c108b1 : (x29_8 != x30_8) = true := bne_iff_ne.mpr c108
                                                              obtain rfl := Option.some.inj H
                                                              go_wp2
                                                              repeat (go_quiet (fail); try go_wp2)
                                                              go_ret
                                                              exact ⟨by first | rfl | (simp [errW_none, errW_some] <;> rfl) | (simp [*, errW_none, errW_some] <;> rfl), by repeat (first | (with_reducible first | exact HB.out | apply below_alloc | apply pw_below_drewN | apply below_drew1) | exact HB.out)⟩
                                                   · rw [if_neg c94] at H
                                                     have c94b0 : decide (x28_7 < (t233.length : Int)) = false := decide_eq_false c94
                                                     clear c94
                                                     obtain rfl := Option.some.inj H
                                                     go_wp2
                                                     repeat (go_quiet (fail); try go_wp2)
                                                     go_ret
                                                     exact ⟨by first | rfl | (simp [errW_none, errW_some] <;> rfl) | (simp [*, errW_none, errW_some] <;> rfl), by repeat (first | (with_reducible first | exact HB.out | apply below_alloc | apply pw_below_drewN | apply below_drew1) | exact HB.out)⟩

/-- THE ONE PURE STATEMENT of laws_FnStages: yours. -/
def laws_FnStages.Pure : Prop := ∀ (l0 : List Int) (l1 : List Int), (l0.length ≤ maxLen ∧ ∀ y0 ∈ l0, (Lit.int .u8 y0).wf = true) → (l1.length ≤ maxLen ∧ ∀ y0 ∈ l1, (Lit.int .u8 y0).wf = true) → ∃ k, laws_FnStages.f k l0 l1 = some true
theorem laws_FnStages.walk (P : laws_FnStages.Pure) (A0 : Option Addr) (c0 : Nat) (l0 : List Int) (A1 : Option Addr) (c1 : Nat) (l1 : List Int) (w : World) (hr0 : Kd.C (Kd.int .u8) w A0 l0.length l0) (hc0 : l0.length ≤ c0) (hr1 : Kd.C (Kd.int .u8) w A1 l1.length l1) (hc1 : l1.length ≤ c1) (hk0 : (l0.length ≤ maxLen ∧ ∀ y0 ∈ l0, (Lit.int .u8 y0).wf = true)) (hk1 : (l1.length ≤ maxLen ∧ ∀ y0 ∈ l1, (Lit.int .u8 y0).wf = true)) :
    Calls Try.prog 3 #[.slice A0 l0.length c0, .slice A1 l1.length c1] w fun e w' => e = .returned (.bool true) ∧ Below w.heap.size w w' := by
  obtain ⟨k, h⟩ := P l0 l1 hk0 hk1
  refine (laws_FnStages.calls k _ _ l0 _ _ l1 true w hr0 hc0 hr1 hc1 h).mono ?_
  rintro e w' ⟨rfl, hd⟩
  exact ⟨rfl, hd⟩

end Go.Proofs.Ytomeeimjlagbbaa.PS
