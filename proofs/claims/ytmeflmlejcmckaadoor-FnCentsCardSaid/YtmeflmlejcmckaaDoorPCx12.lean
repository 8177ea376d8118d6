-- WRITTEN BY wip/gprint.py, a program of this session's over the kit's print, with contracts given by hand
import Derived.Test.YtmeflmlejcmckaaDoorPCx0
import Derived.Test.YtmeflmlejcmckaaDoorPCx1
import Derived.Test.YtmeflmlejcmckaaDoorPCx2
import Derived.Test.YtmeflmlejcmckaaDoorPCx3
namespace Go.Proofs.YtmeflmlejcmckaaDoor.PC
open Go.RowKit Go.Proofs.YtmeflmlejcmckaaDoorW.PrintWords Go.Proofs.YtmeflmlejcmckaaDoorW.PrintLast Go.Proofs.YtmeflmlejcmckaaDoorW.PrintMore
attribute [local go_sem] max2_int min2_int max_two min_two max_three min_three max_four min_four   -- for this text's walks alone
set_option linter.unusedVariables false
set_option linter.unusedSimpArgs false

attribute [local go_sem] isSome_setCell
/-! ### spec_ValidRatio: function 42 -/
def spec_ValidRatio.f (k : Nat) (a0_0 : Int) (a0_1 : Int) : Option (Bool) := (spec_l02Ok.f k [(⟨a0_0, a0_1⟩ : S52)]).bind fun t273 => (some t273)
theorem spec_ValidRatio.mono : ∀ a0 a1 k, LeO (spec_ValidRatio.f k a0 a1) (spec_ValidRatio.f (k + 1) a0 a1) := by
 intro a0 a1 k
 unfold spec_ValidRatio.f
 repeat' first
  | (with_reducible exact spec_l02Ok.mono _ _)
  | (with_reducible exact LeO.refl _)
  | (with_reducible exact LeO.none _)
  | (with_reducible refine LeO.ite ?_ ?_)
  | (with_reducible refine LeO.bind ?_ (fun _ => ?_))
  | exact spec_l02Ok.mono _ _
  | exact LeO.none _
  | refine LeO.ite ?_ ?_
  | refine LeO.bind ?_ (fun _ => ?_)
set_option maxHeartbeats 8000000 in
set_option maxRecDepth 100000 in
theorem spec_ValidRatio.calls (k : Nat) (a0_0 : Int) (a0_1 : Int) (r : Bool) (w : World) (h : spec_ValidRatio.f k a0_0 a0_1 = some r) :
 Calls Tryd.prog 42 #[.agg #[.int .i64 a0_0, .int .i64 a0_1]] w fun e w' => e = .returned (.bool r) ∧ Below w.heap.size w w' := by
 have hu52 := Tryd.underlying52
 have HB := Aside0.mk (Below.refl w.heap.size w)
 have H : ((spec_l02Ok.f k [(⟨a0_0, a0_1⟩ : S52)]).bind fun t273 => (some t273)) = some r := h
 clear h
 replace H := Option.bind_eq_some_iff.mp H
 obtain ⟨t273, A20, H⟩ := H
 replace H : (some t273) = some r := H
 have A2 := Aside0.mk A20
 clear A20
 obtain rfl := Option.some.inj H
 go_enter Tryd.func42, Tryd.ntmps42
 go_wp2_with (first | ((with_reducible refine gate_dst (N := 1) rfl ?_); refine box_event ?hg (N := 1) ?hd (cs := #[.int .i64 a0_0, .int .i64 a0_1]) (t := 52) ?hr ?_; (case hd => rfl); (case hg => rfl); (case hr => first | (go_simp; done) | (go_simp; rfl)); intro gb272 hg w3 hbox hb; have BK272 := Aside0.mk (hbox); have GW272 := Aside0.mk ((by rw [hg]; exact (below_size (tH HB)) : w.heap.size ≤ gb272)); have GE272 := Aside0.mk ((by rw [hg]; exact (below_size (tH HB)) : w.heap.size ≤ gb272)); replace HB := Aside0.mk (below_step (tH HB) hb); clear hb hbox hg) | ((with_reducible refine gate_callee (f := 117) rfl ?_); refine gL_ (some 3) rfl rfl Tryd.func117 #[.pointer (some ⟨gb272, 0, none⟩)] rfl ?_; (with_reducible refine (spec_l02Ok.calls k _ [(⟨a0_0, a0_1⟩ : S52)] t273 _ ?side1 ?side2 A2.out).mono ?_); (case side1 => exact Kd.C_box (t := 52) (k52_mk _ _ ) (tB BK272)); (case side2 => exact Nat.one_pos); rintro e w' ⟨rfl, ⟨nd, rfl⟩⟩; refine ⟨_, rfl, ?_⟩))
 go_ret
 exact ⟨tE, tH1 HB GE272.out⟩

/-! ### laws_b10At: function 43 -/
def laws_b10At.f (l0 : List Int) (a1 : Int) (a2 : Int) : Option (Int) := if a2 ≤ 1 then (some 0) else (if a1 < (l0.length : Int) then (if 0 ≤ a1 then (if a2 = 0 then (none) else (some (Int.tmod (wrap64 (rd l0 a1)) a2))) else (none)) else (if a2 = 0 then (none) else (some (Int.tmod (wrap64 ((wrap64 (a1 * 37)) + 11)) a2))))
set_option maxHeartbeats 8000000 in
set_option maxRecDepth 100000 in
theorem laws_b10At.calls (A0 : Option Addr) (c0 : Nat) (l0 : List Int) (a1 : Int) (a2 : Int) (r : Int) (w : World) (hr0 : Kd.C (Kd.int .u8) w A0 l0.length l0) (hc0 : l0.length ≤ c0) (h : laws_b10At.f l0 a1 a2 = some r) :
 Calls Tryd.prog 43 #[.slice A0 l0.length c0, .int .i64 a1, .int .i64 a2] w fun e w' => e = .returned (.int .i64 r) ∧ Drawn0 w w' := by
 have HR0 := Aside0.mk hr0
 have HC0 := Aside0.mk hc0
 clear hr0 hc0
 have H : (if a2 ≤ 1 then (some 0) else (if a1 < (l0.length : Int) then (if 0 ≤ a1 then (if a2 = 0 then (none) else (some (Int.tmod (wrap64 (rd l0 a1)) a2))) else (none)) else (if a2 = 0 then (none) else (some (Int.tmod (wrap64 ((wrap64 (a1 * 37)) + 11)) a2))))) = some r := h
 clear h
 by_cases c4 : a2 ≤ 1
 · rw [if_pos c4] at H
   have c4b0 : decide (a2 ≤ 1) = true := decide_eq_true c4
   clear c4
   obtain rfl := Option.some.inj H
   go_enter Tryd.func43, Tryd.ntmps43
   go_wp2
   go_ret
   exact ⟨by first | rfl | (simp; done) | (simp [*]; done), tZ⟩
 rw [if_neg c4] at H
 have c4b0 : decide (a2 ≤ 1) = false := decide_eq_false c4
 clear c4
 by_cases c5 : a1 < (l0.length : Int)
 · rw [if_pos c5] at H
   have c5b0 : decide (a1 < (l0.length : Int)) = true := decide_eq_true c5
   clear c5
   by_cases c6 : 0 ≤ a1
   · rw [if_pos c6] at H
     have c6b0 : decide (0 ≤ a1) = true := decide_eq_true c6
     clear c6
     by_cases c7 : a2 = 0
     · rw [if_pos c7] at H
       exact absurd H (by simp)
     rw [if_neg c7] at H
     have c7b0 : (a2 == 0) = false := beq_eq_false_iff_ne.mpr c7
     have c7b1 : (a2 != 0) = true := bne_iff_ne.mpr c7
     obtain rfl := Option.some.inj H
     have p274 : 0 ≤ (a1 : Int) := of_decide_eq_true tA
     have q274 : a1 < (l0.length : Int) := of_decide_eq_true tA
     obtain ⟨ad274, e274, hx274_0⟩ := Kd.at_int HR0.out a1 p274 q274
     cases e274
     replace p274 := eq_true p274
     replace q274 := eq_true q274
     go_enter Tryd.func43, Tryd.ntmps43
     go_wp2
     go_ret
     exact ⟨by first | rfl | (simp; done) | (simp [*]; done), tZ⟩
   rw [if_neg c6] at H
   exact absurd H (by simp)
 rw [if_neg c5] at H
 have c5b0 : decide (a1 < (l0.length : Int)) = false := decide_eq_false c5
 clear c5
 by_cases c8 : a2 = 0
 · rw [if_pos c8] at H
   exact absurd H (by simp)
 rw [if_neg c8] at H
 have c8b0 : (a2 == 0) = false := beq_eq_false_iff_ne.mpr c8
 have c8b1 : (a2 != 0) = true := bne_iff_ne.mpr c8
 obtain rfl := Option.some.inj H
 go_enter Tryd.func43, Tryd.ntmps43
 go_wp2
 go_ret
 exact ⟨by first | rfl | (simp; done) | (simp [*]; done), tZ⟩

/-! ### spec_ReduceRatio: function 44 -/
def spec_ReduceRatio.f (k : Nat) (a0 : Int) (a1 : Int) : Option (Int × Int × Int) := (spec_l00In.f a0 1 1000000000000).bind fun t276 => (if t276 = true then ((spec_l00In.f a1 1 1000000000000).bind fun t277 => (if t277 = true then ((spec_l02Done.f k a0 a1).bind fun bt278 => (some (bt278.1, bt278.2.1, bt278.2.2))) else (some (0, 0, 2)))) else (some (0, 0, 2)))
theorem spec_ReduceRatio.mono : ∀ a0 a1 k, LeO (spec_ReduceRatio.f k a0 a1) (spec_ReduceRatio.f (k + 1) a0 a1) := by
 intro a0 a1 k
 unfold spec_ReduceRatio.f
 repeat' first
  | (with_reducible exact spec_l02Done.mono _ _ _)
  | (with_reducible exact LeO.refl _)
  | (with_reducible exact LeO.none _)
  | (with_reducible refine LeO.ite ?_ ?_)
  | (with_reducible refine LeO.bind ?_ (fun _ => ?_))
  | exact spec_l02Done.mono _ _ _
  | exact LeO.none _
  | refine LeO.ite ?_ ?_
  | refine LeO.bind ?_ (fun _ => ?_)
set_option maxHeartbeats 8000000 in
set_option maxRecDepth 100000 in
theorem spec_ReduceRatio.calls (k : Nat) (a0 : Int) (a1 : Int) (r1 : Int) (r2 : Int) (r3 : Int) (w : World) (h : spec_ReduceRatio.f k a0 a1 = some (r1, r2, r3)) :
 Calls Tryd.prog 44 #[.int .i64 a0, .int .i64 a1] w fun e w' => e = .returned (.tuple #[.agg #[.int .i64 r1, .int .i64 r2], .int .i64 r3]) ∧ Below w.heap.size w w' := by
 have hu52 := Tryd.underlying52
 have HB := Aside0.mk (Below.refl w.heap.size w)
 have H : ((spec_l00In.f a0 1 1000000000000).bind fun t276 => (if t276 = true then ((spec_l00In.f a1 1 1000000000000).bind fun t277 => (if t277 = true then ((spec_l02Done.f k a0 a1).bind fun bt278 => (some (bt278.1, bt278.2.1, bt278.2.2))) else (some (0, 0, 2)))) else (some (0, 0, 2)))) = some (r1, r2, r3) := h
 clear h
 replace H := Option.bind_eq_some_iff.mp H
 obtain ⟨t276, A30, H⟩ := H
 replace H : (if t276 = true then ((spec_l00In.f a1 1 1000000000000).bind fun t277 => (if t277 = true then ((spec_l02Done.f k a0 a1).bind fun bt278 => (some (bt278.1, bt278.2.1, bt278.2.2))) else (some (0, 0, 2)))) else (some (0, 0, 2))) = some (r1, r2, r3) := H
 have A3 := Aside0.mk A30
 clear A30
 by_cases c4 : t276 = true
 · subst c4
   have H1 : ((spec_l00In.f a1 1 1000000000000).bind fun t277 => (if t277 = true then ((spec_l02Done.f k a0 a1).bind fun bt278 => (some (bt278.1, bt278.2.1, bt278.2.2))) else (some (0, 0, 2)))) = some (r1, r2, r3) := by rw [if_pos rfl] at H; exact H
   clear H
   have H := H1
   clear H1
   replace H := Option.bind_eq_some_iff.mp H
   obtain ⟨t277, A50, H⟩ := H
   replace H : (if t277 = true then ((spec_l02Done.f k a0 a1).bind fun bt278 => (some (bt278.1, bt278.2.1, bt278.2.2))) else (some (0, 0, 2))) = some (r1, r2, r3) := H
   have A5 := Aside0.mk A50
   clear A50
   by_cases c6 : t277 = true
   · subst c6
     have H1 : ((spec_l02Done.f k a0 a1).bind fun bt278 => (some (bt278.1, bt278.2.1, bt278.2.2))) = some (r1, r2, r3) := by rw [if_pos rfl] at H; exact H
     clear H
     have H := H1
     clear H1
     replace H := Option.bind_eq_some_iff.mp H
     obtain ⟨⟨t278, t279, t280⟩, A70, H⟩ := H
     replace H : (some (t278, t279, t280)) = some (r1, r2, r3) := H
     have A7 := Aside0.mk A70
     clear A70
     simp only [Option.some.injEq, Prod.mk.injEq] at H
     obtain ⟨rfl, rfl, rfl⟩ := H
     go_enter Tryd.func44, Tryd.ntmps44
     go_wp2_with (first | ((with_reducible refine gate_dst (N := 4) rfl ?_); refine box_event ?hg (N := 4) ?hd (cs := #[.int .i64 0, .int .i64 0]) (t := 52) ?hr ?_; (case hd => rfl); (case hg => rfl); (case hr => first | (go_simp; done) | (go_simp; rfl)); intro gb275 hg w8 hbox hb; have BK275 := Aside0.mk (hbox); have GW275 := Aside0.mk ((by rw [hg]; exact (below_size (tH HB)) : w.heap.size ≤ gb275)); have GE275 := Aside0.mk ((by rw [hg]; exact (below_size (tH HB)) : w.heap.size ≤ gb275)); replace HB := Aside0.mk (below_step (tH HB) hb); clear hb hbox hg) | ((with_reducible refine gate_callee (f := 118) rfl ?_); refine gL_ (some 7) rfl rfl Tryd.func118 #[.int .i64 a0, .int .i64 1, .int .i64 1000000000000] rfl ?_; (with_reducible refine (spec_l00In.calls a0 1 1000000000000 true _ A3.out).mono ?_); rintro e w' ⟨rfl, ⟨nd, rfl⟩⟩; refine ⟨_, rfl, ?_⟩; (try (rw [drewN_self w8]; generalize hq_ : World.drewN w8 _ = w8; have n0_ : Aside0 (w8.heap[gb275]? = some (.cells #[.int .i64 0, .int .i64 0] 52 (0, 0))) := ⟨by rw [← hq_]; exact (tB BK275)⟩; have n1_ : Aside0 (Below w.heap.size w w8) := ⟨by rw [← hq_]; exact (tH1 HB GE275.out)⟩; clear BK275 HB hq_; have BK275 := n0_; have HB := n1_; clear n0_ n1_))) | (go_at_call 118; (with_reducible refine (spec_l00In.calls a1 1 1000000000000 true _ A5.out).mono ?_); rintro e w' ⟨rfl, ⟨nd, rfl⟩⟩; (try (rw [drewN_self w8]; generalize hq_ : World.drewN w8 _ = w8; have n0_ : Aside0 (w8.heap[gb275]? = some (.cells #[.int .i64 0, .int .i64 0] 52 (0, 0))) := ⟨by rw [← hq_]; exact (tB BK275)⟩; have n1_ : Aside0 (Below w.heap.size w w8) := ⟨by rw [← hq_]; exact (tH1 HB GE275.out)⟩; clear BK275 HB hq_; have BK275 := n0_; have HB := n1_; clear n0_ n1_))) | ((with_reducible refine gate_callee (f := 119) rfl ?_); refine gL_ (some 17) rfl rfl Tryd.func119 #[.int .i64 a0, .int .i64 a1] rfl ?_; (with_reducible refine (spec_l02Done.calls k a0 a1 t278 t279 t280 _ A7.out).mono ?_); rintro e w9 ⟨rfl, hb⟩; refine ⟨_, rfl, ?_⟩; replace BK275 := tbB BK275 hb; replace HB := Aside0.mk (below_step (tH1 HB GE275.out) hb); (try clear hb); (try clear hb2); (try clear hk); (try clear hi); have hcz10_0 : w9.cell? ⟨gb275, 0, none⟩ = some (.int .i64 0) := (blk_cell BK275.out 0).trans rfl; have hcz10_1 : w9.cell? ⟨gb275, 1, none⟩ = some (.int .i64 0) := (blk_cell BK275.out 1).trans rfl; have hfz10_0 := blk_frozen BK275.out 0; have hfz10_1 := blk_frozen BK275.out 1))
     refine bodyPost_ret (results_ct rfl _ _ gb275 52 #[.int .i64 t278, .int .i64 t279] (0, 0) _ rfl (by (with_reducible repeat (first | refine blk_drewN ?_ _ | refine blk_drew ?_ | refine blk_alloc ?_ _)); refine blk_put (cs := #[.int .i64 t278, .int .i64 0]) ?_ 1 _ rfl; (with_reducible repeat (first | refine blk_drewN ?_ _ | refine blk_drew ?_ | refine blk_alloc ?_ _)); refine blk_put (cs := #[.int .i64 0, .int .i64 0]) ?_ 0 _ rfl; (with_reducible repeat (first | refine blk_drewN ?_ _ | refine blk_drew ?_ | refine blk_alloc ?_ _)); exact BK275.out) Tryd.underlying52 rfl (by kernel_rfl)) rfl ?_
     exact ⟨tE, tH1 HB GE275.out⟩
   replace c6 := Bool.eq_false_iff.mpr c6
   subst c6
   have H1 : (some (0, 0, 2)) = some (r1, r2, r3) := by rw [if_neg (show ¬ (false = true) by decide)] at H; exact H
   clear H
   have H := H1
   clear H1
   simp only [Option.some.injEq, Prod.mk.injEq] at H
   obtain ⟨rfl, rfl, rfl⟩ := H
   go_enter Tryd.func44, Tryd.ntmps44
   go_wp2_with (first | ((with_reducible refine gate_dst (N := 4) rfl ?_); refine box_event ?hg (N := 4) ?hd (cs := #[.int .i64 0, .int .i64 0]) (t := 52) ?hr ?_; (case hd => rfl); (case hg => rfl); (case hr => first | (go_simp; done) | (go_simp; rfl)); intro gb275 hg w11 hbox hb; have BK275 := Aside0.mk (hbox); have GW275 := Aside0.mk ((by rw [hg]; exact (below_size (tH HB)) : w.heap.size ≤ gb275)); have GE275 := Aside0.mk ((by rw [hg]; exact (below_size (tH HB)) : w.heap.size ≤ gb275)); replace HB := Aside0.mk (below_step (tH HB) hb); clear hb hbox hg) | ((with_reducible refine gate_callee (f := 118) rfl ?_); refine gL_ (some 7) rfl rfl Tryd.func118 #[.int .i64 a0, .int .i64 1, .int .i64 1000000000000] rfl ?_; (with_reducible refine (spec_l00In.calls a0 1 1000000000000 true _ A3.out).mono ?_); rintro e w' ⟨rfl, ⟨nd, rfl⟩⟩; refine ⟨_, rfl, ?_⟩; (try (rw [drewN_self w11]; generalize hq_ : World.drewN w11 _ = w11; have n0_ : Aside0 (w11.heap[gb275]? = some (.cells #[.int .i64 0, .int .i64 0] 52 (0, 0))) := ⟨by rw [← hq_]; exact (tB BK275)⟩; have n1_ : Aside0 (Below w.heap.size w w11) := ⟨by rw [← hq_]; exact (tH1 HB GE275.out)⟩; clear BK275 HB hq_; have BK275 := n0_; have HB := n1_; clear n0_ n1_))) | (go_at_call 118; (with_reducible refine (spec_l00In.calls a1 1 1000000000000 false _ A5.out).mono ?_); rintro e w' ⟨rfl, ⟨nd, rfl⟩⟩; (try (rw [drewN_self w11]; generalize hq_ : World.drewN w11 _ = w11; have n0_ : Aside0 (w11.heap[gb275]? = some (.cells #[.int .i64 0, .int .i64 0] 52 (0, 0))) := ⟨by rw [← hq_]; exact (tB BK275)⟩; have n1_ : Aside0 (Below w.heap.size w w11) := ⟨by rw [← hq_]; exact (tH1 HB GE275.out)⟩; clear BK275 HB hq_; have BK275 := n0_; have HB := n1_; clear n0_ n1_)); have hcz12_0 : w11.cell? ⟨gb275, 0, none⟩ = some (.int .i64 0) := (blk_cell BK275.out 0).trans rfl; have hcz12_1 : w11.cell? ⟨gb275, 1, none⟩ = some (.int .i64 0) := (blk_cell BK275.out 1).trans rfl; have hfz12_0 := blk_frozen BK275.out 0; have hfz12_1 := blk_frozen BK275.out 1))
   refine bodyPost_ret (results_ct rfl _ _ gb275 52 #[.int .i64 0, .int .i64 0] (0, 0) _ rfl (by (with_reducible repeat (first | refine blk_drewN ?_ _ | refine blk_drew ?_ | refine blk_alloc ?_ _)); refine blk_put (cs := #[.int .i64 0, .int .i64 0]) ?_ 1 _ rfl; (with_reducible repeat (first | refine blk_drewN ?_ _ | refine blk_drew ?_ | refine blk_alloc ?_ _)); refine blk_put (cs := #[.int .i64 0, .int .i64 0]) ?_ 0 _ rfl; (with_reducible repeat (first | refine blk_drewN ?_ _ | refine blk_drew ?_ | refine blk_alloc ?_ _)); exact BK275.out) Tryd.underlying52 rfl (by kernel_rfl)) rfl ?_
   exact ⟨tE, tH1 HB GE275.out⟩
 replace c4 := Bool.eq_false_iff.mpr c4
 subst c4
 have H1 : (some (0, 0, 2)) = some (r1, r2, r3) := by rw [if_neg (show ¬ (false = true) by decide)] at H; exact H
 clear H
 have H := H1
 clear H1
 simp only [Option.some.injEq, Prod.mk.injEq] at H
 obtain ⟨rfl, rfl, rfl⟩ := H
 go_enter Tryd.func44, Tryd.ntmps44
 go_wp2_with (first | ((with_reducible refine gate_dst (N := 4) rfl ?_); refine box_event ?hg (N := 4) ?hd (cs := #[.int .i64 0, .int .i64 0]) (t := 52) ?hr ?_; (case hd => rfl); (case hg => rfl); (case hr => first | (go_simp; done) | (go_simp; rfl)); intro gb275 hg w13 hbox hb; have BK275 := Aside0.mk (hbox); have GW275 := Aside0.mk ((by rw [hg]; exact (below_size (tH HB)) : w.heap.size ≤ gb275)); have GE275 := Aside0.mk ((by rw [hg]; exact (below_size (tH HB)) : w.heap.size ≤ gb275)); replace HB := Aside0.mk (below_step (tH HB) hb); clear hb hbox hg) | ((with_reducible refine gate_callee (f := 118) rfl ?_); refine gL_ (some 7) rfl rfl Tryd.func118 #[.int .i64 a0, .int .i64 1, .int .i64 1000000000000] rfl ?_; (with_reducible refine (spec_l00In.calls a0 1 1000000000000 false _ A3.out).mono ?_); rintro e w' ⟨rfl, ⟨nd, rfl⟩⟩; refine ⟨_, rfl, ?_⟩; (try (rw [drewN_self w13]; generalize hq_ : World.drewN w13 _ = w13; have n0_ : Aside0 (w13.heap[gb275]? = some (.cells #[.int .i64 0, .int .i64 0] 52 (0, 0))) := ⟨by rw [← hq_]; exact (tB BK275)⟩; have n1_ : Aside0 (Below w.heap.size w w13) := ⟨by rw [← hq_]; exact (tH1 HB GE275.out)⟩; clear BK275 HB hq_; have BK275 := n0_; have HB := n1_; clear n0_ n1_)); have hcz14_0 : w13.cell? ⟨gb275, 0, none⟩ = some (.int .i64 0) := (blk_cell BK275.out 0).trans rfl; have hcz14_1 : w13.cell? ⟨gb275, 1, none⟩ = some (.int .i64 0) := (blk_cell BK275.out 1).trans rfl; have hfz14_0 := blk_frozen BK275.out 0; have hfz14_1 := blk_frozen BK275.out 1))
 refine bodyPost_ret (results_ct rfl _ _ gb275 52 #[.int .i64 0, .int .i64 0] (0, 0) _ rfl (by (with_reducible repeat (first | refine blk_drewN ?_ _ | refine blk_drew ?_ | refine blk_alloc ?_ _)); refine blk_put (cs := #[.int .i64 0, .int .i64 0]) ?_ 1 _ rfl; (with_reducible repeat (first | refine blk_drewN ?_ _ | refine blk_drew ?_ | refine blk_alloc ?_ _)); refine blk_put (cs := #[.int .i64 0, .int .i64 0]) ?_ 0 _ rfl; (with_reducible repeat (first | refine blk_drewN ?_ _ | refine blk_drew ?_ | refine blk_alloc ?_ _)); exact BK275.out) Tryd.underlying52 rfl (by kernel_rfl)) rfl ?_
 exact ⟨tE, tH1 HB GE275.out⟩

/-! ### spec_l02Octave: function 172 -/
mutual
def spec_l02Octave.l0 : Nat → Int → Int → Int → Option (Int × Int × Int)
 | 0, _, _, _ => none
 | k + 1, x5, x6, x7 => if x5 ≥ (wrap64 (2 * x6)) then (spec_l02Octave.l0 k x5 (wrap64 (x6 * 2)) (wrap64 (x7 + 1))) else (spec_l02Octave.l1 k x5 x6 x7)
def spec_l02Octave.l1 : Nat → Int → Int → Int → Option (Int × Int × Int)
 | 0, _, _, _ => none
 | k + 1, x5, x6, x7 => if x5 < x6 then (spec_l02Octave.l1 k (wrap64 (x5 * 2)) x6 (wrap64 (x7 - 1))) else (some (x5, x6, x7))
end
def spec_l02Octave.f (k : Nat) (l0 : List (S52)) : Option (Int × Int × Int) := spec_l02Octave.l0 k ((rd_T52 l0 0).f0) ((rd_T52 l0 0).f1) 0
theorem spec_l02Octave.mono_l : ∀ k, (∀ y0 y1 y2, LeO (spec_l02Octave.l0 k y0 y1 y2) (spec_l02Octave.l0 (k + 1) y0 y1 y2)) ∧ (∀ y0 y1 y2, LeO (spec_l02Octave.l1 k y0 y1 y2) (spec_l02Octave.l1 (k + 1) y0 y1 y2))
 | 0 => ⟨fun _ _ _ r h => by simp [spec_l02Octave.l0] at h, fun _ _ _ r h => by simp [spec_l02Octave.l1] at h⟩
 | k + 1 => by
  obtain ⟨ih0, ih1⟩ := spec_l02Octave.mono_l k
  refine ⟨?_, ?_⟩
  all_goals (intros; (first | unfold spec_l02Octave.l0 | unfold spec_l02Octave.l1); repeat' first
   | (with_reducible exact ih0 _ _ _)
   | (with_reducible exact ih1 _ _ _)
   | (with_reducible exact LeO.refl _)
   | (with_reducible exact LeO.none _)
   | (with_reducible refine LeO.ite ?_ ?_)
   | (with_reducible refine LeO.bind ?_ (fun _ => ?_))
   | exact ih0 _ _ _
   | exact ih1 _ _ _
   | exact LeO.none _
   | refine LeO.ite ?_ ?_
   | refine LeO.bind ?_ (fun _ => ?_))
theorem spec_l02Octave.mono : ∀ a0 k, LeO (spec_l02Octave.f k a0) (spec_l02Octave.f (k + 1) a0) := by
 intro a0 k
 obtain ⟨ih0, ih1⟩ := spec_l02Octave.mono_l k
 unfold spec_l02Octave.f
 repeat' first
  | (with_reducible exact ih0 _ _ _)
  | (with_reducible exact ih1 _ _ _)
  | (with_reducible exact LeO.refl _)
  | (with_reducible exact LeO.none _)
  | (with_reducible refine LeO.ite ?_ ?_)
  | (with_reducible refine LeO.bind ?_ (fun _ => ?_))
  | exact ih0 _ _ _
  | exact ih1 _ _ _
  | exact LeO.none _
  | refine LeO.ite ?_ ?_
  | refine LeO.bind ?_ (fun _ => ?_)
set_option maxHeartbeats 8000000 in
set_option maxRecDepth 100000 in
theorem spec_l02Octave.calls (k : Nat) (A0 : Option Addr) (l0 : List (S52)) (r1 : Int) (r2 : Int) (r3 : Int) (w : World) (hr0 : Kd.C k52 w A0 l0.length l0) (hn0 : 0 < l0.length) (h : spec_l02Octave.f k l0 = some (r1, r2, r3)) :
 Calls Tryd.prog 172 #[.pointer A0] w fun e w' => e = .returned (.tuple #[.int .i64 r1, .int .i64 r2, .int .i64 r3]) ∧ Drawn0 w w' := by
 have HR0 := Aside0.mk hr0
 clear hr0
 have HN0 := Aside0.mk hn0
 have hn0b0 : decide ((0 : Int) < (l0.length : Int)) = true := decide_eq_true (Int.ofNat_lt.2 hn0)
 have hn0b1 : decide (0 < l0.length) = true := decide_eq_true hn0
 clear hn0
 have H : (spec_l02Octave.l0 k ((rd_T52 l0 0).f0) ((rd_T52 l0 0).f1) 0) = some (r1, r2, r3) := h
 clear h
 have H' := Aside0.mk H
 clear H
 have p281 : 0 ≤ (0 : Int) := (by omega)
 have q281 : 0 < (l0.length : Int) := of_decide_eq_true tA
 obtain ⟨ad281, e281, hx281_0, hx281_1⟩ := at_T52 HR0.out 0 p281 q281
 cases e281
 have qi281 : (0 < l0.length) = True := eq_true (by omega)
 (try rw [t0n] at hx281_0)
 (try rw [show 0 * 2 = 0 from rfl] at hx281_0)
 (try rw [Addr.add_zero'] at hx281_0)
 (try rw [t0n] at hx281_1)
 (try rw [show 0 * 2 = 0 from rfl] at hx281_1)
 (try rw [Addr.add_zero'] at hx281_1)
 replace p281 := eq_true p281
 replace q281 := eq_true q281
 have p282 : 0 ≤ (0 : Int) := (by omega)
 have q282 : 0 < (l0.length : Int) := of_decide_eq_true tA
 obtain ⟨ad282, e282, hx282_0, hx282_1⟩ := at_T52 HR0.out 0 p282 q282
 obtain rfl : ad281 = ad282 := (by injection e282)
 have qi282 : (0 < l0.length) = True := eq_true (by omega)
 (try rw [t0n] at hx282_0)
 (try rw [show 0 * 2 = 0 from rfl] at hx282_0)
 (try rw [Addr.add_zero'] at hx282_0)
 (try rw [t0n] at hx282_1)
 (try rw [show 0 * 2 = 0 from rfl] at hx282_1)
 (try rw [Addr.add_zero'] at hx282_1)
 replace p282 := eq_true p282
 replace q282 := eq_true q282
 go_enter Tryd.func172, Tryd.ntmps172
 go_wp2
 go_loopg [6, 7] k (fun kq v6 v7 w' => ∃ (x6_1 : Int) (x7_1 : Int), v6 = .int .i64 x6_1 ∧ v7 = .int .i64 x7_1 ∧ Aside0 (spec_l02Octave.l0 kq ((rd_T52 l0 0).f0) x6_1 x7_1 = some (r1, r2, r3)) ∧ Aside0 (kq ≤ k) ∧ Drawn0 w w')
 case atStart => exact ⟨((rd_T52 l0 0).f1), (0), tq, tq, H', ⟨Nat.le_refl _⟩, tZ⟩
 case round =>
 clear H'
 try clear c1
 try clear hx281_0
 try clear hx281_1
 try clear hx282_0
 try clear hx282_1
 try clear p281
 try clear p282
 try clear q281
 try clear q282
 obtain ⟨x6_1, x7_1, rfl, rfl, HA, HK1, ⟨m1, rfl⟩⟩ := hrel
 cases gk with
 | zero => exact absurd HA.out (by simp [spec_l02Octave.l0])
 | succ k1 =>
 have H := HA.out
 clear HA
 simp only [spec_l02Octave.l0] at H
 by_cases c2 : ((rd_T52 l0 0).f0) ≥ (wrap64 (2 * x6_1))
 · rw [if_pos c2] at H
   have c2b0 : decide ((wrap64 (2 * x6_1)) ≤ ((rd_T52 l0 0).f0)) = true := decide_eq_true c2
   clear c2
   have H' := Aside0.mk H
   clear H
   go_wp2
   go_roundg k1
   case measure => have := HK1.out; omega
   case rel => exact ⟨(wrap64 (x6_1 * 2)), (wrap64 (x7_1 + 1)), tq, tq, H', ⟨by have := HK1.out; omega⟩, tZ⟩
 rw [if_neg c2] at H
 have c2b0 : decide ((wrap64 (2 * x6_1)) ≤ ((rd_T52 l0 0).f0)) = false := decide_eq_false c2
 clear c2
 have H' := Aside0.mk H
 clear H
 go_wp2
 go_loopg [5, 7] k1 (fun kq v5 v7 w' => ∃ (x5_2 : Int) (x7_2 : Int), v5 = .int .i64 x5_2 ∧ v7 = .int .i64 x7_2 ∧ Aside0 (spec_l02Octave.l1 kq x5_2 x6_1 x7_2 = some (r1, r2, r3)) ∧ Aside0 (kq ≤ k1) ∧ Drawn0 w w')
 case atStart => exact ⟨(((rd_T52 l0 0).f0)), (x7_1), tq, tq, H', ⟨Nat.le_refl _⟩, tZ⟩
 case round =>
 clear H'
 try clear c1
 try clear c2
 try clear c2b0
 try clear p2
 try clear q2
 try clear hx2
 try clear qi2
 try clear hx281_0
 try clear hx281_1
 try clear hx282_0
 try clear hx282_1
 try clear p281
 try clear p282
 try clear q281
 try clear q282
 obtain ⟨x5_2, x7_2, rfl, rfl, HA, HK2, ⟨m2, rfl⟩⟩ := hrel
 cases gk with
 | zero => exact absurd HA.out (by simp [spec_l02Octave.l1])
 | succ k2 =>
 have H := HA.out
 clear HA
 simp only [spec_l02Octave.l1] at H
 by_cases c3 : x5_2 < x6_1
 · rw [if_pos c3] at H
   have c3b0 : decide (x5_2 < x6_1) = true := decide_eq_true c3
   clear c3
   have H' := Aside0.mk H
   clear H
   go_wp2
   go_roundg k2
   case measure => have := HK1.out; have := HK2.out; omega
   case rel => exact ⟨(wrap64 (x5_2 * 2)), (wrap64 (x7_2 - 1)), tq, tq, H', ⟨by have := HK1.out; have := HK2.out; omega⟩, tZ⟩
 rw [if_neg c3] at H
 have c3b0 : decide (x5_2 < x6_1) = false := decide_eq_false c3
 clear c3
 simp only [Option.some.injEq, Prod.mk.injEq] at H
 obtain ⟨rfl, rfl, rfl⟩ := H
 go_wp2
 go_ret3
 exact ⟨by first | rfl | (simp; done) | (simp [*]; done), tZ⟩

/-! ### spec_l02Table: function 173 -/
def spec_l02Table.f  : Option (List Int) := some (([0, 5327, 10496, 15514, 20391, 25134, 29751, 34248, 38631, 42906, 47078, 51152, 55132, 59022, 62827, 66551, 70196, 73765, 77263, 80691, 84053, 87350, 90587, 93763, 96883, 99947, 102958, 105917, 108827, 111688, 114504, 117274, 120000] : List Int))
set_option maxHeartbeats 8000000 in
set_option maxRecDepth 100000 in
theorem spec_l02Table.calls  (r : List Int) (w : World) (h : spec_l02Table.f  = some r) :
 Calls Tryd.prog 173 #[] w fun e w' => ∃ v0_ : Value, e = .returned (v0_) ∧ Kd.R (Kd.int .i64) 2 w' w.heap.size (fun _ => True) v0_ r ∧ Below w.heap.size w w' := by
 have HB := Aside0.mk (Below.refl w.heap.size w)
 have H : (some (([0, 5327, 10496, 15514, 20391, 25134, 29751, 34248, 38631, 42906, 47078, 51152, 55132, 59022, 62827, 66551, 70196, 73765, 77263, 80691, 84053, 87350, 90587, 93763, 96883, 99947, 102958, 105917, 108827, 111688, 114504, 117274, 120000] : List Int))) = some r := h
 clear h
 obtain ⟨y283, hy283⟩ : ∃ y_ : List Int, y_ = (([0, 5327, 10496, 15514, 20391, 25134, 29751, 34248, 38631, 42906, 47078, 51152, 55132, 59022, 62827, 66551, 70196, 73765, 77263, 80691, 84053, 87350, 90587, 93763, 96883, 99947, 102958, 105917, 108827, 111688, 114504, 117274, 120000] : List Int)) := ⟨_, rfl⟩
 replace H : (some y283) = some r := by first | (rw [hy283]; with_reducible exact H) | (have H2_ := (Option.bind_some _ _).symm.trans H; rw [hy283]; with_reducible exact H2_) | (have H2_ := (Option.bind_some _ _).symm.trans H; with_reducible exact H2_) | with_reducible exact H | (rw [hy283]; exact H) | exact H
 have Ny283 := Aside0.mk hy283
 clear hy283
 obtain rfl := Option.some.inj H
 go_enter Tryd.func173, Tryd.ntmps173
 go_wp2_with (first | ((with_reducible refine gate_dst (N := 1) rfl ?_); refine Kd.R_lit (Kd.int .i64) _ 2 ?hg (N := 1) ?hd (xs := ([0, 5327, 10496, 15514, 20391, 25134, 29751, 34248, 38631, 42906, 47078, 51152, 55132, 59022, 62827, 66551, 70196, 73765, 77263, 80691, 84053, 87350, 90587, 93763, 96883, 99947, 102958, 105917, 108827, 111688, 114504, 117274, 120000] : List Int)) (inner := [.int .i64 0, .int .i64 5327, .int .i64 10496, .int .i64 15514, .int .i64 20391, .int .i64 25134, .int .i64 29751, .int .i64 34248, .int .i64 38631, .int .i64 42906, .int .i64 47078, .int .i64 51152, .int .i64 55132, .int .i64 59022, .int .i64 62827, .int .i64 66551, .int .i64 70196, .int .i64 73765, .int .i64 77263, .int .i64 80691, .int .i64 84053, .int .i64 87350, .int .i64 90587, .int .i64 93763, .int .i64 96883, .int .i64 99947, .int .i64 102958, .int .i64 105917, .int .i64 108827, .int .i64 111688, .int .i64 114504, .int .i64 117274, .int .i64 120000]) (ok := fun _ => True) (okp := fun _ => True) ?hr ?hp (fun _ hk => hk) trivial (Below.refl _ _) (Nat.le_refl _) (by simp) ?_; (case hd => rfl); (case hg => rfl); (case hr => first | (go_simp; done) | (go_simp; rfl)); (case hp => exact (Reps.one (show Kd.M (Kd.int .i64) _ _ _ 0 [.int .i64 0] from rfl) (Reps.one (show Kd.M (Kd.int .i64) _ _ _ 5327 [.int .i64 5327] from rfl) (Reps.one (show Kd.M (Kd.int .i64) _ _ _ 10496 [.int .i64 10496] from rfl) (Reps.one (show Kd.M (Kd.int .i64) _ _ _ 15514 [.int .i64 15514] from rfl) (Reps.one (show Kd.M (Kd.int .i64) _ _ _ 20391 [.int .i64 20391] from rfl) (Reps.one (show Kd.M (Kd.int .i64) _ _ _ 25134 [.int .i64 25134] from rfl) (Reps.one (show Kd.M (Kd.int .i64) _ _ _ 29751 [.int .i64 29751] from rfl) (Reps.one (show Kd.M (Kd.int .i64) _ _ _ 34248 [.int .i64 34248] from rfl) (Reps.one (show Kd.M (Kd.int .i64) _ _ _ 38631 [.int .i64 38631] from rfl) (Reps.one (show Kd.M (Kd.int .i64) _ _ _ 42906 [.int .i64 42906] from rfl) (Reps.one (show Kd.M (Kd.int .i64) _ _ _ 47078 [.int .i64 47078] from rfl) (Reps.one (show Kd.M (Kd.int .i64) _ _ _ 51152 [.int .i64 51152] from rfl) (Reps.one (show Kd.M (Kd.int .i64) _ _ _ 55132 [.int .i64 55132] from rfl) (Reps.one (show Kd.M (Kd.int .i64) _ _ _ 59022 [.int .i64 59022] from rfl) (Reps.one (show Kd.M (Kd.int .i64) _ _ _ 62827 [.int .i64 62827] from rfl) (Reps.one (show Kd.M (Kd.int .i64) _ _ _ 66551 [.int .i64 66551] from rfl) (Reps.one (show Kd.M (Kd.int .i64) _ _ _ 70196 [.int .i64 70196] from rfl) (Reps.one (show Kd.M (Kd.int .i64) _ _ _ 73765 [.int .i64 73765] from rfl) (Reps.one (show Kd.M (Kd.int .i64) _ _ _ 77263 [.int .i64 77263] from rfl) (Reps.one (show Kd.M (Kd.int .i64) _ _ _ 80691 [.int .i64 80691] from rfl) (Reps.one (show Kd.M (Kd.int .i64) _ _ _ 84053 [.int .i64 84053] from rfl) (Reps.one (show Kd.M (Kd.int .i64) _ _ _ 87350 [.int .i64 87350] from rfl) (Reps.one (show Kd.M (Kd.int .i64) _ _ _ 90587 [.int .i64 90587] from rfl) (Reps.one (show Kd.M (Kd.int .i64) _ _ _ 93763 [.int .i64 93763] from rfl) (Reps.one (show Kd.M (Kd.int .i64) _ _ _ 96883 [.int .i64 96883] from rfl) (Reps.one (show Kd.M (Kd.int .i64) _ _ _ 99947 [.int .i64 99947] from rfl) (Reps.one (show Kd.M (Kd.int .i64) _ _ _ 102958 [.int .i64 102958] from rfl) (Reps.one (show Kd.M (Kd.int .i64) _ _ _ 105917 [.int .i64 105917] from rfl) (Reps.one (show Kd.M (Kd.int .i64) _ _ _ 108827 [.int .i64 108827] from rfl) (Reps.one (show Kd.M (Kd.int .i64) _ _ _ 111688 [.int .i64 111688] from rfl) (Reps.one (show Kd.M (Kd.int .i64) _ _ _ 114504 [.int .i64 114504] from rfl) (Reps.one (show Kd.M (Kd.int .i64) _ _ _ 117274 [.int .i64 117274] from rfl) (Reps.one (show Kd.M (Kd.int .i64) _ _ _ 120000 [.int .i64 120000] from rfl) (Reps.none _ _))))))))))))))))))))))))))))))))))); intro v284 w1 ho2 hb hg_ hnew_; clear hg_ hnew_; (first | rw [← Ny283.out] at ho2 | (simp only [Int.reduceToNat] at ho2; rw [← Ny283.out] at ho2)); have HO285 := Aside0.mk (Kd.R_lower ho2 (below_size (tH HB))); replace HB := Aside0.mk (below_step (tH HB) hb); clear hb ho2))
 go_ret
 exact ⟨_, tE, tR HO285, tH HB⟩

end Go.Proofs.YtmeflmlejcmckaaDoor.PC
