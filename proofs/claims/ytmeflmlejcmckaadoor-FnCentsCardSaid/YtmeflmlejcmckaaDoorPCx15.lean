-- WRITTEN BY wip/gprint.py, a program of this session's over the kit's print, with contracts given by hand
import Derived.Test.YtmeflmlejcmckaaDoorPCx0
import Derived.Test.YtmeflmlejcmckaaDoorPCx2
import Derived.Test.YtmeflmlejcmckaaDoorPCx14
namespace Go.Proofs.YtmeflmlejcmckaaDoor.PC
open Go.RowKit Go.Proofs.YtmeflmlejcmckaaDoorW.PrintWords Go.Proofs.YtmeflmlejcmckaaDoorW.PrintLast Go.Proofs.YtmeflmlejcmckaaDoorW.PrintMore
attribute [local go_sem] max2_int min2_int max_two min_two max_three min_three max_four min_four   -- for this text's walks alone
set_option linter.unusedVariables false
set_option linter.unusedSimpArgs false

/-! ### spec_CentsOf: function 45 -/
def spec_CentsOf.f (k : Nat) (a0_0 : Int) (a0_1 : Int) : Option (Int × Int) := (spec_l02Ok.f k [(⟨a0_0, a0_1⟩ : S52)]).bind fun t297 => (if t297 = true then ((spec_l02Cents.f k [(⟨a0_0, a0_1⟩ : S52)]).bind fun t298 => (some (t298, 0))) else (some (0, 1)))
theorem spec_CentsOf.mono : ∀ a0 a1 k, LeO (spec_CentsOf.f k a0 a1) (spec_CentsOf.f (k + 1) a0 a1) := by
 intro a0 a1 k
 unfold spec_CentsOf.f
 repeat' first
  | (with_reducible exact spec_l02Cents.mono _ _)
  | (with_reducible exact spec_l02Ok.mono _ _)
  | (with_reducible exact LeO.refl _)
  | (with_reducible exact LeO.none _)
  | (with_reducible refine LeO.ite ?_ ?_)
  | (with_reducible refine LeO.bind ?_ (fun _ => ?_))
  | exact spec_l02Cents.mono _ _
  | exact spec_l02Ok.mono _ _
  | exact LeO.none _
  | refine LeO.ite ?_ ?_
  | refine LeO.bind ?_ (fun _ => ?_)
set_option maxHeartbeats 8000000 in
set_option maxRecDepth 100000 in
theorem spec_CentsOf.calls (k : Nat) (a0_0 : Int) (a0_1 : Int) (r1 : Int) (r2 : Int) (w : World) (h : spec_CentsOf.f k a0_0 a0_1 = some (r1, r2)) :
 Calls Tryd.prog 45 #[.agg #[.int .i64 a0_0, .int .i64 a0_1]] w fun e w' => e = .returned (.tuple #[.int .i64 r1, .int .i64 r2]) ∧ Below w.heap.size w w' := by
 have hu52 := Tryd.underlying52
 have HB := Aside0.mk (Below.refl w.heap.size w)
 have H : ((spec_l02Ok.f k [(⟨a0_0, a0_1⟩ : S52)]).bind fun t297 => (if t297 = true then ((spec_l02Cents.f k [(⟨a0_0, a0_1⟩ : S52)]).bind fun t298 => (some (t298, 0))) else (some (0, 1)))) = some (r1, r2) := h
 clear h
 replace H := Option.bind_eq_some_iff.mp H
 obtain ⟨t297, A20, H⟩ := H
 replace H : (if t297 = true then ((spec_l02Cents.f k [(⟨a0_0, a0_1⟩ : S52)]).bind fun t298 => (some (t298, 0))) else (some (0, 1))) = some (r1, r2) := H
 have A2 := Aside0.mk A20
 clear A20
 by_cases c3 : t297 = true
 · subst c3
   have H1 : ((spec_l02Cents.f k [(⟨a0_0, a0_1⟩ : S52)]).bind fun t298 => (some (t298, 0))) = some (r1, r2) := by rw [if_pos rfl] at H; exact H
   clear H
   have H := H1
   clear H1
   replace H := Option.bind_eq_some_iff.mp H
   obtain ⟨t298, A40, H⟩ := H
   replace H : (some (t298, 0)) = some (r1, r2) := H
   have A4 := Aside0.mk A40
   clear A40
   simp only [Option.some.injEq, Prod.mk.injEq] at H
   obtain ⟨rfl, rfl⟩ := H
   go_enter Tryd.func45, Tryd.ntmps45
   go_wp2_with (first | ((with_reducible refine gate_dst (N := 1) rfl ?_); refine box_event ?hg (N := 1) ?hd (cs := #[.int .i64 a0_0, .int .i64 a0_1]) (t := 52) ?hr ?_; (case hd => rfl); (case hg => rfl); (case hr => first | (go_simp; done) | (go_simp; rfl)); intro gb296 hg w5 hbox hb; have BK296 := Aside0.mk (hbox); have GW296 := Aside0.mk ((by rw [hg]; exact (below_size (tH HB)) : w.heap.size ≤ gb296)); have GE296 := Aside0.mk ((by rw [hg]; exact (below_size (tH HB)) : w.heap.size ≤ gb296)); replace HB := Aside0.mk (below_step (tH HB) hb); clear hb hbox hg) | ((with_reducible refine gate_callee (f := 117) rfl ?_); refine gL_ (some 4) rfl rfl Tryd.func117 #[.pointer (some ⟨gb296, 0, none⟩)] rfl ?_; (with_reducible refine (spec_l02Ok.calls k _ [(⟨a0_0, a0_1⟩ : S52)] true _ ?side1 ?side2 A2.out).mono ?_); (case side1 => exact Kd.C_box (t := 52) (k52_mk _ _ ) (tB BK296)); (case side2 => exact Nat.one_pos); rintro e w' ⟨rfl, ⟨nd, rfl⟩⟩; refine ⟨_, rfl, ?_⟩) | ((with_reducible refine gate_callee (f := 120) rfl ?_); refine gL_ (some 6) rfl rfl Tryd.func120 #[.pointer (some ⟨gb296, 0, none⟩)] rfl ?_; (with_reducible refine (spec_l02Cents.calls k _ [(⟨a0_0, a0_1⟩ : S52)] t298 _ ?side1 ?side2 A4.out).mono ?_); (case side1 => exact Kd.C_box (t := 52) (k52_mk _ _ ) (tB BK296)); (case side2 => exact Nat.one_pos); rintro e w6 ⟨rfl, hb⟩; refine ⟨_, rfl, ?_⟩; replace BK296 := tbB BK296 hb; replace HB := Aside0.mk (below_step (tH1 HB GE296.out) hb); (try clear hb); (try clear hb2); (try clear hk); (try clear hi)))
   go_ret2
   exact ⟨tE, tH1 HB GE296.out⟩
 replace c3 := Bool.eq_false_iff.mpr c3
 subst c3
 have H1 : (some (0, 1)) = some (r1, r2) := by rw [if_neg (show ¬ (false = true) by decide)] at H; exact H
 clear H
 have H := H1
 clear H1
 simp only [Option.some.injEq, Prod.mk.injEq] at H
 obtain ⟨rfl, rfl⟩ := H
 go_enter Tryd.func45, Tryd.ntmps45
 go_wp2_with (first | ((with_reducible refine gate_dst (N := 1) rfl ?_); refine box_event ?hg (N := 1) ?hd (cs := #[.int .i64 a0_0, .int .i64 a0_1]) (t := 52) ?hr ?_; (case hd => rfl); (case hg => rfl); (case hr => first | (go_simp; done) | (go_simp; rfl)); intro gb296 hg w7 hbox hb; have BK296 := Aside0.mk (hbox); have GW296 := Aside0.mk ((by rw [hg]; exact (below_size (tH HB)) : w.heap.size ≤ gb296)); have GE296 := Aside0.mk ((by rw [hg]; exact (below_size (tH HB)) : w.heap.size ≤ gb296)); replace HB := Aside0.mk (below_step (tH HB) hb); clear hb hbox hg) | ((with_reducible refine gate_callee (f := 117) rfl ?_); refine gL_ (some 4) rfl rfl Tryd.func117 #[.pointer (some ⟨gb296, 0, none⟩)] rfl ?_; (with_reducible refine (spec_l02Ok.calls k _ [(⟨a0_0, a0_1⟩ : S52)] false _ ?side1 ?side2 A2.out).mono ?_); (case side1 => exact Kd.C_box (t := 52) (k52_mk _ _ ) (tB BK296)); (case side2 => exact Nat.one_pos); rintro e w' ⟨rfl, ⟨nd, rfl⟩⟩; refine ⟨_, rfl, ?_⟩))
 go_ret2
 exact ⟨tE, tH1 HB GE296.out⟩

end Go.Proofs.YtmeflmlejcmckaaDoor.PC
