-- WRITTEN BY wip/gprint.py, a program of this session's over the kit's print, with contracts given by hand
import Derived.Test.YtmeflmlejcmckaaDoorPCx0
import Derived.Test.YtmeflmlejcmckaaDoorPCx1
import Derived.Test.YtmeflmlejcmckaaDoorPCx5
import Derived.Test.YtmeflmlejcmckaaDoorPCx8
import Derived.Test.YtmeflmlejcmckaaDoorPCx10
import Derived.Test.YtmeflmlejcmckaaDoorPCx11
import Derived.Test.YtmeflmlejcmckaaDoorPCx12
import Derived.Test.YtmeflmlejcmckaaDoorPCx15
import Derived.Test.YtmeflmlejcmckaaDoorPCx16
namespace Go.Proofs.YtmeflmlejcmckaaDoor.PC
open Go.RowKit Go.Proofs.YtmeflmlejcmckaaDoorW.PrintWords Go.Proofs.YtmeflmlejcmckaaDoorW.PrintLast Go.Proofs.YtmeflmlejcmckaaDoorW.PrintMore
attribute [local go_sem] max2_int min2_int max_two min_two max_three min_three max_four min_four   -- for this text's walks alone
set_option linter.unusedVariables false
set_option linter.unusedSimpArgs false

attribute [local go_sem] isSome_setCell
set_option maxHeartbeats 8000000 in
set_option maxRecDepth 100000 in
theorem laws_FnCents.calls (k : Nat) (A0 : Option Addr) (c0 : Nat) (l0 : List Int) (A1 : Option Addr) (c1 : Nat) (l1 : List Int) (r : Bool) (w : World) (hr0 : Kd.C (Kd.int .u8) w A0 l0.length l0) (hc0 : l0.length ≤ c0) (hr1 : Kd.C (Kd.int .u8) w A1 l1.length l1) (hc1 : l1.length ≤ c1) (ht : Tab_ w) (h : laws_FnCents.f k l0 l1 = some r) :
 Calls Tryd.prog 7 #[.slice A0 l0.length c0, .slice A1 l1.length c1] w fun e w' => e = .returned (.bool r) ∧ Below w.heap.size w w' := by
 have hu52 := Tryd.underlying52
 have HR0 := Aside0.mk hr0
 have HC0 := Aside0.mk hc0
 clear hr0 hc0
 have HR1 := Aside0.mk hr1
 have HC1 := Aside0.mk hc1
 clear hr1 hc1
 have HT := Aside0.mk ht
 clear ht
 have HB := Aside0.mk (Below.refl w.heap.size w)
 have H : ((laws_b10Long.f l0).bind fun t299 => (if t299 = true then (laws_FnCents.j0 k l0 l1 true) else ((laws_b10Long.f l1).bind fun t300 => (laws_FnCents.j0 k l0 l1 t300)))) = some r := h
 clear h
 have HC3 := Aside0.mk H
 clear H
 go_enter Tryd.func7, Tryd.ntmps7
 go_upto_region 1 with (fail)
 go_cut [39] (fun v39 wc => ∃ (kq : Nat) (x39_2 : Bool), v39 = .bool x39_2 ∧ Aside0 (laws_FnCents.j0 kq l0 l1 x39_2 = some r) ∧ Aside0 (kq ≤ k) ∧ Aside0 (Below w.heap.size w wc))
 case first => as_aux_lemma =>
  have H := HC3.out
  clear HC3
  replace H := Option.bind_eq_some_iff.mp H
  obtain ⟨t299, A40, H⟩ := H
  replace H : (if t299 = true then (laws_FnCents.j0 k l0 l1 true) else ((laws_b10Long.f l1).bind fun t300 => (laws_FnCents.j0 k l0 l1 t300))) = some r := H
  have A4 := Aside0.mk A40
  clear A40
  by_cases c5 : t299 = true
  · subst c5
    have H1 : (laws_FnCents.j0 k l0 l1 true) = some r := by rw [if_pos rfl] at H; exact H
    clear H
    have H := H1
    clear H1
    have H' := Aside0.mk H
    clear H
    go_wp2_with (first | ((with_reducible refine gate_callee (f := 33) rfl ?_); refine gL_ (some 35) rfl rfl Tryd.func33 #[.slice A0 l0.length c0] rfl ?_; (with_reducible refine (laws_b10Long.calls _ _ l0 true _ ?side1 ?side2 A4.out).mono ?_); (case side1 => exact tC (Kd.C_below HR0.out HB.out)); (case side2 => exact HC0.out); rintro e w' ⟨rfl, ⟨nd, rfl⟩⟩; refine ⟨_, rfl, ?_⟩))
    go_meet
    case rel => exact ⟨_, (true), tq, H', ⟨by first | omega | exact Nat.le_refl _⟩, ⟨tH HB⟩⟩
  replace c5 := Bool.eq_false_iff.mpr c5
  subst c5
  have H1 : ((laws_b10Long.f l1).bind fun t300 => (laws_FnCents.j0 k l0 l1 t300)) = some r := by rw [if_neg (show ¬ (false = true) by decide)] at H; exact H
  clear H
  have H := H1
  clear H1
  replace H := Option.bind_eq_some_iff.mp H
  obtain ⟨t300, A60, H⟩ := H
  replace H : (laws_FnCents.j0 k l0 l1 t300) = some r := H
  have A6 := Aside0.mk A60
  clear A60
  have H' := Aside0.mk H
  clear H
  go_wp2_with (first | ((with_reducible refine gate_callee (f := 33) rfl ?_); refine gL_ (some 35) rfl rfl Tryd.func33 #[.slice A0 l0.length c0] rfl ?_; (with_reducible refine (laws_b10Long.calls _ _ l0 false _ ?side1 ?side2 A4.out).mono ?_); (case side1 => exact tC (Kd.C_below HR0.out HB.out)); (case side2 => exact HC0.out); rintro e w' ⟨rfl, ⟨nd, rfl⟩⟩; refine ⟨_, rfl, ?_⟩) | (go_at_call 33; (with_reducible refine (laws_b10Long.calls _ _ l1 t300 _ ?side1 ?side2 A6.out).mono ?_); (case side1 => exact Kd.C_below HR1.out (tH HB)); (case side2 => exact HC1.out); rintro e w' ⟨rfl, ⟨nd, rfl⟩⟩))
  go_meet
  case rel => exact ⟨_, (t300), tq, H', ⟨by first | omega | exact Nat.le_refl _⟩, ⟨tH HB⟩⟩
 case rest => as_aux_lemma =>
 clear HC3
 try clear c1
 try clear p2
 try clear c3
 try clear c5
 obtain ⟨kq, x39_2, rfl, HA, HJ2, HB⟩ := hcut
 cases kq with
 | zero => exact absurd HA.out (by simp [laws_FnCents.j0])
 | succ kj2 =>
 have H := HA.out
 clear HA
 simp only [laws_FnCents.j0] at H
 by_cases c7 : x39_2 = true
 · subst c7
   have H1 : (some true) = some r := by rw [if_pos rfl] at H; exact H
   clear H
   have H := H1
   clear H1
   obtain rfl := Option.some.inj H
   go_wp2
   go_ret
   exact ⟨tE, tH HB⟩
 as_aux_lemma =>
 replace c7 := Bool.eq_false_iff.mpr c7
 subst c7
 have H1 : ((spec_DrawCompareRatios.f kj2 l0).bind fun bt301 => ((impl_CentsOf.f kj2 bt301.1 bt301.2.1).bind fun bt307 => ((impl_CentsOf.f kj2 bt301.2.2.1 bt301.2.2.2).bind fun bt309 => ((impl_CompareRatios.f kj2 bt301.1 bt301.2.1 bt301.2.2.1 bt301.2.2.2).bind fun bt311 => (if bt307.2 = 0 then (if bt309.2 = 0 then (if bt311.2 = 0 then (if bt311.1 < 0 then (if bt307.1 > bt309.1 then (laws_FnCents.j1 kj2 l0 l1 true) else (if bt311.1 > 0 then (if bt307.1 < bt309.1 then (laws_FnCents.j1 kj2 l0 l1 true) else (if bt311.1 = 0 then (laws_FnCents.j1 kj2 l0 l1 (bt307.1 != bt309.1)) else (laws_FnCents.j1 kj2 l0 l1 false))) else (if bt311.1 = 0 then (laws_FnCents.j1 kj2 l0 l1 (bt307.1 != bt309.1)) else (laws_FnCents.j1 kj2 l0 l1 false)))) else (if bt311.1 > 0 then (if bt307.1 < bt309.1 then (laws_FnCents.j1 kj2 l0 l1 true) else (if bt311.1 = 0 then (laws_FnCents.j1 kj2 l0 l1 (bt307.1 != bt309.1)) else (laws_FnCents.j1 kj2 l0 l1 false))) else (if bt311.1 = 0 then (laws_FnCents.j1 kj2 l0 l1 (bt307.1 != bt309.1)) else (laws_FnCents.j1 kj2 l0 l1 false)))) else (laws_FnCents.j1 kj2 l0 l1 true)) else (laws_FnCents.j1 kj2 l0 l1 false)) else (laws_FnCents.j1 kj2 l0 l1 false)))))) = some r := by rw [if_neg (show ¬ (false = true) by decide)] at H; exact H
 clear H
 have H := H1
 clear H1
 replace H := Option.bind_eq_some_iff.mp H
 obtain ⟨⟨t301, t302, t303, t304⟩, A80, H⟩ := H
 replace H : ((impl_CentsOf.f kj2 t301 t302).bind fun bt307 => ((impl_CentsOf.f kj2 t303 t304).bind fun bt309 => ((impl_CompareRatios.f kj2 t301 t302 t303 t304).bind fun bt311 => (if bt307.2 = 0 then (if bt309.2 = 0 then (if bt311.2 = 0 then (if bt311.1 < 0 then (if bt307.1 > bt309.1 then (laws_FnCents.j1 kj2 l0 l1 true) else (if bt311.1 > 0 then (if bt307.1 < bt309.1 then (laws_FnCents.j1 kj2 l0 l1 true) else (if bt311.1 = 0 then (laws_FnCents.j1 kj2 l0 l1 (bt307.1 != bt309.1)) else (laws_FnCents.j1 kj2 l0 l1 false))) else (if bt311.1 = 0 then (laws_FnCents.j1 kj2 l0 l1 (bt307.1 != bt309.1)) else (laws_FnCents.j1 kj2 l0 l1 false)))) else (if bt311.1 > 0 then (if bt307.1 < bt309.1 then (laws_FnCents.j1 kj2 l0 l1 true) else (if bt311.1 = 0 then (laws_FnCents.j1 kj2 l0 l1 (bt307.1 != bt309.1)) else (laws_FnCents.j1 kj2 l0 l1 false))) else (if bt311.1 = 0 then (laws_FnCents.j1 kj2 l0 l1 (bt307.1 != bt309.1)) else (laws_FnCents.j1 kj2 l0 l1 false)))) else (laws_FnCents.j1 kj2 l0 l1 true)) else (laws_FnCents.j1 kj2 l0 l1 false)) else (laws_FnCents.j1 kj2 l0 l1 false))))) = some r := H
 have A8 := Aside0.mk A80
 clear A80
 replace H := Option.bind_eq_some_iff.mp H
 obtain ⟨⟨t307, t308⟩, A90, H⟩ := H
 replace H : ((impl_CentsOf.f kj2 t303 t304).bind fun bt309 => ((impl_CompareRatios.f kj2 t301 t302 t303 t304).bind fun bt311 => (if t308 = 0 then (if bt309.2 = 0 then (if bt311.2 = 0 then (if bt311.1 < 0 then (if t307 > bt309.1 then (laws_FnCents.j1 kj2 l0 l1 true) else (if bt311.1 > 0 then (if t307 < bt309.1 then (laws_FnCents.j1 kj2 l0 l1 true) else (if bt311.1 = 0 then (laws_FnCents.j1 kj2 l0 l1 (t307 != bt309.1)) else (laws_FnCents.j1 kj2 l0 l1 false))) else (if bt311.1 = 0 then (laws_FnCents.j1 kj2 l0 l1 (t307 != bt309.1)) else (laws_FnCents.j1 kj2 l0 l1 false)))) else (if bt311.1 > 0 then (if t307 < bt309.1 then (laws_FnCents.j1 kj2 l0 l1 true) else (if bt311.1 = 0 then (laws_FnCents.j1 kj2 l0 l1 (t307 != bt309.1)) else (laws_FnCents.j1 kj2 l0 l1 false))) else (if bt311.1 = 0 then (laws_FnCents.j1 kj2 l0 l1 (t307 != bt309.1)) else (laws_FnCents.j1 kj2 l0 l1 false)))) else (laws_FnCents.j1 kj2 l0 l1 true)) else (laws_FnCents.j1 kj2 l0 l1 false)) else (laws_FnCents.j1 kj2 l0 l1 false)))) = some r := H
 have A9 := Aside0.mk A90
 clear A90
 replace H := Option.bind_eq_some_iff.mp H
 obtain ⟨⟨t309, t310⟩, A100, H⟩ := H
 replace H : ((impl_CompareRatios.f kj2 t301 t302 t303 t304).bind fun bt311 => (if t308 = 0 then (if t310 = 0 then (if bt311.2 = 0 then (if bt311.1 < 0 then (if t307 > t309 then (laws_FnCents.j1 kj2 l0 l1 true) else (if bt311.1 > 0 then (if t307 < t309 then (laws_FnCents.j1 kj2 l0 l1 true) else (if bt311.1 = 0 then (laws_FnCents.j1 kj2 l0 l1 (t307 != t309)) else (laws_FnCents.j1 kj2 l0 l1 false))) else (if bt311.1 = 0 then (laws_FnCents.j1 kj2 l0 l1 (t307 != t309)) else (laws_FnCents.j1 kj2 l0 l1 false)))) else (if bt311.1 > 0 then (if t307 < t309 then (laws_FnCents.j1 kj2 l0 l1 true) else (if bt311.1 = 0 then (laws_FnCents.j1 kj2 l0 l1 (t307 != t309)) else (laws_FnCents.j1 kj2 l0 l1 false))) else (if bt311.1 = 0 then (laws_FnCents.j1 kj2 l0 l1 (t307 != t309)) else (laws_FnCents.j1 kj2 l0 l1 false)))) else (laws_FnCents.j1 kj2 l0 l1 true)) else (laws_FnCents.j1 kj2 l0 l1 false)) else (laws_FnCents.j1 kj2 l0 l1 false))) = some r := H
 have A10 := Aside0.mk A100
 clear A100
 replace H := Option.bind_eq_some_iff.mp H
 obtain ⟨⟨t311, t312⟩, A110, H⟩ := H
 replace H : (if t308 = 0 then (if t310 = 0 then (if t312 = 0 then (if t311 < 0 then (if t307 > t309 then (laws_FnCents.j1 kj2 l0 l1 true) else (if t311 > 0 then (if t307 < t309 then (laws_FnCents.j1 kj2 l0 l1 true) else (if t311 = 0 then (laws_FnCents.j1 kj2 l0 l1 (t307 != t309)) else (laws_FnCents.j1 kj2 l0 l1 false))) else (if t311 = 0 then (laws_FnCents.j1 kj2 l0 l1 (t307 != t309)) else (laws_FnCents.j1 kj2 l0 l1 false)))) else (if t311 > 0 then (if t307 < t309 then (laws_FnCents.j1 kj2 l0 l1 true) else (if t311 = 0 then (laws_FnCents.j1 kj2 l0 l1 (t307 != t309)) else (laws_FnCents.j1 kj2 l0 l1 false))) else (if t311 = 0 then (laws_FnCents.j1 kj2 l0 l1 (t307 != t309)) else (laws_FnCents.j1 kj2 l0 l1 false)))) else (laws_FnCents.j1 kj2 l0 l1 true)) else (laws_FnCents.j1 kj2 l0 l1 false)) else (laws_FnCents.j1 kj2 l0 l1 false)) = some r := H
 have A11 := Aside0.mk A110
 clear A110
 have HC12 := Aside0.mk H
 clear H
 go_upto_region 7 with (first | ((with_reducible refine gate_callee (f := 34) rfl ?_); refine gL_ (some 42) rfl rfl Tryd.func34 #[.slice A0 l0.length c0] rfl ?_; (with_reducible refine (spec_DrawCompareRatios.calls kj2 _ _ l0 t301 t302 t303 t304 _ ?side1 ?side2 A8.out).mono ?_); (case side1 => exact tC (Kd.C_below HR0.out HB.out)); (case side2 => exact HC0.out); rintro e w13 ⟨rfl, hb⟩; refine ⟨_, rfl, ?_⟩; replace HB := Aside0.mk (below_step (tH HB) hb); (try clear hb); (try clear hb2); (try clear hk); (try clear hi)) | ((with_reducible refine gate_dst (N := 5) rfl ?_); refine box_event ?hg (N := 5) ?hd (cs := #[.int .i64 0, .int .i64 0]) (t := 52) ?hr ?_; (case hd => rfl); (case hg => rfl); (case hr => first | (go_simp; done) | (go_simp; rfl)); intro gb305 hg w14 hbox hb; have BK305 := Aside0.mk (hbox); have GW305 := Aside0.mk ((by rw [hg]; exact (below_size (tH HB)) : w.heap.size ≤ gb305)); have GE305 := Aside0.mk ((by rw [hg]; exact (below_size (tH HB)) : w.heap.size ≤ gb305)); replace HB := Aside0.mk (below_step (tH HB) hb); clear hb hbox hg) | ((with_reducible refine gate_dst (N := 6) rfl ?_); refine box_event ?hg (N := 6) ?hd (cs := #[.int .i64 0, .int .i64 0]) (t := 52) ?hr ?_; (case hd => rfl); (case hg => rfl); (case hr => first | (go_simp; done) | (go_simp; rfl)); intro gb306 hg w15 hbox hb; have BK306 := Aside0.mk (hbox); have GW306 := Aside0.mk ((by rw [hg]; exact (below_size (tH1 HB GE305.out)) : w.heap.size ≤ gb306)); have GE306 := Aside0.mk ((by rw [hg]; exact (below_size (tH1 HB GE305.out)) : w.heap.size ≤ gb306)); replace HB := Aside0.mk (below_step (tH1 HB GE305.out) hb); have NB305_306 := Aside0.mk ((by rw [hg]; exact Nat.ne_of_lt (blk_lt (g := gb305) (o := .cells #[.int .i64 0, .int .i64 0] 52 (0, 0)) (tB BK305)) : gb305 ≠ gb306)); have NB306_305 := Aside0.mk ((by rw [hg]; exact Nat.ne_of_gt (blk_lt (g := gb305) (o := .cells #[.int .i64 0, .int .i64 0] 52 (0, 0)) (tB BK305)) : gb306 ≠ gb305)); replace BK305 := tbB BK305 hb; clear hb hbox hg; have hnb16 := NB305_306.out; have hnc16 := NB306_305.out; have hcz17_0 : w15.cell? ⟨gb305, 0, none⟩ = some (.int .i64 0) := (blk_cell BK305.out 0).trans rfl; have hcz17_1 : w15.cell? ⟨gb305, 1, none⟩ = some (.int .i64 0) := (blk_cell BK305.out 1).trans rfl; have hfz17_0 := blk_frozen BK305.out 0; have hfz17_1 := blk_frozen BK305.out 1; have hcz18_0 : w15.cell? ⟨gb306, 0, none⟩ = some (.int .i64 0) := (blk_cell BK306.out 0).trans rfl; have hcz18_1 : w15.cell? ⟨gb306, 1, none⟩ = some (.int .i64 0) := (blk_cell BK306.out 1).trans rfl; have hfz18_0 := blk_frozen BK306.out 0; have hfz18_1 := blk_frozen BK306.out 1) | ((with_reducible refine gate_callee (f := 35) rfl ?_); refine gL_ (some 47) rfl rfl Tryd.func35 #[.agg #[.int .i64 t301, .int .i64 t302]] rfl ?_; (with_reducible refine (impl_CentsOf.calls kj2 t301 t302 t307 t308 _ ?side1 A9.out).mono ?_); (case side1 => exact Kd.C_below HT.out (tH2 HB GE305.out GE306.out)); rintro e w19 ⟨rfl, hb⟩; refine ⟨_, rfl, ?_⟩; replace BK305 := Aside0.mk (blk_below (g := gb305) (o := .cells #[.int .i64 t301, .int .i64 t302] 52 (0, 0)) (by (with_reducible repeat (first | refine blk_drewN ?_ _ | refine blk_drew ?_ | refine blk_alloc ?_ _)); refine blk_far ?_ NB305_306.out _; (with_reducible repeat (first | refine blk_drewN ?_ _ | refine blk_drew ?_ | refine blk_alloc ?_ _)); refine blk_far ?_ NB305_306.out _; (with_reducible repeat (first | refine blk_drewN ?_ _ | refine blk_drew ?_ | refine blk_alloc ?_ _)); refine blk_put (cs := #[.int .i64 t301, .int .i64 0]) ?_ 1 _ rfl; (with_reducible repeat (first | refine blk_drewN ?_ _ | refine blk_drew ?_ | refine blk_alloc ?_ _)); refine blk_put (cs := #[.int .i64 0, .int .i64 0]) ?_ 0 _ rfl; (with_reducible repeat (first | refine blk_drewN ?_ _ | refine blk_drew ?_ | refine blk_alloc ?_ _)); exact BK305.out) hb); replace BK306 := Aside0.mk (blk_below (g := gb306) (o := .cells #[.int .i64 t303, .int .i64 t304] 52 (0, 0)) (by (with_reducible repeat (first | refine blk_drewN ?_ _ | refine blk_drew ?_ | refine blk_alloc ?_ _)); refine blk_put (cs := #[.int .i64 t303, .int .i64 0]) ?_ 1 _ rfl; (with_reducible repeat (first | refine blk_drewN ?_ _ | refine blk_drew ?_ | refine blk_alloc ?_ _)); refine blk_put (cs := #[.int .i64 0, .int .i64 0]) ?_ 0 _ rfl; (with_reducible repeat (first | refine blk_drewN ?_ _ | refine blk_drew ?_ | refine blk_alloc ?_ _)); refine blk_far ?_ NB306_305.out _; (with_reducible repeat (first | refine blk_drewN ?_ _ | refine blk_drew ?_ | refine blk_alloc ?_ _)); refine blk_far ?_ NB306_305.out _; (with_reducible repeat (first | refine blk_drewN ?_ _ | refine blk_drew ?_ | refine blk_alloc ?_ _)); exact BK306.out) hb); replace HB := Aside0.mk (below_step (tH2 HB GE305.out GE306.out) hb); (try clear hb); (try clear hb2); (try clear hk); (try clear hi); have hcz20_0 : w19.cell? ⟨gb306, 0, none⟩ = some (.int .i64 t303) := (blk_cell BK306.out 0).trans rfl; have hcz20_1 : w19.cell? ⟨gb306, 1, none⟩ = some (.int .i64 t304) := (blk_cell BK306.out 1).trans rfl; have hfz20_0 := blk_frozen BK306.out 0; have hfz20_1 := blk_frozen BK306.out 1) | ((with_reducible refine gate_callee (f := 35) rfl ?_); refine gL_ (some 52) rfl rfl Tryd.func35 #[.agg #[.int .i64 t303, .int .i64 t304]] rfl ?_; (with_reducible refine (impl_CentsOf.calls kj2 t303 t304 t309 t310 _ ?side1 A10.out).mono ?_); (case side1 => exact tC (Kd.C_below HT.out HB.out)); rintro e w21 ⟨rfl, hb⟩; refine ⟨_, rfl, ?_⟩; replace BK305 := tbB BK305 hb; replace BK306 := tbB BK306 hb; replace HB := Aside0.mk (below_step (tH2 HB GE305.out GE306.out) hb); (try clear hb); (try clear hb2); (try clear hk); (try clear hi); have hcz22_0 : w21.cell? ⟨gb305, 0, none⟩ = some (.int .i64 t301) := (blk_cell BK305.out 0).trans rfl; have hcz22_1 : w21.cell? ⟨gb305, 1, none⟩ = some (.int .i64 t302) := (blk_cell BK305.out 1).trans rfl; have hfz22_0 := blk_frozen BK305.out 0; have hfz22_1 := blk_frozen BK305.out 1; have hcz23_0 : w21.cell? ⟨gb306, 0, none⟩ = some (.int .i64 t303) := (blk_cell BK306.out 0).trans rfl; have hcz23_1 : w21.cell? ⟨gb306, 1, none⟩ = some (.int .i64 t304) := (blk_cell BK306.out 1).trans rfl; have hfz23_0 := blk_frozen BK306.out 0; have hfz23_1 := blk_frozen BK306.out 1) | ((with_reducible refine gate_callee (f := 36) rfl ?_); refine gL_ (some 58) rfl rfl Tryd.func36 #[.agg #[.int .i64 t301, .int .i64 t302], .agg #[.int .i64 t303, .int .i64 t304]] rfl ?_; (with_reducible refine (impl_CompareRatios.calls kj2 t301 t302 t303 t304 t311 t312 _ A11.out).mono ?_); rintro e w24 ⟨rfl, hb⟩; refine ⟨_, rfl, ?_⟩; replace BK305 := tbB BK305 hb; replace BK306 := tbB BK306 hb; replace HB := Aside0.mk (below_step (tH2 HB GE305.out GE306.out) hb); (try clear hb); (try clear hb2); (try clear hk); (try clear hi)))
 (try simp only [Act.put, sx0, sx1, sx2])
 go_cut [97] (fun v97 wc => ∃ (kq : Nat) (x97_11 : Bool), v97 = .bool x97_11 ∧ Aside0 (laws_FnCents.j1 kq l0 l1 x97_11 = some r) ∧ Aside0 (kq ≤ kj2) ∧ Aside0 (wc.heap[gb305]? = some (.cells #[.int .i64 t301, .int .i64 t302] 52 (0, 0))) ∧ Aside0 (wc.heap[gb306]? = some (.cells #[.int .i64 t303, .int .i64 t304] 52 (0, 0))) ∧ Aside0 (Below w.heap.size w wc))
 case first => as_aux_lemma =>
  have H := HC12.out
  clear HC12
  by_cases c25 : t308 = 0
  · as_aux_lemma =>
    rw [if_pos c25] at H
    have c25b0 : (t308 == 0) = true := beq_iff_eq.mpr c25
    have c25b1 : (t308 != 0) = false := bne_eq_false_iff_eq.mpr c25
    clear c25
    (first | rw [c25b0] | (simp only [i64_w, i32_w]; rw [c25b0]) | skip)
    by_cases c26 : t310 = 0
    · as_aux_lemma =>
      rw [if_pos c26] at H
      have c26b0 : (t310 == 0) = true := beq_iff_eq.mpr c26
      have c26b1 : (t310 != 0) = false := bne_eq_false_iff_eq.mpr c26
      clear c26
      by_cases c27 : t312 = 0
      · as_aux_lemma =>
        rw [if_pos c27] at H
        have c27b0 : (t312 == 0) = true := beq_iff_eq.mpr c27
        have c27b1 : (t312 != 0) = false := bne_eq_false_iff_eq.mpr c27
        clear c27
        by_cases c28 : t311 < 0
        · as_aux_lemma =>
          rw [if_pos c28] at H
          have c28b0 : decide (t311 < 0) = true := decide_eq_true c28
          clear c28
          by_cases c29 : t307 > t309
          · rw [if_pos c29] at H
            have c29b0 : decide (t309 < t307) = true := decide_eq_true c29
            clear c29
            have H' := Aside0.mk H
            clear H
            go_wp2
            go_meet
            case rel => exact ⟨_, (true), tq, H', ⟨by have := HJ2.out; first | omega | exact Nat.le_refl _⟩, ⟨tB BK305⟩, ⟨tB BK306⟩, ⟨tH2 HB GE305.out GE306.out⟩⟩
          rw [if_neg c29] at H
          have c29b0 : decide (t309 < t307) = false := decide_eq_false c29
          clear c29
          by_cases c30 : t311 > 0
          · rw [if_pos c30] at H
            have c30b0 : decide (0 < t311) = true := decide_eq_true c30
            clear c30
            by_cases c31 : t307 < t309
            · rw [if_pos c31] at H
              have c31b0 : decide (t307 < t309) = true := decide_eq_true c31
              clear c31
              have H' := Aside0.mk H
              clear H
              go_wp2
              go_meet
              case rel => exact ⟨_, (true), tq, H', ⟨by have := HJ2.out; first | omega | exact Nat.le_refl _⟩, ⟨tB BK305⟩, ⟨tB BK306⟩, ⟨tH2 HB GE305.out GE306.out⟩⟩
            rw [if_neg c31] at H
            have c31b0 : decide (t307 < t309) = false := decide_eq_false c31
            clear c31
            by_cases c32 : t311 = 0
            · rw [if_pos c32] at H
              have c32b0 : (t311 == 0) = true := beq_iff_eq.mpr c32
              have c32b1 : (t311 != 0) = false := bne_eq_false_iff_eq.mpr c32
              clear c32
              have H' := Aside0.mk H
              clear H
              go_wp2
              go_meet
              case rel => exact ⟨_, ((t307 != t309)), tq, H', ⟨by have := HJ2.out; first | omega | exact Nat.le_refl _⟩, ⟨tB BK305⟩, ⟨tB BK306⟩, ⟨tH2 HB GE305.out GE306.out⟩⟩
            rw [if_neg c32] at H
            have c32b0 : (t311 == 0) = false := beq_eq_false_iff_ne.mpr c32
            have c32b1 : (t311 != 0) = true := bne_iff_ne.mpr c32
            have H' := Aside0.mk H
            clear H
            go_wp2
            go_meet
            case rel => exact ⟨_, (false), tq, H', ⟨by have := HJ2.out; first | omega | exact Nat.le_refl _⟩, ⟨tB BK305⟩, ⟨tB BK306⟩, ⟨tH2 HB GE305.out GE306.out⟩⟩
          rw [if_neg c30] at H
          have c30b0 : decide (0 < t311) = false := decide_eq_false c30
          clear c30
          by_cases c33 : t311 = 0
          · rw [if_pos c33] at H
            have c33b0 : (t311 == 0) = true := beq_iff_eq.mpr c33
            have c33b1 : (t311 != 0) = false := bne_eq_false_iff_eq.mpr c33
            clear c33
            have H' := Aside0.mk H
            clear H
            go_wp2
            go_meet
            case rel => exact ⟨_, ((t307 != t309)), tq, H', ⟨by have := HJ2.out; first | omega | exact Nat.le_refl _⟩, ⟨tB BK305⟩, ⟨tB BK306⟩, ⟨tH2 HB GE305.out GE306.out⟩⟩
          rw [if_neg c33] at H
          have c33b0 : (t311 == 0) = false := beq_eq_false_iff_ne.mpr c33
          have c33b1 : (t311 != 0) = true := bne_iff_ne.mpr c33
          have H' := Aside0.mk H
          clear H
          go_wp2
          go_meet
          case rel => exact ⟨_, (false), tq, H', ⟨by have := HJ2.out; first | omega | exact Nat.le_refl _⟩, ⟨tB BK305⟩, ⟨tB BK306⟩, ⟨tH2 HB GE305.out GE306.out⟩⟩
        rw [if_neg c28] at H
        have c28b0 : decide (t311 < 0) = false := decide_eq_false c28
        clear c28
        by_cases c34 : t311 > 0
        · rw [if_pos c34] at H
          have c34b0 : decide (0 < t311) = true := decide_eq_true c34
          clear c34
          by_cases c35 : t307 < t309
          · rw [if_pos c35] at H
            have c35b0 : decide (t307 < t309) = true := decide_eq_true c35
            clear c35
            have H' := Aside0.mk H
            clear H
            go_wp2
            go_meet
            case rel => exact ⟨_, (true), tq, H', ⟨by have := HJ2.out; first | omega | exact Nat.le_refl _⟩, ⟨tB BK305⟩, ⟨tB BK306⟩, ⟨tH2 HB GE305.out GE306.out⟩⟩
          rw [if_neg c35] at H
          have c35b0 : decide (t307 < t309) = false := decide_eq_false c35
          clear c35
          by_cases c36 : t311 = 0
          · rw [if_pos c36] at H
            have c36b0 : (t311 == 0) = true := beq_iff_eq.mpr c36
            have c36b1 : (t311 != 0) = false := bne_eq_false_iff_eq.mpr c36
            clear c36
            have H' := Aside0.mk H
            clear H
            go_wp2
            go_meet
            case rel => exact ⟨_, ((t307 != t309)), tq, H', ⟨by have := HJ2.out; first | omega | exact Nat.le_refl _⟩, ⟨tB BK305⟩, ⟨tB BK306⟩, ⟨tH2 HB GE305.out GE306.out⟩⟩
          rw [if_neg c36] at H
          have c36b0 : (t311 == 0) = false := beq_eq_false_iff_ne.mpr c36
          have c36b1 : (t311 != 0) = true := bne_iff_ne.mpr c36
          have H' := Aside0.mk H
          clear H
          go_wp2
          go_meet
          case rel => exact ⟨_, (false), tq, H', ⟨by have := HJ2.out; first | omega | exact Nat.le_refl _⟩, ⟨tB BK305⟩, ⟨tB BK306⟩, ⟨tH2 HB GE305.out GE306.out⟩⟩
        rw [if_neg c34] at H
        have c34b0 : decide (0 < t311) = false := decide_eq_false c34
        clear c34
        by_cases c37 : t311 = 0
        · rw [if_pos c37] at H
          have c37b0 : (t311 == 0) = true := beq_iff_eq.mpr c37
          have c37b1 : (t311 != 0) = false := bne_eq_false_iff_eq.mpr c37
          clear c37
          have H' := Aside0.mk H
          clear H
          go_wp2
          go_meet
          case rel => exact ⟨_, ((t307 != t309)), tq, H', ⟨by have := HJ2.out; first | omega | exact Nat.le_refl _⟩, ⟨tB BK305⟩, ⟨tB BK306⟩, ⟨tH2 HB GE305.out GE306.out⟩⟩
        rw [if_neg c37] at H
        have c37b0 : (t311 == 0) = false := beq_eq_false_iff_ne.mpr c37
        have c37b1 : (t311 != 0) = true := bne_iff_ne.mpr c37
        have H' := Aside0.mk H
        clear H
        go_wp2
        go_meet
        case rel => exact ⟨_, (false), tq, H', ⟨by have := HJ2.out; first | omega | exact Nat.le_refl _⟩, ⟨tB BK305⟩, ⟨tB BK306⟩, ⟨tH2 HB GE305.out GE306.out⟩⟩
      rw [if_neg c27] at H
      have c27b0 : (t312 == 0) = false := beq_eq_false_iff_ne.mpr c27
      have c27b1 : (t312 != 0) = true := bne_iff_ne.mpr c27
      have H' := Aside0.mk H
      clear H
      go_wp2
      go_meet
      case rel => exact ⟨_, (true), tq, H', ⟨by have := HJ2.out; first | omega | exact Nat.le_refl _⟩, ⟨tB BK305⟩, ⟨tB BK306⟩, ⟨tH2 HB GE305.out GE306.out⟩⟩
    rw [if_neg c26] at H
    have c26b0 : (t310 == 0) = false := beq_eq_false_iff_ne.mpr c26
    have c26b1 : (t310 != 0) = true := bne_iff_ne.mpr c26
    have H' := Aside0.mk H
    clear H
    go_wp2
    go_meet
    case rel => exact ⟨_, (false), tq, H', ⟨by have := HJ2.out; first | omega | exact Nat.le_refl _⟩, ⟨tB BK305⟩, ⟨tB BK306⟩, ⟨tH2 HB GE305.out GE306.out⟩⟩
  rw [if_neg c25] at H
  have c25b0 : (t308 == 0) = false := beq_eq_false_iff_ne.mpr c25
  have c25b1 : (t308 != 0) = true := bne_iff_ne.mpr c25
  (first | rw [c25b0] | (simp only [i64_w, i32_w]; rw [c25b0]) | skip)
  have H' := Aside0.mk H
  clear H
  go_wp2
  go_meet
  case rel => exact ⟨_, (false), tq, H', ⟨by have := HJ2.out; first | omega | exact Nat.le_refl _⟩, ⟨tB BK305⟩, ⟨tB BK306⟩, ⟨tH2 HB GE305.out GE306.out⟩⟩
 case rest => as_aux_lemma =>
 clear HC12
 try clear c1
 try clear c2
 try clear p2
 try clear c3
 try clear c5
 try clear c7
 try clear c16
 try clear c25
 try clear c25b0
 try clear c25b1
 try clear c26
 try clear c26b0
 try clear c26b1
 try clear c27
 try clear c27b0
 try clear c27b1
 try clear c28
 try clear c28b0
 try clear c29
 try clear c29b0
 try clear c30
 try clear c30b0
 try clear c31
 try clear c31b0
 try clear c32
 try clear c32b0
 try clear c32b1
 try clear c33
 try clear c33b0
 try clear c33b1
 try clear c34
 try clear c34b0
 try clear c35
 try clear c35b0
 try clear c36
 try clear c36b0
 try clear c36b1
 try clear c37
 try clear c37b0
 try clear c37b1
 try clear hcz17_0 hcz17_1
 try clear hcz18_0 hcz18_1
 try clear hcz20_0 hcz20_1
 try clear hcz22_0 hcz22_1
 try clear hcz23_0 hcz23_1
 try clear hfz17_0 hfz17_1
 try clear hfz18_0 hfz18_1
 try clear hfz20_0 hfz20_1
 try clear hfz22_0 hfz22_1
 try clear hfz23_0 hfz23_1
 try clear p2
 obtain ⟨kq, x97_11, rfl, HA, HJ11, BK305, BK306, HB⟩ := hcut
 cases kq with
 | zero => exact absurd HA.out (by simp [laws_FnCents.j1])
 | succ kj11 =>
 have H := HA.out
 clear HA
 simp only [laws_FnCents.j1] at H
 by_cases c38 : x97_11 = true
 · subst c38
   have H1 : (some false) = some r := by rw [if_pos rfl] at H; exact H
   clear H
   have H := H1
   clear H1
   obtain rfl := Option.some.inj H
   go_wp2
   go_ret
   exact ⟨tE, tH2 HB GE305.out GE306.out⟩
 as_aux_lemma =>
 replace c38 := Bool.eq_false_iff.mpr c38
 subst c38
 have H1 : ((spec_DrawOctaveOf.f kj11 l1).bind fun bt313 => ((impl_OctaveOf.f kj11 bt313.1 bt313.2).bind fun bt316 => (if bt316.2.2.2 = 0 then ((impl_CentsOf.f kj11 bt313.1 bt313.2).bind fun bt321 => ((impl_CentsOf.f kj11 bt316.1 bt316.2.1).bind fun bt323 => (if bt321.2 = 0 then (if bt323.2 = 0 then (if bt321.1 = (wrap64 (bt323.1 + (wrap64 (120000 * bt316.2.2.1)))) then (if bt316.1 < bt316.2.1 then (some false) else (if bt316.1 ≥ (wrap64 (2 * bt316.2.1)) then (some false) else (laws_FnCents.j2 kj11 l0 l1))) else (some false)) else (some false)) else (some false)))) else (laws_FnCents.j2 kj11 l0 l1)))) = some r := by rw [if_neg (show ¬ (false = true) by decide)] at H; exact H
 clear H
 have H := H1
 clear H1
 replace H := Option.bind_eq_some_iff.mp H
 obtain ⟨⟨t313, t314⟩, A390, H⟩ := H
 replace H : ((impl_OctaveOf.f kj11 t313 t314).bind fun bt316 => (if bt316.2.2.2 = 0 then ((impl_CentsOf.f kj11 t313 t314).bind fun bt321 => ((impl_CentsOf.f kj11 bt316.1 bt316.2.1).bind fun bt323 => (if bt321.2 = 0 then (if bt323.2 = 0 then (if bt321.1 = (wrap64 (bt323.1 + (wrap64 (120000 * bt316.2.2.1)))) then (if bt316.1 < bt316.2.1 then (some false) else (if bt316.1 ≥ (wrap64 (2 * bt316.2.1)) then (some false) else (laws_FnCents.j2 kj11 l0 l1))) else (some false)) else (some false)) else (some false)))) else (laws_FnCents.j2 kj11 l0 l1))) = some r := H
 have A39 := Aside0.mk A390
 clear A390
 replace H := Option.bind_eq_some_iff.mp H
 obtain ⟨⟨t316, t317, t318, t319⟩, A400, H⟩ := H
 replace H : (if t319 = 0 then ((impl_CentsOf.f kj11 t313 t314).bind fun bt321 => ((impl_CentsOf.f kj11 t316 t317).bind fun bt323 => (if bt321.2 = 0 then (if bt323.2 = 0 then (if bt321.1 = (wrap64 (bt323.1 + (wrap64 (120000 * t318)))) then (if t316 < t317 then (some false) else (if t316 ≥ (wrap64 (2 * t317)) then (some false) else (laws_FnCents.j2 kj11 l0 l1))) else (some false)) else (some false)) else (some false)))) else (laws_FnCents.j2 kj11 l0 l1)) = some r := H
 have A40 := Aside0.mk A400
 clear A400
 have HC41 := Aside0.mk H
 clear H
 go_upto_if 107 with (first | ((with_reducible refine gate_callee (f := 37) rfl ?_); refine gL_ (some 99) rfl rfl Tryd.func37 #[.slice A1 l1.length c1] rfl ?_; (with_reducible refine (spec_DrawOctaveOf.calls kj11 _ _ l1 t313 t314 _ ?side1 ?side2 A39.out).mono ?_); (case side1 => exact tC (Kd.C_below HR1.out HB.out)); (case side2 => exact HC1.out); rintro e w42 ⟨rfl, hb⟩; refine ⟨_, rfl, ?_⟩; replace BK305 := tbB BK305 hb; replace BK306 := tbB BK306 hb; replace HB := Aside0.mk (below_step (tH2 HB GE305.out GE306.out) hb); (try clear hb); (try clear hb2); (try clear hk); (try clear hi)) | ((with_reducible refine gate_dst (N := 13) rfl ?_); refine box_event ?hg (N := 13) ?hd (cs := #[.int .i64 0, .int .i64 0]) (t := 52) ?hr ?_; (case hd => rfl); (case hg => rfl); (case hr => first | (go_simp; done) | (go_simp; rfl)); intro gb315 hg w43 hbox hb; have BK315 := Aside0.mk (hbox); have GW315 := Aside0.mk ((by rw [hg]; exact (below_size (tH2 HB GE305.out GE306.out)) : w.heap.size ≤ gb315)); have GE315 := Aside0.mk ((by rw [hg]; exact (below_size (tH2 HB GE305.out GE306.out)) : w.heap.size ≤ gb315)); replace HB := Aside0.mk (below_step (tH2 HB GE305.out GE306.out) hb); have NB305_315 := Aside0.mk ((by rw [hg]; exact Nat.ne_of_lt (blk_lt (g := gb305) (o := .cells #[.int .i64 t301, .int .i64 t302] 52 (0, 0)) (tB BK305)) : gb305 ≠ gb315)); have NB315_305 := Aside0.mk ((by rw [hg]; exact Nat.ne_of_gt (blk_lt (g := gb305) (o := .cells #[.int .i64 t301, .int .i64 t302] 52 (0, 0)) (tB BK305)) : gb315 ≠ gb305)); replace BK305 := tbB BK305 hb; have NB306_315 := Aside0.mk ((by rw [hg]; exact Nat.ne_of_lt (blk_lt (g := gb306) (o := .cells #[.int .i64 t303, .int .i64 t304] 52 (0, 0)) (tB BK306)) : gb306 ≠ gb315)); have NB315_306 := Aside0.mk ((by rw [hg]; exact Nat.ne_of_gt (blk_lt (g := gb306) (o := .cells #[.int .i64 t303, .int .i64 t304] 52 (0, 0)) (tB BK306)) : gb315 ≠ gb306)); replace BK306 := tbB BK306 hb; clear hb hbox hg; have hnb44 := NB315_305.out; have hnc44 := NB305_315.out; have hnb45 := NB315_306.out; have hnc45 := NB306_315.out; have hcz46_0 : w43.cell? ⟨gb315, 0, none⟩ = some (.int .i64 0) := (blk_cell BK315.out 0).trans rfl; have hcz46_1 : w43.cell? ⟨gb315, 1, none⟩ = some (.int .i64 0) := (blk_cell BK315.out 1).trans rfl; have hfz46_0 := blk_frozen BK315.out 0; have hfz46_1 := blk_frozen BK315.out 1) | ((with_reducible refine gate_callee (f := 38) rfl ?_); refine gL_ (some 102) rfl rfl Tryd.func38 #[.agg #[.int .i64 t313, .int .i64 t314]] rfl ?_; (with_reducible refine (impl_OctaveOf.calls kj11 t313 t314 t316 t317 t318 t319 _ A40.out).mono ?_); rintro e w47 ⟨rfl, hb⟩; refine ⟨_, rfl, ?_⟩; replace BK305 := Aside0.mk (blk_below (g := gb305) (o := .cells #[.int .i64 t301, .int .i64 t302] 52 (0, 0)) (by (with_reducible repeat (first | refine blk_drewN ?_ _ | refine blk_drew ?_ | refine blk_alloc ?_ _)); refine blk_far ?_ NB305_315.out _; (with_reducible repeat (first | refine blk_drewN ?_ _ | refine blk_drew ?_ | refine blk_alloc ?_ _)); refine blk_far ?_ NB305_315.out _; (with_reducible repeat (first | refine blk_drewN ?_ _ | refine blk_drew ?_ | refine blk_alloc ?_ _)); exact BK305.out) hb); replace BK306 := Aside0.mk (blk_below (g := gb306) (o := .cells #[.int .i64 t303, .int .i64 t304] 52 (0, 0)) (by (with_reducible repeat (first | refine blk_drewN ?_ _ | refine blk_drew ?_ | refine blk_alloc ?_ _)); refine blk_far ?_ NB306_315.out _; (with_reducible repeat (first | refine blk_drewN ?_ _ | refine blk_drew ?_ | refine blk_alloc ?_ _)); refine blk_far ?_ NB306_315.out _; (with_reducible repeat (first | refine blk_drewN ?_ _ | refine blk_drew ?_ | refine blk_alloc ?_ _)); exact BK306.out) hb); replace BK315 := Aside0.mk (blk_below (g := gb315) (o := .cells #[.int .i64 t313, .int .i64 t314] 52 (0, 0)) (by (with_reducible repeat (first | refine blk_drewN ?_ _ | refine blk_drew ?_ | refine blk_alloc ?_ _)); refine blk_put (cs := #[.int .i64 t313, .int .i64 0]) ?_ 1 _ rfl; (with_reducible repeat (first | refine blk_drewN ?_ _ | refine blk_drew ?_ | refine blk_alloc ?_ _)); refine blk_put (cs := #[.int .i64 0, .int .i64 0]) ?_ 0 _ rfl; (with_reducible repeat (first | refine blk_drewN ?_ _ | refine blk_drew ?_ | refine blk_alloc ?_ _)); exact BK315.out) hb); replace HB := Aside0.mk (below_step (tH3 HB GE305.out GE306.out GE315.out) hb); (try clear hb); (try clear hb2); (try clear hk); (try clear hi)) | ((with_reducible refine gate_dst (N := 14) rfl ?_); refine box_event ?hg (N := 14) ?hd (cs := #[.int .i64 0, .int .i64 0]) (t := 52) ?hr ?_; (case hd => rfl); (case hg => rfl); (case hr => first | (go_simp; done) | (go_simp; rfl)); intro gb320 hg w48 hbox hb; have BK320 := Aside0.mk (hbox); have GW320 := Aside0.mk ((by rw [hg]; exact (below_size (tH3 HB GE305.out GE306.out GE315.out)) : w.heap.size ≤ gb320)); have GE320 := Aside0.mk ((by rw [hg]; exact (below_size (tH3 HB GE305.out GE306.out GE315.out)) : w.heap.size ≤ gb320)); replace HB := Aside0.mk (below_step (tH3 HB GE305.out GE306.out GE315.out) hb); have NB305_320 := Aside0.mk ((by rw [hg]; exact Nat.ne_of_lt (blk_lt (g := gb305) (o := .cells #[.int .i64 t301, .int .i64 t302] 52 (0, 0)) (tB BK305)) : gb305 ≠ gb320)); have NB320_305 := Aside0.mk ((by rw [hg]; exact Nat.ne_of_gt (blk_lt (g := gb305) (o := .cells #[.int .i64 t301, .int .i64 t302] 52 (0, 0)) (tB BK305)) : gb320 ≠ gb305)); replace BK305 := tbB BK305 hb; have NB306_320 := Aside0.mk ((by rw [hg]; exact Nat.ne_of_lt (blk_lt (g := gb306) (o := .cells #[.int .i64 t303, .int .i64 t304] 52 (0, 0)) (tB BK306)) : gb306 ≠ gb320)); have NB320_306 := Aside0.mk ((by rw [hg]; exact Nat.ne_of_gt (blk_lt (g := gb306) (o := .cells #[.int .i64 t303, .int .i64 t304] 52 (0, 0)) (tB BK306)) : gb320 ≠ gb306)); replace BK306 := tbB BK306 hb; have NB315_320 := Aside0.mk ((by rw [hg]; exact Nat.ne_of_lt (blk_lt (g := gb315) (o := .cells #[.int .i64 t313, .int .i64 t314] 52 (0, 0)) (tB BK315)) : gb315 ≠ gb320)); have NB320_315 := Aside0.mk ((by rw [hg]; exact Nat.ne_of_gt (blk_lt (g := gb315) (o := .cells #[.int .i64 t313, .int .i64 t314] 52 (0, 0)) (tB BK315)) : gb320 ≠ gb315)); replace BK315 := tbB BK315 hb; clear hb hbox hg; have hnb49 := NB320_305.out; have hnc49 := NB305_320.out; have hnb50 := NB320_306.out; have hnc50 := NB306_320.out; have hnb51 := NB320_315.out; have hnc51 := NB315_320.out; have hcz52_0 : w48.cell? ⟨gb320, 0, none⟩ = some (.int .i64 0) := (blk_cell BK320.out 0).trans rfl; have hcz52_1 : w48.cell? ⟨gb320, 1, none⟩ = some (.int .i64 0) := (blk_cell BK320.out 1).trans rfl; have hfz52_0 := blk_frozen BK320.out 0; have hfz52_1 := blk_frozen BK320.out 1))
 (try simp only [Act.put, sx0, sx1, sx2])
 go_cut [] (fun wc => ∃ (kq : Nat), Aside0 (laws_FnCents.j2 kq l0 l1 = some r) ∧ Aside0 (kq ≤ kj11) ∧ Aside0 (wc.heap[gb305]? = some (.cells #[.int .i64 t301, .int .i64 t302] 52 (0, 0))) ∧ Aside0 (wc.heap[gb306]? = some (.cells #[.int .i64 t303, .int .i64 t304] 52 (0, 0))) ∧ Aside0 (wc.heap[gb315]? = some (.cells #[.int .i64 t313, .int .i64 t314] 52 (0, 0))) ∧ Aside0 (wc.heap[gb320]? = some (.cells #[.int .i64 t316, .int .i64 t317] 52 (0, 0))) ∧ Aside0 (Below w.heap.size w wc))
 case first => as_aux_lemma =>
  have H := HC41.out
  clear HC41
  by_cases c53 : t319 = 0
  · as_aux_lemma =>
    rw [if_pos c53] at H
    have c53b0 : (t319 == 0) = true := beq_iff_eq.mpr c53
    have c53b1 : (t319 != 0) = false := bne_eq_false_iff_eq.mpr c53
    clear c53
    (first | rw [c53b0] | (simp only [i64_w, i32_w]; rw [c53b0]) | skip)
    replace H := Option.bind_eq_some_iff.mp H
    obtain ⟨⟨t321, t322⟩, A540, H⟩ := H
    replace H : ((impl_CentsOf.f kj11 t316 t317).bind fun bt323 => (if t322 = 0 then (if bt323.2 = 0 then (if t321 = (wrap64 (bt323.1 + (wrap64 (120000 * t318)))) then (if t316 < t317 then (some false) else (if t316 ≥ (wrap64 (2 * t317)) then (some false) else (laws_FnCents.j2 kj11 l0 l1))) else (some false)) else (some false)) else (some false))) = some r := H
    have A54 := Aside0.mk A540
    clear A540
    replace H := Option.bind_eq_some_iff.mp H
    obtain ⟨⟨t323, t324⟩, A550, H⟩ := H
    replace H : (if t322 = 0 then (if t324 = 0 then (if t321 = (wrap64 (t323 + (wrap64 (120000 * t318)))) then (if t316 < t317 then (some false) else (if t316 ≥ (wrap64 (2 * t317)) then (some false) else (laws_FnCents.j2 kj11 l0 l1))) else (some false)) else (some false)) else (some false)) = some r := H
    have A55 := Aside0.mk A550
    clear A550
    by_cases c56 : t322 = 0
    · as_aux_lemma =>
      rw [if_pos c56] at H
      have c56b0 : (t322 == 0) = true := beq_iff_eq.mpr c56
      have c56b1 : (t322 != 0) = false := bne_eq_false_iff_eq.mpr c56
      clear c56
      by_cases c57 : t324 = 0
      · as_aux_lemma =>
        rw [if_pos c57] at H
        have c57b0 : (t324 == 0) = true := beq_iff_eq.mpr c57
        have c57b1 : (t324 != 0) = false := bne_eq_false_iff_eq.mpr c57
        clear c57
        by_cases c58 : t321 = (wrap64 (t323 + (wrap64 (120000 * t318))))
        · as_aux_lemma =>
          rw [if_pos c58] at H
          have c58b0 : (t321 == (wrap64 (t323 + (wrap64 (120000 * t318))))) = true := beq_iff_eq.mpr c58
          have c58b1 : (t321 != (wrap64 (t323 + (wrap64 (120000 * t318))))) = false := bne_eq_false_iff_eq.mpr c58
          clear c58
          by_cases c59 : t316 < t317
          · rw [if_pos c59] at H
            have c59b0 : decide (t316 < t317) = true := decide_eq_true c59
            clear c59
            obtain rfl := Option.some.inj H
            have hnb60 := NB315_305.out
            have hnc60 := NB305_315.out
            have hnb61 := NB315_306.out
            have hnc61 := NB306_315.out
            have hnb62 := NB315_320.out
            have hnc62 := NB320_315.out
            have hcz63_0 : w48.cell? ⟨gb315, 0, none⟩ = some (.int .i64 t313) := (blk_cell BK315.out 0).trans rfl
            have hcz63_1 : w48.cell? ⟨gb315, 1, none⟩ = some (.int .i64 t314) := (blk_cell BK315.out 1).trans rfl
            have hfz63_0 := blk_frozen BK315.out 0
            have hfz63_1 := blk_frozen BK315.out 1
            go_wp2_with (first | ((with_reducible refine gate_callee (f := 35) rfl ?_); refine gL_ (some 110) rfl rfl Tryd.func35 #[.agg #[.int .i64 t313, .int .i64 t314]] rfl ?_; (with_reducible refine (impl_CentsOf.calls kj11 t313 t314 t321 t322 _ ?side1 A54.out).mono ?_); (case side1 => exact Kd.C_below HT.out (tH4 HB GE305.out GE306.out GE315.out GE320.out)); rintro e w64 ⟨rfl, hb⟩; refine ⟨_, rfl, ?_⟩; replace BK305 := Aside0.mk (blk_below (g := gb305) (o := .cells #[.int .i64 t301, .int .i64 t302] 52 (0, 0)) (by (with_reducible repeat (first | refine blk_drewN ?_ _ | refine blk_drew ?_ | refine blk_alloc ?_ _)); refine blk_far ?_ NB305_320.out _; (with_reducible repeat (first | refine blk_drewN ?_ _ | refine blk_drew ?_ | refine blk_alloc ?_ _)); refine blk_far ?_ NB305_320.out _; (with_reducible repeat (first | refine blk_drewN ?_ _ | refine blk_drew ?_ | refine blk_alloc ?_ _)); exact BK305.out) hb); replace BK306 := Aside0.mk (blk_below (g := gb306) (o := .cells #[.int .i64 t303, .int .i64 t304] 52 (0, 0)) (by (with_reducible repeat (first | refine blk_drewN ?_ _ | refine blk_drew ?_ | refine blk_alloc ?_ _)); refine blk_far ?_ NB306_320.out _; (with_reducible repeat (first | refine blk_drewN ?_ _ | refine blk_drew ?_ | refine blk_alloc ?_ _)); refine blk_far ?_ NB306_320.out _; (with_reducible repeat (first | refine blk_drewN ?_ _ | refine blk_drew ?_ | refine blk_alloc ?_ _)); exact BK306.out) hb); replace BK315 := Aside0.mk (blk_below (g := gb315) (o := .cells #[.int .i64 t313, .int .i64 t314] 52 (0, 0)) (by (with_reducible repeat (first | refine blk_drewN ?_ _ | refine blk_drew ?_ | refine blk_alloc ?_ _)); refine blk_far ?_ NB315_320.out _; (with_reducible repeat (first | refine blk_drewN ?_ _ | refine blk_drew ?_ | refine blk_alloc ?_ _)); refine blk_far ?_ NB315_320.out _; (with_reducible repeat (first | refine blk_drewN ?_ _ | refine blk_drew ?_ | refine blk_alloc ?_ _)); exact BK315.out) hb); replace BK320 := Aside0.mk (blk_below (g := gb320) (o := .cells #[.int .i64 t316, .int .i64 t317] 52 (0, 0)) (by (with_reducible repeat (first | refine blk_drewN ?_ _ | refine blk_drew ?_ | refine blk_alloc ?_ _)); refine blk_put (cs := #[.int .i64 t316, .int .i64 0]) ?_ 1 _ rfl; (with_reducible repeat (first | refine blk_drewN ?_ _ | refine blk_drew ?_ | refine blk_alloc ?_ _)); refine blk_put (cs := #[.int .i64 0, .int .i64 0]) ?_ 0 _ rfl; (with_reducible repeat (first | refine blk_drewN ?_ _ | refine blk_drew ?_ | refine blk_alloc ?_ _)); exact BK320.out) hb); replace HB := Aside0.mk (below_step (tH4 HB GE305.out GE306.out GE315.out GE320.out) hb); (try clear hb); (try clear hb2); (try clear hk); (try clear hi); have hnb65 := NB320_305.out; have hnc65 := NB305_320.out; have hnb66 := NB320_306.out; have hnc66 := NB306_320.out; have hcz67_0 : w64.cell? ⟨gb320, 0, none⟩ = some (.int .i64 t316) := (blk_cell BK320.out 0).trans rfl; have hcz67_1 : w64.cell? ⟨gb320, 1, none⟩ = some (.int .i64 t317) := (blk_cell BK320.out 1).trans rfl; have hfz67_0 := blk_frozen BK320.out 0; have hfz67_1 := blk_frozen BK320.out 1) | ((with_reducible refine gate_callee (f := 35) rfl ?_); refine gL_ (some 115) rfl rfl Tryd.func35 #[.agg #[.int .i64 t316, .int .i64 t317]] rfl ?_; (with_reducible refine (impl_CentsOf.calls kj11 t316 t317 t323 t324 _ ?side1 A55.out).mono ?_); (case side1 => exact tC (Kd.C_below HT.out HB.out)); rintro e w68 ⟨rfl, hb⟩; refine ⟨_, rfl, ?_⟩; replace BK305 := tbB BK305 hb; replace BK306 := tbB BK306 hb; replace BK315 := tbB BK315 hb; replace BK320 := tbB BK320 hb; replace HB := Aside0.mk (below_step (tH4 HB GE305.out GE306.out GE315.out GE320.out) hb); (try clear hb); (try clear hb2); (try clear hk); (try clear hi); have hcz69_0 : w68.cell? ⟨gb320, 0, none⟩ = some (.int .i64 t316) := (blk_cell BK320.out 0).trans rfl; have hcz69_1 : w68.cell? ⟨gb320, 1, none⟩ = some (.int .i64 t317) := (blk_cell BK320.out 1).trans rfl; have hfz69_0 := blk_frozen BK320.out 0; have hfz69_1 := blk_frozen BK320.out 1))
            go_ret
            exact ⟨tE, tH4 HB GE305.out GE306.out GE315.out GE320.out⟩
          rw [if_neg c59] at H
          have c59b0 : decide (t316 < t317) = false := decide_eq_false c59
          clear c59
          by_cases c70 : t316 ≥ (wrap64 (2 * t317))
          · rw [if_pos c70] at H
            have c70b0 : decide ((wrap64 (2 * t317)) ≤ t316) = true := decide_eq_true c70
            clear c70
            obtain rfl := Option.some.inj H
            have hnb71 := NB315_305.out
            have hnc71 := NB305_315.out
            have hnb72 := NB315_306.out
            have hnc72 := NB306_315.out
            have hnb73 := NB315_320.out
            have hnc73 := NB320_315.out
            have hcz74_0 : w48.cell? ⟨gb315, 0, none⟩ = some (.int .i64 t313) := (blk_cell BK315.out 0).trans rfl
            have hcz74_1 : w48.cell? ⟨gb315, 1, none⟩ = some (.int .i64 t314) := (blk_cell BK315.out 1).trans rfl
            have hfz74_0 := blk_frozen BK315.out 0
            have hfz74_1 := blk_frozen BK315.out 1
            go_wp2_with (first | ((with_reducible refine gate_callee (f := 35) rfl ?_); refine gL_ (some 110) rfl rfl Tryd.func35 #[.agg #[.int .i64 t313, .int .i64 t314]] rfl ?_; (with_reducible refine (impl_CentsOf.calls kj11 t313 t314 t321 t322 _ ?side1 A54.out).mono ?_); (case side1 => exact Kd.C_below HT.out (tH4 HB GE305.out GE306.out GE315.out GE320.out)); rintro e w75 ⟨rfl, hb⟩; refine ⟨_, rfl, ?_⟩; replace BK305 := Aside0.mk (blk_below (g := gb305) (o := .cells #[.int .i64 t301, .int .i64 t302] 52 (0, 0)) (by (with_reducible repeat (first | refine blk_drewN ?_ _ | refine blk_drew ?_ | refine blk_alloc ?_ _)); refine blk_far ?_ NB305_320.out _; (with_reducible repeat (first | refine blk_drewN ?_ _ | refine blk_drew ?_ | refine blk_alloc ?_ _)); refine blk_far ?_ NB305_320.out _; (with_reducible repeat (first | refine blk_drewN ?_ _ | refine blk_drew ?_ | refine blk_alloc ?_ _)); exact BK305.out) hb); replace BK306 := Aside0.mk (blk_below (g := gb306) (o := .cells #[.int .i64 t303, .int .i64 t304] 52 (0, 0)) (by (with_reducible repeat (first | refine blk_drewN ?_ _ | refine blk_drew ?_ | refine blk_alloc ?_ _)); refine blk_far ?_ NB306_320.out _; (with_reducible repeat (first | refine blk_drewN ?_ _ | refine blk_drew ?_ | refine blk_alloc ?_ _)); refine blk_far ?_ NB306_320.out _; (with_reducible repeat (first | refine blk_drewN ?_ _ | refine blk_drew ?_ | refine blk_alloc ?_ _)); exact BK306.out) hb); replace BK315 := Aside0.mk (blk_below (g := gb315) (o := .cells #[.int .i64 t313, .int .i64 t314] 52 (0, 0)) (by (with_reducible repeat (first | refine blk_drewN ?_ _ | refine blk_drew ?_ | refine blk_alloc ?_ _)); refine blk_far ?_ NB315_320.out _; (with_reducible repeat (first | refine blk_drewN ?_ _ | refine blk_drew ?_ | refine blk_alloc ?_ _)); refine blk_far ?_ NB315_320.out _; (with_reducible repeat (first | refine blk_drewN ?_ _ | refine blk_drew ?_ | refine blk_alloc ?_ _)); exact BK315.out) hb); replace BK320 := Aside0.mk (blk_below (g := gb320) (o := .cells #[.int .i64 t316, .int .i64 t317] 52 (0, 0)) (by (with_reducible repeat (first | refine blk_drewN ?_ _ | refine blk_drew ?_ | refine blk_alloc ?_ _)); refine blk_put (cs := #[.int .i64 t316, .int .i64 0]) ?_ 1 _ rfl; (with_reducible repeat (first | refine blk_drewN ?_ _ | refine blk_drew ?_ | refine blk_alloc ?_ _)); refine blk_put (cs := #[.int .i64 0, .int .i64 0]) ?_ 0 _ rfl; (with_reducible repeat (first | refine blk_drewN ?_ _ | refine blk_drew ?_ | refine blk_alloc ?_ _)); exact BK320.out) hb); replace HB := Aside0.mk (below_step (tH4 HB GE305.out GE306.out GE315.out GE320.out) hb); (try clear hb); (try clear hb2); (try clear hk); (try clear hi); have hnb76 := NB320_305.out; have hnc76 := NB305_320.out; have hnb77 := NB320_306.out; have hnc77 := NB306_320.out; have hcz78_0 : w75.cell? ⟨gb320, 0, none⟩ = some (.int .i64 t316) := (blk_cell BK320.out 0).trans rfl; have hcz78_1 : w75.cell? ⟨gb320, 1, none⟩ = some (.int .i64 t317) := (blk_cell BK320.out 1).trans rfl; have hfz78_0 := blk_frozen BK320.out 0; have hfz78_1 := blk_frozen BK320.out 1) | ((with_reducible refine gate_callee (f := 35) rfl ?_); refine gL_ (some 115) rfl rfl Tryd.func35 #[.agg #[.int .i64 t316, .int .i64 t317]] rfl ?_; (with_reducible refine (impl_CentsOf.calls kj11 t316 t317 t323 t324 _ ?side1 A55.out).mono ?_); (case side1 => exact tC (Kd.C_below HT.out HB.out)); rintro e w79 ⟨rfl, hb⟩; refine ⟨_, rfl, ?_⟩; replace BK305 := tbB BK305 hb; replace BK306 := tbB BK306 hb; replace BK315 := tbB BK315 hb; replace BK320 := tbB BK320 hb; replace HB := Aside0.mk (below_step (tH4 HB GE305.out GE306.out GE315.out GE320.out) hb); (try clear hb); (try clear hb2); (try clear hk); (try clear hi); have hcz80_0 : w79.cell? ⟨gb320, 0, none⟩ = some (.int .i64 t316) := (blk_cell BK320.out 0).trans rfl; have hcz80_1 : w79.cell? ⟨gb320, 1, none⟩ = some (.int .i64 t317) := (blk_cell BK320.out 1).trans rfl; have hfz80_0 := blk_frozen BK320.out 0; have hfz80_1 := blk_frozen BK320.out 1))
            go_ret
            exact ⟨tE, tH4 HB GE305.out GE306.out GE315.out GE320.out⟩
          rw [if_neg c70] at H
          have c70b0 : decide ((wrap64 (2 * t317)) ≤ t316) = false := decide_eq_false c70
          clear c70
          have H' := Aside0.mk H
          clear H
          have hnb81 := NB315_305.out
          have hnc81 := NB305_315.out
          have hnb82 := NB315_306.out
          have hnc82 := NB306_315.out
          have hnb83 := NB315_320.out
          have hnc83 := NB320_315.out
          have hcz84_0 : w48.cell? ⟨gb315, 0, none⟩ = some (.int .i64 t313) := (blk_cell BK315.out 0).trans rfl
          have hcz84_1 : w48.cell? ⟨gb315, 1, none⟩ = some (.int .i64 t314) := (blk_cell BK315.out 1).trans rfl
          have hfz84_0 := blk_frozen BK315.out 0
          have hfz84_1 := blk_frozen BK315.out 1
          go_wp2_with (first | ((with_reducible refine gate_callee (f := 35) rfl ?_); refine gL_ (some 110) rfl rfl Tryd.func35 #[.agg #[.int .i64 t313, .int .i64 t314]] rfl ?_; (with_reducible refine (impl_CentsOf.calls kj11 t313 t314 t321 t322 _ ?side1 A54.out).mono ?_); (case side1 => exact Kd.C_below HT.out (tH4 HB GE305.out GE306.out GE315.out GE320.out)); rintro e w85 ⟨rfl, hb⟩; refine ⟨_, rfl, ?_⟩; replace BK305 := Aside0.mk (blk_below (g := gb305) (o := .cells #[.int .i64 t301, .int .i64 t302] 52 (0, 0)) (by (with_reducible repeat (first | refine blk_drewN ?_ _ | refine blk_drew ?_ | refine blk_alloc ?_ _)); refine blk_far ?_ NB305_320.out _; (with_reducible repeat (first | refine blk_drewN ?_ _ | refine blk_drew ?_ | refine blk_alloc ?_ _)); refine blk_far ?_ NB305_320.out _; (with_reducible repeat (first | refine blk_drewN ?_ _ | refine blk_drew ?_ | refine blk_alloc ?_ _)); exact BK305.out) hb); replace BK306 := Aside0.mk (blk_below (g := gb306) (o := .cells #[.int .i64 t303, .int .i64 t304] 52 (0, 0)) (by (with_reducible repeat (first | refine blk_drewN ?_ _ | refine blk_drew ?_ | refine blk_alloc ?_ _)); refine blk_far ?_ NB306_320.out _; (with_reducible repeat (first | refine blk_drewN ?_ _ | refine blk_drew ?_ | refine blk_alloc ?_ _)); refine blk_far ?_ NB306_320.out _; (with_reducible repeat (first | refine blk_drewN ?_ _ | refine blk_drew ?_ | refine blk_alloc ?_ _)); exact BK306.out) hb); replace BK315 := Aside0.mk (blk_below (g := gb315) (o := .cells #[.int .i64 t313, .int .i64 t314] 52 (0, 0)) (by (with_reducible repeat (first | refine blk_drewN ?_ _ | refine blk_drew ?_ | refine blk_alloc ?_ _)); refine blk_far ?_ NB315_320.out _; (with_reducible repeat (first | refine blk_drewN ?_ _ | refine blk_drew ?_ | refine blk_alloc ?_ _)); refine blk_far ?_ NB315_320.out _; (with_reducible repeat (first | refine blk_drewN ?_ _ | refine blk_drew ?_ | refine blk_alloc ?_ _)); exact BK315.out) hb); replace BK320 := Aside0.mk (blk_below (g := gb320) (o := .cells #[.int .i64 t316, .int .i64 t317] 52 (0, 0)) (by (with_reducible repeat (first | refine blk_drewN ?_ _ | refine blk_drew ?_ | refine blk_alloc ?_ _)); refine blk_put (cs := #[.int .i64 t316, .int .i64 0]) ?_ 1 _ rfl; (with_reducible repeat (first | refine blk_drewN ?_ _ | refine blk_drew ?_ | refine blk_alloc ?_ _)); refine blk_put (cs := #[.int .i64 0, .int .i64 0]) ?_ 0 _ rfl; (with_reducible repeat (first | refine blk_drewN ?_ _ | refine blk_drew ?_ | refine blk_alloc ?_ _)); exact BK320.out) hb); replace HB := Aside0.mk (below_step (tH4 HB GE305.out GE306.out GE315.out GE320.out) hb); (try clear hb); (try clear hb2); (try clear hk); (try clear hi); have hnb86 := NB320_305.out; have hnc86 := NB305_320.out; have hnb87 := NB320_306.out; have hnc87 := NB306_320.out; have hcz88_0 : w85.cell? ⟨gb320, 0, none⟩ = some (.int .i64 t316) := (blk_cell BK320.out 0).trans rfl; have hcz88_1 : w85.cell? ⟨gb320, 1, none⟩ = some (.int .i64 t317) := (blk_cell BK320.out 1).trans rfl; have hfz88_0 := blk_frozen BK320.out 0; have hfz88_1 := blk_frozen BK320.out 1) | ((with_reducible refine gate_callee (f := 35) rfl ?_); refine gL_ (some 115) rfl rfl Tryd.func35 #[.agg #[.int .i64 t316, .int .i64 t317]] rfl ?_; (with_reducible refine (impl_CentsOf.calls kj11 t316 t317 t323 t324 _ ?side1 A55.out).mono ?_); (case side1 => exact tC (Kd.C_below HT.out HB.out)); rintro e w89 ⟨rfl, hb⟩; refine ⟨_, rfl, ?_⟩; replace BK305 := tbB BK305 hb; replace BK306 := tbB BK306 hb; replace BK315 := tbB BK315 hb; replace BK320 := tbB BK320 hb; replace HB := Aside0.mk (below_step (tH4 HB GE305.out GE306.out GE315.out GE320.out) hb); (try clear hb); (try clear hb2); (try clear hk); (try clear hi); have hcz90_0 : w89.cell? ⟨gb320, 0, none⟩ = some (.int .i64 t316) := (blk_cell BK320.out 0).trans rfl; have hcz90_1 : w89.cell? ⟨gb320, 1, none⟩ = some (.int .i64 t317) := (blk_cell BK320.out 1).trans rfl; have hfz90_0 := blk_frozen BK320.out 0; have hfz90_1 := blk_frozen BK320.out 1))
          go_meet
          case rel => exact ⟨_, H', ⟨by have := HJ2.out; have := HJ11.out; first | omega | exact Nat.le_refl _⟩, ⟨tB BK305⟩, ⟨tB BK306⟩, ⟨tB BK315⟩, ⟨tB BK320⟩, ⟨tH4 HB GE305.out GE306.out GE315.out GE320.out⟩⟩
        rw [if_neg c58] at H
        have c58b0 : (t321 == (wrap64 (t323 + (wrap64 (120000 * t318))))) = false := beq_eq_false_iff_ne.mpr c58
        have c58b1 : (t321 != (wrap64 (t323 + (wrap64 (120000 * t318))))) = true := bne_iff_ne.mpr c58
        obtain rfl := Option.some.inj H
        have hnb91 := NB315_305.out
        have hnc91 := NB305_315.out
        have hnb92 := NB315_306.out
        have hnc92 := NB306_315.out
        have hnb93 := NB315_320.out
        have hnc93 := NB320_315.out
        have hcz94_0 : w48.cell? ⟨gb315, 0, none⟩ = some (.int .i64 t313) := (blk_cell BK315.out 0).trans rfl
        have hcz94_1 : w48.cell? ⟨gb315, 1, none⟩ = some (.int .i64 t314) := (blk_cell BK315.out 1).trans rfl
        have hfz94_0 := blk_frozen BK315.out 0
        have hfz94_1 := blk_frozen BK315.out 1
        go_wp2_with (first | ((with_reducible refine gate_callee (f := 35) rfl ?_); refine gL_ (some 110) rfl rfl Tryd.func35 #[.agg #[.int .i64 t313, .int .i64 t314]] rfl ?_; (with_reducible refine (impl_CentsOf.calls kj11 t313 t314 t321 t322 _ ?side1 A54.out).mono ?_); (case side1 => exact Kd.C_below HT.out (tH4 HB GE305.out GE306.out GE315.out GE320.out)); rintro e w95 ⟨rfl, hb⟩; refine ⟨_, rfl, ?_⟩; replace BK305 := Aside0.mk (blk_below (g := gb305) (o := .cells #[.int .i64 t301, .int .i64 t302] 52 (0, 0)) (by (with_reducible repeat (first | refine blk_drewN ?_ _ | refine blk_drew ?_ | refine blk_alloc ?_ _)); refine blk_far ?_ NB305_320.out _; (with_reducible repeat (first | refine blk_drewN ?_ _ | refine blk_drew ?_ | refine blk_alloc ?_ _)); refine blk_far ?_ NB305_320.out _; (with_reducible repeat (first | refine blk_drewN ?_ _ | refine blk_drew ?_ | refine blk_alloc ?_ _)); exact BK305.out) hb); replace BK306 := Aside0.mk (blk_below (g := gb306) (o := .cells #[.int .i64 t303, .int .i64 t304] 52 (0, 0)) (by (with_reducible repeat (first | refine blk_drewN ?_ _ | refine blk_drew ?_ | refine blk_alloc ?_ _)); refine blk_far ?_ NB306_320.out _; (with_reducible repeat (first | refine blk_drewN ?_ _ | refine blk_drew ?_ | refine blk_alloc ?_ _)); refine blk_far ?_ NB306_320.out _; (with_reducible repeat (first | refine blk_drewN ?_ _ | refine blk_drew ?_ | refine blk_alloc ?_ _)); exact BK306.out) hb); replace BK315 := Aside0.mk (blk_below (g := gb315) (o := .cells #[.int .i64 t313, .int .i64 t314] 52 (0, 0)) (by (with_reducible repeat (first | refine blk_drewN ?_ _ | refine blk_drew ?_ | refine blk_alloc ?_ _)); refine blk_far ?_ NB315_320.out _; (with_reducible repeat (first | refine blk_drewN ?_ _ | refine blk_drew ?_ | refine blk_alloc ?_ _)); refine blk_far ?_ NB315_320.out _; (with_reducible repeat (first | refine blk_drewN ?_ _ | refine blk_drew ?_ | refine blk_alloc ?_ _)); exact BK315.out) hb); replace BK320 := Aside0.mk (blk_below (g := gb320) (o := .cells #[.int .i64 t316, .int .i64 t317] 52 (0, 0)) (by (with_reducible repeat (first | refine blk_drewN ?_ _ | refine blk_drew ?_ | refine blk_alloc ?_ _)); refine blk_put (cs := #[.int .i64 t316, .int .i64 0]) ?_ 1 _ rfl; (with_reducible repeat (first | refine blk_drewN ?_ _ | refine blk_drew ?_ | refine blk_alloc ?_ _)); refine blk_put (cs := #[.int .i64 0, .int .i64 0]) ?_ 0 _ rfl; (with_reducible repeat (first | refine blk_drewN ?_ _ | refine blk_drew ?_ | refine blk_alloc ?_ _)); exact BK320.out) hb); replace HB := Aside0.mk (below_step (tH4 HB GE305.out GE306.out GE315.out GE320.out) hb); (try clear hb); (try clear hb2); (try clear hk); (try clear hi); have hnb96 := NB320_305.out; have hnc96 := NB305_320.out; have hnb97 := NB320_306.out; have hnc97 := NB306_320.out; have hcz98_0 : w95.cell? ⟨gb320, 0, none⟩ = some (.int .i64 t316) := (blk_cell BK320.out 0).trans rfl; have hcz98_1 : w95.cell? ⟨gb320, 1, none⟩ = some (.int .i64 t317) := (blk_cell BK320.out 1).trans rfl; have hfz98_0 := blk_frozen BK320.out 0; have hfz98_1 := blk_frozen BK320.out 1) | ((with_reducible refine gate_callee (f := 35) rfl ?_); refine gL_ (some 115) rfl rfl Tryd.func35 #[.agg #[.int .i64 t316, .int .i64 t317]] rfl ?_; (with_reducible refine (impl_CentsOf.calls kj11 t316 t317 t323 t324 _ ?side1 A55.out).mono ?_); (case side1 => exact tC (Kd.C_below HT.out HB.out)); rintro e w99 ⟨rfl, hb⟩; refine ⟨_, rfl, ?_⟩; replace BK305 := tbB BK305 hb; replace BK306 := tbB BK306 hb; replace BK315 := tbB BK315 hb; replace BK320 := tbB BK320 hb; replace HB := Aside0.mk (below_step (tH4 HB GE305.out GE306.out GE315.out GE320.out) hb); (try clear hb); (try clear hb2); (try clear hk); (try clear hi)))
        go_ret
        exact ⟨tE, tH4 HB GE305.out GE306.out GE315.out GE320.out⟩
      rw [if_neg c57] at H
      have c57b0 : (t324 == 0) = false := beq_eq_false_iff_ne.mpr c57
      have c57b1 : (t324 != 0) = true := bne_iff_ne.mpr c57
      obtain rfl := Option.some.inj H
      have hnb100 := NB315_305.out
      have hnc100 := NB305_315.out
      have hnb101 := NB315_306.out
      have hnc101 := NB306_315.out
      have hnb102 := NB315_320.out
      have hnc102 := NB320_315.out
      have hcz103_0 : w48.cell? ⟨gb315, 0, none⟩ = some (.int .i64 t313) := (blk_cell BK315.out 0).trans rfl
      have hcz103_1 : w48.cell? ⟨gb315, 1, none⟩ = some (.int .i64 t314) := (blk_cell BK315.out 1).trans rfl
      have hfz103_0 := blk_frozen BK315.out 0
      have hfz103_1 := blk_frozen BK315.out 1
      go_wp2_with (first | ((with_reducible refine gate_callee (f := 35) rfl ?_); refine gL_ (some 110) rfl rfl Tryd.func35 #[.agg #[.int .i64 t313, .int .i64 t314]] rfl ?_; (with_reducible refine (impl_CentsOf.calls kj11 t313 t314 t321 t322 _ ?side1 A54.out).mono ?_); (case side1 => exact Kd.C_below HT.out (tH4 HB GE305.out GE306.out GE315.out GE320.out)); rintro e w104 ⟨rfl, hb⟩; refine ⟨_, rfl, ?_⟩; replace BK305 := Aside0.mk (blk_below (g := gb305) (o := .cells #[.int .i64 t301, .int .i64 t302] 52 (0, 0)) (by (with_reducible repeat (first | refine blk_drewN ?_ _ | refine blk_drew ?_ | refine blk_alloc ?_ _)); refine blk_far ?_ NB305_320.out _; (with_reducible repeat (first | refine blk_drewN ?_ _ | refine blk_drew ?_ | refine blk_alloc ?_ _)); refine blk_far ?_ NB305_320.out _; (with_reducible repeat (first | refine blk_drewN ?_ _ | refine blk_drew ?_ | refine blk_alloc ?_ _)); exact BK305.out) hb); replace BK306 := Aside0.mk (blk_below (g := gb306) (o := .cells #[.int .i64 t303, .int .i64 t304] 52 (0, 0)) (by (with_reducible repeat (first | refine blk_drewN ?_ _ | refine blk_drew ?_ | refine blk_alloc ?_ _)); refine blk_far ?_ NB306_320.out _; (with_reducible repeat (first | refine blk_drewN ?_ _ | refine blk_drew ?_ | refine blk_alloc ?_ _)); refine blk_far ?_ NB306_320.out _; (with_reducible repeat (first | refine blk_drewN ?_ _ | refine blk_drew ?_ | refine blk_alloc ?_ _)); exact BK306.out) hb); replace BK315 := Aside0.mk (blk_below (g := gb315) (o := .cells #[.int .i64 t313, .int .i64 t314] 52 (0, 0)) (by (with_reducible repeat (first | refine blk_drewN ?_ _ | refine blk_drew ?_ | refine blk_alloc ?_ _)); refine blk_far ?_ NB315_320.out _; (with_reducible repeat (first | refine blk_drewN ?_ _ | refine blk_drew ?_ | refine blk_alloc ?_ _)); refine blk_far ?_ NB315_320.out _; (with_reducible repeat (first | refine blk_drewN ?_ _ | refine blk_drew ?_ | refine blk_alloc ?_ _)); exact BK315.out) hb); replace BK320 := Aside0.mk (blk_below (g := gb320) (o := .cells #[.int .i64 t316, .int .i64 t317] 52 (0, 0)) (by (with_reducible repeat (first | refine blk_drewN ?_ _ | refine blk_drew ?_ | refine blk_alloc ?_ _)); refine blk_put (cs := #[.int .i64 t316, .int .i64 0]) ?_ 1 _ rfl; (with_reducible repeat (first | refine blk_drewN ?_ _ | refine blk_drew ?_ | refine blk_alloc ?_ _)); refine blk_put (cs := #[.int .i64 0, .int .i64 0]) ?_ 0 _ rfl; (with_reducible repeat (first | refine blk_drewN ?_ _ | refine blk_drew ?_ | refine blk_alloc ?_ _)); exact BK320.out) hb); replace HB := Aside0.mk (below_step (tH4 HB GE305.out GE306.out GE315.out GE320.out) hb); (try clear hb); (try clear hb2); (try clear hk); (try clear hi); have hnb105 := NB320_305.out; have hnc105 := NB305_320.out; have hnb106 := NB320_306.out; have hnc106 := NB306_320.out; have hcz107_0 : w104.cell? ⟨gb320, 0, none⟩ = some (.int .i64 t316) := (blk_cell BK320.out 0).trans rfl; have hcz107_1 : w104.cell? ⟨gb320, 1, none⟩ = some (.int .i64 t317) := (blk_cell BK320.out 1).trans rfl; have hfz107_0 := blk_frozen BK320.out 0; have hfz107_1 := blk_frozen BK320.out 1) | ((with_reducible refine gate_callee (f := 35) rfl ?_); refine gL_ (some 115) rfl rfl Tryd.func35 #[.agg #[.int .i64 t316, .int .i64 t317]] rfl ?_; (with_reducible refine (impl_CentsOf.calls kj11 t316 t317 t323 t324 _ ?side1 A55.out).mono ?_); (case side1 => exact tC (Kd.C_below HT.out HB.out)); rintro e w108 ⟨rfl, hb⟩; refine ⟨_, rfl, ?_⟩; replace BK305 := tbB BK305 hb; replace BK306 := tbB BK306 hb; replace BK315 := tbB BK315 hb; replace BK320 := tbB BK320 hb; replace HB := Aside0.mk (below_step (tH4 HB GE305.out GE306.out GE315.out GE320.out) hb); (try clear hb); (try clear hb2); (try clear hk); (try clear hi)))
      go_ret
      exact ⟨tE, tH4 HB GE305.out GE306.out GE315.out GE320.out⟩
    rw [if_neg c56] at H
    have c56b0 : (t322 == 0) = false := beq_eq_false_iff_ne.mpr c56
    have c56b1 : (t322 != 0) = true := bne_iff_ne.mpr c56
    obtain rfl := Option.some.inj H
    have hnb109 := NB315_305.out
    have hnc109 := NB305_315.out
    have hnb110 := NB315_306.out
    have hnc110 := NB306_315.out
    have hnb111 := NB315_320.out
    have hnc111 := NB320_315.out
    have hcz112_0 : w48.cell? ⟨gb315, 0, none⟩ = some (.int .i64 t313) := (blk_cell BK315.out 0).trans rfl
    have hcz112_1 : w48.cell? ⟨gb315, 1, none⟩ = some (.int .i64 t314) := (blk_cell BK315.out 1).trans rfl
    have hfz112_0 := blk_frozen BK315.out 0
    have hfz112_1 := blk_frozen BK315.out 1
    go_wp2_with (first | ((with_reducible refine gate_callee (f := 35) rfl ?_); refine gL_ (some 110) rfl rfl Tryd.func35 #[.agg #[.int .i64 t313, .int .i64 t314]] rfl ?_; (with_reducible refine (impl_CentsOf.calls kj11 t313 t314 t321 t322 _ ?side1 A54.out).mono ?_); (case side1 => exact Kd.C_below HT.out (tH4 HB GE305.out GE306.out GE315.out GE320.out)); rintro e w113 ⟨rfl, hb⟩; refine ⟨_, rfl, ?_⟩; replace BK305 := Aside0.mk (blk_below (g := gb305) (o := .cells #[.int .i64 t301, .int .i64 t302] 52 (0, 0)) (by (with_reducible repeat (first | refine blk_drewN ?_ _ | refine blk_drew ?_ | refine blk_alloc ?_ _)); refine blk_far ?_ NB305_320.out _; (with_reducible repeat (first | refine blk_drewN ?_ _ | refine blk_drew ?_ | refine blk_alloc ?_ _)); refine blk_far ?_ NB305_320.out _; (with_reducible repeat (first | refine blk_drewN ?_ _ | refine blk_drew ?_ | refine blk_alloc ?_ _)); exact BK305.out) hb); replace BK306 := Aside0.mk (blk_below (g := gb306) (o := .cells #[.int .i64 t303, .int .i64 t304] 52 (0, 0)) (by (with_reducible repeat (first | refine blk_drewN ?_ _ | refine blk_drew ?_ | refine blk_alloc ?_ _)); refine blk_far ?_ NB306_320.out _; (with_reducible repeat (first | refine blk_drewN ?_ _ | refine blk_drew ?_ | refine blk_alloc ?_ _)); refine blk_far ?_ NB306_320.out _; (with_reducible repeat (first | refine blk_drewN ?_ _ | refine blk_drew ?_ | refine blk_alloc ?_ _)); exact BK306.out) hb); replace BK315 := Aside0.mk (blk_below (g := gb315) (o := .cells #[.int .i64 t313, .int .i64 t314] 52 (0, 0)) (by (with_reducible repeat (first | refine blk_drewN ?_ _ | refine blk_drew ?_ | refine blk_alloc ?_ _)); refine blk_far ?_ NB315_320.out _; (with_reducible repeat (first | refine blk_drewN ?_ _ | refine blk_drew ?_ | refine blk_alloc ?_ _)); refine blk_far ?_ NB315_320.out _; (with_reducible repeat (first | refine blk_drewN ?_ _ | refine blk_drew ?_ | refine blk_alloc ?_ _)); exact BK315.out) hb); replace BK320 := Aside0.mk (blk_below (g := gb320) (o := .cells #[.int .i64 t316, .int .i64 t317] 52 (0, 0)) (by (with_reducible repeat (first | refine blk_drewN ?_ _ | refine blk_drew ?_ | refine blk_alloc ?_ _)); refine blk_put (cs := #[.int .i64 t316, .int .i64 0]) ?_ 1 _ rfl; (with_reducible repeat (first | refine blk_drewN ?_ _ | refine blk_drew ?_ | refine blk_alloc ?_ _)); refine blk_put (cs := #[.int .i64 0, .int .i64 0]) ?_ 0 _ rfl; (with_reducible repeat (first | refine blk_drewN ?_ _ | refine blk_drew ?_ | refine blk_alloc ?_ _)); exact BK320.out) hb); replace HB := Aside0.mk (below_step (tH4 HB GE305.out GE306.out GE315.out GE320.out) hb); (try clear hb); (try clear hb2); (try clear hk); (try clear hi); have hnb114 := NB320_305.out; have hnc114 := NB305_320.out; have hnb115 := NB320_306.out; have hnc115 := NB306_320.out; have hcz116_0 : w113.cell? ⟨gb320, 0, none⟩ = some (.int .i64 t316) := (blk_cell BK320.out 0).trans rfl; have hcz116_1 : w113.cell? ⟨gb320, 1, none⟩ = some (.int .i64 t317) := (blk_cell BK320.out 1).trans rfl; have hfz116_0 := blk_frozen BK320.out 0; have hfz116_1 := blk_frozen BK320.out 1) | ((with_reducible refine gate_callee (f := 35) rfl ?_); refine gL_ (some 115) rfl rfl Tryd.func35 #[.agg #[.int .i64 t316, .int .i64 t317]] rfl ?_; (with_reducible refine (impl_CentsOf.calls kj11 t316 t317 t323 t324 _ ?side1 A55.out).mono ?_); (case side1 => exact tC (Kd.C_below HT.out HB.out)); rintro e w117 ⟨rfl, hb⟩; refine ⟨_, rfl, ?_⟩; replace BK305 := tbB BK305 hb; replace BK306 := tbB BK306 hb; replace BK315 := tbB BK315 hb; replace BK320 := tbB BK320 hb; replace HB := Aside0.mk (below_step (tH4 HB GE305.out GE306.out GE315.out GE320.out) hb); (try clear hb); (try clear hb2); (try clear hk); (try clear hi)))
    go_ret
    exact ⟨tE, tH4 HB GE305.out GE306.out GE315.out GE320.out⟩
  rw [if_neg c53] at H
  have c53b0 : (t319 == 0) = false := beq_eq_false_iff_ne.mpr c53
  have c53b1 : (t319 != 0) = true := bne_iff_ne.mpr c53
  (first | rw [c53b0] | (simp only [i64_w, i32_w]; rw [c53b0]) | skip)
  have H' := Aside0.mk H
  clear H
  go_wp2
  go_meet
  case rel => exact ⟨_, H', ⟨by have := HJ2.out; have := HJ11.out; first | omega | exact Nat.le_refl _⟩, ⟨by (with_reducible repeat (first | refine blk_drewN ?_ _ | refine blk_drew ?_ | refine blk_alloc ?_ _)); refine blk_far ?_ NB305_320.out _; (with_reducible repeat (first | refine blk_drewN ?_ _ | refine blk_drew ?_ | refine blk_alloc ?_ _)); refine blk_far ?_ NB305_320.out _; (with_reducible repeat (first | refine blk_drewN ?_ _ | refine blk_drew ?_ | refine blk_alloc ?_ _)); exact BK305.out⟩, ⟨by (with_reducible repeat (first | refine blk_drewN ?_ _ | refine blk_drew ?_ | refine blk_alloc ?_ _)); refine blk_far ?_ NB306_320.out _; (with_reducible repeat (first | refine blk_drewN ?_ _ | refine blk_drew ?_ | refine blk_alloc ?_ _)); refine blk_far ?_ NB306_320.out _; (with_reducible repeat (first | refine blk_drewN ?_ _ | refine blk_drew ?_ | refine blk_alloc ?_ _)); exact BK306.out⟩, ⟨by (with_reducible repeat (first | refine blk_drewN ?_ _ | refine blk_drew ?_ | refine blk_alloc ?_ _)); refine blk_far ?_ NB315_320.out _; (with_reducible repeat (first | refine blk_drewN ?_ _ | refine blk_drew ?_ | refine blk_alloc ?_ _)); refine blk_far ?_ NB315_320.out _; (with_reducible repeat (first | refine blk_drewN ?_ _ | refine blk_drew ?_ | refine blk_alloc ?_ _)); exact BK315.out⟩, ⟨by (with_reducible repeat (first | refine blk_drewN ?_ _ | refine blk_drew ?_ | refine blk_alloc ?_ _)); refine blk_put (cs := #[.int .i64 t316, .int .i64 0]) ?_ 1 _ rfl; (with_reducible repeat (first | refine blk_drewN ?_ _ | refine blk_drew ?_ | refine blk_alloc ?_ _)); refine blk_put (cs := #[.int .i64 0, .int .i64 0]) ?_ 0 _ rfl; (with_reducible repeat (first | refine blk_drewN ?_ _ | refine blk_drew ?_ | refine blk_alloc ?_ _)); exact BK320.out⟩, ⟨tH4 HB GE305.out GE306.out GE315.out GE320.out⟩⟩
 case rest => as_aux_lemma =>
 clear HC41
 try clear c1
 try clear c2
 try clear p2
 try clear c3
 try clear c4
 try clear c5
 try clear c6
 try clear p6
 try clear c7
 try clear c8
 try clear c9
 try clear c10
 try clear c11
 try clear c16
 try clear c25
 try clear c25b0
 try clear c25b1
 try clear c26
 try clear c26b0
 try clear c26b1
 try clear c27
 try clear c27b0
 try clear c27b1
 try clear c28
 try clear c28b0
 try clear c29
 try clear c29b0
 try clear c30
 try clear c30b0
 try clear c31
 try clear c31b0
 try clear c32
 try clear c32b0
 try clear c32b1
 try clear c33
 try clear c33b0
 try clear c33b1
 try clear c34
 try clear c34b0
 try clear c35
 try clear c35b0
 try clear c36
 try clear c36b0
 try clear c36b1
 try clear c37
 try clear c37b0
 try clear c37b1
 try clear c38
 try clear c44
 try clear c45
 try clear c49
 try clear c50
 try clear c51
 try clear c53
 try clear c53b0
 try clear c53b1
 try clear c56
 try clear c56b0
 try clear c56b1
 try clear c57
 try clear c57b0
 try clear c57b1
 try clear c58
 try clear c58b0
 try clear c58b1
 try clear c59
 try clear c59b0
 try clear c60
 try clear c61
 try clear c62
 try clear p64
 try clear c65
 try clear c66
 try clear c70
 try clear c70b0
 try clear c71
 try clear c72
 try clear c73
 try clear c76
 try clear c77
 try clear c81
 try clear c82
 try clear c83
 try clear c86
 try clear c87
 try clear c91
 try clear c92
 try clear c93
 try clear c96
 try clear c97
 try clear c100
 try clear c101
 try clear c102
 try clear c105
 try clear c106
 try clear c109
 try clear c110
 try clear c111
 try clear c114
 try clear c115
 try clear hcz103_0 hcz103_1
 try clear hcz107_0 hcz107_1
 try clear hcz112_0 hcz112_1
 try clear hcz116_0 hcz116_1
 try clear hcz17_0 hcz17_1
 try clear hcz18_0 hcz18_1
 try clear hcz20_0 hcz20_1
 try clear hcz22_0 hcz22_1
 try clear hcz23_0 hcz23_1
 try clear hcz46_0 hcz46_1
 try clear hcz52_0 hcz52_1
 try clear hcz63_0 hcz63_1
 try clear hcz67_0 hcz67_1
 try clear hcz69_0 hcz69_1
 try clear hcz74_0 hcz74_1
 try clear hcz78_0 hcz78_1
 try clear hcz80_0 hcz80_1
 try clear hcz84_0 hcz84_1
 try clear hcz88_0 hcz88_1
 try clear hcz90_0 hcz90_1
 try clear hcz94_0 hcz94_1
 try clear hcz98_0 hcz98_1
 try clear hfz103_0 hfz103_1
 try clear hfz107_0 hfz107_1
 try clear hfz112_0 hfz112_1
 try clear hfz116_0 hfz116_1
 try clear hfz17_0 hfz17_1
 try clear hfz18_0 hfz18_1
 try clear hfz20_0 hfz20_1
 try clear hfz22_0 hfz22_1
 try clear hfz23_0 hfz23_1
 try clear hfz46_0 hfz46_1
 try clear hfz52_0 hfz52_1
 try clear hfz63_0 hfz63_1
 try clear hfz67_0 hfz67_1
 try clear hfz69_0 hfz69_1
 try clear hfz74_0 hfz74_1
 try clear hfz78_0 hfz78_1
 try clear hfz80_0 hfz80_1
 try clear hfz84_0 hfz84_1
 try clear hfz88_0 hfz88_1
 try clear hfz90_0 hfz90_1
 try clear hfz94_0 hfz94_1
 try clear hfz98_0 hfz98_1
 try clear p2
 obtain ⟨kq, HA, HJ40, BK305, BK306, BK315, BK320, HB⟩ := hcut
 cases kq with
 | zero => exact absurd HA.out (by simp [laws_FnCents.j2])
 | succ kj40 =>
 have H := HA.out
 clear HA
 simp only [laws_FnCents.j2] at H
 replace H := Option.bind_eq_some_iff.mp H
 obtain ⟨⟨t325, t326⟩, A1180, H⟩ := H
 replace H : ((impl_BestRatio.f kj40 t325 t326).bind fun bt327 => (if bt327.2.2.2 = 0 then ((impl_CentsOf.f kj40 bt327.1 bt327.2.1).bind fun bt332 => (if bt332.2 = 0 then ((laws_b10Abs.f (wrap64 (bt332.1 - t325))).bind fun t334 => (if t334 = bt327.2.2.1 then (if bt327.2.1 > t326 then (laws_FnCents.j3 kj40 l0 t325 t326 bt327.2.2.1 true) else ((spec_ValidRatio.f kj40 bt327.1 bt327.2.1).bind fun t335 => (laws_FnCents.j3 kj40 l0 t325 t326 bt327.2.2.1 (!t335)))) else (laws_FnCents.j3 kj40 l0 t325 t326 bt327.2.2.1 true))) else (laws_FnCents.j3 kj40 l0 t325 t326 bt327.2.2.1 true))) else (some (bt327.1 == 0)))) = some r := H
 have A118 := Aside0.mk A1180
 clear A1180
 replace H := Option.bind_eq_some_iff.mp H
 obtain ⟨⟨t327, t328, t329, t330⟩, A1190, H⟩ := H
 replace H : (if t330 = 0 then ((impl_CentsOf.f kj40 t327 t328).bind fun bt332 => (if bt332.2 = 0 then ((laws_b10Abs.f (wrap64 (bt332.1 - t325))).bind fun t334 => (if t334 = t329 then (if t328 > t326 then (laws_FnCents.j3 kj40 l0 t325 t326 t329 true) else ((spec_ValidRatio.f kj40 t327 t328).bind fun t335 => (laws_FnCents.j3 kj40 l0 t325 t326 t329 (!t335)))) else (laws_FnCents.j3 kj40 l0 t325 t326 t329 true))) else (laws_FnCents.j3 kj40 l0 t325 t326 t329 true))) else (some (t327 == 0))) = some r := H
 have A119 := Aside0.mk A1190
 clear A1190
 by_cases c120 : t330 = 0
 · as_aux_lemma =>
   rw [if_pos c120] at H
   have c120b0 : (t330 == 0) = true := beq_iff_eq.mpr c120
   have c120b1 : (t330 != 0) = false := bne_eq_false_iff_eq.mpr c120
   clear c120
   replace H := Option.bind_eq_some_iff.mp H
   obtain ⟨⟨t332, t333⟩, A1210, H⟩ := H
   replace H : (if t333 = 0 then ((laws_b10Abs.f (wrap64 (t332 - t325))).bind fun t334 => (if t334 = t329 then (if t328 > t326 then (laws_FnCents.j3 kj40 l0 t325 t326 t329 true) else ((spec_ValidRatio.f kj40 t327 t328).bind fun t335 => (laws_FnCents.j3 kj40 l0 t325 t326 t329 (!t335)))) else (laws_FnCents.j3 kj40 l0 t325 t326 t329 true))) else (laws_FnCents.j3 kj40 l0 t325 t326 t329 true)) = some r := H
   have A121 := Aside0.mk A1210
   clear A1210
   have HC122 := Aside0.mk H
   clear H
   go_upto_region 21 with (first | ((with_reducible refine gate_callee (f := 39) rfl ?_); refine gL_ (some 149) rfl rfl Tryd.func39 #[.slice A1 l1.length c1] rfl ?_; (with_reducible refine (spec_DrawBestRatio.calls _ _ l1 t325 t326 _ ?side1 ?side2 A118.out).mono ?_); (case side1 => exact tC (Kd.C_below HR1.out HB.out)); (case side2 => exact HC1.out); rintro e w123 ⟨rfl, hb⟩; refine ⟨_, rfl, ?_⟩; replace BK305 := tbB BK305 hb; replace BK306 := tbB BK306 hb; replace BK315 := tbB BK315 hb; replace BK320 := tbB BK320 hb; replace HB := Aside0.mk (below_step (tH4 HB GE305.out GE306.out GE315.out GE320.out) hb); (try clear hb); (try clear hb2); (try clear hk); (try clear hi)) | ((with_reducible refine gate_callee (f := 40) rfl ?_); refine gL_ (some 155) rfl rfl Tryd.func40 #[.int .i64 t325, .int .i64 t326] rfl ?_; (with_reducible refine (impl_BestRatio.calls kj40 t325 t326 t327 t328 t329 t330 _ ?side1 A119.out).mono ?_); (case side1 => exact tC (Kd.C_below HT.out HB.out)); rintro e w124 ⟨rfl, hb⟩; refine ⟨_, rfl, ?_⟩; replace BK305 := tbB BK305 hb; replace BK306 := tbB BK306 hb; replace BK315 := tbB BK315 hb; replace BK320 := tbB BK320 hb; replace HB := Aside0.mk (below_step (tH4 HB GE305.out GE306.out GE315.out GE320.out) hb); (try clear hb); (try clear hb2); (try clear hk); (try clear hi)) | ((with_reducible refine gate_dst (N := 23) rfl ?_); refine box_event ?hg (N := 23) ?hd (cs := #[.int .i64 0, .int .i64 0]) (t := 52) ?hr ?_; (case hd => rfl); (case hg => rfl); (case hr => first | (go_simp; done) | (go_simp; rfl)); intro gb331 hg w125 hbox hb; have BK331 := Aside0.mk (hbox); have GW331 := Aside0.mk ((by rw [hg]; exact (below_size (tH4 HB GE305.out GE306.out GE315.out GE320.out)) : w.heap.size ≤ gb331)); have GE331 := Aside0.mk ((by rw [hg]; exact (below_size (tH4 HB GE305.out GE306.out GE315.out GE320.out)) : w.heap.size ≤ gb331)); replace HB := Aside0.mk (below_step (tH4 HB GE305.out GE306.out GE315.out GE320.out) hb); have NB305_331 := Aside0.mk ((by rw [hg]; exact Nat.ne_of_lt (blk_lt (g := gb305) (o := .cells #[.int .i64 t301, .int .i64 t302] 52 (0, 0)) (tB BK305)) : gb305 ≠ gb331)); have NB331_305 := Aside0.mk ((by rw [hg]; exact Nat.ne_of_gt (blk_lt (g := gb305) (o := .cells #[.int .i64 t301, .int .i64 t302] 52 (0, 0)) (tB BK305)) : gb331 ≠ gb305)); replace BK305 := tbB BK305 hb; have NB306_331 := Aside0.mk ((by rw [hg]; exact Nat.ne_of_lt (blk_lt (g := gb306) (o := .cells #[.int .i64 t303, .int .i64 t304] 52 (0, 0)) (tB BK306)) : gb306 ≠ gb331)); have NB331_306 := Aside0.mk ((by rw [hg]; exact Nat.ne_of_gt (blk_lt (g := gb306) (o := .cells #[.int .i64 t303, .int .i64 t304] 52 (0, 0)) (tB BK306)) : gb331 ≠ gb306)); replace BK306 := tbB BK306 hb; have NB315_331 := Aside0.mk ((by rw [hg]; exact Nat.ne_of_lt (blk_lt (g := gb315) (o := .cells #[.int .i64 t313, .int .i64 t314] 52 (0, 0)) (tB BK315)) : gb315 ≠ gb331)); have NB331_315 := Aside0.mk ((by rw [hg]; exact Nat.ne_of_gt (blk_lt (g := gb315) (o := .cells #[.int .i64 t313, .int .i64 t314] 52 (0, 0)) (tB BK315)) : gb331 ≠ gb315)); replace BK315 := tbB BK315 hb; have NB320_331 := Aside0.mk ((by rw [hg]; exact Nat.ne_of_lt (blk_lt (g := gb320) (o := .cells #[.int .i64 t316, .int .i64 t317] 52 (0, 0)) (tB BK320)) : gb320 ≠ gb331)); have NB331_320 := Aside0.mk ((by rw [hg]; exact Nat.ne_of_gt (blk_lt (g := gb320) (o := .cells #[.int .i64 t316, .int .i64 t317] 52 (0, 0)) (tB BK320)) : gb331 ≠ gb320)); replace BK320 := tbB BK320 hb; clear hb hbox hg; have hnb126 := NB331_305.out; have hnc126 := NB305_331.out; have hnb127 := NB331_306.out; have hnc127 := NB306_331.out; have hnb128 := NB331_315.out; have hnc128 := NB315_331.out; have hnb129 := NB331_320.out; have hnc129 := NB320_331.out; have hcz130_0 : w125.cell? ⟨gb331, 0, none⟩ = some (.int .i64 0) := (blk_cell BK331.out 0).trans rfl; have hcz130_1 : w125.cell? ⟨gb331, 1, none⟩ = some (.int .i64 0) := (blk_cell BK331.out 1).trans rfl; have hfz130_0 := blk_frozen BK331.out 0; have hfz130_1 := blk_frozen BK331.out 1) | ((with_reducible refine gate_callee (f := 35) rfl ?_); refine gL_ (some 166) rfl rfl Tryd.func35 #[.agg #[.int .i64 t327, .int .i64 t328]] rfl ?_; (with_reducible refine (impl_CentsOf.calls kj40 t327 t328 t332 t333 _ ?side1 A121.out).mono ?_); (case side1 => exact Kd.C_below HT.out (by repeat (first | (with_reducible first | exact HB.out | apply qba | apply qbn | apply qb1 | refine below_set ?_ GE305.out | refine below_set ?_ GE306.out | refine below_set ?_ GE315.out | refine below_set ?_ GE320.out | refine below_set ?_ GE331.out) | exact HB.out))); rintro e w131 ⟨rfl, hb⟩; refine ⟨_, rfl, ?_⟩; replace BK305 := Aside0.mk (blk_below (g := gb305) (o := .cells #[.int .i64 t301, .int .i64 t302] 52 (0, 0)) (by (with_reducible repeat (first | refine blk_drewN ?_ _ | refine blk_drew ?_ | refine blk_alloc ?_ _)); refine blk_far ?_ NB305_331.out _; (with_reducible repeat (first | refine blk_drewN ?_ _ | refine blk_drew ?_ | refine blk_alloc ?_ _)); refine blk_far ?_ NB305_331.out _; (with_reducible repeat (first | refine blk_drewN ?_ _ | refine blk_drew ?_ | refine blk_alloc ?_ _)); exact BK305.out) hb); replace BK306 := Aside0.mk (blk_below (g := gb306) (o := .cells #[.int .i64 t303, .int .i64 t304] 52 (0, 0)) (by (with_reducible repeat (first | refine blk_drewN ?_ _ | refine blk_drew ?_ | refine blk_alloc ?_ _)); refine blk_far ?_ NB306_331.out _; (with_reducible repeat (first | refine blk_drewN ?_ _ | refine blk_drew ?_ | refine blk_alloc ?_ _)); refine blk_far ?_ NB306_331.out _; (with_reducible repeat (first | refine blk_drewN ?_ _ | refine blk_drew ?_ | refine blk_alloc ?_ _)); exact BK306.out) hb); replace BK315 := Aside0.mk (blk_below (g := gb315) (o := .cells #[.int .i64 t313, .int .i64 t314] 52 (0, 0)) (by (with_reducible repeat (first | refine blk_drewN ?_ _ | refine blk_drew ?_ | refine blk_alloc ?_ _)); refine blk_far ?_ NB315_331.out _; (with_reducible repeat (first | refine blk_drewN ?_ _ | refine blk_drew ?_ | refine blk_alloc ?_ _)); refine blk_far ?_ NB315_331.out _; (with_reducible repeat (first | refine blk_drewN ?_ _ | refine blk_drew ?_ | refine blk_alloc ?_ _)); exact BK315.out) hb); replace BK320 := Aside0.mk (blk_below (g := gb320) (o := .cells #[.int .i64 t316, .int .i64 t317] 52 (0, 0)) (by (with_reducible repeat (first | refine blk_drewN ?_ _ | refine blk_drew ?_ | refine blk_alloc ?_ _)); refine blk_far ?_ NB320_331.out _; (with_reducible repeat (first | refine blk_drewN ?_ _ | refine blk_drew ?_ | refine blk_alloc ?_ _)); refine blk_far ?_ NB320_331.out _; (with_reducible repeat (first | refine blk_drewN ?_ _ | refine blk_drew ?_ | refine blk_alloc ?_ _)); exact BK320.out) hb); replace BK331 := Aside0.mk (blk_below (g := gb331) (o := .cells #[.int .i64 t327, .int .i64 t328] 52 (0, 0)) (by (with_reducible repeat (first | refine blk_drewN ?_ _ | refine blk_drew ?_ | refine blk_alloc ?_ _)); refine blk_put (cs := #[.int .i64 t327, .int .i64 0]) ?_ 1 _ rfl; (with_reducible repeat (first | refine blk_drewN ?_ _ | refine blk_drew ?_ | refine blk_alloc ?_ _)); refine blk_put (cs := #[.int .i64 0, .int .i64 0]) ?_ 0 _ rfl; (with_reducible repeat (first | refine blk_drewN ?_ _ | refine blk_drew ?_ | refine blk_alloc ?_ _)); exact BK331.out) hb); replace HB := Aside0.mk (below_step (by repeat (first | (with_reducible first | exact HB.out | apply qba | apply qbn | apply qb1 | refine below_set ?_ GE305.out | refine below_set ?_ GE306.out | refine below_set ?_ GE315.out | refine below_set ?_ GE320.out | refine below_set ?_ GE331.out) | exact HB.out)) hb); (try clear hb); (try clear hb2); (try clear hk); (try clear hi)))
   (try simp only [Act.put, sx0, sx1, sx2])
   go_cut [189] (fun v189 wc => ∃ (kq : Nat) (x189_121 : Bool), v189 = .bool x189_121 ∧ Aside0 (laws_FnCents.j3 kq l0 t325 t326 t329 x189_121 = some r) ∧ Aside0 (kq ≤ kj40) ∧ Aside0 (wc.heap[gb305]? = some (.cells #[.int .i64 t301, .int .i64 t302] 52 (0, 0))) ∧ Aside0 (wc.heap[gb306]? = some (.cells #[.int .i64 t303, .int .i64 t304] 52 (0, 0))) ∧ Aside0 (wc.heap[gb315]? = some (.cells #[.int .i64 t313, .int .i64 t314] 52 (0, 0))) ∧ Aside0 (wc.heap[gb320]? = some (.cells #[.int .i64 t316, .int .i64 t317] 52 (0, 0))) ∧ Aside0 (wc.heap[gb331]? = some (.cells #[.int .i64 t327, .int .i64 t328] 52 (0, 0))) ∧ Aside0 (Below w.heap.size w wc))
   case first => as_aux_lemma =>
    have H := HC122.out
    clear HC122
    by_cases c132 : t333 = 0
    · rw [if_pos c132] at H
      have c132b0 : (t333 == 0) = true := beq_iff_eq.mpr c132
      have c132b1 : (t333 != 0) = false := bne_eq_false_iff_eq.mpr c132
      clear c132
      (first | rw [c132b0] | (simp only [i64_w, i32_w]; rw [c132b0]) | skip)
      replace H := Option.bind_eq_some_iff.mp H
      obtain ⟨t334, A1330, H⟩ := H
      replace H : (if t334 = t329 then (if t328 > t326 then (laws_FnCents.j3 kj40 l0 t325 t326 t329 true) else ((spec_ValidRatio.f kj40 t327 t328).bind fun t335 => (laws_FnCents.j3 kj40 l0 t325 t326 t329 (!t335)))) else (laws_FnCents.j3 kj40 l0 t325 t326 t329 true)) = some r := H
      have A133 := Aside0.mk A1330
      clear A1330
      by_cases c134 : t334 = t329
      · rw [if_pos c134] at H
        have c134b0 : (t334 == t329) = true := beq_iff_eq.mpr c134
        have c134b1 : (t334 != t329) = false := bne_eq_false_iff_eq.mpr c134
        clear c134
        by_cases c135 : t328 > t326
        · rw [if_pos c135] at H
          have c135b0 : decide (t326 < t328) = true := decide_eq_true c135
          clear c135
          have H' := Aside0.mk H
          clear H
          go_wp2_with (first | (go_at_call 41; (with_reducible refine (laws_b10Abs.calls (wrap64 (t332 - t325)) t334 _ A133.out).mono ?_); rintro e w' ⟨rfl, ⟨nd, rfl⟩⟩; have hnb136 := NB331_305.out; have hnc136 := NB305_331.out; have hnb137 := NB331_306.out; have hnc137 := NB306_331.out; have hnb138 := NB331_315.out; have hnc138 := NB315_331.out; have hnb139 := NB331_320.out; have hnc139 := NB320_331.out; have hcz140_0 : w131.cell? ⟨gb331, 0, none⟩ = some (.int .i64 t327) := (blk_cell BK331.out 0).trans rfl; have hcz140_1 : w131.cell? ⟨gb331, 1, none⟩ = some (.int .i64 t328) := (blk_cell BK331.out 1).trans rfl; have hfz140_0 := blk_frozen BK331.out 0; have hfz140_1 := blk_frozen BK331.out 1))
          go_meet
          case rel => exact ⟨_, (true), tq, H', ⟨by have := HJ2.out; have := HJ11.out; have := HJ40.out; first | omega | exact Nat.le_refl _⟩, ⟨tB BK305⟩, ⟨tB BK306⟩, ⟨tB BK315⟩, ⟨tB BK320⟩, ⟨tB BK331⟩, ⟨by repeat (first | (with_reducible first | exact HB.out | apply qba | apply qbn | apply qb1 | refine below_set ?_ GE305.out | refine below_set ?_ GE306.out | refine below_set ?_ GE315.out | refine below_set ?_ GE320.out | refine below_set ?_ GE331.out) | exact HB.out)⟩⟩
        rw [if_neg c135] at H
        have c135b0 : decide (t326 < t328) = false := decide_eq_false c135
        clear c135
        replace H := Option.bind_eq_some_iff.mp H
        obtain ⟨t335, A1410, H⟩ := H
        replace H : (laws_FnCents.j3 kj40 l0 t325 t326 t329 (!t335)) = some r := H
        have A141 := Aside0.mk A1410
        clear A1410
        have H' := Aside0.mk H
        clear H
        go_wp2_with (first | (go_at_call 41; (with_reducible refine (laws_b10Abs.calls (wrap64 (t332 - t325)) t334 _ A133.out).mono ?_); rintro e w' ⟨rfl, ⟨nd, rfl⟩⟩; have hnb142 := NB331_305.out; have hnc142 := NB305_331.out; have hnb143 := NB331_306.out; have hnc143 := NB306_331.out; have hnb144 := NB331_315.out; have hnc144 := NB315_331.out; have hnb145 := NB331_320.out; have hnc145 := NB320_331.out; have hcz146_0 : w131.cell? ⟨gb331, 0, none⟩ = some (.int .i64 t327) := (blk_cell BK331.out 0).trans rfl; have hcz146_1 : w131.cell? ⟨gb331, 1, none⟩ = some (.int .i64 t328) := (blk_cell BK331.out 1).trans rfl; have hfz146_0 := blk_frozen BK331.out 0; have hfz146_1 := blk_frozen BK331.out 1) | (go_at_call 42; (with_reducible refine (spec_ValidRatio.calls kj40 t327 t328 t335 _ A141.out).mono ?_); rintro e w147 ⟨rfl, hb⟩; replace BK305 := tbB BK305 hb; replace BK306 := tbB BK306 hb; replace BK315 := tbB BK315 hb; replace BK320 := tbB BK320 hb; replace BK331 := tbB BK331 hb; replace HB := Aside0.mk (below_step (by repeat (first | (with_reducible first | exact HB.out | apply qba | apply qbn | apply qb1 | refine below_set ?_ GE305.out | refine below_set ?_ GE306.out | refine below_set ?_ GE315.out | refine below_set ?_ GE320.out | refine below_set ?_ GE331.out) | exact HB.out)) hb); (try clear hb); (try clear hb2); (try clear hk); (try clear hi)))
        go_meet
        case rel => exact ⟨_, (!t335), tq, H', ⟨by have := HJ2.out; have := HJ11.out; have := HJ40.out; first | omega | exact Nat.le_refl _⟩, ⟨tB BK305⟩, ⟨tB BK306⟩, ⟨tB BK315⟩, ⟨tB BK320⟩, ⟨tB BK331⟩, ⟨by repeat (first | (with_reducible first | exact HB.out | apply qba | apply qbn | apply qb1 | refine below_set ?_ GE305.out | refine below_set ?_ GE306.out | refine below_set ?_ GE315.out | refine below_set ?_ GE320.out | refine below_set ?_ GE331.out) | exact HB.out)⟩⟩
      rw [if_neg c134] at H
      have c134b0 : (t334 == t329) = false := beq_eq_false_iff_ne.mpr c134
      have c134b1 : (t334 != t329) = true := bne_iff_ne.mpr c134
      have H' := Aside0.mk H
      clear H
      go_wp2_with (first | (go_at_call 41; (with_reducible refine (laws_b10Abs.calls (wrap64 (t332 - t325)) t334 _ A133.out).mono ?_); rintro e w' ⟨rfl, ⟨nd, rfl⟩⟩))
      go_meet
      case rel => exact ⟨_, (true), tq, H', ⟨by have := HJ2.out; have := HJ11.out; have := HJ40.out; first | omega | exact Nat.le_refl _⟩, ⟨tB BK305⟩, ⟨tB BK306⟩, ⟨tB BK315⟩, ⟨tB BK320⟩, ⟨tB BK331⟩, ⟨by repeat (first | (with_reducible first | exact HB.out | apply qba | apply qbn | apply qb1 | refine below_set ?_ GE305.out | refine below_set ?_ GE306.out | refine below_set ?_ GE315.out | refine below_set ?_ GE320.out | refine below_set ?_ GE331.out) | exact HB.out)⟩⟩
    rw [if_neg c132] at H
    have c132b0 : (t333 == 0) = false := beq_eq_false_iff_ne.mpr c132
    have c132b1 : (t333 != 0) = true := bne_iff_ne.mpr c132
    (first | rw [c132b0] | (simp only [i64_w, i32_w]; rw [c132b0]) | skip)
    have H' := Aside0.mk H
    clear H
    go_wp2
    go_meet
    case rel => exact ⟨_, (true), tq, H', ⟨by have := HJ2.out; have := HJ11.out; have := HJ40.out; first | omega | exact Nat.le_refl _⟩, ⟨tB BK305⟩, ⟨tB BK306⟩, ⟨tB BK315⟩, ⟨tB BK320⟩, ⟨tB BK331⟩, ⟨by repeat (first | (with_reducible first | exact HB.out | apply qba | apply qbn | apply qb1 | refine below_set ?_ GE305.out | refine below_set ?_ GE306.out | refine below_set ?_ GE315.out | refine below_set ?_ GE320.out | refine below_set ?_ GE331.out) | exact HB.out)⟩⟩
   case rest => as_aux_lemma =>
   clear HC122
   try clear c1
   try clear c2
   try clear p2
   try clear c3
   try clear c4
   try clear c5
   try clear c6
   try clear p6
   try clear c7
   try clear c8
   try clear c9
   try clear c10
   try clear c11
   try clear c12
   try clear c13
   try clear c14
   try clear c16
   try clear c25
   try clear c25b0
   try clear c25b1
   try clear c26
   try clear c26b0
   try clear c26b1
   try clear c27
   try clear c27b0
   try clear c27b1
   try clear c28
   try clear c28b0
   try clear c29
   try clear c29b0
   try clear c30
   try clear c30b0
   try clear c31
   try clear c31b0
   try clear c32
   try clear c32b0
   try clear c32b1
   try clear c33
   try clear c33b0
   try clear c33b1
   try clear c34
   try clear c34b0
   try clear c35
   try clear c35b0
   try clear c36
   try clear c36b0
   try clear c36b1
   try clear c37
   try clear c37b0
   try clear c37b1
   try clear c38
   try clear c39
   try clear c40
   try clear c44
   try clear c45
   try clear c49
   try clear c50
   try clear c51
   try clear c53
   try clear c53b0
   try clear c53b1
   try clear c56
   try clear c56b0
   try clear c56b1
   try clear c57
   try clear c57b0
   try clear c57b1
   try clear c58
   try clear c58b0
   try clear c58b1
   try clear c59
   try clear c59b0
   try clear c60
   try clear c61
   try clear c62
   try clear p64
   try clear c65
   try clear c66
   try clear c70
   try clear c70b0
   try clear c71
   try clear c72
   try clear c73
   try clear c76
   try clear c77
   try clear c81
   try clear c82
   try clear c83
   try clear c86
   try clear c87
   try clear c91
   try clear c92
   try clear c93
   try clear c96
   try clear c97
   try clear c100
   try clear c101
   try clear c102
   try clear c105
   try clear c106
   try clear c109
   try clear c110
   try clear c111
   try clear c114
   try clear c115
   try clear c120
   try clear c120b0
   try clear c120b1
   try clear c126
   try clear c127
   try clear c128
   try clear c129
   try clear c132
   try clear c132b0
   try clear c132b1
   try clear c134
   try clear c134b0
   try clear c134b1
   try clear c135
   try clear c135b0
   try clear c136
   try clear c137
   try clear c138
   try clear c139
   try clear c142
   try clear c143
   try clear c144
   try clear c145
   try clear hcz103_0 hcz103_1
   try clear hcz107_0 hcz107_1
   try clear hcz112_0 hcz112_1
   try clear hcz116_0 hcz116_1
   try clear hcz130_0 hcz130_1
   try clear hcz140_0 hcz140_1
   try clear hcz146_0 hcz146_1
   try clear hcz17_0 hcz17_1
   try clear hcz18_0 hcz18_1
   try clear hcz20_0 hcz20_1
   try clear hcz22_0 hcz22_1
   try clear hcz23_0 hcz23_1
   try clear hcz46_0 hcz46_1
   try clear hcz52_0 hcz52_1
   try clear hcz63_0 hcz63_1
   try clear hcz67_0 hcz67_1
   try clear hcz69_0 hcz69_1
   try clear hcz74_0 hcz74_1
   try clear hcz78_0 hcz78_1
   try clear hcz80_0 hcz80_1
   try clear hcz84_0 hcz84_1
   try clear hcz88_0 hcz88_1
   try clear hcz90_0 hcz90_1
   try clear hcz94_0 hcz94_1
   try clear hcz98_0 hcz98_1
   try clear hfz103_0 hfz103_1
   try clear hfz107_0 hfz107_1
   try clear hfz112_0 hfz112_1
   try clear hfz116_0 hfz116_1
   try clear hfz130_0 hfz130_1
   try clear hfz140_0 hfz140_1
   try clear hfz146_0 hfz146_1
   try clear hfz17_0 hfz17_1
   try clear hfz18_0 hfz18_1
   try clear hfz20_0 hfz20_1
   try clear hfz22_0 hfz22_1
   try clear hfz23_0 hfz23_1
   try clear hfz46_0 hfz46_1
   try clear hfz52_0 hfz52_1
   try clear hfz63_0 hfz63_1
   try clear hfz67_0 hfz67_1
   try clear hfz69_0 hfz69_1
   try clear hfz74_0 hfz74_1
   try clear hfz78_0 hfz78_1
   try clear hfz80_0 hfz80_1
   try clear hfz84_0 hfz84_1
   try clear hfz88_0 hfz88_1
   try clear hfz90_0 hfz90_1
   try clear hfz94_0 hfz94_1
   try clear hfz98_0 hfz98_1
   try clear p2
   try clear p6
   try clear p64
   obtain ⟨kq, x189_121, rfl, HA, HJ121, BK305, BK306, BK315, BK320, BK331, HB⟩ := hcut
   cases kq with
   | zero => exact absurd HA.out (by simp [laws_FnCents.j3])
   | succ kj121 =>
   have H := HA.out
   clear HA
   simp only [laws_FnCents.j3] at H
   by_cases c148 : x189_121 = true
   · subst c148
     have H1 : (some false) = some r := by rw [if_pos rfl] at H; exact H
     clear H
     have H := H1
     clear H1
     obtain rfl := Option.some.inj H
     go_wp2
     go_ret
     exact ⟨tE, by repeat (first | (with_reducible first | exact HB.out | apply qba | apply qbn | apply qb1 | refine below_set ?_ GE305.out | refine below_set ?_ GE306.out | refine below_set ?_ GE315.out | refine below_set ?_ GE320.out | refine below_set ?_ GE331.out) | exact HB.out)⟩
   replace c148 := Bool.eq_false_iff.mpr c148
   subst c148
   have H1 : ((laws_b10At.f l0 0 t326).bind fun t336 => ((laws_b10At.f l0 1 (wrap64 ((wrap64 (1 + t336)) + 1))).bind fun t337 => ((spec_ReduceRatio.f kj121 (wrap64 ((wrap64 (1 + t336)) + t337)) (wrap64 (1 + t336))).bind fun bt338 => ((spec_CentsOf.f kj121 bt338.1 bt338.2.1).bind fun bt342 => (if bt338.2.2 = 0 then (if bt342.2 = 0 then ((laws_b10Abs.f (wrap64 (bt342.1 - t325))).bind fun t344 => (some (decide (t344 ≥ t329)))) else (some false)) else (some false)))))) = some r := by rw [if_neg (show ¬ (false = true) by decide)] at H; exact H
   clear H
   have H := H1
   clear H1
   replace H := Option.bind_eq_some_iff.mp H
   obtain ⟨t336, A1490, H⟩ := H
   replace H : ((laws_b10At.f l0 1 (wrap64 ((wrap64 (1 + t336)) + 1))).bind fun t337 => ((spec_ReduceRatio.f kj121 (wrap64 ((wrap64 (1 + t336)) + t337)) (wrap64 (1 + t336))).bind fun bt338 => ((spec_CentsOf.f kj121 bt338.1 bt338.2.1).bind fun bt342 => (if bt338.2.2 = 0 then (if bt342.2 = 0 then ((laws_b10Abs.f (wrap64 (bt342.1 - t325))).bind fun t344 => (some (decide (t344 ≥ t329)))) else (some false)) else (some false))))) = some r := H
   have A149 := Aside0.mk A1490
   clear A1490
   replace H := Option.bind_eq_some_iff.mp H
   obtain ⟨t337, A1500, H⟩ := H
   replace H : ((spec_ReduceRatio.f kj121 (wrap64 ((wrap64 (1 + t336)) + t337)) (wrap64 (1 + t336))).bind fun bt338 => ((spec_CentsOf.f kj121 bt338.1 bt338.2.1).bind fun bt342 => (if bt338.2.2 = 0 then (if bt342.2 = 0 then ((laws_b10Abs.f (wrap64 (bt342.1 - t325))).bind fun t344 => (some (decide (t344 ≥ t329)))) else (some false)) else (some false)))) = some r := H
   have A150 := Aside0.mk A1500
   clear A1500
   replace H := Option.bind_eq_some_iff.mp H
   obtain ⟨⟨t338, t339, t340⟩, A1510, H⟩ := H
   replace H : ((spec_CentsOf.f kj121 t338 t339).bind fun bt342 => (if t340 = 0 then (if bt342.2 = 0 then ((laws_b10Abs.f (wrap64 (bt342.1 - t325))).bind fun t344 => (some (decide (t344 ≥ t329)))) else (some false)) else (some false))) = some r := H
   have A151 := Aside0.mk A1510
   clear A1510
   replace H := Option.bind_eq_some_iff.mp H
   obtain ⟨⟨t342, t343⟩, A1520, H⟩ := H
   replace H : (if t340 = 0 then (if t343 = 0 then ((laws_b10Abs.f (wrap64 (t342 - t325))).bind fun t344 => (some (decide (t344 ≥ t329)))) else (some false)) else (some false)) = some r := H
   have A152 := Aside0.mk A1520
   clear A1520
   by_cases c153 : t340 = 0
   · rw [if_pos c153] at H
     have c153b0 : (t340 == 0) = true := beq_iff_eq.mpr c153
     have c153b1 : (t340 != 0) = false := bne_eq_false_iff_eq.mpr c153
     clear c153
     by_cases c154 : t343 = 0
     · rw [if_pos c154] at H
       have c154b0 : (t343 == 0) = true := beq_iff_eq.mpr c154
       have c154b1 : (t343 != 0) = false := bne_eq_false_iff_eq.mpr c154
       clear c154
       replace H := Option.bind_eq_some_iff.mp H
       obtain ⟨t344, A1550, H⟩ := H
       replace H : (some (decide (t344 ≥ t329))) = some r := H
       have A155 := Aside0.mk A1550
       clear A1550
       obtain rfl := Option.some.inj H
       go_wp2_with (first | ((with_reducible refine gate_callee (f := 43) rfl ?_); refine gL_ (some 192) rfl rfl Tryd.func43 #[.slice A0 l0.length c0, .int .i64 0, .int .i64 t326] rfl ?_; (with_reducible refine (laws_b10At.calls _ _ l0 0 t326 t336 _ ?side1 ?side2 A149.out).mono ?_); (case side1 => exact tC (Kd.C_below HR0.out HB.out)); (case side2 => exact HC0.out); rintro e w' ⟨rfl, ⟨nd, rfl⟩⟩; refine ⟨_, rfl, ?_⟩; (try (rw [drewN_self wc]; generalize hq_ : World.drewN wc _ = wc; have n0_ : Aside0 (wc.heap[gb305]? = some (.cells #[.int .i64 t301, .int .i64 t302] 52 (0, 0))) := ⟨by rw [← hq_]; exact (tB BK305)⟩; have n1_ : Aside0 (wc.heap[gb306]? = some (.cells #[.int .i64 t303, .int .i64 t304] 52 (0, 0))) := ⟨by rw [← hq_]; exact (tB BK306)⟩; have n2_ : Aside0 (wc.heap[gb315]? = some (.cells #[.int .i64 t313, .int .i64 t314] 52 (0, 0))) := ⟨by rw [← hq_]; exact (tB BK315)⟩; have n3_ : Aside0 (wc.heap[gb320]? = some (.cells #[.int .i64 t316, .int .i64 t317] 52 (0, 0))) := ⟨by rw [← hq_]; exact (tB BK320)⟩; have n4_ : Aside0 (wc.heap[gb331]? = some (.cells #[.int .i64 t327, .int .i64 t328] 52 (0, 0))) := ⟨by rw [← hq_]; exact (tB BK331)⟩; have n5_ : Aside0 (Below w.heap.size w wc) := ⟨by rw [← hq_]; exact (by repeat (first | (with_reducible first | exact HB.out | apply qba | apply qbn | apply qb1 | refine below_set ?_ GE305.out | refine below_set ?_ GE306.out | refine below_set ?_ GE315.out | refine below_set ?_ GE320.out | refine below_set ?_ GE331.out) | exact HB.out))⟩; clear BK305 BK306 BK315 BK320 BK331 HB hq_; have BK305 := n0_; have BK306 := n1_; have BK315 := n2_; have BK320 := n3_; have BK331 := n4_; have HB := n5_; clear n0_ n1_ n2_ n3_ n4_ n5_))) | ((with_reducible refine gate_callee (f := 43) rfl ?_); refine gL_ (some 198) rfl rfl Tryd.func43 #[.slice A0 l0.length c0, .int .i64 1, .int .i64 (wrap64 ((wrap64 (1 + t336)) + 1))] rfl ?_; (with_reducible refine (laws_b10At.calls _ _ l0 1 (wrap64 ((wrap64 (1 + t336)) + 1)) t337 _ ?side1 ?side2 A150.out).mono ?_); (case side1 => exact tC (Kd.C_below HR0.out HB.out)); (case side2 => exact HC0.out); rintro e w' ⟨rfl, ⟨nd, rfl⟩⟩; refine ⟨_, rfl, ?_⟩; (try (rw [drewN_self wc]; generalize hq_ : World.drewN wc _ = wc; have n0_ : Aside0 (wc.heap[gb305]? = some (.cells #[.int .i64 t301, .int .i64 t302] 52 (0, 0))) := ⟨by rw [← hq_]; exact (tB BK305)⟩; have n1_ : Aside0 (wc.heap[gb306]? = some (.cells #[.int .i64 t303, .int .i64 t304] 52 (0, 0))) := ⟨by rw [← hq_]; exact (tB BK306)⟩; have n2_ : Aside0 (wc.heap[gb315]? = some (.cells #[.int .i64 t313, .int .i64 t314] 52 (0, 0))) := ⟨by rw [← hq_]; exact (tB BK315)⟩; have n3_ : Aside0 (wc.heap[gb320]? = some (.cells #[.int .i64 t316, .int .i64 t317] 52 (0, 0))) := ⟨by rw [← hq_]; exact (tB BK320)⟩; have n4_ : Aside0 (wc.heap[gb331]? = some (.cells #[.int .i64 t327, .int .i64 t328] 52 (0, 0))) := ⟨by rw [← hq_]; exact (tB BK331)⟩; have n5_ : Aside0 (Below w.heap.size w wc) := ⟨by rw [← hq_]; exact (by repeat (first | (with_reducible first | exact HB.out | apply qba | apply qbn | apply qb1 | refine below_set ?_ GE305.out | refine below_set ?_ GE306.out | refine below_set ?_ GE315.out | refine below_set ?_ GE320.out | refine below_set ?_ GE331.out) | exact HB.out))⟩; clear BK305 BK306 BK315 BK320 BK331 HB hq_; have BK305 := n0_; have BK306 := n1_; have BK315 := n2_; have BK320 := n3_; have BK331 := n4_; have HB := n5_; clear n0_ n1_ n2_ n3_ n4_ n5_))) | ((with_reducible refine gate_callee (f := 44) rfl ?_); refine gL_ (some 203) rfl rfl Tryd.func44 #[.int .i64 (wrap64 ((wrap64 (1 + t336)) + t337)), .int .i64 (wrap64 (1 + t336))] rfl ?_; (with_reducible refine (spec_ReduceRatio.calls kj121 (wrap64 ((wrap64 (1 + t336)) + t337)) (wrap64 (1 + t336)) t338 t339 t340 _ A151.out).mono ?_); rintro e w156 ⟨rfl, hb⟩; refine ⟨_, rfl, ?_⟩; replace BK305 := tbB BK305 hb; replace BK306 := tbB BK306 hb; replace BK315 := tbB BK315 hb; replace BK320 := tbB BK320 hb; replace BK331 := tbB BK331 hb; replace HB := Aside0.mk (below_step (by repeat (first | (with_reducible first | exact HB.out | apply qba | apply qbn | apply qb1 | refine below_set ?_ GE305.out | refine below_set ?_ GE306.out | refine below_set ?_ GE315.out | refine below_set ?_ GE320.out | refine below_set ?_ GE331.out) | exact HB.out)) hb); (try clear hb); (try clear hb2); (try clear hk); (try clear hi)) | ((with_reducible refine gate_dst (N := 30) rfl ?_); refine box_event ?hg (N := 30) ?hd (cs := #[.int .i64 0, .int .i64 0]) (t := 52) ?hr ?_; (case hd => rfl); (case hg => rfl); (case hr => first | (go_simp; done) | (go_simp; rfl)); intro gb341 hg w157 hbox hb; have BK341 := Aside0.mk (hbox); have GW341 := Aside0.mk ((by rw [hg]; exact (below_size (by repeat (first | (with_reducible first | exact HB.out | apply qba | apply qbn | apply qb1 | refine below_set ?_ GE305.out | refine below_set ?_ GE306.out | refine below_set ?_ GE315.out | refine below_set ?_ GE320.out | refine below_set ?_ GE331.out) | exact HB.out))) : w.heap.size ≤ gb341)); have GE341 := Aside0.mk ((by rw [hg]; exact (below_size (by repeat (first | (with_reducible first | exact HB.out | apply qba | apply qbn | apply qb1 | refine below_set ?_ GE305.out | refine below_set ?_ GE306.out | refine below_set ?_ GE315.out | refine below_set ?_ GE320.out | refine below_set ?_ GE331.out) | exact HB.out))) : w.heap.size ≤ gb341)); replace HB := Aside0.mk (below_step (by repeat (first | (with_reducible first | exact HB.out | apply qba | apply qbn | apply qb1 | refine below_set ?_ GE305.out | refine below_set ?_ GE306.out | refine below_set ?_ GE315.out | refine below_set ?_ GE320.out | refine below_set ?_ GE331.out) | exact HB.out)) hb); have NB305_341 := Aside0.mk ((by rw [hg]; exact Nat.ne_of_lt (blk_lt (g := gb305) (o := .cells #[.int .i64 t301, .int .i64 t302] 52 (0, 0)) (tB BK305)) : gb305 ≠ gb341)); have NB341_305 := Aside0.mk ((by rw [hg]; exact Nat.ne_of_gt (blk_lt (g := gb305) (o := .cells #[.int .i64 t301, .int .i64 t302] 52 (0, 0)) (tB BK305)) : gb341 ≠ gb305)); replace BK305 := tbB BK305 hb; have NB306_341 := Aside0.mk ((by rw [hg]; exact Nat.ne_of_lt (blk_lt (g := gb306) (o := .cells #[.int .i64 t303, .int .i64 t304] 52 (0, 0)) (tB BK306)) : gb306 ≠ gb341)); have NB341_306 := Aside0.mk ((by rw [hg]; exact Nat.ne_of_gt (blk_lt (g := gb306) (o := .cells #[.int .i64 t303, .int .i64 t304] 52 (0, 0)) (tB BK306)) : gb341 ≠ gb306)); replace BK306 := tbB BK306 hb; have NB315_341 := Aside0.mk ((by rw [hg]; exact Nat.ne_of_lt (blk_lt (g := gb315) (o := .cells #[.int .i64 t313, .int .i64 t314] 52 (0, 0)) (tB BK315)) : gb315 ≠ gb341)); have NB341_315 := Aside0.mk ((by rw [hg]; exact Nat.ne_of_gt (blk_lt (g := gb315) (o := .cells #[.int .i64 t313, .int .i64 t314] 52 (0, 0)) (tB BK315)) : gb341 ≠ gb315)); replace BK315 := tbB BK315 hb; have NB320_341 := Aside0.mk ((by rw [hg]; exact Nat.ne_of_lt (blk_lt (g := gb320) (o := .cells #[.int .i64 t316, .int .i64 t317] 52 (0, 0)) (tB BK320)) : gb320 ≠ gb341)); have NB341_320 := Aside0.mk ((by rw [hg]; exact Nat.ne_of_gt (blk_lt (g := gb320) (o := .cells #[.int .i64 t316, .int .i64 t317] 52 (0, 0)) (tB BK320)) : gb341 ≠ gb320)); replace BK320 := tbB BK320 hb; have NB331_341 := Aside0.mk ((by rw [hg]; exact Nat.ne_of_lt (blk_lt (g := gb331) (o := .cells #[.int .i64 t327, .int .i64 t328] 52 (0, 0)) (tB BK331)) : gb331 ≠ gb341)); have NB341_331 := Aside0.mk ((by rw [hg]; exact Nat.ne_of_gt (blk_lt (g := gb331) (o := .cells #[.int .i64 t327, .int .i64 t328] 52 (0, 0)) (tB BK331)) : gb341 ≠ gb331)); replace BK331 := tbB BK331 hb; clear hb hbox hg; have hnb158 := NB341_305.out; have hnc158 := NB305_341.out; have hnb159 := NB341_306.out; have hnc159 := NB306_341.out; have hnb160 := NB341_315.out; have hnc160 := NB315_341.out; have hnb161 := NB341_320.out; have hnc161 := NB320_341.out; have hnb162 := NB341_331.out; have hnc162 := NB331_341.out; have hcz163_0 : w157.cell? ⟨gb341, 0, none⟩ = some (.int .i64 0) := (blk_cell BK341.out 0).trans rfl; have hcz163_1 : w157.cell? ⟨gb341, 1, none⟩ = some (.int .i64 0) := (blk_cell BK341.out 1).trans rfl; have hfz163_0 := blk_frozen BK341.out 0; have hfz163_1 := blk_frozen BK341.out 1) | ((with_reducible refine gate_callee (f := 45) rfl ?_); refine gL_ (some 208) rfl rfl Tryd.func45 #[.agg #[.int .i64 t338, .int .i64 t339]] rfl ?_; (with_reducible refine (spec_CentsOf.calls kj121 t338 t339 t342 t343 _ A152.out).mono ?_); rintro e w164 ⟨rfl, hb⟩; refine ⟨_, rfl, ?_⟩; replace BK305 := Aside0.mk (blk_below (g := gb305) (o := .cells #[.int .i64 t301, .int .i64 t302] 52 (0, 0)) (by (with_reducible repeat (first | refine blk_drewN ?_ _ | refine blk_drew ?_ | refine blk_alloc ?_ _)); refine blk_far ?_ NB305_341.out _; (with_reducible repeat (first | refine blk_drewN ?_ _ | refine blk_drew ?_ | refine blk_alloc ?_ _)); refine blk_far ?_ NB305_341.out _; (with_reducible repeat (first | refine blk_drewN ?_ _ | refine blk_drew ?_ | refine blk_alloc ?_ _)); exact BK305.out) hb); replace BK306 := Aside0.mk (blk_below (g := gb306) (o := .cells #[.int .i64 t303, .int .i64 t304] 52 (0, 0)) (by (with_reducible repeat (first | refine blk_drewN ?_ _ | refine blk_drew ?_ | refine blk_alloc ?_ _)); refine blk_far ?_ NB306_341.out _; (with_reducible repeat (first | refine blk_drewN ?_ _ | refine blk_drew ?_ | refine blk_alloc ?_ _)); refine blk_far ?_ NB306_341.out _; (with_reducible repeat (first | refine blk_drewN ?_ _ | refine blk_drew ?_ | refine blk_alloc ?_ _)); exact BK306.out) hb); replace BK315 := Aside0.mk (blk_below (g := gb315) (o := .cells #[.int .i64 t313, .int .i64 t314] 52 (0, 0)) (by (with_reducible repeat (first | refine blk_drewN ?_ _ | refine blk_drew ?_ | refine blk_alloc ?_ _)); refine blk_far ?_ NB315_341.out _; (with_reducible repeat (first | refine blk_drewN ?_ _ | refine blk_drew ?_ | refine blk_alloc ?_ _)); refine blk_far ?_ NB315_341.out _; (with_reducible repeat (first | refine blk_drewN ?_ _ | refine blk_drew ?_ | refine blk_alloc ?_ _)); exact BK315.out) hb); replace BK320 := Aside0.mk (blk_below (g := gb320) (o := .cells #[.int .i64 t316, .int .i64 t317] 52 (0, 0)) (by (with_reducible repeat (first | refine blk_drewN ?_ _ | refine blk_drew ?_ | refine blk_alloc ?_ _)); refine blk_far ?_ NB320_341.out _; (with_reducible repeat (first | refine blk_drewN ?_ _ | refine blk_drew ?_ | refine blk_alloc ?_ _)); refine blk_far ?_ NB320_341.out _; (with_reducible repeat (first | refine blk_drewN ?_ _ | refine blk_drew ?_ | refine blk_alloc ?_ _)); exact BK320.out) hb); replace BK331 := Aside0.mk (blk_below (g := gb331) (o := .cells #[.int .i64 t327, .int .i64 t328] 52 (0, 0)) (by (with_reducible repeat (first | refine blk_drewN ?_ _ | refine blk_drew ?_ | refine blk_alloc ?_ _)); refine blk_far ?_ NB331_341.out _; (with_reducible repeat (first | refine blk_drewN ?_ _ | refine blk_drew ?_ | refine blk_alloc ?_ _)); refine blk_far ?_ NB331_341.out _; (with_reducible repeat (first | refine blk_drewN ?_ _ | refine blk_drew ?_ | refine blk_alloc ?_ _)); exact BK331.out) hb); replace BK341 := Aside0.mk (blk_below (g := gb341) (o := .cells #[.int .i64 t338, .int .i64 t339] 52 (0, 0)) (by (with_reducible repeat (first | refine blk_drewN ?_ _ | refine blk_drew ?_ | refine blk_alloc ?_ _)); refine blk_put (cs := #[.int .i64 t338, .int .i64 0]) ?_ 1 _ rfl; (with_reducible repeat (first | refine blk_drewN ?_ _ | refine blk_drew ?_ | refine blk_alloc ?_ _)); refine blk_put (cs := #[.int .i64 0, .int .i64 0]) ?_ 0 _ rfl; (with_reducible repeat (first | refine blk_drewN ?_ _ | refine blk_drew ?_ | refine blk_alloc ?_ _)); exact BK341.out) hb); replace HB := Aside0.mk (below_step (by repeat (first | (with_reducible first | exact HB.out | apply qba | apply qbn | apply qb1 | refine below_set ?_ GE305.out | refine below_set ?_ GE306.out | refine below_set ?_ GE315.out | refine below_set ?_ GE320.out | refine below_set ?_ GE331.out | refine below_set ?_ GE341.out) | exact HB.out)) hb); (try clear hb); (try clear hb2); (try clear hk); (try clear hi)) | (go_at_call 41; (with_reducible refine (laws_b10Abs.calls (wrap64 (t342 - t325)) t344 _ A155.out).mono ?_); rintro e w' ⟨rfl, ⟨nd, rfl⟩⟩))
       go_ret
       exact ⟨tE, by repeat (first | (with_reducible first | exact HB.out | apply qba | apply qbn | apply qb1 | refine below_set ?_ GE305.out | refine below_set ?_ GE306.out | refine below_set ?_ GE315.out | refine below_set ?_ GE320.out | refine below_set ?_ GE331.out | refine below_set ?_ GE341.out) | exact HB.out)⟩
     rw [if_neg c154] at H
     have c154b0 : (t343 == 0) = false := beq_eq_false_iff_ne.mpr c154
     have c154b1 : (t343 != 0) = true := bne_iff_ne.mpr c154
     obtain rfl := Option.some.inj H
     go_wp2_with (first | ((with_reducible refine gate_callee (f := 43) rfl ?_); refine gL_ (some 192) rfl rfl Tryd.func43 #[.slice A0 l0.length c0, .int .i64 0, .int .i64 t326] rfl ?_; (with_reducible refine (laws_b10At.calls _ _ l0 0 t326 t336 _ ?side1 ?side2 A149.out).mono ?_); (case side1 => exact tC (Kd.C_below HR0.out HB.out)); (case side2 => exact HC0.out); rintro e w' ⟨rfl, ⟨nd, rfl⟩⟩; refine ⟨_, rfl, ?_⟩; (try (rw [drewN_self wc]; generalize hq_ : World.drewN wc _ = wc; have n0_ : Aside0 (wc.heap[gb305]? = some (.cells #[.int .i64 t301, .int .i64 t302] 52 (0, 0))) := ⟨by rw [← hq_]; exact (tB BK305)⟩; have n1_ : Aside0 (wc.heap[gb306]? = some (.cells #[.int .i64 t303, .int .i64 t304] 52 (0, 0))) := ⟨by rw [← hq_]; exact (tB BK306)⟩; have n2_ : Aside0 (wc.heap[gb315]? = some (.cells #[.int .i64 t313, .int .i64 t314] 52 (0, 0))) := ⟨by rw [← hq_]; exact (tB BK315)⟩; have n3_ : Aside0 (wc.heap[gb320]? = some (.cells #[.int .i64 t316, .int .i64 t317] 52 (0, 0))) := ⟨by rw [← hq_]; exact (tB BK320)⟩; have n4_ : Aside0 (wc.heap[gb331]? = some (.cells #[.int .i64 t327, .int .i64 t328] 52 (0, 0))) := ⟨by rw [← hq_]; exact (tB BK331)⟩; have n5_ : Aside0 (Below w.heap.size w wc) := ⟨by rw [← hq_]; exact (by repeat (first | (with_reducible first | exact HB.out | apply qba | apply qbn | apply qb1 | refine below_set ?_ GE305.out | refine below_set ?_ GE306.out | refine below_set ?_ GE315.out | refine below_set ?_ GE320.out | refine below_set ?_ GE331.out) | exact HB.out))⟩; clear BK305 BK306 BK315 BK320 BK331 HB hq_; have BK305 := n0_; have BK306 := n1_; have BK315 := n2_; have BK320 := n3_; have BK331 := n4_; have HB := n5_; clear n0_ n1_ n2_ n3_ n4_ n5_))) | ((with_reducible refine gate_callee (f := 43) rfl ?_); refine gL_ (some 198) rfl rfl Tryd.func43 #[.slice A0 l0.length c0, .int .i64 1, .int .i64 (wrap64 ((wrap64 (1 + t336)) + 1))] rfl ?_; (with_reducible refine (laws_b10At.calls _ _ l0 1 (wrap64 ((wrap64 (1 + t336)) + 1)) t337 _ ?side1 ?side2 A150.out).mono ?_); (case side1 => exact tC (Kd.C_below HR0.out HB.out)); (case side2 => exact HC0.out); rintro e w' ⟨rfl, ⟨nd, rfl⟩⟩; refine ⟨_, rfl, ?_⟩; (try (rw [drewN_self wc]; generalize hq_ : World.drewN wc _ = wc; have n0_ : Aside0 (wc.heap[gb305]? = some (.cells #[.int .i64 t301, .int .i64 t302] 52 (0, 0))) := ⟨by rw [← hq_]; exact (tB BK305)⟩; have n1_ : Aside0 (wc.heap[gb306]? = some (.cells #[.int .i64 t303, .int .i64 t304] 52 (0, 0))) := ⟨by rw [← hq_]; exact (tB BK306)⟩; have n2_ : Aside0 (wc.heap[gb315]? = some (.cells #[.int .i64 t313, .int .i64 t314] 52 (0, 0))) := ⟨by rw [← hq_]; exact (tB BK315)⟩; have n3_ : Aside0 (wc.heap[gb320]? = some (.cells #[.int .i64 t316, .int .i64 t317] 52 (0, 0))) := ⟨by rw [← hq_]; exact (tB BK320)⟩; have n4_ : Aside0 (wc.heap[gb331]? = some (.cells #[.int .i64 t327, .int .i64 t328] 52 (0, 0))) := ⟨by rw [← hq_]; exact (tB BK331)⟩; have n5_ : Aside0 (Below w.heap.size w wc) := ⟨by rw [← hq_]; exact (by repeat (first | (with_reducible first | exact HB.out | apply qba | apply qbn | apply qb1 | refine below_set ?_ GE305.out | refine below_set ?_ GE306.out | refine below_set ?_ GE315.out | refine below_set ?_ GE320.out | refine below_set ?_ GE331.out) | exact HB.out))⟩; clear BK305 BK306 BK315 BK320 BK331 HB hq_; have BK305 := n0_; have BK306 := n1_; have BK315 := n2_; have BK320 := n3_; have BK331 := n4_; have HB := n5_; clear n0_ n1_ n2_ n3_ n4_ n5_))) | ((with_reducible refine gate_callee (f := 44) rfl ?_); refine gL_ (some 203) rfl rfl Tryd.func44 #[.int .i64 (wrap64 ((wrap64 (1 + t336)) + t337)), .int .i64 (wrap64 (1 + t336))] rfl ?_; (with_reducible refine (spec_ReduceRatio.calls kj121 (wrap64 ((wrap64 (1 + t336)) + t337)) (wrap64 (1 + t336)) t338 t339 t340 _ A151.out).mono ?_); rintro e w165 ⟨rfl, hb⟩; refine ⟨_, rfl, ?_⟩; replace BK305 := tbB BK305 hb; replace BK306 := tbB BK306 hb; replace BK315 := tbB BK315 hb; replace BK320 := tbB BK320 hb; replace BK331 := tbB BK331 hb; replace HB := Aside0.mk (below_step (by repeat (first | (with_reducible first | exact HB.out | apply qba | apply qbn | apply qb1 | refine below_set ?_ GE305.out | refine below_set ?_ GE306.out | refine below_set ?_ GE315.out | refine below_set ?_ GE320.out | refine below_set ?_ GE331.out) | exact HB.out)) hb); (try clear hb); (try clear hb2); (try clear hk); (try clear hi)) | ((with_reducible refine gate_dst (N := 30) rfl ?_); refine box_event ?hg (N := 30) ?hd (cs := #[.int .i64 0, .int .i64 0]) (t := 52) ?hr ?_; (case hd => rfl); (case hg => rfl); (case hr => first | (go_simp; done) | (go_simp; rfl)); intro gb341 hg w166 hbox hb; have BK341 := Aside0.mk (hbox); have GW341 := Aside0.mk ((by rw [hg]; exact (below_size (by repeat (first | (with_reducible first | exact HB.out | apply qba | apply qbn | apply qb1 | refine below_set ?_ GE305.out | refine below_set ?_ GE306.out | refine below_set ?_ GE315.out | refine below_set ?_ GE320.out | refine below_set ?_ GE331.out) | exact HB.out))) : w.heap.size ≤ gb341)); have GE341 := Aside0.mk ((by rw [hg]; exact (below_size (by repeat (first | (with_reducible first | exact HB.out | apply qba | apply qbn | apply qb1 | refine below_set ?_ GE305.out | refine below_set ?_ GE306.out | refine below_set ?_ GE315.out | refine below_set ?_ GE320.out | refine below_set ?_ GE331.out) | exact HB.out))) : w.heap.size ≤ gb341)); replace HB := Aside0.mk (below_step (by repeat (first | (with_reducible first | exact HB.out | apply qba | apply qbn | apply qb1 | refine below_set ?_ GE305.out | refine below_set ?_ GE306.out | refine below_set ?_ GE315.out | refine below_set ?_ GE320.out | refine below_set ?_ GE331.out) | exact HB.out)) hb); have NB305_341 := Aside0.mk ((by rw [hg]; exact Nat.ne_of_lt (blk_lt (g := gb305) (o := .cells #[.int .i64 t301, .int .i64 t302] 52 (0, 0)) (tB BK305)) : gb305 ≠ gb341)); have NB341_305 := Aside0.mk ((by rw [hg]; exact Nat.ne_of_gt (blk_lt (g := gb305) (o := .cells #[.int .i64 t301, .int .i64 t302] 52 (0, 0)) (tB BK305)) : gb341 ≠ gb305)); replace BK305 := tbB BK305 hb; have NB306_341 := Aside0.mk ((by rw [hg]; exact Nat.ne_of_lt (blk_lt (g := gb306) (o := .cells #[.int .i64 t303, .int .i64 t304] 52 (0, 0)) (tB BK306)) : gb306 ≠ gb341)); have NB341_306 := Aside0.mk ((by rw [hg]; exact Nat.ne_of_gt (blk_lt (g := gb306) (o := .cells #[.int .i64 t303, .int .i64 t304] 52 (0, 0)) (tB BK306)) : gb341 ≠ gb306)); replace BK306 := tbB BK306 hb; have NB315_341 := Aside0.mk ((by rw [hg]; exact Nat.ne_of_lt (blk_lt (g := gb315) (o := .cells #[.int .i64 t313, .int .i64 t314] 52 (0, 0)) (tB BK315)) : gb315 ≠ gb341)); have NB341_315 := Aside0.mk ((by rw [hg]; exact Nat.ne_of_gt (blk_lt (g := gb315) (o := .cells #[.int .i64 t313, .int .i64 t314] 52 (0, 0)) (tB BK315)) : gb341 ≠ gb315)); replace BK315 := tbB BK315 hb; have NB320_341 := Aside0.mk ((by rw [hg]; exact Nat.ne_of_lt (blk_lt (g := gb320) (o := .cells #[.int .i64 t316, .int .i64 t317] 52 (0, 0)) (tB BK320)) : gb320 ≠ gb341)); have NB341_320 := Aside0.mk ((by rw [hg]; exact Nat.ne_of_gt (blk_lt (g := gb320) (o := .cells #[.int .i64 t316, .int .i64 t317] 52 (0, 0)) (tB BK320)) : gb341 ≠ gb320)); replace BK320 := tbB BK320 hb; have NB331_341 := Aside0.mk ((by rw [hg]; exact Nat.ne_of_lt (blk_lt (g := gb331) (o := .cells #[.int .i64 t327, .int .i64 t328] 52 (0, 0)) (tB BK331)) : gb331 ≠ gb341)); have NB341_331 := Aside0.mk ((by rw [hg]; exact Nat.ne_of_gt (blk_lt (g := gb331) (o := .cells #[.int .i64 t327, .int .i64 t328] 52 (0, 0)) (tB BK331)) : gb341 ≠ gb331)); replace BK331 := tbB BK331 hb; clear hb hbox hg; have hnb167 := NB341_305.out; have hnc167 := NB305_341.out; have hnb168 := NB341_306.out; have hnc168 := NB306_341.out; have hnb169 := NB341_315.out; have hnc169 := NB315_341.out; have hnb170 := NB341_320.out; have hnc170 := NB320_341.out; have hnb171 := NB341_331.out; have hnc171 := NB331_341.out; have hcz172_0 : w166.cell? ⟨gb341, 0, none⟩ = some (.int .i64 0) := (blk_cell BK341.out 0).trans rfl; have hcz172_1 : w166.cell? ⟨gb341, 1, none⟩ = some (.int .i64 0) := (blk_cell BK341.out 1).trans rfl; have hfz172_0 := blk_frozen BK341.out 0; have hfz172_1 := blk_frozen BK341.out 1) | ((with_reducible refine gate_callee (f := 45) rfl ?_); refine gL_ (some 208) rfl rfl Tryd.func45 #[.agg #[.int .i64 t338, .int .i64 t339]] rfl ?_; (with_reducible refine (spec_CentsOf.calls kj121 t338 t339 t342 t343 _ A152.out).mono ?_); rintro e w173 ⟨rfl, hb⟩; refine ⟨_, rfl, ?_⟩; replace BK305 := Aside0.mk (blk_below (g := gb305) (o := .cells #[.int .i64 t301, .int .i64 t302] 52 (0, 0)) (by (with_reducible repeat (first | refine blk_drewN ?_ _ | refine blk_drew ?_ | refine blk_alloc ?_ _)); refine blk_far ?_ NB305_341.out _; (with_reducible repeat (first | refine blk_drewN ?_ _ | refine blk_drew ?_ | refine blk_alloc ?_ _)); refine blk_far ?_ NB305_341.out _; (with_reducible repeat (first | refine blk_drewN ?_ _ | refine blk_drew ?_ | refine blk_alloc ?_ _)); exact BK305.out) hb); replace BK306 := Aside0.mk (blk_below (g := gb306) (o := .cells #[.int .i64 t303, .int .i64 t304] 52 (0, 0)) (by (with_reducible repeat (first | refine blk_drewN ?_ _ | refine blk_drew ?_ | refine blk_alloc ?_ _)); refine blk_far ?_ NB306_341.out _; (with_reducible repeat (first | refine blk_drewN ?_ _ | refine blk_drew ?_ | refine blk_alloc ?_ _)); refine blk_far ?_ NB306_341.out _; (with_reducible repeat (first | refine blk_drewN ?_ _ | refine blk_drew ?_ | refine blk_alloc ?_ _)); exact BK306.out) hb); replace BK315 := Aside0.mk (blk_below (g := gb315) (o := .cells #[.int .i64 t313, .int .i64 t314] 52 (0, 0)) (by (with_reducible repeat (first | refine blk_drewN ?_ _ | refine blk_drew ?_ | refine blk_alloc ?_ _)); refine blk_far ?_ NB315_341.out _; (with_reducible repeat (first | refine blk_drewN ?_ _ | refine blk_drew ?_ | refine blk_alloc ?_ _)); refine blk_far ?_ NB315_341.out _; (with_reducible repeat (first | refine blk_drewN ?_ _ | refine blk_drew ?_ | refine blk_alloc ?_ _)); exact BK315.out) hb); replace BK320 := Aside0.mk (blk_below (g := gb320) (o := .cells #[.int .i64 t316, .int .i64 t317] 52 (0, 0)) (by (with_reducible repeat (first | refine blk_drewN ?_ _ | refine blk_drew ?_ | refine blk_alloc ?_ _)); refine blk_far ?_ NB320_341.out _; (with_reducible repeat (first | refine blk_drewN ?_ _ | refine blk_drew ?_ | refine blk_alloc ?_ _)); refine blk_far ?_ NB320_341.out _; (with_reducible repeat (first | refine blk_drewN ?_ _ | refine blk_drew ?_ | refine blk_alloc ?_ _)); exact BK320.out) hb); replace BK331 := Aside0.mk (blk_below (g := gb331) (o := .cells #[.int .i64 t327, .int .i64 t328] 52 (0, 0)) (by (with_reducible repeat (first | refine blk_drewN ?_ _ | refine blk_drew ?_ | refine blk_alloc ?_ _)); refine blk_far ?_ NB331_341.out _; (with_reducible repeat (first | refine blk_drewN ?_ _ | refine blk_drew ?_ | refine blk_alloc ?_ _)); refine blk_far ?_ NB331_341.out _; (with_reducible repeat (first | refine blk_drewN ?_ _ | refine blk_drew ?_ | refine blk_alloc ?_ _)); exact BK331.out) hb); replace BK341 := Aside0.mk (blk_below (g := gb341) (o := .cells #[.int .i64 t338, .int .i64 t339] 52 (0, 0)) (by (with_reducible repeat (first | refine blk_drewN ?_ _ | refine blk_drew ?_ | refine blk_alloc ?_ _)); refine blk_put (cs := #[.int .i64 t338, .int .i64 0]) ?_ 1 _ rfl; (with_reducible repeat (first | refine blk_drewN ?_ _ | refine blk_drew ?_ | refine blk_alloc ?_ _)); refine blk_put (cs := #[.int .i64 0, .int .i64 0]) ?_ 0 _ rfl; (with_reducible repeat (first | refine blk_drewN ?_ _ | refine blk_drew ?_ | refine blk_alloc ?_ _)); exact BK341.out) hb); replace HB := Aside0.mk (below_step (by repeat (first | (with_reducible first | exact HB.out | apply qba | apply qbn | apply qb1 | refine below_set ?_ GE305.out | refine below_set ?_ GE306.out | refine below_set ?_ GE315.out | refine below_set ?_ GE320.out | refine below_set ?_ GE331.out | refine below_set ?_ GE341.out) | exact HB.out)) hb); (try clear hb); (try clear hb2); (try clear hk); (try clear hi)))
     go_ret
     exact ⟨tE, by repeat (first | (with_reducible first | exact HB.out | apply qba | apply qbn | apply qb1 | refine below_set ?_ GE305.out | refine below_set ?_ GE306.out | refine below_set ?_ GE315.out | refine below_set ?_ GE320.out | refine below_set ?_ GE331.out | refine below_set ?_ GE341.out) | exact HB.out)⟩
   rw [if_neg c153] at H
   have c153b0 : (t340 == 0) = false := beq_eq_false_iff_ne.mpr c153
   have c153b1 : (t340 != 0) = true := bne_iff_ne.mpr c153
   obtain rfl := Option.some.inj H
   go_wp2_with (first | ((with_reducible refine gate_callee (f := 43) rfl ?_); refine gL_ (some 192) rfl rfl Tryd.func43 #[.slice A0 l0.length c0, .int .i64 0, .int .i64 t326] rfl ?_; (with_reducible refine (laws_b10At.calls _ _ l0 0 t326 t336 _ ?side1 ?side2 A149.out).mono ?_); (case side1 => exact tC (Kd.C_below HR0.out HB.out)); (case side2 => exact HC0.out); rintro e w' ⟨rfl, ⟨nd, rfl⟩⟩; refine ⟨_, rfl, ?_⟩; (try (rw [drewN_self wc]; generalize hq_ : World.drewN wc _ = wc; have n0_ : Aside0 (wc.heap[gb305]? = some (.cells #[.int .i64 t301, .int .i64 t302] 52 (0, 0))) := ⟨by rw [← hq_]; exact (tB BK305)⟩; have n1_ : Aside0 (wc.heap[gb306]? = some (.cells #[.int .i64 t303, .int .i64 t304] 52 (0, 0))) := ⟨by rw [← hq_]; exact (tB BK306)⟩; have n2_ : Aside0 (wc.heap[gb315]? = some (.cells #[.int .i64 t313, .int .i64 t314] 52 (0, 0))) := ⟨by rw [← hq_]; exact (tB BK315)⟩; have n3_ : Aside0 (wc.heap[gb320]? = some (.cells #[.int .i64 t316, .int .i64 t317] 52 (0, 0))) := ⟨by rw [← hq_]; exact (tB BK320)⟩; have n4_ : Aside0 (wc.heap[gb331]? = some (.cells #[.int .i64 t327, .int .i64 t328] 52 (0, 0))) := ⟨by rw [← hq_]; exact (tB BK331)⟩; have n5_ : Aside0 (Below w.heap.size w wc) := ⟨by rw [← hq_]; exact (by repeat (first | (with_reducible first | exact HB.out | apply qba | apply qbn | apply qb1 | refine below_set ?_ GE305.out | refine below_set ?_ GE306.out | refine below_set ?_ GE315.out | refine below_set ?_ GE320.out | refine below_set ?_ GE331.out) | exact HB.out))⟩; clear BK305 BK306 BK315 BK320 BK331 HB hq_; have BK305 := n0_; have BK306 := n1_; have BK315 := n2_; have BK320 := n3_; have BK331 := n4_; have HB := n5_; clear n0_ n1_ n2_ n3_ n4_ n5_))) | ((with_reducible refine gate_callee (f := 43) rfl ?_); refine gL_ (some 198) rfl rfl Tryd.func43 #[.slice A0 l0.length c0, .int .i64 1, .int .i64 (wrap64 ((wrap64 (1 + t336)) + 1))] rfl ?_; (with_reducible refine (laws_b10At.calls _ _ l0 1 (wrap64 ((wrap64 (1 + t336)) + 1)) t337 _ ?side1 ?side2 A150.out).mono ?_); (case side1 => exact tC (Kd.C_below HR0.out HB.out)); (case side2 => exact HC0.out); rintro e w' ⟨rfl, ⟨nd, rfl⟩⟩; refine ⟨_, rfl, ?_⟩; (try (rw [drewN_self wc]; generalize hq_ : World.drewN wc _ = wc; have n0_ : Aside0 (wc.heap[gb305]? = some (.cells #[.int .i64 t301, .int .i64 t302] 52 (0, 0))) := ⟨by rw [← hq_]; exact (tB BK305)⟩; have n1_ : Aside0 (wc.heap[gb306]? = some (.cells #[.int .i64 t303, .int .i64 t304] 52 (0, 0))) := ⟨by rw [← hq_]; exact (tB BK306)⟩; have n2_ : Aside0 (wc.heap[gb315]? = some (.cells #[.int .i64 t313, .int .i64 t314] 52 (0, 0))) := ⟨by rw [← hq_]; exact (tB BK315)⟩; have n3_ : Aside0 (wc.heap[gb320]? = some (.cells #[.int .i64 t316, .int .i64 t317] 52 (0, 0))) := ⟨by rw [← hq_]; exact (tB BK320)⟩; have n4_ : Aside0 (wc.heap[gb331]? = some (.cells #[.int .i64 t327, .int .i64 t328] 52 (0, 0))) := ⟨by rw [← hq_]; exact (tB BK331)⟩; have n5_ : Aside0 (Below w.heap.size w wc) := ⟨by rw [← hq_]; exact (by repeat (first | (with_reducible first | exact HB.out | apply qba | apply qbn | apply qb1 | refine below_set ?_ GE305.out | refine below_set ?_ GE306.out | refine below_set ?_ GE315.out | refine below_set ?_ GE320.out | refine below_set ?_ GE331.out) | exact HB.out))⟩; clear BK305 BK306 BK315 BK320 BK331 HB hq_; have BK305 := n0_; have BK306 := n1_; have BK315 := n2_; have BK320 := n3_; have BK331 := n4_; have HB := n5_; clear n0_ n1_ n2_ n3_ n4_ n5_))) | ((with_reducible refine gate_callee (f := 44) rfl ?_); refine gL_ (some 203) rfl rfl Tryd.func44 #[.int .i64 (wrap64 ((wrap64 (1 + t336)) + t337)), .int .i64 (wrap64 (1 + t336))] rfl ?_; (with_reducible refine (spec_ReduceRatio.calls kj121 (wrap64 ((wrap64 (1 + t336)) + t337)) (wrap64 (1 + t336)) t338 t339 t340 _ A151.out).mono ?_); rintro e w174 ⟨rfl, hb⟩; refine ⟨_, rfl, ?_⟩; replace BK305 := tbB BK305 hb; replace BK306 := tbB BK306 hb; replace BK315 := tbB BK315 hb; replace BK320 := tbB BK320 hb; replace BK331 := tbB BK331 hb; replace HB := Aside0.mk (below_step (by repeat (first | (with_reducible first | exact HB.out | apply qba | apply qbn | apply qb1 | refine below_set ?_ GE305.out | refine below_set ?_ GE306.out | refine below_set ?_ GE315.out | refine below_set ?_ GE320.out | refine below_set ?_ GE331.out) | exact HB.out)) hb); (try clear hb); (try clear hb2); (try clear hk); (try clear hi)) | ((with_reducible refine gate_dst (N := 30) rfl ?_); refine box_event ?hg (N := 30) ?hd (cs := #[.int .i64 0, .int .i64 0]) (t := 52) ?hr ?_; (case hd => rfl); (case hg => rfl); (case hr => first | (go_simp; done) | (go_simp; rfl)); intro gb341 hg w175 hbox hb; have BK341 := Aside0.mk (hbox); have GW341 := Aside0.mk ((by rw [hg]; exact (below_size (by repeat (first | (with_reducible first | exact HB.out | apply qba | apply qbn | apply qb1 | refine below_set ?_ GE305.out | refine below_set ?_ GE306.out | refine below_set ?_ GE315.out | refine below_set ?_ GE320.out | refine below_set ?_ GE331.out) | exact HB.out))) : w.heap.size ≤ gb341)); have GE341 := Aside0.mk ((by rw [hg]; exact (below_size (by repeat (first | (with_reducible first | exact HB.out | apply qba | apply qbn | apply qb1 | refine below_set ?_ GE305.out | refine below_set ?_ GE306.out | refine below_set ?_ GE315.out | refine below_set ?_ GE320.out | refine below_set ?_ GE331.out) | exact HB.out))) : w.heap.size ≤ gb341)); replace HB := Aside0.mk (below_step (by repeat (first | (with_reducible first | exact HB.out | apply qba | apply qbn | apply qb1 | refine below_set ?_ GE305.out | refine below_set ?_ GE306.out | refine below_set ?_ GE315.out | refine below_set ?_ GE320.out | refine below_set ?_ GE331.out) | exact HB.out)) hb); have NB305_341 := Aside0.mk ((by rw [hg]; exact Nat.ne_of_lt (blk_lt (g := gb305) (o := .cells #[.int .i64 t301, .int .i64 t302] 52 (0, 0)) (tB BK305)) : gb305 ≠ gb341)); have NB341_305 := Aside0.mk ((by rw [hg]; exact Nat.ne_of_gt (blk_lt (g := gb305) (o := .cells #[.int .i64 t301, .int .i64 t302] 52 (0, 0)) (tB BK305)) : gb341 ≠ gb305)); replace BK305 := tbB BK305 hb; have NB306_341 := Aside0.mk ((by rw [hg]; exact Nat.ne_of_lt (blk_lt (g := gb306) (o := .cells #[.int .i64 t303, .int .i64 t304] 52 (0, 0)) (tB BK306)) : gb306 ≠ gb341)); have NB341_306 := Aside0.mk ((by rw [hg]; exact Nat.ne_of_gt (blk_lt (g := gb306) (o := .cells #[.int .i64 t303, .int .i64 t304] 52 (0, 0)) (tB BK306)) : gb341 ≠ gb306)); replace BK306 := tbB BK306 hb; have NB315_341 := Aside0.mk ((by rw [hg]; exact Nat.ne_of_lt (blk_lt (g := gb315) (o := .cells #[.int .i64 t313, .int .i64 t314] 52 (0, 0)) (tB BK315)) : gb315 ≠ gb341)); have NB341_315 := Aside0.mk ((by rw [hg]; exact Nat.ne_of_gt (blk_lt (g := gb315) (o := .cells #[.int .i64 t313, .int .i64 t314] 52 (0, 0)) (tB BK315)) : gb341 ≠ gb315)); replace BK315 := tbB BK315 hb; have NB320_341 := Aside0.mk ((by rw [hg]; exact Nat.ne_of_lt (blk_lt (g := gb320) (o := .cells #[.int .i64 t316, .int .i64 t317] 52 (0, 0)) (tB BK320)) : gb320 ≠ gb341)); have NB341_320 := Aside0.mk ((by rw [hg]; exact Nat.ne_of_gt (blk_lt (g := gb320) (o := .cells #[.int .i64 t316, .int .i64 t317] 52 (0, 0)) (tB BK320)) : gb341 ≠ gb320)); replace BK320 := tbB BK320 hb; have NB331_341 := Aside0.mk ((by rw [hg]; exact Nat.ne_of_lt (blk_lt (g := gb331) (o := .cells #[.int .i64 t327, .int .i64 t328] 52 (0, 0)) (tB BK331)) : gb331 ≠ gb341)); have NB341_331 := Aside0.mk ((by rw [hg]; exact Nat.ne_of_gt (blk_lt (g := gb331) (o := .cells #[.int .i64 t327, .int .i64 t328] 52 (0, 0)) (tB BK331)) : gb341 ≠ gb331)); replace BK331 := tbB BK331 hb; clear hb hbox hg; have hnb176 := NB341_305.out; have hnc176 := NB305_341.out; have hnb177 := NB341_306.out; have hnc177 := NB306_341.out; have hnb178 := NB341_315.out; have hnc178 := NB315_341.out; have hnb179 := NB341_320.out; have hnc179 := NB320_341.out; have hnb180 := NB341_331.out; have hnc180 := NB331_341.out; have hcz181_0 : w175.cell? ⟨gb341, 0, none⟩ = some (.int .i64 0) := (blk_cell BK341.out 0).trans rfl; have hcz181_1 : w175.cell? ⟨gb341, 1, none⟩ = some (.int .i64 0) := (blk_cell BK341.out 1).trans rfl; have hfz181_0 := blk_frozen BK341.out 0; have hfz181_1 := blk_frozen BK341.out 1) | ((with_reducible refine gate_callee (f := 45) rfl ?_); refine gL_ (some 208) rfl rfl Tryd.func45 #[.agg #[.int .i64 t338, .int .i64 t339]] rfl ?_; (with_reducible refine (spec_CentsOf.calls kj121 t338 t339 t342 t343 _ A152.out).mono ?_); rintro e w182 ⟨rfl, hb⟩; refine ⟨_, rfl, ?_⟩; replace BK305 := Aside0.mk (blk_below (g := gb305) (o := .cells #[.int .i64 t301, .int .i64 t302] 52 (0, 0)) (by (with_reducible repeat (first | refine blk_drewN ?_ _ | refine blk_drew ?_ | refine blk_alloc ?_ _)); refine blk_far ?_ NB305_341.out _; (with_reducible repeat (first | refine blk_drewN ?_ _ | refine blk_drew ?_ | refine blk_alloc ?_ _)); refine blk_far ?_ NB305_341.out _; (with_reducible repeat (first | refine blk_drewN ?_ _ | refine blk_drew ?_ | refine blk_alloc ?_ _)); exact BK305.out) hb); replace BK306 := Aside0.mk (blk_below (g := gb306) (o := .cells #[.int .i64 t303, .int .i64 t304] 52 (0, 0)) (by (with_reducible repeat (first | refine blk_drewN ?_ _ | refine blk_drew ?_ | refine blk_alloc ?_ _)); refine blk_far ?_ NB306_341.out _; (with_reducible repeat (first | refine blk_drewN ?_ _ | refine blk_drew ?_ | refine blk_alloc ?_ _)); refine blk_far ?_ NB306_341.out _; (with_reducible repeat (first | refine blk_drewN ?_ _ | refine blk_drew ?_ | refine blk_alloc ?_ _)); exact BK306.out) hb); replace BK315 := Aside0.mk (blk_below (g := gb315) (o := .cells #[.int .i64 t313, .int .i64 t314] 52 (0, 0)) (by (with_reducible repeat (first | refine blk_drewN ?_ _ | refine blk_drew ?_ | refine blk_alloc ?_ _)); refine blk_far ?_ NB315_341.out _; (with_reducible repeat (first | refine blk_drewN ?_ _ | refine blk_drew ?_ | refine blk_alloc ?_ _)); refine blk_far ?_ NB315_341.out _; (with_reducible repeat (first | refine blk_drewN ?_ _ | refine blk_drew ?_ | refine blk_alloc ?_ _)); exact BK315.out) hb); replace BK320 := Aside0.mk (blk_below (g := gb320) (o := .cells #[.int .i64 t316, .int .i64 t317] 52 (0, 0)) (by (with_reducible repeat (first | refine blk_drewN ?_ _ | refine blk_drew ?_ | refine blk_alloc ?_ _)); refine blk_far ?_ NB320_341.out _; (with_reducible repeat (first | refine blk_drewN ?_ _ | refine blk_drew ?_ | refine blk_alloc ?_ _)); refine blk_far ?_ NB320_341.out _; (with_reducible repeat (first | refine blk_drewN ?_ _ | refine blk_drew ?_ | refine blk_alloc ?_ _)); exact BK320.out) hb); replace BK331 := Aside0.mk (blk_below (g := gb331) (o := .cells #[.int .i64 t327, .int .i64 t328] 52 (0, 0)) (by (with_reducible repeat (first | refine blk_drewN ?_ _ | refine blk_drew ?_ | refine blk_alloc ?_ _)); refine blk_far ?_ NB331_341.out _; (with_reducible repeat (first | refine blk_drewN ?_ _ | refine blk_drew ?_ | refine blk_alloc ?_ _)); refine blk_far ?_ NB331_341.out _; (with_reducible repeat (first | refine blk_drewN ?_ _ | refine blk_drew ?_ | refine blk_alloc ?_ _)); exact BK331.out) hb); replace BK341 := Aside0.mk (blk_below (g := gb341) (o := .cells #[.int .i64 t338, .int .i64 t339] 52 (0, 0)) (by (with_reducible repeat (first | refine blk_drewN ?_ _ | refine blk_drew ?_ | refine blk_alloc ?_ _)); refine blk_put (cs := #[.int .i64 t338, .int .i64 0]) ?_ 1 _ rfl; (with_reducible repeat (first | refine blk_drewN ?_ _ | refine blk_drew ?_ | refine blk_alloc ?_ _)); refine blk_put (cs := #[.int .i64 0, .int .i64 0]) ?_ 0 _ rfl; (with_reducible repeat (first | refine blk_drewN ?_ _ | refine blk_drew ?_ | refine blk_alloc ?_ _)); exact BK341.out) hb); replace HB := Aside0.mk (below_step (by repeat (first | (with_reducible first | exact HB.out | apply qba | apply qbn | apply qb1 | refine below_set ?_ GE305.out | refine below_set ?_ GE306.out | refine below_set ?_ GE315.out | refine below_set ?_ GE320.out | refine below_set ?_ GE331.out | refine below_set ?_ GE341.out) | exact HB.out)) hb); (try clear hb); (try clear hb2); (try clear hk); (try clear hi)))
   go_ret
   exact ⟨tE, by repeat (first | (with_reducible first | exact HB.out | apply qba | apply qbn | apply qb1 | refine below_set ?_ GE305.out | refine below_set ?_ GE306.out | refine below_set ?_ GE315.out | refine below_set ?_ GE320.out | refine below_set ?_ GE331.out | refine below_set ?_ GE341.out) | exact HB.out)⟩
 rw [if_neg c120] at H
 have c120b0 : (t330 == 0) = false := beq_eq_false_iff_ne.mpr c120
 have c120b1 : (t330 != 0) = true := bne_iff_ne.mpr c120
 obtain rfl := Option.some.inj H
 go_wp2_with (first | ((with_reducible refine gate_callee (f := 39) rfl ?_); refine gL_ (some 149) rfl rfl Tryd.func39 #[.slice A1 l1.length c1] rfl ?_; (with_reducible refine (spec_DrawBestRatio.calls _ _ l1 t325 t326 _ ?side1 ?side2 A118.out).mono ?_); (case side1 => exact tC (Kd.C_below HR1.out HB.out)); (case side2 => exact HC1.out); rintro e w183 ⟨rfl, hb⟩; refine ⟨_, rfl, ?_⟩; replace BK305 := tbB BK305 hb; replace BK306 := tbB BK306 hb; replace BK315 := tbB BK315 hb; replace BK320 := tbB BK320 hb; replace HB := Aside0.mk (below_step (tH4 HB GE305.out GE306.out GE315.out GE320.out) hb); (try clear hb); (try clear hb2); (try clear hk); (try clear hi)) | ((with_reducible refine gate_callee (f := 40) rfl ?_); refine gL_ (some 155) rfl rfl Tryd.func40 #[.int .i64 t325, .int .i64 t326] rfl ?_; (with_reducible refine (impl_BestRatio.calls kj40 t325 t326 t327 t328 t329 t330 _ ?side1 A119.out).mono ?_); (case side1 => exact tC (Kd.C_below HT.out HB.out)); rintro e w184 ⟨rfl, hb⟩; refine ⟨_, rfl, ?_⟩; replace BK305 := tbB BK305 hb; replace BK306 := tbB BK306 hb; replace BK315 := tbB BK315 hb; replace BK320 := tbB BK320 hb; replace HB := Aside0.mk (below_step (tH4 HB GE305.out GE306.out GE315.out GE320.out) hb); (try clear hb); (try clear hb2); (try clear hk); (try clear hi)) | ((with_reducible refine gate_dst (N := 23) rfl ?_); refine box_event ?hg (N := 23) ?hd (cs := #[.int .i64 0, .int .i64 0]) (t := 52) ?hr ?_; (case hd => rfl); (case hg => rfl); (case hr => first | (go_simp; done) | (go_simp; rfl)); intro gb331 hg w185 hbox hb; have BK331 := Aside0.mk (hbox); have GW331 := Aside0.mk ((by rw [hg]; exact (below_size (tH4 HB GE305.out GE306.out GE315.out GE320.out)) : w.heap.size ≤ gb331)); have GE331 := Aside0.mk ((by rw [hg]; exact (below_size (tH4 HB GE305.out GE306.out GE315.out GE320.out)) : w.heap.size ≤ gb331)); replace HB := Aside0.mk (below_step (tH4 HB GE305.out GE306.out GE315.out GE320.out) hb); have NB305_331 := Aside0.mk ((by rw [hg]; exact Nat.ne_of_lt (blk_lt (g := gb305) (o := .cells #[.int .i64 t301, .int .i64 t302] 52 (0, 0)) (tB BK305)) : gb305 ≠ gb331)); have NB331_305 := Aside0.mk ((by rw [hg]; exact Nat.ne_of_gt (blk_lt (g := gb305) (o := .cells #[.int .i64 t301, .int .i64 t302] 52 (0, 0)) (tB BK305)) : gb331 ≠ gb305)); replace BK305 := tbB BK305 hb; have NB306_331 := Aside0.mk ((by rw [hg]; exact Nat.ne_of_lt (blk_lt (g := gb306) (o := .cells #[.int .i64 t303, .int .i64 t304] 52 (0, 0)) (tB BK306)) : gb306 ≠ gb331)); have NB331_306 := Aside0.mk ((by rw [hg]; exact Nat.ne_of_gt (blk_lt (g := gb306) (o := .cells #[.int .i64 t303, .int .i64 t304] 52 (0, 0)) (tB BK306)) : gb331 ≠ gb306)); replace BK306 := tbB BK306 hb; have NB315_331 := Aside0.mk ((by rw [hg]; exact Nat.ne_of_lt (blk_lt (g := gb315) (o := .cells #[.int .i64 t313, .int .i64 t314] 52 (0, 0)) (tB BK315)) : gb315 ≠ gb331)); have NB331_315 := Aside0.mk ((by rw [hg]; exact Nat.ne_of_gt (blk_lt (g := gb315) (o := .cells #[.int .i64 t313, .int .i64 t314] 52 (0, 0)) (tB BK315)) : gb331 ≠ gb315)); replace BK315 := tbB BK315 hb; have NB320_331 := Aside0.mk ((by rw [hg]; exact Nat.ne_of_lt (blk_lt (g := gb320) (o := .cells #[.int .i64 t316, .int .i64 t317] 52 (0, 0)) (tB BK320)) : gb320 ≠ gb331)); have NB331_320 := Aside0.mk ((by rw [hg]; exact Nat.ne_of_gt (blk_lt (g := gb320) (o := .cells #[.int .i64 t316, .int .i64 t317] 52 (0, 0)) (tB BK320)) : gb331 ≠ gb320)); replace BK320 := tbB BK320 hb; clear hb hbox hg; have hnb186 := NB331_305.out; have hnc186 := NB305_331.out; have hnb187 := NB331_306.out; have hnc187 := NB306_331.out; have hnb188 := NB331_315.out; have hnc188 := NB315_331.out; have hnb189 := NB331_320.out; have hnc189 := NB320_331.out; have hcz190_0 : w185.cell? ⟨gb331, 0, none⟩ = some (.int .i64 0) := (blk_cell BK331.out 0).trans rfl; have hcz190_1 : w185.cell? ⟨gb331, 1, none⟩ = some (.int .i64 0) := (blk_cell BK331.out 1).trans rfl; have hfz190_0 := blk_frozen BK331.out 0; have hfz190_1 := blk_frozen BK331.out 1))
 go_ret
 exact ⟨tE, by repeat (first | (with_reducible first | exact HB.out | apply qba | apply qbn | apply qb1 | refine below_set ?_ GE305.out | refine below_set ?_ GE306.out | refine below_set ?_ GE315.out | refine below_set ?_ GE320.out | refine below_set ?_ GE331.out) | exact HB.out)⟩

/-- THE ONE PURE STATEMENT of laws_FnCents: yours. -/
def laws_FnCents.Pure : Prop := ∀ (l0 : List Int) (l1 : List Int), (l0.length ≤ maxLen ∧ ∀ y0 ∈ l0, (Lit.int .u8 y0).wf = true) → (l1.length ≤ maxLen ∧ ∀ y0 ∈ l1, (Lit.int .u8 y0).wf = true) → ∃ k, laws_FnCents.f k l0 l1 = some true
theorem laws_FnCents.walk (P : laws_FnCents.Pure) (A0 : Option Addr) (c0 : Nat) (l0 : List Int) (A1 : Option Addr) (c1 : Nat) (l1 : List Int) (w : World) (hr0 : Kd.C (Kd.int .u8) w A0 l0.length l0) (hc0 : l0.length ≤ c0) (hr1 : Kd.C (Kd.int .u8) w A1 l1.length l1) (hc1 : l1.length ≤ c1) (hk0 : (l0.length ≤ maxLen ∧ ∀ y0 ∈ l0, (Lit.int .u8 y0).wf = true)) (hk1 : (l1.length ≤ maxLen ∧ ∀ y0 ∈ l1, (Lit.int .u8 y0).wf = true)) (ht : Tab_ w) :
 Calls Tryd.prog 7 #[.slice A0 l0.length c0, .slice A1 l1.length c1] w fun e w' => e = .returned (.bool true) ∧ Below w.heap.size w w' := by
 obtain ⟨k, h⟩ := P l0 l1 hk0 hk1
 refine (laws_FnCents.calls k _ _ l0 _ _ l1 true w hr0 hc0 hr1 hc1 ht h).mono ?_
 rintro e w' ⟨rfl, hd⟩
 exact ⟨rfl, hd⟩

end Go.Proofs.YtmeflmlejcmckaaDoor.PC
