-- WRITTEN BY wip/gprint.py, a program of this session's over the kit's print, with contracts given by hand
import Derived.Test.YtbedlmlofnphkaaPZx0
import Derived.Test.YtbedlmlofnphkaaPZx2
import Derived.Test.YtbedlmlofnphkaaPZx4
import Derived.Test.YtbedlmlofnphkaaPZx5
import Derived.Test.YtbedlmlofnphkaaPZx7
namespace Go.Proofs.Ytbedlmlofnphkaa.PZ
open Go.RowKit Go.Proofs.YtbedlmlofnphkaaW.PrintWords Go.Proofs.YtbedlmlofnphkaaW.PrintLast Go.Proofs.YtbedlmlofnphkaaW.PrintMore
attribute [local go_sem] max2_int min2_int max_two min_two max_three min_three max_four min_four   -- for this text's walks alone
set_option linter.unusedVariables false
set_option linter.unusedSimpArgs false

/-! ### spec_l05Ok: function 109 -/
def spec_l05Ok.f (k : Nat) (l0 : List (S27)) : Option (Bool) := (spec_l01Name.f k ((rd_T27 l0 0).f0)).bind fun t184 => (if t184 = true then ((spec_l03Scale.f k ((rd_T27 l0 0).f1)).bind fun t185 => (if t185 = true then ((spec_l03Scale.f k ((rd_T27 l0 0).f2)).bind fun t186 => (if t186 = true then ((spec_l05Tone.f k l0 ((rd_T27 l0 0).f3)).bind fun t187 => (if t187 = true then ((spec_l05Tone.f k l0 ((rd_T27 l0 0).f4)).bind fun t188 => (if t188 = true then (if ((rd_T27 l0 0).f3) = ((rd_T27 l0 0).f4) then (some false) else ((spec_l05Pairs.f k ((rd_T27 l0 0).f5)).bind fun t189 => (some t189))) else (some false))) else (some false))) else (some false))) else (some false))) else (some false))
theorem spec_l05Ok.mono : ∀ a0 k, LeO (spec_l05Ok.f k a0) (spec_l05Ok.f (k + 1) a0) := by
 intro a0 k
 unfold spec_l05Ok.f
 repeat' first
  | (with_reducible exact spec_l01Name.mono _ _)
  | (with_reducible exact spec_l03Scale.mono _ _)
  | (with_reducible exact spec_l05Pairs.mono _ _)
  | (with_reducible exact spec_l05Tone.mono _ _ _)
  | (with_reducible exact LeO.refl _)
  | (with_reducible exact LeO.none _)
  | (with_reducible refine LeO.ite ?_ ?_)
  | (with_reducible refine LeO.bind ?_ (fun _ => ?_))
  | exact spec_l01Name.mono _ _
  | exact spec_l03Scale.mono _ _
  | exact spec_l05Pairs.mono _ _
  | exact spec_l05Tone.mono _ _ _
  | exact LeO.none _
  | refine LeO.ite ?_ ?_
  | refine LeO.bind ?_ (fun _ => ?_)
def spec_l05Ok.T1 : Bool × List (List Nat × List Nat) := (true, [([], []), ([0], [0]), ([1], [1]), ([2], [2]), ([3], [3]), ([4, 4], [4]), ([5], [5]), ([6, 5], [5, 6]), ([7, 5], [5, 7]), ([8, 5], [5, 8]), ([9, 5, 5], [5, 9]), ([5, 10], [5, 10]), ([11, 10], [11]), ([12], [12]), ([13, 12], [12, 13]), ([14, 12], [12, 14]), ([15, 12], [12, 15]), ([16, 12, 12], [12, 16]), ([12, 17], [12, 17]), ([18, 17], [18]), ([19], [19]), ([19], [19]), ([21, 19], [19, 21]), ([22, 19], [19, 22]), ([23, 19], [19, 23]), ([20, 24, 19, 19], [19, 20, 24]), ([19, 25], [19, 25]), ([26, 25], [26]), ([27], [27]), ([27], [27]), ([29, 27], [27, 29]), ([30, 27], [27, 30]), ([31, 27], [27, 31]), ([28, 32, 27, 27], [27, 28, 32]), ([27, 33], [27, 33]), ([34, 33], [34]), ([35], [35]), ([36, 35], [35, 36]), ([37, 35], [35, 37]), ([38, 35], [35, 38]), ([35], [35]), ([40, 35], [35, 40]), ([41, 35], [35, 41]), ([42, 35], [35, 42]), ([39, 43, 35], [35, 39, 43]), ([35, 44], [35, 44]), ([45, 35], [45]), ([46], [46]), ([47, 46], [46, 47]), ([48, 46], [46, 48]), ([49, 46], [46, 49]), ([50, 46, 46], [46, 50]), ([46, 51], [46, 51]), ([52, 51, 0, 1, 2, 3, 4, 5, 6, 7, 8, 9, 10, 11, 12, 13, 14, 15, 16, 17, 18, 19, 20, 21, 22, 23, 24, 25, 26, 27, 28, 29, 30, 31, 32, 33, 34, 35, 36, 37, 38, 39, 40, 41, 42, 43, 44, 45, 46, 47, 48, 49, 50, 51, 52], [52])])
def spec_l05Ok.B1 : List Nat := [0, 1, 3, 7, 15, 31, 63, 127, 255, 511, 1023, 2047, 4095, 8191, 16383, 32767, 65535, 131071, 262143, 524287, 1048575, 1048575, 3145727, 7340031, 15728639, 33554431, 67108863, 134217727, 268435455, 268435455, 805306367, 1879048191, 4026531839, 8589934591, 17179869183, 34359738367, 68719476735, 137438953471, 274877906943, 549755813887, 68719476735, 1168231104511, 3367254360063, 7765300871167, 17592186044415, 35184372088831, 70368744177663, 140737488355327, 281474976710655, 562949953421311, 1125899906842623, 2251799813685247, 4503599627370495, 9007199254740991]
theorem spec_l05Ok.tab1 : rtab .any (opsOf Try.f109 1) = spec_l05Ok.T1 := by kernel_rfl
theorem spec_l05Ok.bits1 : waitsOk spec_l05Ok.T1.2 spec_l05Ok.B1 = true := by kernel_rfl
set_option maxHeartbeats 8000000 in
set_option maxRecDepth 100000 in
theorem spec_l05Ok.calls (k : Nat) (A0 : Option Addr) (l0 : List (S27)) (r : Bool) (w : World) (hr0 : Kd.C k27 w A0 l0.length l0) (hn0 : 0 < l0.length) (h : spec_l05Ok.f k l0 = some r) :
 Calls Try.prog 109 #[.pointer A0] w fun e w' => e = .returned (.bool r) ∧ Below w.heap.size w w' := by
 have HR0 := Aside0.mk hr0
 clear hr0
 have HN0 := Aside0.mk hn0
 have hn0b0 : decide ((0 : Int) < (l0.length : Int)) = true := decide_eq_true (Int.ofNat_lt.2 hn0)
 have hn0b1 : decide (0 < l0.length) = true := decide_eq_true hn0
 clear hn0
 have HB := Aside0.mk (Below.refl w.heap.size w)
 have H : ((spec_l01Name.f k ((rd_T27 l0 0).f0)).bind fun t184 => (if t184 = true then ((spec_l03Scale.f k ((rd_T27 l0 0).f1)).bind fun t185 => (if t185 = true then ((spec_l03Scale.f k ((rd_T27 l0 0).f2)).bind fun t186 => (if t186 = true then ((spec_l05Tone.f k l0 ((rd_T27 l0 0).f3)).bind fun t187 => (if t187 = true then ((spec_l05Tone.f k l0 ((rd_T27 l0 0).f4)).bind fun t188 => (if t188 = true then (if ((rd_T27 l0 0).f3) = ((rd_T27 l0 0).f4) then (some false) else ((spec_l05Pairs.f k ((rd_T27 l0 0).f5)).bind fun t189 => (some t189))) else (some false))) else (some false))) else (some false))) else (some false))) else (some false))) = some r := h
 clear h
 replace H := Option.bind_eq_some_iff.mp H
 obtain ⟨t184, A20, H⟩ := H
 replace H : (if t184 = true then ((spec_l03Scale.f k ((rd_T27 l0 0).f1)).bind fun t185 => (if t185 = true then ((spec_l03Scale.f k ((rd_T27 l0 0).f2)).bind fun t186 => (if t186 = true then ((spec_l05Tone.f k l0 ((rd_T27 l0 0).f3)).bind fun t187 => (if t187 = true then ((spec_l05Tone.f k l0 ((rd_T27 l0 0).f4)).bind fun t188 => (if t188 = true then (if ((rd_T27 l0 0).f3) = ((rd_T27 l0 0).f4) then (some false) else ((spec_l05Pairs.f k ((rd_T27 l0 0).f5)).bind fun t189 => (some t189))) else (some false))) else (some false))) else (some false))) else (some false))) else (some false)) = some r := H
 have A2 := Aside0.mk A20
 clear A20
 by_cases c3 : t184 = true
 · subst c3
   have H1 : ((spec_l03Scale.f k ((rd_T27 l0 0).f1)).bind fun t185 => (if t185 = true then ((spec_l03Scale.f k ((rd_T27 l0 0).f2)).bind fun t186 => (if t186 = true then ((spec_l05Tone.f k l0 ((rd_T27 l0 0).f3)).bind fun t187 => (if t187 = true then ((spec_l05Tone.f k l0 ((rd_T27 l0 0).f4)).bind fun t188 => (if t188 = true then (if ((rd_T27 l0 0).f3) = ((rd_T27 l0 0).f4) then (some false) else ((spec_l05Pairs.f k ((rd_T27 l0 0).f5)).bind fun t189 => (some t189))) else (some false))) else (some false))) else (some false))) else (some false))) = some r := by rw [if_pos rfl] at H; exact H
   clear H
   have H := H1
   clear H1
   replace H := Option.bind_eq_some_iff.mp H
   obtain ⟨t185, A40, H⟩ := H
   replace H : (if t185 = true then ((spec_l03Scale.f k ((rd_T27 l0 0).f2)).bind fun t186 => (if t186 = true then ((spec_l05Tone.f k l0 ((rd_T27 l0 0).f3)).bind fun t187 => (if t187 = true then ((spec_l05Tone.f k l0 ((rd_T27 l0 0).f4)).bind fun t188 => (if t188 = true then (if ((rd_T27 l0 0).f3) = ((rd_T27 l0 0).f4) then (some false) else ((spec_l05Pairs.f k ((rd_T27 l0 0).f5)).bind fun t189 => (some t189))) else (some false))) else (some false))) else (some false))) else (some false)) = some r := H
   have A4 := Aside0.mk A40
   clear A40
   by_cases c5 : t185 = true
   · subst c5
     have H1 : ((spec_l03Scale.f k ((rd_T27 l0 0).f2)).bind fun t186 => (if t186 = true then ((spec_l05Tone.f k l0 ((rd_T27 l0 0).f3)).bind fun t187 => (if t187 = true then ((spec_l05Tone.f k l0 ((rd_T27 l0 0).f4)).bind fun t188 => (if t188 = true then (if ((rd_T27 l0 0).f3) = ((rd_T27 l0 0).f4) then (some false) else ((spec_l05Pairs.f k ((rd_T27 l0 0).f5)).bind fun t189 => (some t189))) else (some false))) else (some false))) else (some false))) = some r := by rw [if_pos rfl] at H; exact H
     clear H
     have H := H1
     clear H1
     replace H := Option.bind_eq_some_iff.mp H
     obtain ⟨t186, A60, H⟩ := H
     replace H : (if t186 = true then ((spec_l05Tone.f k l0 ((rd_T27 l0 0).f3)).bind fun t187 => (if t187 = true then ((spec_l05Tone.f k l0 ((rd_T27 l0 0).f4)).bind fun t188 => (if t188 = true then (if ((rd_T27 l0 0).f3) = ((rd_T27 l0 0).f4) then (some false) else ((spec_l05Pairs.f k ((rd_T27 l0 0).f5)).bind fun t189 => (some t189))) else (some false))) else (some false))) else (some false)) = some r := H
     have A6 := Aside0.mk A60
     clear A60
     by_cases c7 : t186 = true
     · subst c7
       have H1 : ((spec_l05Tone.f k l0 ((rd_T27 l0 0).f3)).bind fun t187 => (if t187 = true then ((spec_l05Tone.f k l0 ((rd_T27 l0 0).f4)).bind fun t188 => (if t188 = true then (if ((rd_T27 l0 0).f3) = ((rd_T27 l0 0).f4) then (some false) else ((spec_l05Pairs.f k ((rd_T27 l0 0).f5)).bind fun t189 => (some t189))) else (some false))) else (some false))) = some r := by rw [if_pos rfl] at H; exact H
       clear H
       have H := H1
       clear H1
       replace H := Option.bind_eq_some_iff.mp H
       obtain ⟨t187, A80, H⟩ := H
       replace H : (if t187 = true then ((spec_l05Tone.f k l0 ((rd_T27 l0 0).f4)).bind fun t188 => (if t188 = true then (if ((rd_T27 l0 0).f3) = ((rd_T27 l0 0).f4) then (some false) else ((spec_l05Pairs.f k ((rd_T27 l0 0).f5)).bind fun t189 => (some t189))) else (some false))) else (some false)) = some r := H
       have A8 := Aside0.mk A80
       clear A80
       by_cases c9 : t187 = true
       · subst c9
         have H1 : ((spec_l05Tone.f k l0 ((rd_T27 l0 0).f4)).bind fun t188 => (if t188 = true then (if ((rd_T27 l0 0).f3) = ((rd_T27 l0 0).f4) then (some false) else ((spec_l05Pairs.f k ((rd_T27 l0 0).f5)).bind fun t189 => (some t189))) else (some false))) = some r := by rw [if_pos rfl] at H; exact H
         clear H
         have H := H1
         clear H1
         replace H := Option.bind_eq_some_iff.mp H
         obtain ⟨t188, A100, H⟩ := H
         replace H : (if t188 = true then (if ((rd_T27 l0 0).f3) = ((rd_T27 l0 0).f4) then (some false) else ((spec_l05Pairs.f k ((rd_T27 l0 0).f5)).bind fun t189 => (some t189))) else (some false)) = some r := H
         have A10 := Aside0.mk A100
         clear A100
         by_cases c11 : t188 = true
         · subst c11
           have H1 : (if ((rd_T27 l0 0).f3) = ((rd_T27 l0 0).f4) then (some false) else ((spec_l05Pairs.f k ((rd_T27 l0 0).f5)).bind fun t189 => (some t189))) = some r := by rw [if_pos rfl] at H; exact H
           clear H
           have H := H1
           clear H1
           by_cases c12 : ((rd_T27 l0 0).f3) = ((rd_T27 l0 0).f4)
           · rw [if_pos c12] at H
             have c12b0 : (((rd_T27 l0 0).f3) == ((rd_T27 l0 0).f4)) = true := beq_iff_eq.mpr c12
             have c12b1 : (((rd_T27 l0 0).f3) != ((rd_T27 l0 0).f4)) = false := bne_eq_false_iff_eq.mpr c12
             clear c12
             obtain rfl := Option.some.inj H
             go_enter Try.func109, Try.ntmps109
             try go_wp2
             replace HB := Aside0.mk (below_drew1 HB.out)
             have p183 : 0 ≤ (0 : Int) := (by omega)
             have q183 : 0 < (l0.length : Int) := of_decide_eq_true tA
             obtain ⟨ad183, A183_1, c183_1, A183_2, c183_2, A183_5, c183_5, e183, hx183_0, hx183_1, hx183_2, hx183_3, hx183_4, hx183_5, hl183_1, hi183_1, hl183_2, hi183_2, hl183_5, hi183_5⟩ := at_T27 HR0.out 0 p183 q183
             have hw183_5 := hx183_5
             (try rw [t0n] at hw183_5)
             (try rw [show 0 * 6 = 0 from rfl] at hw183_5)
             (try rw [Addr.add_zero'] at hw183_5)
             have hw183_4 := hx183_4
             (try rw [t0n] at hw183_4)
             (try rw [show 0 * 6 = 0 from rfl] at hw183_4)
             (try rw [Addr.add_zero'] at hw183_4)
             have hw183_3 := hx183_3
             (try rw [t0n] at hw183_3)
             (try rw [show 0 * 6 = 0 from rfl] at hw183_3)
             (try rw [Addr.add_zero'] at hw183_3)
             have hw183_2 := hx183_2
             (try rw [t0n] at hw183_2)
             (try rw [show 0 * 6 = 0 from rfl] at hw183_2)
             (try rw [Addr.add_zero'] at hw183_2)
             have hw183_1 := hx183_1
             (try rw [t0n] at hw183_1)
             (try rw [show 0 * 6 = 0 from rfl] at hw183_1)
             (try rw [Addr.add_zero'] at hw183_1)
             have hw183_0 := hx183_0
             (try rw [t0n] at hw183_0)
             (try rw [show 0 * 6 = 0 from rfl] at hw183_0)
             (try rw [Addr.add_zero'] at hw183_0)
             cases e183
             have qi183 : (0 < l0.length) = True := eq_true (by omega)
             (try rw [t0n] at hx183_0)
             (try rw [show 0 * 6 = 0 from rfl] at hx183_0)
             (try rw [Addr.add_zero'] at hx183_0)
             (try rw [t0n] at hx183_1)
             (try rw [show 0 * 6 = 0 from rfl] at hx183_1)
             (try rw [Addr.add_zero'] at hx183_1)
             (try rw [t0n] at hx183_2)
             (try rw [show 0 * 6 = 0 from rfl] at hx183_2)
             (try rw [Addr.add_zero'] at hx183_2)
             (try rw [t0n] at hx183_3)
             (try rw [show 0 * 6 = 0 from rfl] at hx183_3)
             (try rw [Addr.add_zero'] at hx183_3)
             (try rw [t0n] at hx183_4)
             (try rw [show 0 * 6 = 0 from rfl] at hx183_4)
             (try rw [Addr.add_zero'] at hx183_4)
             (try rw [t0n] at hx183_5)
             (try rw [show 0 * 6 = 0 from rfl] at hx183_5)
             (try rw [Addr.add_zero'] at hx183_5)
             replace hx183_0 := tW HB hx183_0
             replace hx183_1 := tW HB hx183_1
             replace hx183_2 := tW HB hx183_2
             replace hx183_3 := tW HB hx183_3
             replace hx183_4 := tW HB hx183_4
             replace hx183_5 := tW HB hx183_5
             have HR183_1 := Aside0.mk hi183_1
             have HC183_1 := Aside0.mk hl183_1
             clear hi183_1 hl183_1
             have HR183_2 := Aside0.mk hi183_2
             have HC183_2 := Aside0.mk hl183_2
             clear hi183_2 hl183_2
             have HR183_5 := Aside0.mk hi183_5
             have HC183_5 := Aside0.mk hl183_5
             clear hi183_5 hl183_5
             replace p183 := eq_true p183
             replace q183 := eq_true q183
             refine start_ (n := 54) (S := fun w' => w'.cell? ad183 = some (.string ((rd_T27 l0 0).f0)) ∧ w'.cell? ⟨ad183.block, ad183.off + 1, none⟩ = some (.slice A183_1 ((rd_T27 l0 0).f1).length c183_1) ∧ w'.cell? ⟨ad183.block, ad183.off + 2, none⟩ = some (.slice A183_2 ((rd_T27 l0 0).f2).length c183_2) ∧ w'.cell? ⟨ad183.block, ad183.off + 3, none⟩ = some (.int .i64 ((rd_T27 l0 0).f3)) ∧ w'.cell? ⟨ad183.block, ad183.off + 4, none⟩ = some (.int .i64 ((rd_T27 l0 0).f4)) ∧ w'.cell? ⟨ad183.block, ad183.off + 5, none⟩ = some (.slice A183_5 ((rd_T27 l0 0).f5).length c183_5)) (ds := []) (bq [0, 54]) (by kernel_rfl) rfl rfl ⟨(tW HB hw183_0), (tW HB hw183_1), (tW HB hw183_2), (tW HB hw183_3), (tW HB hw183_4), (tW HB hw183_5)⟩ (fun hHeld => ?_); refine with_tabW spec_l05Ok.tab1 spec_l05Ok.bits1 (fun HT_ HW_ => ?_)
             generalize w.drew = w13 at HB HR183_1 HR183_2 HR183_5 hx183_0 hx183_1 hx183_2 hx183_3 hx183_4 hx183_5 hHeld ⊢
             refine pV 0 (some 3) [1, 53] rfl rfl HT_ ?_
             refine pV 1 (some 4) [2, 52] rfl rfl HT_ ?_
             refine pV 2 (some 5) [3, 51] rfl rfl HT_ ?_
             refine pT 3 (some 6) (bq [4, 50]) rfl rfl HT_ HW_ hHeld ?_
             refine pO 4 (some 7) (bq [5, 49]) rfl rfl HT_ (fun K hK => ?_)
             refine gS_ Try.func214 #[.string ((rd_T27 l0 0).f0)] rfl rfl ?_
             with_reducible refine (spec_l01Name.calls k ((rd_T27 l0 0).f0) true _ A2.out).mono ?_
             rintro e w' ⟨rfl, ⟨nd, rfl⟩⟩
             refine ⟨_, rfl, ?_⟩
             refine hK.out _ _ ⟨(tW HB hw183_0), (tW HB hw183_1), (tW HB hw183_2), (tW HB hw183_3), (tW HB hw183_4), (tW HB hw183_5)⟩ (fun hHeld => ?_)
             clear hK K
             refine nO (some 7) ?_
             refine pV 5 (some 8) [6, 48] rfl rfl HT_ ?_
             refine pV 6 (some 9) [7, 47] rfl rfl HT_ ?_
             refine pV 7 (some 10) [8, 46] rfl rfl HT_ ?_
             refine pV 8 (some 11) [9, 45] rfl rfl HT_ ?_
             refine pT 9 (some 12) (bq [10, 44]) rfl rfl HT_ HW_ hHeld ?_
             refine pO 10 (some 13) (bq [11, 43]) rfl rfl HT_ (fun K hK => ?_)
             refine gS_ Try.func163 #[.slice A183_1 ((rd_T27 l0 0).f1).length c183_1] rfl rfl ?_
             with_reducible refine (spec_l03Scale.calls k _ _ ((rd_T27 l0 0).f1) true _ ?side1 ?side2 A4.out).mono ?_
             (case side1 => exact Kd.C_below HR183_1.out (tH HB))
             (case side2 => exact HC183_1.out)
             rintro e w' ⟨rfl, ⟨nd, rfl⟩⟩
             refine ⟨_, rfl, ?_⟩
             refine hK.out _ _ ⟨(tW HB hw183_0), (tW HB hw183_1), (tW HB hw183_2), (tW HB hw183_3), (tW HB hw183_4), (tW HB hw183_5)⟩ (fun hHeld => ?_)
             clear hK K
             refine nO (some 13) ?_
             refine pV 11 (some 14) [12, 42] rfl rfl HT_ ?_
             refine pV 12 (some 15) [13, 41] rfl rfl HT_ ?_
             refine pV 13 (some 16) [14, 40] rfl rfl HT_ ?_
             refine pV 14 (some 17) [15, 39] rfl rfl HT_ ?_
             refine pV 15 (some 18) [16, 38] rfl rfl HT_ ?_
             refine pT 16 (some 19) (bq [17, 37]) rfl rfl HT_ HW_ hHeld ?_
             refine pO 17 (some 20) (bq [18, 36]) rfl rfl HT_ (fun K hK => ?_)
             refine gS_ Try.func163 #[.slice A183_2 ((rd_T27 l0 0).f2).length c183_2] rfl rfl ?_
             with_reducible refine (spec_l03Scale.calls k _ _ ((rd_T27 l0 0).f2) true _ ?side1 ?side2 A6.out).mono ?_
             (case side1 => exact Kd.C_below HR183_2.out (tH HB))
             (case side2 => exact HC183_2.out)
             rintro e w' ⟨rfl, ⟨nd, rfl⟩⟩
             refine ⟨_, rfl, ?_⟩
             refine hK.out _ _ ⟨(tW HB hw183_0), (tW HB hw183_1), (tW HB hw183_2), (tW HB hw183_3), (tW HB hw183_4), (tW HB hw183_5)⟩ (fun hHeld => ?_)
             clear hK K
             refine nO (some 20) ?_
             refine pV 18 (some 21) [19, 35] rfl rfl HT_ ?_
             refine pV 19 (some 22) [20, 34] rfl rfl HT_ ?_
             refine pV 20 (some 23) [21, 33] rfl rfl HT_ ?_
             refine pV 21 (some 24) [22, 32] rfl rfl HT_ ?_
             refine pV 22 (some 25) [23, 31] rfl rfl HT_ ?_
             refine pV 23 (some 26) [24, 30] rfl rfl HT_ ?_
             refine pT 24 (some 27) (bq [25, 29]) rfl rfl HT_ HW_ hHeld ?_
             refine pO 25 (some 28) (bq [26, 28]) rfl rfl HT_ (fun K hK => ?_)
             refine gS_ Try.func210 #[.pointer (some ad183), .int .i64 ((rd_T27 l0 0).f3)] rfl rfl ?_
             with_reducible refine (spec_l05Tone.calls k _ l0 ((rd_T27 l0 0).f3) true _ ?side1 ?side2 A8.out).mono ?_
             (case side1 => exact Kd.C_below HR0.out (tH HB))
             (case side2 => exact HN0.out)
             rintro e w' ⟨rfl, ⟨nd, rfl⟩⟩
             refine ⟨_, rfl, ?_⟩
             refine hK.out _ _ ⟨(tW HB hw183_0), (tW HB hw183_1), (tW HB hw183_2), (tW HB hw183_3), (tW HB hw183_4), (tW HB hw183_5)⟩ (fun hHeld => ?_)
             clear hK K
             refine nO (some 28) ?_
             refine pV 26 (some 29) [27, 27] rfl rfl HT_ ?_
             refine pV 27 (some 30) [28, 26] rfl rfl HT_ ?_
             refine pV 28 (some 31) [29, 25] rfl rfl HT_ ?_
             refine pV 29 (some 32) [30, 24] rfl rfl HT_ ?_
             refine pV 30 (some 33) [31, 23] rfl rfl HT_ ?_
             refine pV 31 (some 34) [32, 22] rfl rfl HT_ ?_
             refine pT 32 (some 35) (bq [33, 21]) rfl rfl HT_ HW_ hHeld ?_
             refine pO 33 (some 36) (bq [34, 20]) rfl rfl HT_ (fun K hK => ?_)
             refine gS_ Try.func210 #[.pointer (some ad183), .int .i64 ((rd_T27 l0 0).f4)] rfl rfl ?_
             with_reducible refine (spec_l05Tone.calls k _ l0 ((rd_T27 l0 0).f4) true _ ?side1 ?side2 A10.out).mono ?_
             (case side1 => exact Kd.C_below HR0.out (tH HB))
             (case side2 => exact HN0.out)
             rintro e w' ⟨rfl, ⟨nd, rfl⟩⟩
             refine ⟨_, rfl, ?_⟩
             refine hK.out _ _ ⟨(tW HB hw183_0), (tW HB hw183_1), (tW HB hw183_2), (tW HB hw183_3), (tW HB hw183_4), (tW HB hw183_5)⟩ (fun hHeld => ?_)
             clear hK K
             refine nO (some 36) ?_
             refine pV 34 (some 37) [35, 19] rfl rfl HT_ ?_
             refine pV 35 (some 38) [36, 18] rfl rfl HT_ ?_
             refine pV 36 (some 39) [37, 17] rfl rfl HT_ ?_
             refine pV 37 (some 40) [38, 16] rfl rfl HT_ ?_
             refine pV 38 (some 41) [39, 15] rfl rfl HT_ ?_
             refine pV 40 (some 43) [39, 1, 1, 13] rfl rfl HT_ ?_
             refine pV 41 (some 44) [39, 1, 2, 12] rfl rfl HT_ ?_
             refine pV 42 (some 45) [39, 1, 3, 11] rfl rfl HT_ ?_
             refine pT 39 (some 42) (bq [43, 11]) rfl rfl HT_ HW_ hHeld ?_
             refine pT 43 (some 46) (bq [44, 10]) rfl rfl HT_ HW_ hHeld ?_
             refine pV 44 (some 47) [45, 9] rfl rfl HT_ ?_
             refine pV 45 (some 48) [46, 8] rfl rfl HT_ ?_
             refine pV 46 (some 49) [47, 7] rfl rfl HT_ ?_
             refine pU 47 (some 50) [48, 6] rfl rfl HT_ ?_
             refine pU 48 (some 51) [49, 5] rfl rfl HT_ ?_
             refine pU 49 (some 52) [50, 4] rfl rfl HT_ ?_
             refine pU 50 (some 53) [51, 3] rfl rfl HT_ ?_
             refine pU 51 (some 54) [52, 2] rfl rfl HT_ ?_
             refine pV 52 (some 55) [53, 1] rfl rfl HT_ ?_
             refine pV 53 (some 2) [54] rfl rfl HT_ ?_
             refine done_ (done_of HT_.out (by kernel_rfl)) ?_
             try go_wp2
             go_ret
             exact ⟨tE, tH HB⟩
           rw [if_neg c12] at H
           have c12b0 : (((rd_T27 l0 0).f3) == ((rd_T27 l0 0).f4)) = false := beq_eq_false_iff_ne.mpr c12
           have c12b1 : (((rd_T27 l0 0).f3) != ((rd_T27 l0 0).f4)) = true := bne_iff_ne.mpr c12
           replace H := Option.bind_eq_some_iff.mp H
           obtain ⟨t189, A140, H⟩ := H
           replace H : (some t189) = some r := H
           have A14 := Aside0.mk A140
           clear A140
           obtain rfl := Option.some.inj H
           go_enter Try.func109, Try.ntmps109
           try go_wp2
           replace HB := Aside0.mk (below_drew1 HB.out)
           have p183 : 0 ≤ (0 : Int) := (by omega)
           have q183 : 0 < (l0.length : Int) := of_decide_eq_true tA
           obtain ⟨ad183, A183_1, c183_1, A183_2, c183_2, A183_5, c183_5, e183, hx183_0, hx183_1, hx183_2, hx183_3, hx183_4, hx183_5, hl183_1, hi183_1, hl183_2, hi183_2, hl183_5, hi183_5⟩ := at_T27 HR0.out 0 p183 q183
           have hw183_5 := hx183_5
           (try rw [t0n] at hw183_5)
           (try rw [show 0 * 6 = 0 from rfl] at hw183_5)
           (try rw [Addr.add_zero'] at hw183_5)
           have hw183_4 := hx183_4
           (try rw [t0n] at hw183_4)
           (try rw [show 0 * 6 = 0 from rfl] at hw183_4)
           (try rw [Addr.add_zero'] at hw183_4)
           have hw183_3 := hx183_3
           (try rw [t0n] at hw183_3)
           (try rw [show 0 * 6 = 0 from rfl] at hw183_3)
           (try rw [Addr.add_zero'] at hw183_3)
           have hw183_2 := hx183_2
           (try rw [t0n] at hw183_2)
           (try rw [show 0 * 6 = 0 from rfl] at hw183_2)
           (try rw [Addr.add_zero'] at hw183_2)
           have hw183_1 := hx183_1
           (try rw [t0n] at hw183_1)
           (try rw [show 0 * 6 = 0 from rfl] at hw183_1)
           (try rw [Addr.add_zero'] at hw183_1)
           have hw183_0 := hx183_0
           (try rw [t0n] at hw183_0)
           (try rw [show 0 * 6 = 0 from rfl] at hw183_0)
           (try rw [Addr.add_zero'] at hw183_0)
           cases e183
           have qi183 : (0 < l0.length) = True := eq_true (by omega)
           (try rw [t0n] at hx183_0)
           (try rw [show 0 * 6 = 0 from rfl] at hx183_0)
           (try rw [Addr.add_zero'] at hx183_0)
           (try rw [t0n] at hx183_1)
           (try rw [show 0 * 6 = 0 from rfl] at hx183_1)
           (try rw [Addr.add_zero'] at hx183_1)
           (try rw [t0n] at hx183_2)
           (try rw [show 0 * 6 = 0 from rfl] at hx183_2)
           (try rw [Addr.add_zero'] at hx183_2)
           (try rw [t0n] at hx183_3)
           (try rw [show 0 * 6 = 0 from rfl] at hx183_3)
           (try rw [Addr.add_zero'] at hx183_3)
           (try rw [t0n] at hx183_4)
           (try rw [show 0 * 6 = 0 from rfl] at hx183_4)
           (try rw [Addr.add_zero'] at hx183_4)
           (try rw [t0n] at hx183_5)
           (try rw [show 0 * 6 = 0 from rfl] at hx183_5)
           (try rw [Addr.add_zero'] at hx183_5)
           replace hx183_0 := tW HB hx183_0
           replace hx183_1 := tW HB hx183_1
           replace hx183_2 := tW HB hx183_2
           replace hx183_3 := tW HB hx183_3
           replace hx183_4 := tW HB hx183_4
           replace hx183_5 := tW HB hx183_5
           have HR183_1 := Aside0.mk hi183_1
           have HC183_1 := Aside0.mk hl183_1
           clear hi183_1 hl183_1
           have HR183_2 := Aside0.mk hi183_2
           have HC183_2 := Aside0.mk hl183_2
           clear hi183_2 hl183_2
           have HR183_5 := Aside0.mk hi183_5
           have HC183_5 := Aside0.mk hl183_5
           clear hi183_5 hl183_5
           replace p183 := eq_true p183
           replace q183 := eq_true q183
           refine start_ (n := 54) (S := fun w' => w'.cell? ad183 = some (.string ((rd_T27 l0 0).f0)) ∧ w'.cell? ⟨ad183.block, ad183.off + 1, none⟩ = some (.slice A183_1 ((rd_T27 l0 0).f1).length c183_1) ∧ w'.cell? ⟨ad183.block, ad183.off + 2, none⟩ = some (.slice A183_2 ((rd_T27 l0 0).f2).length c183_2) ∧ w'.cell? ⟨ad183.block, ad183.off + 3, none⟩ = some (.int .i64 ((rd_T27 l0 0).f3)) ∧ w'.cell? ⟨ad183.block, ad183.off + 4, none⟩ = some (.int .i64 ((rd_T27 l0 0).f4)) ∧ w'.cell? ⟨ad183.block, ad183.off + 5, none⟩ = some (.slice A183_5 ((rd_T27 l0 0).f5).length c183_5)) (ds := []) (bq [0, 54]) (by kernel_rfl) rfl rfl ⟨(tW HB hw183_0), (tW HB hw183_1), (tW HB hw183_2), (tW HB hw183_3), (tW HB hw183_4), (tW HB hw183_5)⟩ (fun hHeld => ?_); refine with_tabW spec_l05Ok.tab1 spec_l05Ok.bits1 (fun HT_ HW_ => ?_)
           generalize w.drew = w15 at HB HR183_1 HR183_2 HR183_5 hx183_0 hx183_1 hx183_2 hx183_3 hx183_4 hx183_5 hHeld ⊢
           refine pV 0 (some 3) [1, 53] rfl rfl HT_ ?_
           refine pV 1 (some 4) [2, 52] rfl rfl HT_ ?_
           refine pV 2 (some 5) [3, 51] rfl rfl HT_ ?_
           refine pT 3 (some 6) (bq [4, 50]) rfl rfl HT_ HW_ hHeld ?_
           refine pO 4 (some 7) (bq [5, 49]) rfl rfl HT_ (fun K hK => ?_)
           refine gS_ Try.func214 #[.string ((rd_T27 l0 0).f0)] rfl rfl ?_
           with_reducible refine (spec_l01Name.calls k ((rd_T27 l0 0).f0) true _ A2.out).mono ?_
           rintro e w' ⟨rfl, ⟨nd, rfl⟩⟩
           refine ⟨_, rfl, ?_⟩
           refine hK.out _ _ ⟨(tW HB hw183_0), (tW HB hw183_1), (tW HB hw183_2), (tW HB hw183_3), (tW HB hw183_4), (tW HB hw183_5)⟩ (fun hHeld => ?_)
           clear hK K
           refine nO (some 7) ?_
           refine pV 5 (some 8) [6, 48] rfl rfl HT_ ?_
           refine pV 6 (some 9) [7, 47] rfl rfl HT_ ?_
           refine pV 7 (some 10) [8, 46] rfl rfl HT_ ?_
           refine pV 8 (some 11) [9, 45] rfl rfl HT_ ?_
           refine pT 9 (some 12) (bq [10, 44]) rfl rfl HT_ HW_ hHeld ?_
           refine pO 10 (some 13) (bq [11, 43]) rfl rfl HT_ (fun K hK => ?_)
           refine gS_ Try.func163 #[.slice A183_1 ((rd_T27 l0 0).f1).length c183_1] rfl rfl ?_
           with_reducible refine (spec_l03Scale.calls k _ _ ((rd_T27 l0 0).f1) true _ ?side1 ?side2 A4.out).mono ?_
           (case side1 => exact Kd.C_below HR183_1.out (tH HB))
           (case side2 => exact HC183_1.out)
           rintro e w' ⟨rfl, ⟨nd, rfl⟩⟩
           refine ⟨_, rfl, ?_⟩
           refine hK.out _ _ ⟨(tW HB hw183_0), (tW HB hw183_1), (tW HB hw183_2), (tW HB hw183_3), (tW HB hw183_4), (tW HB hw183_5)⟩ (fun hHeld => ?_)
           clear hK K
           refine nO (some 13) ?_
           refine pV 11 (some 14) [12, 42] rfl rfl HT_ ?_
           refine pV 12 (some 15) [13, 41] rfl rfl HT_ ?_
           refine pV 13 (some 16) [14, 40] rfl rfl HT_ ?_
           refine pV 14 (some 17) [15, 39] rfl rfl HT_ ?_
           refine pV 15 (some 18) [16, 38] rfl rfl HT_ ?_
           refine pT 16 (some 19) (bq [17, 37]) rfl rfl HT_ HW_ hHeld ?_
           refine pO 17 (some 20) (bq [18, 36]) rfl rfl HT_ (fun K hK => ?_)
           refine gS_ Try.func163 #[.slice A183_2 ((rd_T27 l0 0).f2).length c183_2] rfl rfl ?_
           with_reducible refine (spec_l03Scale.calls k _ _ ((rd_T27 l0 0).f2) true _ ?side1 ?side2 A6.out).mono ?_
           (case side1 => exact Kd.C_below HR183_2.out (tH HB))
           (case side2 => exact HC183_2.out)
           rintro e w' ⟨rfl, ⟨nd, rfl⟩⟩
           refine ⟨_, rfl, ?_⟩
           refine hK.out _ _ ⟨(tW HB hw183_0), (tW HB hw183_1), (tW HB hw183_2), (tW HB hw183_3), (tW HB hw183_4), (tW HB hw183_5)⟩ (fun hHeld => ?_)
           clear hK K
           refine nO (some 20) ?_
           refine pV 18 (some 21) [19, 35] rfl rfl HT_ ?_
           refine pV 19 (some 22) [20, 34] rfl rfl HT_ ?_
           refine pV 20 (some 23) [21, 33] rfl rfl HT_ ?_
           refine pV 21 (some 24) [22, 32] rfl rfl HT_ ?_
           refine pV 22 (some 25) [23, 31] rfl rfl HT_ ?_
           refine pV 23 (some 26) [24, 30] rfl rfl HT_ ?_
           refine pT 24 (some 27) (bq [25, 29]) rfl rfl HT_ HW_ hHeld ?_
           refine pO 25 (some 28) (bq [26, 28]) rfl rfl HT_ (fun K hK => ?_)
           refine gS_ Try.func210 #[.pointer (some ad183), .int .i64 ((rd_T27 l0 0).f3)] rfl rfl ?_
           with_reducible refine (spec_l05Tone.calls k _ l0 ((rd_T27 l0 0).f3) true _ ?side1 ?side2 A8.out).mono ?_
           (case side1 => exact Kd.C_below HR0.out (tH HB))
           (case side2 => exact HN0.out)
           rintro e w' ⟨rfl, ⟨nd, rfl⟩⟩
           refine ⟨_, rfl, ?_⟩
           refine hK.out _ _ ⟨(tW HB hw183_0), (tW HB hw183_1), (tW HB hw183_2), (tW HB hw183_3), (tW HB hw183_4), (tW HB hw183_5)⟩ (fun hHeld => ?_)
           clear hK K
           refine nO (some 28) ?_
           refine pV 26 (some 29) [27, 27] rfl rfl HT_ ?_
           refine pV 27 (some 30) [28, 26] rfl rfl HT_ ?_
           refine pV 28 (some 31) [29, 25] rfl rfl HT_ ?_
           refine pV 29 (some 32) [30, 24] rfl rfl HT_ ?_
           refine pV 30 (some 33) [31, 23] rfl rfl HT_ ?_
           refine pV 31 (some 34) [32, 22] rfl rfl HT_ ?_
           refine pT 32 (some 35) (bq [33, 21]) rfl rfl HT_ HW_ hHeld ?_
           refine pO 33 (some 36) (bq [34, 20]) rfl rfl HT_ (fun K hK => ?_)
           refine gS_ Try.func210 #[.pointer (some ad183), .int .i64 ((rd_T27 l0 0).f4)] rfl rfl ?_
           with_reducible refine (spec_l05Tone.calls k _ l0 ((rd_T27 l0 0).f4) true _ ?side1 ?side2 A10.out).mono ?_
           (case side1 => exact Kd.C_below HR0.out (tH HB))
           (case side2 => exact HN0.out)
           rintro e w' ⟨rfl, ⟨nd, rfl⟩⟩
           refine ⟨_, rfl, ?_⟩
           refine hK.out _ _ ⟨(tW HB hw183_0), (tW HB hw183_1), (tW HB hw183_2), (tW HB hw183_3), (tW HB hw183_4), (tW HB hw183_5)⟩ (fun hHeld => ?_)
           clear hK K
           refine nO (some 36) ?_
           refine pV 34 (some 37) [35, 19] rfl rfl HT_ ?_
           refine pV 35 (some 38) [36, 18] rfl rfl HT_ ?_
           refine pV 36 (some 39) [37, 17] rfl rfl HT_ ?_
           refine pV 37 (some 40) [38, 16] rfl rfl HT_ ?_
           refine pV 38 (some 41) [39, 15] rfl rfl HT_ ?_
           refine pV 40 (some 43) [39, 1, 1, 13] rfl rfl HT_ ?_
           refine pV 41 (some 44) [39, 1, 2, 12] rfl rfl HT_ ?_
           refine pV 42 (some 45) [39, 1, 3, 11] rfl rfl HT_ ?_
           refine pT 39 (some 42) (bq [43, 11]) rfl rfl HT_ HW_ hHeld ?_
           refine pT 43 (some 46) (bq [44, 10]) rfl rfl HT_ HW_ hHeld ?_
           refine pV 44 (some 47) [45, 9] rfl rfl HT_ ?_
           refine pV 45 (some 48) [46, 8] rfl rfl HT_ ?_
           refine pV 46 (some 49) [47, 7] rfl rfl HT_ ?_
           refine pV 47 (some 50) [48, 6] rfl rfl HT_ ?_
           refine pV 48 (some 51) [49, 5] rfl rfl HT_ ?_
           refine pV 49 (some 52) [50, 4] rfl rfl HT_ ?_
           refine pT 50 (some 53) (bq [51, 3]) rfl rfl HT_ HW_ hHeld ?_
           refine pO 51 (some 54) (bq [52, 2]) rfl rfl HT_ (fun K hK => ?_)
           refine gS_ Try.func215 #[.slice A183_5 ((rd_T27 l0 0).f5).length c183_5] rfl rfl ?_
           with_reducible refine (spec_l05Pairs.calls k _ _ ((rd_T27 l0 0).f5) t189 _ ?side1 ?side2 A14.out).mono ?_
           (case side1 => exact Kd.C_below HR183_5.out (tH HB))
           (case side2 => exact HC183_5.out)
           rintro e w' ⟨rfl, ⟨nd, rfl⟩⟩
           refine ⟨_, rfl, ?_⟩
           refine hK.out _ _ ⟨(tW HB hw183_0), (tW HB hw183_1), (tW HB hw183_2), (tW HB hw183_3), (tW HB hw183_4), (tW HB hw183_5)⟩ (fun hHeld => ?_)
           clear hK K
           refine nO (some 54) ?_
           refine pV 52 (some 55) [53, 1] rfl rfl HT_ ?_
           refine pV 53 (some 2) [54] rfl rfl HT_ ?_
           refine done_ (done_of HT_.out (by kernel_rfl)) ?_
           try go_wp2
           go_ret
           exact ⟨tE, tH HB⟩
         replace c11 := Bool.eq_false_iff.mpr c11
         subst c11
         have H1 : (some false) = some r := by rw [if_neg (show ¬ (false = true) by decide)] at H; exact H
         clear H
         have H := H1
         clear H1
         obtain rfl := Option.some.inj H
         go_enter Try.func109, Try.ntmps109
         try go_wp2
         replace HB := Aside0.mk (below_drew1 HB.out)
         have p183 : 0 ≤ (0 : Int) := (by omega)
         have q183 : 0 < (l0.length : Int) := of_decide_eq_true tA
         obtain ⟨ad183, A183_1, c183_1, A183_2, c183_2, A183_5, c183_5, e183, hx183_0, hx183_1, hx183_2, hx183_3, hx183_4, hx183_5, hl183_1, hi183_1, hl183_2, hi183_2, hl183_5, hi183_5⟩ := at_T27 HR0.out 0 p183 q183
         have hw183_5 := hx183_5
         (try rw [t0n] at hw183_5)
         (try rw [show 0 * 6 = 0 from rfl] at hw183_5)
         (try rw [Addr.add_zero'] at hw183_5)
         have hw183_4 := hx183_4
         (try rw [t0n] at hw183_4)
         (try rw [show 0 * 6 = 0 from rfl] at hw183_4)
         (try rw [Addr.add_zero'] at hw183_4)
         have hw183_3 := hx183_3
         (try rw [t0n] at hw183_3)
         (try rw [show 0 * 6 = 0 from rfl] at hw183_3)
         (try rw [Addr.add_zero'] at hw183_3)
         have hw183_2 := hx183_2
         (try rw [t0n] at hw183_2)
         (try rw [show 0 * 6 = 0 from rfl] at hw183_2)
         (try rw [Addr.add_zero'] at hw183_2)
         have hw183_1 := hx183_1
         (try rw [t0n] at hw183_1)
         (try rw [show 0 * 6 = 0 from rfl] at hw183_1)
         (try rw [Addr.add_zero'] at hw183_1)
         have hw183_0 := hx183_0
         (try rw [t0n] at hw183_0)
         (try rw [show 0 * 6 = 0 from rfl] at hw183_0)
         (try rw [Addr.add_zero'] at hw183_0)
         cases e183
         have qi183 : (0 < l0.length) = True := eq_true (by omega)
         (try rw [t0n] at hx183_0)
         (try rw [show 0 * 6 = 0 from rfl] at hx183_0)
         (try rw [Addr.add_zero'] at hx183_0)
         (try rw [t0n] at hx183_1)
         (try rw [show 0 * 6 = 0 from rfl] at hx183_1)
         (try rw [Addr.add_zero'] at hx183_1)
         (try rw [t0n] at hx183_2)
         (try rw [show 0 * 6 = 0 from rfl] at hx183_2)
         (try rw [Addr.add_zero'] at hx183_2)
         (try rw [t0n] at hx183_3)
         (try rw [show 0 * 6 = 0 from rfl] at hx183_3)
         (try rw [Addr.add_zero'] at hx183_3)
         (try rw [t0n] at hx183_4)
         (try rw [show 0 * 6 = 0 from rfl] at hx183_4)
         (try rw [Addr.add_zero'] at hx183_4)
         (try rw [t0n] at hx183_5)
         (try rw [show 0 * 6 = 0 from rfl] at hx183_5)
         (try rw [Addr.add_zero'] at hx183_5)
         replace hx183_0 := tW HB hx183_0
         replace hx183_1 := tW HB hx183_1
         replace hx183_2 := tW HB hx183_2
         replace hx183_3 := tW HB hx183_3
         replace hx183_4 := tW HB hx183_4
         replace hx183_5 := tW HB hx183_5
         have HR183_1 := Aside0.mk hi183_1
         have HC183_1 := Aside0.mk hl183_1
         clear hi183_1 hl183_1
         have HR183_2 := Aside0.mk hi183_2
         have HC183_2 := Aside0.mk hl183_2
         clear hi183_2 hl183_2
         have HR183_5 := Aside0.mk hi183_5
         have HC183_5 := Aside0.mk hl183_5
         clear hi183_5 hl183_5
         replace p183 := eq_true p183
         replace q183 := eq_true q183
         refine start_ (n := 54) (S := fun w' => w'.cell? ad183 = some (.string ((rd_T27 l0 0).f0)) ∧ w'.cell? ⟨ad183.block, ad183.off + 1, none⟩ = some (.slice A183_1 ((rd_T27 l0 0).f1).length c183_1) ∧ w'.cell? ⟨ad183.block, ad183.off + 2, none⟩ = some (.slice A183_2 ((rd_T27 l0 0).f2).length c183_2) ∧ w'.cell? ⟨ad183.block, ad183.off + 3, none⟩ = some (.int .i64 ((rd_T27 l0 0).f3)) ∧ w'.cell? ⟨ad183.block, ad183.off + 4, none⟩ = some (.int .i64 ((rd_T27 l0 0).f4)) ∧ w'.cell? ⟨ad183.block, ad183.off + 5, none⟩ = some (.slice A183_5 ((rd_T27 l0 0).f5).length c183_5)) (ds := []) (bq [0, 54]) (by kernel_rfl) rfl rfl ⟨(tW HB hw183_0), (tW HB hw183_1), (tW HB hw183_2), (tW HB hw183_3), (tW HB hw183_4), (tW HB hw183_5)⟩ (fun hHeld => ?_); refine with_tabW spec_l05Ok.tab1 spec_l05Ok.bits1 (fun HT_ HW_ => ?_)
         generalize w.drew = w16 at HB HR183_1 HR183_2 HR183_5 hx183_0 hx183_1 hx183_2 hx183_3 hx183_4 hx183_5 hHeld ⊢
         refine pV 0 (some 3) [1, 53] rfl rfl HT_ ?_
         refine pV 1 (some 4) [2, 52] rfl rfl HT_ ?_
         refine pV 2 (some 5) [3, 51] rfl rfl HT_ ?_
         refine pT 3 (some 6) (bq [4, 50]) rfl rfl HT_ HW_ hHeld ?_
         refine pO 4 (some 7) (bq [5, 49]) rfl rfl HT_ (fun K hK => ?_)
         refine gS_ Try.func214 #[.string ((rd_T27 l0 0).f0)] rfl rfl ?_
         with_reducible refine (spec_l01Name.calls k ((rd_T27 l0 0).f0) true _ A2.out).mono ?_
         rintro e w' ⟨rfl, ⟨nd, rfl⟩⟩
         refine ⟨_, rfl, ?_⟩
         refine hK.out _ _ ⟨(tW HB hw183_0), (tW HB hw183_1), (tW HB hw183_2), (tW HB hw183_3), (tW HB hw183_4), (tW HB hw183_5)⟩ (fun hHeld => ?_)
         clear hK K
         refine nO (some 7) ?_
         refine pV 5 (some 8) [6, 48] rfl rfl HT_ ?_
         refine pV 6 (some 9) [7, 47] rfl rfl HT_ ?_
         refine pV 7 (some 10) [8, 46] rfl rfl HT_ ?_
         refine pV 8 (some 11) [9, 45] rfl rfl HT_ ?_
         refine pT 9 (some 12) (bq [10, 44]) rfl rfl HT_ HW_ hHeld ?_
         refine pO 10 (some 13) (bq [11, 43]) rfl rfl HT_ (fun K hK => ?_)
         refine gS_ Try.func163 #[.slice A183_1 ((rd_T27 l0 0).f1).length c183_1] rfl rfl ?_
         with_reducible refine (spec_l03Scale.calls k _ _ ((rd_T27 l0 0).f1) true _ ?side1 ?side2 A4.out).mono ?_
         (case side1 => exact Kd.C_below HR183_1.out (tH HB))
         (case side2 => exact HC183_1.out)
         rintro e w' ⟨rfl, ⟨nd, rfl⟩⟩
         refine ⟨_, rfl, ?_⟩
         refine hK.out _ _ ⟨(tW HB hw183_0), (tW HB hw183_1), (tW HB hw183_2), (tW HB hw183_3), (tW HB hw183_4), (tW HB hw183_5)⟩ (fun hHeld => ?_)
         clear hK K
         refine nO (some 13) ?_
         refine pV 11 (some 14) [12, 42] rfl rfl HT_ ?_
         refine pV 12 (some 15) [13, 41] rfl rfl HT_ ?_
         refine pV 13 (some 16) [14, 40] rfl rfl HT_ ?_
         refine pV 14 (some 17) [15, 39] rfl rfl HT_ ?_
         refine pV 15 (some 18) [16, 38] rfl rfl HT_ ?_
         refine pT 16 (some 19) (bq [17, 37]) rfl rfl HT_ HW_ hHeld ?_
         refine pO 17 (some 20) (bq [18, 36]) rfl rfl HT_ (fun K hK => ?_)
         refine gS_ Try.func163 #[.slice A183_2 ((rd_T27 l0 0).f2).length c183_2] rfl rfl ?_
         with_reducible refine (spec_l03Scale.calls k _ _ ((rd_T27 l0 0).f2) true _ ?side1 ?side2 A6.out).mono ?_
         (case side1 => exact Kd.C_below HR183_2.out (tH HB))
         (case side2 => exact HC183_2.out)
         rintro e w' ⟨rfl, ⟨nd, rfl⟩⟩
         refine ⟨_, rfl, ?_⟩
         refine hK.out _ _ ⟨(tW HB hw183_0), (tW HB hw183_1), (tW HB hw183_2), (tW HB hw183_3), (tW HB hw183_4), (tW HB hw183_5)⟩ (fun hHeld => ?_)
         clear hK K
         refine nO (some 20) ?_
         refine pV 18 (some 21) [19, 35] rfl rfl HT_ ?_
         refine pV 19 (some 22) [20, 34] rfl rfl HT_ ?_
         refine pV 20 (some 23) [21, 33] rfl rfl HT_ ?_
         refine pV 21 (some 24) [22, 32] rfl rfl HT_ ?_
         refine pV 22 (some 25) [23, 31] rfl rfl HT_ ?_
         refine pV 23 (some 26) [24, 30] rfl rfl HT_ ?_
         refine pT 24 (some 27) (bq [25, 29]) rfl rfl HT_ HW_ hHeld ?_
         refine pO 25 (some 28) (bq [26, 28]) rfl rfl HT_ (fun K hK => ?_)
         refine gS_ Try.func210 #[.pointer (some ad183), .int .i64 ((rd_T27 l0 0).f3)] rfl rfl ?_
         with_reducible refine (spec_l05Tone.calls k _ l0 ((rd_T27 l0 0).f3) true _ ?side1 ?side2 A8.out).mono ?_
         (case side1 => exact Kd.C_below HR0.out (tH HB))
         (case side2 => exact HN0.out)
         rintro e w' ⟨rfl, ⟨nd, rfl⟩⟩
         refine ⟨_, rfl, ?_⟩
         refine hK.out _ _ ⟨(tW HB hw183_0), (tW HB hw183_1), (tW HB hw183_2), (tW HB hw183_3), (tW HB hw183_4), (tW HB hw183_5)⟩ (fun hHeld => ?_)
         clear hK K
         refine nO (some 28) ?_
         refine pV 26 (some 29) [27, 27] rfl rfl HT_ ?_
         refine pV 27 (some 30) [28, 26] rfl rfl HT_ ?_
         refine pV 28 (some 31) [29, 25] rfl rfl HT_ ?_
         refine pV 29 (some 32) [30, 24] rfl rfl HT_ ?_
         refine pV 30 (some 33) [31, 23] rfl rfl HT_ ?_
         refine pV 31 (some 34) [32, 22] rfl rfl HT_ ?_
         refine pT 32 (some 35) (bq [33, 21]) rfl rfl HT_ HW_ hHeld ?_
         refine pO 33 (some 36) (bq [34, 20]) rfl rfl HT_ (fun K hK => ?_)
         refine gS_ Try.func210 #[.pointer (some ad183), .int .i64 ((rd_T27 l0 0).f4)] rfl rfl ?_
         with_reducible refine (spec_l05Tone.calls k _ l0 ((rd_T27 l0 0).f4) false _ ?side1 ?side2 A10.out).mono ?_
         (case side1 => exact Kd.C_below HR0.out (tH HB))
         (case side2 => exact HN0.out)
         rintro e w' ⟨rfl, ⟨nd, rfl⟩⟩
         refine ⟨_, rfl, ?_⟩
         refine hK.out _ _ ⟨(tW HB hw183_0), (tW HB hw183_1), (tW HB hw183_2), (tW HB hw183_3), (tW HB hw183_4), (tW HB hw183_5)⟩ (fun hHeld => ?_)
         clear hK K
         refine nO (some 36) ?_
         refine pV 34 (some 37) [35, 19] rfl rfl HT_ ?_
         refine pV 35 (some 38) [36, 18] rfl rfl HT_ ?_
         refine pU 36 (some 39) [37, 17] rfl rfl HT_ ?_
         refine pU 37 (some 40) [38, 16] rfl rfl HT_ ?_
         refine pU 38 (some 41) [39, 15] rfl rfl HT_ ?_
         refine pU 39 (some 42) [40, 14] rfl rfl HT_ ?_
         refine pU 40 (some 43) [41, 13] rfl rfl HT_ ?_
         refine pU 41 (some 44) [42, 12] rfl rfl HT_ ?_
         refine pU 42 (some 45) [43, 11] rfl rfl HT_ ?_
         refine pU 43 (some 46) [44, 10] rfl rfl HT_ ?_
         refine pU 44 (some 47) [45, 9] rfl rfl HT_ ?_
         refine pV 45 (some 48) [46, 8] rfl rfl HT_ ?_
         refine pV 46 (some 49) [47, 7] rfl rfl HT_ ?_
         refine pU 47 (some 50) [48, 6] rfl rfl HT_ ?_
         refine pU 48 (some 51) [49, 5] rfl rfl HT_ ?_
         refine pU 49 (some 52) [50, 4] rfl rfl HT_ ?_
         refine pU 50 (some 53) [51, 3] rfl rfl HT_ ?_
         refine pU 51 (some 54) [52, 2] rfl rfl HT_ ?_
         refine pV 52 (some 55) [53, 1] rfl rfl HT_ ?_
         refine pV 53 (some 2) [54] rfl rfl HT_ ?_
         refine done_ (done_of HT_.out (by kernel_rfl)) ?_
         try go_wp2
         go_ret
         exact ⟨tE, tH HB⟩
       replace c9 := Bool.eq_false_iff.mpr c9
       subst c9
       have H1 : (some false) = some r := by rw [if_neg (show ¬ (false = true) by decide)] at H; exact H
       clear H
       have H := H1
       clear H1
       obtain rfl := Option.some.inj H
       go_enter Try.func109, Try.ntmps109
       try go_wp2
       replace HB := Aside0.mk (below_drew1 HB.out)
       have p183 : 0 ≤ (0 : Int) := (by omega)
       have q183 : 0 < (l0.length : Int) := of_decide_eq_true tA
       obtain ⟨ad183, A183_1, c183_1, A183_2, c183_2, A183_5, c183_5, e183, hx183_0, hx183_1, hx183_2, hx183_3, hx183_4, hx183_5, hl183_1, hi183_1, hl183_2, hi183_2, hl183_5, hi183_5⟩ := at_T27 HR0.out 0 p183 q183
       have hw183_5 := hx183_5
       (try rw [t0n] at hw183_5)
       (try rw [show 0 * 6 = 0 from rfl] at hw183_5)
       (try rw [Addr.add_zero'] at hw183_5)
       have hw183_4 := hx183_4
       (try rw [t0n] at hw183_4)
       (try rw [show 0 * 6 = 0 from rfl] at hw183_4)
       (try rw [Addr.add_zero'] at hw183_4)
       have hw183_3 := hx183_3
       (try rw [t0n] at hw183_3)
       (try rw [show 0 * 6 = 0 from rfl] at hw183_3)
       (try rw [Addr.add_zero'] at hw183_3)
       have hw183_2 := hx183_2
       (try rw [t0n] at hw183_2)
       (try rw [show 0 * 6 = 0 from rfl] at hw183_2)
       (try rw [Addr.add_zero'] at hw183_2)
       have hw183_1 := hx183_1
       (try rw [t0n] at hw183_1)
       (try rw [show 0 * 6 = 0 from rfl] at hw183_1)
       (try rw [Addr.add_zero'] at hw183_1)
       have hw183_0 := hx183_0
       (try rw [t0n] at hw183_0)
       (try rw [show 0 * 6 = 0 from rfl] at hw183_0)
       (try rw [Addr.add_zero'] at hw183_0)
       cases e183
       have qi183 : (0 < l0.length) = True := eq_true (by omega)
       (try rw [t0n] at hx183_0)
       (try rw [show 0 * 6 = 0 from rfl] at hx183_0)
       (try rw [Addr.add_zero'] at hx183_0)
       (try rw [t0n] at hx183_1)
       (try rw [show 0 * 6 = 0 from rfl] at hx183_1)
       (try rw [Addr.add_zero'] at hx183_1)
       (try rw [t0n] at hx183_2)
       (try rw [show 0 * 6 = 0 from rfl] at hx183_2)
       (try rw [Addr.add_zero'] at hx183_2)
       (try rw [t0n] at hx183_3)
       (try rw [show 0 * 6 = 0 from rfl] at hx183_3)
       (try rw [Addr.add_zero'] at hx183_3)
       (try rw [t0n] at hx183_4)
       (try rw [show 0 * 6 = 0 from rfl] at hx183_4)
       (try rw [Addr.add_zero'] at hx183_4)
       (try rw [t0n] at hx183_5)
       (try rw [show 0 * 6 = 0 from rfl] at hx183_5)
       (try rw [Addr.add_zero'] at hx183_5)
       replace hx183_0 := tW HB hx183_0
       replace hx183_1 := tW HB hx183_1
       replace hx183_2 := tW HB hx183_2
       replace hx183_3 := tW HB hx183_3
       replace hx183_4 := tW HB hx183_4
       replace hx183_5 := tW HB hx183_5
       have HR183_1 := Aside0.mk hi183_1
       have HC183_1 := Aside0.mk hl183_1
       clear hi183_1 hl183_1
       have HR183_2 := Aside0.mk hi183_2
       have HC183_2 := Aside0.mk hl183_2
       clear hi183_2 hl183_2
       have HR183_5 := Aside0.mk hi183_5
       have HC183_5 := Aside0.mk hl183_5
       clear hi183_5 hl183_5
       replace p183 := eq_true p183
       replace q183 := eq_true q183
       refine start_ (n := 54) (S := fun w' => w'.cell? ad183 = some (.string ((rd_T27 l0 0).f0)) ∧ w'.cell? ⟨ad183.block, ad183.off + 1, none⟩ = some (.slice A183_1 ((rd_T27 l0 0).f1).length c183_1) ∧ w'.cell? ⟨ad183.block, ad183.off + 2, none⟩ = some (.slice A183_2 ((rd_T27 l0 0).f2).length c183_2) ∧ w'.cell? ⟨ad183.block, ad183.off + 3, none⟩ = some (.int .i64 ((rd_T27 l0 0).f3)) ∧ w'.cell? ⟨ad183.block, ad183.off + 4, none⟩ = some (.int .i64 ((rd_T27 l0 0).f4)) ∧ w'.cell? ⟨ad183.block, ad183.off + 5, none⟩ = some (.slice A183_5 ((rd_T27 l0 0).f5).length c183_5)) (ds := []) (bq [0, 54]) (by kernel_rfl) rfl rfl ⟨(tW HB hw183_0), (tW HB hw183_1), (tW HB hw183_2), (tW HB hw183_3), (tW HB hw183_4), (tW HB hw183_5)⟩ (fun hHeld => ?_); refine with_tabW spec_l05Ok.tab1 spec_l05Ok.bits1 (fun HT_ HW_ => ?_)
       generalize w.drew = w17 at HB HR183_1 HR183_2 HR183_5 hx183_0 hx183_1 hx183_2 hx183_3 hx183_4 hx183_5 hHeld ⊢
       refine pV 0 (some 3) [1, 53] rfl rfl HT_ ?_
       refine pV 1 (some 4) [2, 52] rfl rfl HT_ ?_
       refine pV 2 (some 5) [3, 51] rfl rfl HT_ ?_
       refine pT 3 (some 6) (bq [4, 50]) rfl rfl HT_ HW_ hHeld ?_
       refine pO 4 (some 7) (bq [5, 49]) rfl rfl HT_ (fun K hK => ?_)
       refine gS_ Try.func214 #[.string ((rd_T27 l0 0).f0)] rfl rfl ?_
       with_reducible refine (spec_l01Name.calls k ((rd_T27 l0 0).f0) true _ A2.out).mono ?_
       rintro e w' ⟨rfl, ⟨nd, rfl⟩⟩
       refine ⟨_, rfl, ?_⟩
       refine hK.out _ _ ⟨(tW HB hw183_0), (tW HB hw183_1), (tW HB hw183_2), (tW HB hw183_3), (tW HB hw183_4), (tW HB hw183_5)⟩ (fun hHeld => ?_)
       clear hK K
       refine nO (some 7) ?_
       refine pV 5 (some 8) [6, 48] rfl rfl HT_ ?_
       refine pV 6 (some 9) [7, 47] rfl rfl HT_ ?_
       refine pV 7 (some 10) [8, 46] rfl rfl HT_ ?_
       refine pV 8 (some 11) [9, 45] rfl rfl HT_ ?_
       refine pT 9 (some 12) (bq [10, 44]) rfl rfl HT_ HW_ hHeld ?_
       refine pO 10 (some 13) (bq [11, 43]) rfl rfl HT_ (fun K hK => ?_)
       refine gS_ Try.func163 #[.slice A183_1 ((rd_T27 l0 0).f1).length c183_1] rfl rfl ?_
       with_reducible refine (spec_l03Scale.calls k _ _ ((rd_T27 l0 0).f1) true _ ?side1 ?side2 A4.out).mono ?_
       (case side1 => exact Kd.C_below HR183_1.out (tH HB))
       (case side2 => exact HC183_1.out)
       rintro e w' ⟨rfl, ⟨nd, rfl⟩⟩
       refine ⟨_, rfl, ?_⟩
       refine hK.out _ _ ⟨(tW HB hw183_0), (tW HB hw183_1), (tW HB hw183_2), (tW HB hw183_3), (tW HB hw183_4), (tW HB hw183_5)⟩ (fun hHeld => ?_)
       clear hK K
       refine nO (some 13) ?_
       refine pV 11 (some 14) [12, 42] rfl rfl HT_ ?_
       refine pV 12 (some 15) [13, 41] rfl rfl HT_ ?_
       refine pV 13 (some 16) [14, 40] rfl rfl HT_ ?_
       refine pV 14 (some 17) [15, 39] rfl rfl HT_ ?_
       refine pV 15 (some 18) [16, 38] rfl rfl HT_ ?_
       refine pT 16 (some 19) (bq [17, 37]) rfl rfl HT_ HW_ hHeld ?_
       refine pO 17 (some 20) (bq [18, 36]) rfl rfl HT_ (fun K hK => ?_)
       refine gS_ Try.func163 #[.slice A183_2 ((rd_T27 l0 0).f2).length c183_2] rfl rfl ?_
       with_reducible refine (spec_l03Scale.calls k _ _ ((rd_T27 l0 0).f2) true _ ?side1 ?side2 A6.out).mono ?_
       (case side1 => exact Kd.C_below HR183_2.out (tH HB))
       (case side2 => exact HC183_2.out)
       rintro e w' ⟨rfl, ⟨nd, rfl⟩⟩
       refine ⟨_, rfl, ?_⟩
       refine hK.out _ _ ⟨(tW HB hw183_0), (tW HB hw183_1), (tW HB hw183_2), (tW HB hw183_3), (tW HB hw183_4), (tW HB hw183_5)⟩ (fun hHeld => ?_)
       clear hK K
       refine nO (some 20) ?_
       refine pV 18 (some 21) [19, 35] rfl rfl HT_ ?_
       refine pV 19 (some 22) [20, 34] rfl rfl HT_ ?_
       refine pV 20 (some 23) [21, 33] rfl rfl HT_ ?_
       refine pV 21 (some 24) [22, 32] rfl rfl HT_ ?_
       refine pV 22 (some 25) [23, 31] rfl rfl HT_ ?_
       refine pV 23 (some 26) [24, 30] rfl rfl HT_ ?_
       refine pT 24 (some 27) (bq [25, 29]) rfl rfl HT_ HW_ hHeld ?_
       refine pO 25 (some 28) (bq [26, 28]) rfl rfl HT_ (fun K hK => ?_)
       refine gS_ Try.func210 #[.pointer (some ad183), .int .i64 ((rd_T27 l0 0).f3)] rfl rfl ?_
       with_reducible refine (spec_l05Tone.calls k _ l0 ((rd_T27 l0 0).f3) false _ ?side1 ?side2 A8.out).mono ?_
       (case side1 => exact Kd.C_below HR0.out (tH HB))
       (case side2 => exact HN0.out)
       rintro e w' ⟨rfl, ⟨nd, rfl⟩⟩
       refine ⟨_, rfl, ?_⟩
       refine hK.out _ _ ⟨(tW HB hw183_0), (tW HB hw183_1), (tW HB hw183_2), (tW HB hw183_3), (tW HB hw183_4), (tW HB hw183_5)⟩ (fun hHeld => ?_)
       clear hK K
       refine nO (some 28) ?_
       refine pV 26 (some 29) [27, 27] rfl rfl HT_ ?_
       refine pV 27 (some 30) [28, 26] rfl rfl HT_ ?_
       refine pU 28 (some 31) [29, 25] rfl rfl HT_ ?_
       refine pU 29 (some 32) [30, 24] rfl rfl HT_ ?_
       refine pU 30 (some 33) [31, 23] rfl rfl HT_ ?_
       refine pU 31 (some 34) [32, 22] rfl rfl HT_ ?_
       refine pU 32 (some 35) [33, 21] rfl rfl HT_ ?_
       refine pU 33 (some 36) [34, 20] rfl rfl HT_ ?_
       refine pV 34 (some 37) [35, 19] rfl rfl HT_ ?_
       refine pV 35 (some 38) [36, 18] rfl rfl HT_ ?_
       refine pU 36 (some 39) [37, 17] rfl rfl HT_ ?_
       refine pU 37 (some 40) [38, 16] rfl rfl HT_ ?_
       refine pU 38 (some 41) [39, 15] rfl rfl HT_ ?_
       refine pU 39 (some 42) [40, 14] rfl rfl HT_ ?_
       refine pU 40 (some 43) [41, 13] rfl rfl HT_ ?_
       refine pU 41 (some 44) [42, 12] rfl rfl HT_ ?_
       refine pU 42 (some 45) [43, 11] rfl rfl HT_ ?_
       refine pU 43 (some 46) [44, 10] rfl rfl HT_ ?_
       refine pU 44 (some 47) [45, 9] rfl rfl HT_ ?_
       refine pV 45 (some 48) [46, 8] rfl rfl HT_ ?_
       refine pV 46 (some 49) [47, 7] rfl rfl HT_ ?_
       refine pU 47 (some 50) [48, 6] rfl rfl HT_ ?_
       refine pU 48 (some 51) [49, 5] rfl rfl HT_ ?_
       refine pU 49 (some 52) [50, 4] rfl rfl HT_ ?_
       refine pU 50 (some 53) [51, 3] rfl rfl HT_ ?_
       refine pU 51 (some 54) [52, 2] rfl rfl HT_ ?_
       refine pV 52 (some 55) [53, 1] rfl rfl HT_ ?_
       refine pV 53 (some 2) [54] rfl rfl HT_ ?_
       refine done_ (done_of HT_.out (by kernel_rfl)) ?_
       try go_wp2
       go_ret
       exact ⟨tE, tH HB⟩
     replace c7 := Bool.eq_false_iff.mpr c7
     subst c7
     have H1 : (some false) = some r := by rw [if_neg (show ¬ (false = true) by decide)] at H; exact H
     clear H
     have H := H1
     clear H1
     obtain rfl := Option.some.inj H
     go_enter Try.func109, Try.ntmps109
     try go_wp2
     replace HB := Aside0.mk (below_drew1 HB.out)
     have p183 : 0 ≤ (0 : Int) := (by omega)
     have q183 : 0 < (l0.length : Int) := of_decide_eq_true tA
     obtain ⟨ad183, A183_1, c183_1, A183_2, c183_2, A183_5, c183_5, e183, hx183_0, hx183_1, hx183_2, hx183_3, hx183_4, hx183_5, hl183_1, hi183_1, hl183_2, hi183_2, hl183_5, hi183_5⟩ := at_T27 HR0.out 0 p183 q183
     have hw183_5 := hx183_5
     (try rw [t0n] at hw183_5)
     (try rw [show 0 * 6 = 0 from rfl] at hw183_5)
     (try rw [Addr.add_zero'] at hw183_5)
     have hw183_4 := hx183_4
     (try rw [t0n] at hw183_4)
     (try rw [show 0 * 6 = 0 from rfl] at hw183_4)
     (try rw [Addr.add_zero'] at hw183_4)
     have hw183_3 := hx183_3
     (try rw [t0n] at hw183_3)
     (try rw [show 0 * 6 = 0 from rfl] at hw183_3)
     (try rw [Addr.add_zero'] at hw183_3)
     have hw183_2 := hx183_2
     (try rw [t0n] at hw183_2)
     (try rw [show 0 * 6 = 0 from rfl] at hw183_2)
     (try rw [Addr.add_zero'] at hw183_2)
     have hw183_1 := hx183_1
     (try rw [t0n] at hw183_1)
     (try rw [show 0 * 6 = 0 from rfl] at hw183_1)
     (try rw [Addr.add_zero'] at hw183_1)
     have hw183_0 := hx183_0
     (try rw [t0n] at hw183_0)
     (try rw [show 0 * 6 = 0 from rfl] at hw183_0)
     (try rw [Addr.add_zero'] at hw183_0)
     cases e183
     have qi183 : (0 < l0.length) = True := eq_true (by omega)
     (try rw [t0n] at hx183_0)
     (try rw [show 0 * 6 = 0 from rfl] at hx183_0)
     (try rw [Addr.add_zero'] at hx183_0)
     (try rw [t0n] at hx183_1)
     (try rw [show 0 * 6 = 0 from rfl] at hx183_1)
     (try rw [Addr.add_zero'] at hx183_1)
     (try rw [t0n] at hx183_2)
     (try rw [show 0 * 6 = 0 from rfl] at hx183_2)
     (try rw [Addr.add_zero'] at hx183_2)
     (try rw [t0n] at hx183_3)
     (try rw [show 0 * 6 = 0 from rfl] at hx183_3)
     (try rw [Addr.add_zero'] at hx183_3)
     (try rw [t0n] at hx183_4)
     (try rw [show 0 * 6 = 0 from rfl] at hx183_4)
     (try rw [Addr.add_zero'] at hx183_4)
     (try rw [t0n] at hx183_5)
     (try rw [show 0 * 6 = 0 from rfl] at hx183_5)
     (try rw [Addr.add_zero'] at hx183_5)
     replace hx183_0 := tW HB hx183_0
     replace hx183_1 := tW HB hx183_1
     replace hx183_2 := tW HB hx183_2
     replace hx183_3 := tW HB hx183_3
     replace hx183_4 := tW HB hx183_4
     replace hx183_5 := tW HB hx183_5
     have HR183_1 := Aside0.mk hi183_1
     have HC183_1 := Aside0.mk hl183_1
     clear hi183_1 hl183_1
     have HR183_2 := Aside0.mk hi183_2
     have HC183_2 := Aside0.mk hl183_2
     clear hi183_2 hl183_2
     have HR183_5 := Aside0.mk hi183_5
     have HC183_5 := Aside0.mk hl183_5
     clear hi183_5 hl183_5
     replace p183 := eq_true p183
     replace q183 := eq_true q183
     refine start_ (n := 54) (S := fun w' => w'.cell? ad183 = some (.string ((rd_T27 l0 0).f0)) ∧ w'.cell? ⟨ad183.block, ad183.off + 1, none⟩ = some (.slice A183_1 ((rd_T27 l0 0).f1).length c183_1) ∧ w'.cell? ⟨ad183.block, ad183.off + 2, none⟩ = some (.slice A183_2 ((rd_T27 l0 0).f2).length c183_2) ∧ w'.cell? ⟨ad183.block, ad183.off + 3, none⟩ = some (.int .i64 ((rd_T27 l0 0).f3)) ∧ w'.cell? ⟨ad183.block, ad183.off + 4, none⟩ = some (.int .i64 ((rd_T27 l0 0).f4)) ∧ w'.cell? ⟨ad183.block, ad183.off + 5, none⟩ = some (.slice A183_5 ((rd_T27 l0 0).f5).length c183_5)) (ds := []) (bq [0, 54]) (by kernel_rfl) rfl rfl ⟨(tW HB hw183_0), (tW HB hw183_1), (tW HB hw183_2), (tW HB hw183_3), (tW HB hw183_4), (tW HB hw183_5)⟩ (fun hHeld => ?_); refine with_tabW spec_l05Ok.tab1 spec_l05Ok.bits1 (fun HT_ HW_ => ?_)
     generalize w.drew = w18 at HB HR183_1 HR183_2 HR183_5 hx183_0 hx183_1 hx183_2 hx183_3 hx183_4 hx183_5 hHeld ⊢
     refine pV 0 (some 3) [1, 53] rfl rfl HT_ ?_
     refine pV 1 (some 4) [2, 52] rfl rfl HT_ ?_
     refine pV 2 (some 5) [3, 51] rfl rfl HT_ ?_
     refine pT 3 (some 6) (bq [4, 50]) rfl rfl HT_ HW_ hHeld ?_
     refine pO 4 (some 7) (bq [5, 49]) rfl rfl HT_ (fun K hK => ?_)
     refine gS_ Try.func214 #[.string ((rd_T27 l0 0).f0)] rfl rfl ?_
     with_reducible refine (spec_l01Name.calls k ((rd_T27 l0 0).f0) true _ A2.out).mono ?_
     rintro e w' ⟨rfl, ⟨nd, rfl⟩⟩
     refine ⟨_, rfl, ?_⟩
     refine hK.out _ _ ⟨(tW HB hw183_0), (tW HB hw183_1), (tW HB hw183_2), (tW HB hw183_3), (tW HB hw183_4), (tW HB hw183_5)⟩ (fun hHeld => ?_)
     clear hK K
     refine nO (some 7) ?_
     refine pV 5 (some 8) [6, 48] rfl rfl HT_ ?_
     refine pV 6 (some 9) [7, 47] rfl rfl HT_ ?_
     refine pV 7 (some 10) [8, 46] rfl rfl HT_ ?_
     refine pV 8 (some 11) [9, 45] rfl rfl HT_ ?_
     refine pT 9 (some 12) (bq [10, 44]) rfl rfl HT_ HW_ hHeld ?_
     refine pO 10 (some 13) (bq [11, 43]) rfl rfl HT_ (fun K hK => ?_)
     refine gS_ Try.func163 #[.slice A183_1 ((rd_T27 l0 0).f1).length c183_1] rfl rfl ?_
     with_reducible refine (spec_l03Scale.calls k _ _ ((rd_T27 l0 0).f1) true _ ?side1 ?side2 A4.out).mono ?_
     (case side1 => exact Kd.C_below HR183_1.out (tH HB))
     (case side2 => exact HC183_1.out)
     rintro e w' ⟨rfl, ⟨nd, rfl⟩⟩
     refine ⟨_, rfl, ?_⟩
     refine hK.out _ _ ⟨(tW HB hw183_0), (tW HB hw183_1), (tW HB hw183_2), (tW HB hw183_3), (tW HB hw183_4), (tW HB hw183_5)⟩ (fun hHeld => ?_)
     clear hK K
     refine nO (some 13) ?_
     refine pV 11 (some 14) [12, 42] rfl rfl HT_ ?_
     refine pV 12 (some 15) [13, 41] rfl rfl HT_ ?_
     refine pV 13 (some 16) [14, 40] rfl rfl HT_ ?_
     refine pV 14 (some 17) [15, 39] rfl rfl HT_ ?_
     refine pV 15 (some 18) [16, 38] rfl rfl HT_ ?_
     refine pT 16 (some 19) (bq [17, 37]) rfl rfl HT_ HW_ hHeld ?_
     refine pO 17 (some 20) (bq [18, 36]) rfl rfl HT_ (fun K hK => ?_)
     refine gS_ Try.func163 #[.slice A183_2 ((rd_T27 l0 0).f2).length c183_2] rfl rfl ?_
     with_reducible refine (spec_l03Scale.calls k _ _ ((rd_T27 l0 0).f2) false _ ?side1 ?side2 A6.out).mono ?_
     (case side1 => exact Kd.C_below HR183_2.out (tH HB))
     (case side2 => exact HC183_2.out)
     rintro e w' ⟨rfl, ⟨nd, rfl⟩⟩
     refine ⟨_, rfl, ?_⟩
     refine hK.out _ _ ⟨(tW HB hw183_0), (tW HB hw183_1), (tW HB hw183_2), (tW HB hw183_3), (tW HB hw183_4), (tW HB hw183_5)⟩ (fun hHeld => ?_)
     clear hK K
     refine nO (some 20) ?_
     refine pV 18 (some 21) [19, 35] rfl rfl HT_ ?_
     refine pV 19 (some 22) [20, 34] rfl rfl HT_ ?_
     refine pU 20 (some 23) [21, 33] rfl rfl HT_ ?_
     refine pU 21 (some 24) [22, 32] rfl rfl HT_ ?_
     refine pU 22 (some 25) [23, 31] rfl rfl HT_ ?_
     refine pU 23 (some 26) [24, 30] rfl rfl HT_ ?_
     refine pU 24 (some 27) [25, 29] rfl rfl HT_ ?_
     refine pU 25 (some 28) [26, 28] rfl rfl HT_ ?_
     refine pV 26 (some 29) [27, 27] rfl rfl HT_ ?_
     refine pV 27 (some 30) [28, 26] rfl rfl HT_ ?_
     refine pU 28 (some 31) [29, 25] rfl rfl HT_ ?_
     refine pU 29 (some 32) [30, 24] rfl rfl HT_ ?_
     refine pU 30 (some 33) [31, 23] rfl rfl HT_ ?_
     refine pU 31 (some 34) [32, 22] rfl rfl HT_ ?_
     refine pU 32 (some 35) [33, 21] rfl rfl HT_ ?_
     refine pU 33 (some 36) [34, 20] rfl rfl HT_ ?_
     refine pV 34 (some 37) [35, 19] rfl rfl HT_ ?_
     refine pV 35 (some 38) [36, 18] rfl rfl HT_ ?_
     refine pU 36 (some 39) [37, 17] rfl rfl HT_ ?_
     refine pU 37 (some 40) [38, 16] rfl rfl HT_ ?_
     refine pU 38 (some 41) [39, 15] rfl rfl HT_ ?_
     refine pU 39 (some 42) [40, 14] rfl rfl HT_ ?_
     refine pU 40 (some 43) [41, 13] rfl rfl HT_ ?_
     refine pU 41 (some 44) [42, 12] rfl rfl HT_ ?_
     refine pU 42 (some 45) [43, 11] rfl rfl HT_ ?_
     refine pU 43 (some 46) [44, 10] rfl rfl HT_ ?_
     refine pU 44 (some 47) [45, 9] rfl rfl HT_ ?_
     refine pV 45 (some 48) [46, 8] rfl rfl HT_ ?_
     refine pV 46 (some 49) [47, 7] rfl rfl HT_ ?_
     refine pU 47 (some 50) [48, 6] rfl rfl HT_ ?_
     refine pU 48 (some 51) [49, 5] rfl rfl HT_ ?_
     refine pU 49 (some 52) [50, 4] rfl rfl HT_ ?_
     refine pU 50 (some 53) [51, 3] rfl rfl HT_ ?_
     refine pU 51 (some 54) [52, 2] rfl rfl HT_ ?_
     refine pV 52 (some 55) [53, 1] rfl rfl HT_ ?_
     refine pV 53 (some 2) [54] rfl rfl HT_ ?_
     refine done_ (done_of HT_.out (by kernel_rfl)) ?_
     try go_wp2
     go_ret
     exact ⟨tE, tH HB⟩
   replace c5 := Bool.eq_false_iff.mpr c5
   subst c5
   have H1 : (some false) = some r := by rw [if_neg (show ¬ (false = true) by decide)] at H; exact H
   clear H
   have H := H1
   clear H1
   obtain rfl := Option.some.inj H
   go_enter Try.func109, Try.ntmps109
   try go_wp2
   replace HB := Aside0.mk (below_drew1 HB.out)
   have p183 : 0 ≤ (0 : Int) := (by omega)
   have q183 : 0 < (l0.length : Int) := of_decide_eq_true tA
   obtain ⟨ad183, A183_1, c183_1, A183_2, c183_2, A183_5, c183_5, e183, hx183_0, hx183_1, hx183_2, hx183_3, hx183_4, hx183_5, hl183_1, hi183_1, hl183_2, hi183_2, hl183_5, hi183_5⟩ := at_T27 HR0.out 0 p183 q183
   have hw183_5 := hx183_5
   (try rw [t0n] at hw183_5)
   (try rw [show 0 * 6 = 0 from rfl] at hw183_5)
   (try rw [Addr.add_zero'] at hw183_5)
   have hw183_4 := hx183_4
   (try rw [t0n] at hw183_4)
   (try rw [show 0 * 6 = 0 from rfl] at hw183_4)
   (try rw [Addr.add_zero'] at hw183_4)
   have hw183_3 := hx183_3
   (try rw [t0n] at hw183_3)
   (try rw [show 0 * 6 = 0 from rfl] at hw183_3)
   (try rw [Addr.add_zero'] at hw183_3)
   have hw183_2 := hx183_2
   (try rw [t0n] at hw183_2)
   (try rw [show 0 * 6 = 0 from rfl] at hw183_2)
   (try rw [Addr.add_zero'] at hw183_2)
   have hw183_1 := hx183_1
   (try rw [t0n] at hw183_1)
   (try rw [show 0 * 6 = 0 from rfl] at hw183_1)
   (try rw [Addr.add_zero'] at hw183_1)
   have hw183_0 := hx183_0
   (try rw [t0n] at hw183_0)
   (try rw [show 0 * 6 = 0 from rfl] at hw183_0)
   (try rw [Addr.add_zero'] at hw183_0)
   cases e183
   have qi183 : (0 < l0.length) = True := eq_true (by omega)
   (try rw [t0n] at hx183_0)
   (try rw [show 0 * 6 = 0 from rfl] at hx183_0)
   (try rw [Addr.add_zero'] at hx183_0)
   (try rw [t0n] at hx183_1)
   (try rw [show 0 * 6 = 0 from rfl] at hx183_1)
   (try rw [Addr.add_zero'] at hx183_1)
   (try rw [t0n] at hx183_2)
   (try rw [show 0 * 6 = 0 from rfl] at hx183_2)
   (try rw [Addr.add_zero'] at hx183_2)
   (try rw [t0n] at hx183_3)
   (try rw [show 0 * 6 = 0 from rfl] at hx183_3)
   (try rw [Addr.add_zero'] at hx183_3)
   (try rw [t0n] at hx183_4)
   (try rw [show 0 * 6 = 0 from rfl] at hx183_4)
   (try rw [Addr.add_zero'] at hx183_4)
   (try rw [t0n] at hx183_5)
   (try rw [show 0 * 6 = 0 from rfl] at hx183_5)
   (try rw [Addr.add_zero'] at hx183_5)
   replace hx183_0 := tW HB hx183_0
   replace hx183_1 := tW HB hx183_1
   replace hx183_2 := tW HB hx183_2
   replace hx183_3 := tW HB hx183_3
   replace hx183_4 := tW HB hx183_4
   replace hx183_5 := tW HB hx183_5
   have HR183_1 := Aside0.mk hi183_1
   have HC183_1 := Aside0.mk hl183_1
   clear hi183_1 hl183_1
   have HR183_2 := Aside0.mk hi183_2
   have HC183_2 := Aside0.mk hl183_2
   clear hi183_2 hl183_2
   have HR183_5 := Aside0.mk hi183_5
   have HC183_5 := Aside0.mk hl183_5
   clear hi183_5 hl183_5
   replace p183 := eq_true p183
   replace q183 := eq_true q183
   refine start_ (n := 54) (S := fun w' => w'.cell? ad183 = some (.string ((rd_T27 l0 0).f0)) ∧ w'.cell? ⟨ad183.block, ad183.off + 1, none⟩ = some (.slice A183_1 ((rd_T27 l0 0).f1).length c183_1) ∧ w'.cell? ⟨ad183.block, ad183.off + 2, none⟩ = some (.slice A183_2 ((rd_T27 l0 0).f2).length c183_2) ∧ w'.cell? ⟨ad183.block, ad183.off + 3, none⟩ = some (.int .i64 ((rd_T27 l0 0).f3)) ∧ w'.cell? ⟨ad183.block, ad183.off + 4, none⟩ = some (.int .i64 ((rd_T27 l0 0).f4)) ∧ w'.cell? ⟨ad183.block, ad183.off + 5, none⟩ = some (.slice A183_5 ((rd_T27 l0 0).f5).length c183_5)) (ds := []) (bq [0, 54]) (by kernel_rfl) rfl rfl ⟨(tW HB hw183_0), (tW HB hw183_1), (tW HB hw183_2), (tW HB hw183_3), (tW HB hw183_4), (tW HB hw183_5)⟩ (fun hHeld => ?_); refine with_tabW spec_l05Ok.tab1 spec_l05Ok.bits1 (fun HT_ HW_ => ?_)
   generalize w.drew = w19 at HB HR183_1 HR183_2 HR183_5 hx183_0 hx183_1 hx183_2 hx183_3 hx183_4 hx183_5 hHeld ⊢
   refine pV 0 (some 3) [1, 53] rfl rfl HT_ ?_
   refine pV 1 (some 4) [2, 52] rfl rfl HT_ ?_
   refine pV 2 (some 5) [3, 51] rfl rfl HT_ ?_
   refine pT 3 (some 6) (bq [4, 50]) rfl rfl HT_ HW_ hHeld ?_
   refine pO 4 (some 7) (bq [5, 49]) rfl rfl HT_ (fun K hK => ?_)
   refine gS_ Try.func214 #[.string ((rd_T27 l0 0).f0)] rfl rfl ?_
   with_reducible refine (spec_l01Name.calls k ((rd_T27 l0 0).f0) true _ A2.out).mono ?_
   rintro e w' ⟨rfl, ⟨nd, rfl⟩⟩
   refine ⟨_, rfl, ?_⟩
   refine hK.out _ _ ⟨(tW HB hw183_0), (tW HB hw183_1), (tW HB hw183_2), (tW HB hw183_3), (tW HB hw183_4), (tW HB hw183_5)⟩ (fun hHeld => ?_)
   clear hK K
   refine nO (some 7) ?_
   refine pV 5 (some 8) [6, 48] rfl rfl HT_ ?_
   refine pV 6 (some 9) [7, 47] rfl rfl HT_ ?_
   refine pV 7 (some 10) [8, 46] rfl rfl HT_ ?_
   refine pV 8 (some 11) [9, 45] rfl rfl HT_ ?_
   refine pT 9 (some 12) (bq [10, 44]) rfl rfl HT_ HW_ hHeld ?_
   refine pO 10 (some 13) (bq [11, 43]) rfl rfl HT_ (fun K hK => ?_)
   refine gS_ Try.func163 #[.slice A183_1 ((rd_T27 l0 0).f1).length c183_1] rfl rfl ?_
   with_reducible refine (spec_l03Scale.calls k _ _ ((rd_T27 l0 0).f1) false _ ?side1 ?side2 A4.out).mono ?_
   (case side1 => exact Kd.C_below HR183_1.out (tH HB))
   (case side2 => exact HC183_1.out)
   rintro e w' ⟨rfl, ⟨nd, rfl⟩⟩
   refine ⟨_, rfl, ?_⟩
   refine hK.out _ _ ⟨(tW HB hw183_0), (tW HB hw183_1), (tW HB hw183_2), (tW HB hw183_3), (tW HB hw183_4), (tW HB hw183_5)⟩ (fun hHeld => ?_)
   clear hK K
   refine nO (some 13) ?_
   refine pV 11 (some 14) [12, 42] rfl rfl HT_ ?_
   refine pV 12 (some 15) [13, 41] rfl rfl HT_ ?_
   refine pU 13 (some 16) [14, 40] rfl rfl HT_ ?_
   refine pU 14 (some 17) [15, 39] rfl rfl HT_ ?_
   refine pU 15 (some 18) [16, 38] rfl rfl HT_ ?_
   refine pU 16 (some 19) [17, 37] rfl rfl HT_ ?_
   refine pU 17 (some 20) [18, 36] rfl rfl HT_ ?_
   refine pV 18 (some 21) [19, 35] rfl rfl HT_ ?_
   refine pV 19 (some 22) [20, 34] rfl rfl HT_ ?_
   refine pU 20 (some 23) [21, 33] rfl rfl HT_ ?_
   refine pU 21 (some 24) [22, 32] rfl rfl HT_ ?_
   refine pU 22 (some 25) [23, 31] rfl rfl HT_ ?_
   refine pU 23 (some 26) [24, 30] rfl rfl HT_ ?_
   refine pU 24 (some 27) [25, 29] rfl rfl HT_ ?_
   refine pU 25 (some 28) [26, 28] rfl rfl HT_ ?_
   refine pV 26 (some 29) [27, 27] rfl rfl HT_ ?_
   refine pV 27 (some 30) [28, 26] rfl rfl HT_ ?_
   refine pU 28 (some 31) [29, 25] rfl rfl HT_ ?_
   refine pU 29 (some 32) [30, 24] rfl rfl HT_ ?_
   refine pU 30 (some 33) [31, 23] rfl rfl HT_ ?_
   refine pU 31 (some 34) [32, 22] rfl rfl HT_ ?_
   refine pU 32 (some 35) [33, 21] rfl rfl HT_ ?_
   refine pU 33 (some 36) [34, 20] rfl rfl HT_ ?_
   refine pV 34 (some 37) [35, 19] rfl rfl HT_ ?_
   refine pV 35 (some 38) [36, 18] rfl rfl HT_ ?_
   refine pU 36 (some 39) [37, 17] rfl rfl HT_ ?_
   refine pU 37 (some 40) [38, 16] rfl rfl HT_ ?_
   refine pU 38 (some 41) [39, 15] rfl rfl HT_ ?_
   refine pU 39 (some 42) [40, 14] rfl rfl HT_ ?_
   refine pU 40 (some 43) [41, 13] rfl rfl HT_ ?_
   refine pU 41 (some 44) [42, 12] rfl rfl HT_ ?_
   refine pU 42 (some 45) [43, 11] rfl rfl HT_ ?_
   refine pU 43 (some 46) [44, 10] rfl rfl HT_ ?_
   refine pU 44 (some 47) [45, 9] rfl rfl HT_ ?_
   refine pV 45 (some 48) [46, 8] rfl rfl HT_ ?_
   refine pV 46 (some 49) [47, 7] rfl rfl HT_ ?_
   refine pU 47 (some 50) [48, 6] rfl rfl HT_ ?_
   refine pU 48 (some 51) [49, 5] rfl rfl HT_ ?_
   refine pU 49 (some 52) [50, 4] rfl rfl HT_ ?_
   refine pU 50 (some 53) [51, 3] rfl rfl HT_ ?_
   refine pU 51 (some 54) [52, 2] rfl rfl HT_ ?_
   refine pV 52 (some 55) [53, 1] rfl rfl HT_ ?_
   refine pV 53 (some 2) [54] rfl rfl HT_ ?_
   refine done_ (done_of HT_.out (by kernel_rfl)) ?_
   try go_wp2
   go_ret
   exact ⟨tE, tH HB⟩
 replace c3 := Bool.eq_false_iff.mpr c3
 subst c3
 have H1 : (some false) = some r := by rw [if_neg (show ¬ (false = true) by decide)] at H; exact H
 clear H
 have H := H1
 clear H1
 obtain rfl := Option.some.inj H
 go_enter Try.func109, Try.ntmps109
 try go_wp2
 replace HB := Aside0.mk (below_drew1 HB.out)
 have p183 : 0 ≤ (0 : Int) := (by omega)
 have q183 : 0 < (l0.length : Int) := of_decide_eq_true tA
 obtain ⟨ad183, A183_1, c183_1, A183_2, c183_2, A183_5, c183_5, e183, hx183_0, hx183_1, hx183_2, hx183_3, hx183_4, hx183_5, hl183_1, hi183_1, hl183_2, hi183_2, hl183_5, hi183_5⟩ := at_T27 HR0.out 0 p183 q183
 have hw183_5 := hx183_5
 (try rw [t0n] at hw183_5)
 (try rw [show 0 * 6 = 0 from rfl] at hw183_5)
 (try rw [Addr.add_zero'] at hw183_5)
 have hw183_4 := hx183_4
 (try rw [t0n] at hw183_4)
 (try rw [show 0 * 6 = 0 from rfl] at hw183_4)
 (try rw [Addr.add_zero'] at hw183_4)
 have hw183_3 := hx183_3
 (try rw [t0n] at hw183_3)
 (try rw [show 0 * 6 = 0 from rfl] at hw183_3)
 (try rw [Addr.add_zero'] at hw183_3)
 have hw183_2 := hx183_2
 (try rw [t0n] at hw183_2)
 (try rw [show 0 * 6 = 0 from rfl] at hw183_2)
 (try rw [Addr.add_zero'] at hw183_2)
 have hw183_1 := hx183_1
 (try rw [t0n] at hw183_1)
 (try rw [show 0 * 6 = 0 from rfl] at hw183_1)
 (try rw [Addr.add_zero'] at hw183_1)
 have hw183_0 := hx183_0
 (try rw [t0n] at hw183_0)
 (try rw [show 0 * 6 = 0 from rfl] at hw183_0)
 (try rw [Addr.add_zero'] at hw183_0)
 cases e183
 have qi183 : (0 < l0.length) = True := eq_true (by omega)
 (try rw [t0n] at hx183_0)
 (try rw [show 0 * 6 = 0 from rfl] at hx183_0)
 (try rw [Addr.add_zero'] at hx183_0)
 (try rw [t0n] at hx183_1)
 (try rw [show 0 * 6 = 0 from rfl] at hx183_1)
 (try rw [Addr.add_zero'] at hx183_1)
 (try rw [t0n] at hx183_2)
 (try rw [show 0 * 6 = 0 from rfl] at hx183_2)
 (try rw [Addr.add_zero'] at hx183_2)
 (try rw [t0n] at hx183_3)
 (try rw [show 0 * 6 = 0 from rfl] at hx183_3)
 (try rw [Addr.add_zero'] at hx183_3)
 (try rw [t0n] at hx183_4)
 (try rw [show 0 * 6 = 0 from rfl] at hx183_4)
 (try rw [Addr.add_zero'] at hx183_4)
 (try rw [t0n] at hx183_5)
 (try rw [show 0 * 6 = 0 from rfl] at hx183_5)
 (try rw [Addr.add_zero'] at hx183_5)
 replace hx183_0 := tW HB hx183_0
 replace hx183_1 := tW HB hx183_1
 replace hx183_2 := tW HB hx183_2
 replace hx183_3 := tW HB hx183_3
 replace hx183_4 := tW HB hx183_4
 replace hx183_5 := tW HB hx183_5
 have HR183_1 := Aside0.mk hi183_1
 have HC183_1 := Aside0.mk hl183_1
 clear hi183_1 hl183_1
 have HR183_2 := Aside0.mk hi183_2
 have HC183_2 := Aside0.mk hl183_2
 clear hi183_2 hl183_2
 have HR183_5 := Aside0.mk hi183_5
 have HC183_5 := Aside0.mk hl183_5
 clear hi183_5 hl183_5
 replace p183 := eq_true p183
 replace q183 := eq_true q183
 refine start_ (n := 54) (S := fun w' => w'.cell? ad183 = some (.string ((rd_T27 l0 0).f0)) ∧ w'.cell? ⟨ad183.block, ad183.off + 1, none⟩ = some (.slice A183_1 ((rd_T27 l0 0).f1).length c183_1) ∧ w'.cell? ⟨ad183.block, ad183.off + 2, none⟩ = some (.slice A183_2 ((rd_T27 l0 0).f2).length c183_2) ∧ w'.cell? ⟨ad183.block, ad183.off + 3, none⟩ = some (.int .i64 ((rd_T27 l0 0).f3)) ∧ w'.cell? ⟨ad183.block, ad183.off + 4, none⟩ = some (.int .i64 ((rd_T27 l0 0).f4)) ∧ w'.cell? ⟨ad183.block, ad183.off + 5, none⟩ = some (.slice A183_5 ((rd_T27 l0 0).f5).length c183_5)) (ds := []) (bq [0, 54]) (by kernel_rfl) rfl rfl ⟨(tW HB hw183_0), (tW HB hw183_1), (tW HB hw183_2), (tW HB hw183_3), (tW HB hw183_4), (tW HB hw183_5)⟩ (fun hHeld => ?_); refine with_tabW spec_l05Ok.tab1 spec_l05Ok.bits1 (fun HT_ HW_ => ?_)
 generalize w.drew = w20 at HB HR183_1 HR183_2 HR183_5 hx183_0 hx183_1 hx183_2 hx183_3 hx183_4 hx183_5 hHeld ⊢
 refine pV 0 (some 3) [1, 53] rfl rfl HT_ ?_
 refine pV 1 (some 4) [2, 52] rfl rfl HT_ ?_
 refine pV 2 (some 5) [3, 51] rfl rfl HT_ ?_
 refine pT 3 (some 6) (bq [4, 50]) rfl rfl HT_ HW_ hHeld ?_
 refine pO 4 (some 7) (bq [5, 49]) rfl rfl HT_ (fun K hK => ?_)
 refine gS_ Try.func214 #[.string ((rd_T27 l0 0).f0)] rfl rfl ?_
 with_reducible refine (spec_l01Name.calls k ((rd_T27 l0 0).f0) false _ A2.out).mono ?_
 rintro e w' ⟨rfl, ⟨nd, rfl⟩⟩
 refine ⟨_, rfl, ?_⟩
 refine hK.out _ _ ⟨(tW HB hw183_0), (tW HB hw183_1), (tW HB hw183_2), (tW HB hw183_3), (tW HB hw183_4), (tW HB hw183_5)⟩ (fun hHeld => ?_)
 clear hK K
 refine nO (some 7) ?_
 refine pV 5 (some 8) [6, 48] rfl rfl HT_ ?_
 refine pU 6 (some 9) [7, 47] rfl rfl HT_ ?_
 refine pU 7 (some 10) [8, 46] rfl rfl HT_ ?_
 refine pU 8 (some 11) [9, 45] rfl rfl HT_ ?_
 refine pU 9 (some 12) [10, 44] rfl rfl HT_ ?_
 refine pU 10 (some 13) [11, 43] rfl rfl HT_ ?_
 refine pV 11 (some 14) [12, 42] rfl rfl HT_ ?_
 refine pV 12 (some 15) [13, 41] rfl rfl HT_ ?_
 refine pU 13 (some 16) [14, 40] rfl rfl HT_ ?_
 refine pU 14 (some 17) [15, 39] rfl rfl HT_ ?_
 refine pU 15 (some 18) [16, 38] rfl rfl HT_ ?_
 refine pU 16 (some 19) [17, 37] rfl rfl HT_ ?_
 refine pU 17 (some 20) [18, 36] rfl rfl HT_ ?_
 refine pV 18 (some 21) [19, 35] rfl rfl HT_ ?_
 refine pV 19 (some 22) [20, 34] rfl rfl HT_ ?_
 refine pU 20 (some 23) [21, 33] rfl rfl HT_ ?_
 refine pU 21 (some 24) [22, 32] rfl rfl HT_ ?_
 refine pU 22 (some 25) [23, 31] rfl rfl HT_ ?_
 refine pU 23 (some 26) [24, 30] rfl rfl HT_ ?_
 refine pU 24 (some 27) [25, 29] rfl rfl HT_ ?_
 refine pU 25 (some 28) [26, 28] rfl rfl HT_ ?_
 refine pV 26 (some 29) [27, 27] rfl rfl HT_ ?_
 refine pV 27 (some 30) [28, 26] rfl rfl HT_ ?_
 refine pU 28 (some 31) [29, 25] rfl rfl HT_ ?_
 refine pU 29 (some 32) [30, 24] rfl rfl HT_ ?_
 refine pU 30 (some 33) [31, 23] rfl rfl HT_ ?_
 refine pU 31 (some 34) [32, 22] rfl rfl HT_ ?_
 refine pU 32 (some 35) [33, 21] rfl rfl HT_ ?_
 refine pU 33 (some 36) [34, 20] rfl rfl HT_ ?_
 refine pV 34 (some 37) [35, 19] rfl rfl HT_ ?_
 refine pV 35 (some 38) [36, 18] rfl rfl HT_ ?_
 refine pU 36 (some 39) [37, 17] rfl rfl HT_ ?_
 refine pU 37 (some 40) [38, 16] rfl rfl HT_ ?_
 refine pU 38 (some 41) [39, 15] rfl rfl HT_ ?_
 refine pU 39 (some 42) [40, 14] rfl rfl HT_ ?_
 refine pU 40 (some 43) [41, 13] rfl rfl HT_ ?_
 refine pU 41 (some 44) [42, 12] rfl rfl HT_ ?_
 refine pU 42 (some 45) [43, 11] rfl rfl HT_ ?_
 refine pU 43 (some 46) [44, 10] rfl rfl HT_ ?_
 refine pU 44 (some 47) [45, 9] rfl rfl HT_ ?_
 refine pV 45 (some 48) [46, 8] rfl rfl HT_ ?_
 refine pV 46 (some 49) [47, 7] rfl rfl HT_ ?_
 refine pU 47 (some 50) [48, 6] rfl rfl HT_ ?_
 refine pU 48 (some 51) [49, 5] rfl rfl HT_ ?_
 refine pU 49 (some 52) [50, 4] rfl rfl HT_ ?_
 refine pU 50 (some 53) [51, 3] rfl rfl HT_ ?_
 refine pU 51 (some 54) [52, 2] rfl rfl HT_ ?_
 refine pV 52 (some 55) [53, 1] rfl rfl HT_ ?_
 refine pV 53 (some 2) [54] rfl rfl HT_ ?_
 refine done_ (done_of HT_.out (by kernel_rfl)) ?_
 try go_wp2
 go_ret
 exact ⟨tE, tH HB⟩

end Go.Proofs.Ytbedlmlofnphkaa.PZ
