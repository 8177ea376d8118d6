-- WRITTEN BY wip/gprint.py, a program of this session's over the kit's print, with contracts given by hand
import Derived.Test.YtomeeimjlagbbaaPHx0
import Derived.Test.YtomeeimjlagbbaaPHx8
import Derived.Test.YtomeeimjlagbbaaPHx9
namespace Go.Proofs.Ytomeeimjlagbbaa.PH
open Go.RowKit Go.Proofs.YtomeeimjlagbbaaW.PrintWords Go.Proofs.YtomeeimjlagbbaaW.PrintLast Go.Proofs.YtomeeimjlagbbaaW.PrintMore
attribute [local go_sem] max2_int min2_int max_two min_two max_three min_three max_four min_four   -- for this text's walks alone
set_option linter.unusedVariables false
set_option linter.unusedSimpArgs false

/-! ### spec_l08One: function 89 -/
def spec_l08One.f (k : Nat) (l0 : List (S43)) : Option (Bool) := (spec_l01Name.f k ((rd_T43 l0 0).f0)).bind fun t243 => (if t243 = true then ((spec_l08Minute.f ((rd_T43 l0 0).f1)).bind fun t244 => (if t244 = true then ((spec_l08Minute.f ((rd_T43 l0 0).f2)).bind fun t245 => (if t245 = true then (if ((rd_T43 l0 0).f1) = ((rd_T43 l0 0).f2) then (some false) else ((spec_l00In.f ((rd_T43 l0 0).f3) (-1) 5).bind fun t246 => (if t246 = true then ((spec_l00In.f ((rd_T43 l0 0).f4) 1 240).bind fun t247 => (if t247 = true then ((spec_l00In.f ((rd_T43 l0 0).f5) 0 1000).bind fun t248 => (some t248)) else (some false))) else (some false)))) else (some false))) else (some false))) else (some false))
theorem spec_l08One.mono : ∀ a0 k, LeO (spec_l08One.f k a0) (spec_l08One.f (k + 1) a0) := by
 intro a0 k
 unfold spec_l08One.f
 repeat' first
  | (with_reducible exact spec_l01Name.mono _ _)
  | (with_reducible exact LeO.refl _)
  | (with_reducible exact LeO.none _)
  | (with_reducible refine LeO.ite ?_ ?_)
  | (with_reducible refine LeO.bind ?_ (fun _ => ?_))
  | exact spec_l01Name.mono _ _
  | exact LeO.none _
  | refine LeO.ite ?_ ?_
  | refine LeO.bind ?_ (fun _ => ?_)
def spec_l08One.T1 : Bool × List (List Nat × List Nat) := (true, [([], []), ([0], [0]), ([1], [1]), ([2], [2]), ([3], [3]), ([4, 4], [4]), ([5], [5]), ([6, 5], [5, 6]), ([7, 5], [5, 7]), ([8, 5], [5, 8]), ([9, 5, 5], [5, 9]), ([5, 10], [5, 10]), ([11, 10], [11]), ([12], [12]), ([13, 12], [12, 13]), ([14, 12], [12, 14]), ([15, 12], [12, 15]), ([16, 12, 12], [12, 16]), ([12, 17], [12, 17]), ([18, 17], [18]), ([19], [19]), ([20, 19], [19, 20]), ([21, 19], [19, 21]), ([22, 19], [19, 22]), ([19], [19]), ([24, 19], [19, 24]), ([25, 19], [19, 25]), ([26, 19], [19, 26]), ([23, 27, 19], [19, 23, 27]), ([19, 28], [19, 28]), ([29, 19], [29]), ([30], [30]), ([31, 30], [30, 31]), ([32, 30], [30, 32]), ([33, 30], [30, 33]), ([34, 30, 30], [30, 34]), ([30, 35], [30, 35]), ([36, 35], [36]), ([37], [37]), ([38, 37], [37, 38]), ([39, 37], [37, 39]), ([40, 37], [37, 40]), ([41, 37, 37], [37, 41]), ([37, 42], [37, 42]), ([43, 42], [43]), ([44], [44]), ([45, 44], [44, 45]), ([46, 44], [44, 46]), ([47, 44], [44, 47]), ([48, 44, 44], [44, 48]), ([44, 49], [44, 49]), ([50, 49, 0, 1, 2, 3, 4, 5, 6, 7, 8, 9, 10, 11, 12, 13, 14, 15, 16, 17, 18, 19, 20, 21, 22, 23, 24, 25, 26, 27, 28, 29, 30, 31, 32, 33, 34, 35, 36, 37, 38, 39, 40, 41, 42, 43, 44, 45, 46, 47, 48, 49, 50], [50])])
def spec_l08One.B1 : List Nat := [0, 1, 3, 7, 15, 31, 63, 127, 255, 511, 1023, 2047, 4095, 8191, 16383, 32767, 65535, 131071, 262143, 524287, 1048575, 2097151, 4194303, 8388607, 1048575, 17825791, 51380223, 118489087, 268435455, 536870911, 1073741823, 2147483647, 4294967295, 8589934591, 17179869183, 34359738367, 68719476735, 137438953471, 274877906943, 549755813887, 1099511627775, 2199023255551, 4398046511103, 8796093022207, 17592186044415, 35184372088831, 70368744177663, 140737488355327, 281474976710655, 562949953421311, 1125899906842623, 2251799813685247]
theorem spec_l08One.tab1 : rtab .any (opsOf Try.f89 1) = spec_l08One.T1 := by kernel_rfl
theorem spec_l08One.bits1 : waitsOk spec_l08One.T1.2 spec_l08One.B1 = true := by kernel_rfl
set_option maxHeartbeats 8000000 in
set_option maxRecDepth 100000 in
theorem spec_l08One.calls (k : Nat) (A0 : Option Addr) (l0 : List (S43)) (r : Bool) (w : World) (hr0 : Kd.C k43 w A0 l0.length l0) (hn0 : 0 < l0.length) (h : spec_l08One.f k l0 = some r) :
 Calls Try.prog 89 #[.pointer A0] w fun e w' => e = .returned (.bool r) ∧ Below w.heap.size w w' := by
 have HR0 := Aside0.mk hr0
 clear hr0
 have HN0 := Aside0.mk hn0
 have hn0b0 : decide ((0 : Int) < (l0.length : Int)) = true := decide_eq_true (Int.ofNat_lt.2 hn0)
 have hn0b1 : decide (0 < l0.length) = true := decide_eq_true hn0
 clear hn0
 have HB := Aside0.mk (Below.refl w.heap.size w)
 have H : ((spec_l01Name.f k ((rd_T43 l0 0).f0)).bind fun t243 => (if t243 = true then ((spec_l08Minute.f ((rd_T43 l0 0).f1)).bind fun t244 => (if t244 = true then ((spec_l08Minute.f ((rd_T43 l0 0).f2)).bind fun t245 => (if t245 = true then (if ((rd_T43 l0 0).f1) = ((rd_T43 l0 0).f2) then (some false) else ((spec_l00In.f ((rd_T43 l0 0).f3) (-1) 5).bind fun t246 => (if t246 = true then ((spec_l00In.f ((rd_T43 l0 0).f4) 1 240).bind fun t247 => (if t247 = true then ((spec_l00In.f ((rd_T43 l0 0).f5) 0 1000).bind fun t248 => (some t248)) else (some false))) else (some false)))) else (some false))) else (some false))) else (some false))) = some r := h
 clear h
 replace H := Option.bind_eq_some_iff.mp H
 obtain ⟨t243, A20, H⟩ := H
 replace H : (if t243 = true then ((spec_l08Minute.f ((rd_T43 l0 0).f1)).bind fun t244 => (if t244 = true then ((spec_l08Minute.f ((rd_T43 l0 0).f2)).bind fun t245 => (if t245 = true then (if ((rd_T43 l0 0).f1) = ((rd_T43 l0 0).f2) then (some false) else ((spec_l00In.f ((rd_T43 l0 0).f3) (-1) 5).bind fun t246 => (if t246 = true then ((spec_l00In.f ((rd_T43 l0 0).f4) 1 240).bind fun t247 => (if t247 = true then ((spec_l00In.f ((rd_T43 l0 0).f5) 0 1000).bind fun t248 => (some t248)) else (some false))) else (some false)))) else (some false))) else (some false))) else (some false)) = some r := H
 have A2 := Aside0.mk A20
 clear A20
 by_cases c3 : t243 = true
 · subst c3
   have H1 : ((spec_l08Minute.f ((rd_T43 l0 0).f1)).bind fun t244 => (if t244 = true then ((spec_l08Minute.f ((rd_T43 l0 0).f2)).bind fun t245 => (if t245 = true then (if ((rd_T43 l0 0).f1) = ((rd_T43 l0 0).f2) then (some false) else ((spec_l00In.f ((rd_T43 l0 0).f3) (-1) 5).bind fun t246 => (if t246 = true then ((spec_l00In.f ((rd_T43 l0 0).f4) 1 240).bind fun t247 => (if t247 = true then ((spec_l00In.f ((rd_T43 l0 0).f5) 0 1000).bind fun t248 => (some t248)) else (some false))) else (some false)))) else (some false))) else (some false))) = some r := by rw [if_pos rfl] at H; exact H
   clear H
   have H := H1
   clear H1
   replace H := Option.bind_eq_some_iff.mp H
   obtain ⟨t244, A40, H⟩ := H
   replace H : (if t244 = true then ((spec_l08Minute.f ((rd_T43 l0 0).f2)).bind fun t245 => (if t245 = true then (if ((rd_T43 l0 0).f1) = ((rd_T43 l0 0).f2) then (some false) else ((spec_l00In.f ((rd_T43 l0 0).f3) (-1) 5).bind fun t246 => (if t246 = true then ((spec_l00In.f ((rd_T43 l0 0).f4) 1 240).bind fun t247 => (if t247 = true then ((spec_l00In.f ((rd_T43 l0 0).f5) 0 1000).bind fun t248 => (some t248)) else (some false))) else (some false)))) else (some false))) else (some false)) = some r := H
   have A4 := Aside0.mk A40
   clear A40
   by_cases c5 : t244 = true
   · subst c5
     have H1 : ((spec_l08Minute.f ((rd_T43 l0 0).f2)).bind fun t245 => (if t245 = true then (if ((rd_T43 l0 0).f1) = ((rd_T43 l0 0).f2) then (some false) else ((spec_l00In.f ((rd_T43 l0 0).f3) (-1) 5).bind fun t246 => (if t246 = true then ((spec_l00In.f ((rd_T43 l0 0).f4) 1 240).bind fun t247 => (if t247 = true then ((spec_l00In.f ((rd_T43 l0 0).f5) 0 1000).bind fun t248 => (some t248)) else (some false))) else (some false)))) else (some false))) = some r := by rw [if_pos rfl] at H; exact H
     clear H
     have H := H1
     clear H1
     replace H := Option.bind_eq_some_iff.mp H
     obtain ⟨t245, A60, H⟩ := H
     replace H : (if t245 = true then (if ((rd_T43 l0 0).f1) = ((rd_T43 l0 0).f2) then (some false) else ((spec_l00In.f ((rd_T43 l0 0).f3) (-1) 5).bind fun t246 => (if t246 = true then ((spec_l00In.f ((rd_T43 l0 0).f4) 1 240).bind fun t247 => (if t247 = true then ((spec_l00In.f ((rd_T43 l0 0).f5) 0 1000).bind fun t248 => (some t248)) else (some false))) else (some false)))) else (some false)) = some r := H
     have A6 := Aside0.mk A60
     clear A60
     by_cases c7 : t245 = true
     · subst c7
       have H1 : (if ((rd_T43 l0 0).f1) = ((rd_T43 l0 0).f2) then (some false) else ((spec_l00In.f ((rd_T43 l0 0).f3) (-1) 5).bind fun t246 => (if t246 = true then ((spec_l00In.f ((rd_T43 l0 0).f4) 1 240).bind fun t247 => (if t247 = true then ((spec_l00In.f ((rd_T43 l0 0).f5) 0 1000).bind fun t248 => (some t248)) else (some false))) else (some false)))) = some r := by rw [if_pos rfl] at H; exact H
       clear H
       have H := H1
       clear H1
       by_cases c8 : ((rd_T43 l0 0).f1) = ((rd_T43 l0 0).f2)
       · rw [if_pos c8] at H
         have c8b0 : (((rd_T43 l0 0).f1) == ((rd_T43 l0 0).f2)) = true := beq_iff_eq.mpr c8
         have c8b1 : (((rd_T43 l0 0).f1) != ((rd_T43 l0 0).f2)) = false := bne_eq_false_iff_eq.mpr c8
         clear c8
         obtain rfl := Option.some.inj H
         go_enter Try.func89, Try.ntmps89
         try go_wp2
         have n0_ := Aside0.mk (below_drew1 HB.out)
         clear HB
         have HB := n0_
         clear n0_
         have p242 : 0 ≤ (0 : Int) := (by omega)
         have q242 : 0 < (l0.length : Int) := of_decide_eq_true (by first | (with_reducible assumption) | assumption)
         obtain ⟨ad242, e242, hx242_0, hx242_1, hx242_2, hx242_3, hx242_4, hx242_5⟩ := at_T43 HR0.out 0 p242 q242
         have hw242_5 := hx242_5
         (try rw [show ((0 : Int)).toNat = 0 from rfl] at hw242_5)
         (try rw [show 0 * 6 = 0 from rfl] at hw242_5)
         (try rw [Addr.add_zero'] at hw242_5)
         have hw242_4 := hx242_4
         (try rw [show ((0 : Int)).toNat = 0 from rfl] at hw242_4)
         (try rw [show 0 * 6 = 0 from rfl] at hw242_4)
         (try rw [Addr.add_zero'] at hw242_4)
         have hw242_3 := hx242_3
         (try rw [show ((0 : Int)).toNat = 0 from rfl] at hw242_3)
         (try rw [show 0 * 6 = 0 from rfl] at hw242_3)
         (try rw [Addr.add_zero'] at hw242_3)
         have hw242_2 := hx242_2
         (try rw [show ((0 : Int)).toNat = 0 from rfl] at hw242_2)
         (try rw [show 0 * 6 = 0 from rfl] at hw242_2)
         (try rw [Addr.add_zero'] at hw242_2)
         have hw242_1 := hx242_1
         (try rw [show ((0 : Int)).toNat = 0 from rfl] at hw242_1)
         (try rw [show 0 * 6 = 0 from rfl] at hw242_1)
         (try rw [Addr.add_zero'] at hw242_1)
         have hw242_0 := hx242_0
         (try rw [show ((0 : Int)).toNat = 0 from rfl] at hw242_0)
         (try rw [show 0 * 6 = 0 from rfl] at hw242_0)
         (try rw [Addr.add_zero'] at hw242_0)
         cases e242
         have qi242 : (0 < l0.length) = True := eq_true (by omega)
         (try rw [show ((0 : Int)).toNat = 0 from rfl] at hx242_0)
         (try rw [show 0 * 6 = 0 from rfl] at hx242_0)
         (try rw [Addr.add_zero'] at hx242_0)
         (try rw [show ((0 : Int)).toNat = 0 from rfl] at hx242_1)
         (try rw [show 0 * 6 = 0 from rfl] at hx242_1)
         (try rw [Addr.add_zero'] at hx242_1)
         (try rw [show ((0 : Int)).toNat = 0 from rfl] at hx242_2)
         (try rw [show 0 * 6 = 0 from rfl] at hx242_2)
         (try rw [Addr.add_zero'] at hx242_2)
         (try rw [show ((0 : Int)).toNat = 0 from rfl] at hx242_3)
         (try rw [show 0 * 6 = 0 from rfl] at hx242_3)
         (try rw [Addr.add_zero'] at hx242_3)
         (try rw [show ((0 : Int)).toNat = 0 from rfl] at hx242_4)
         (try rw [show 0 * 6 = 0 from rfl] at hx242_4)
         (try rw [Addr.add_zero'] at hx242_4)
         (try rw [show ((0 : Int)).toNat = 0 from rfl] at hx242_5)
         (try rw [show 0 * 6 = 0 from rfl] at hx242_5)
         (try rw [Addr.add_zero'] at hx242_5)
         replace hx242_0 := (HB.out.cell (World.block_lt_of_cell? w _ hx242_0)).trans hx242_0
         replace hx242_1 := (HB.out.cell (World.block_lt_of_cell? w _ hx242_1)).trans hx242_1
         replace hx242_2 := (HB.out.cell (World.block_lt_of_cell? w _ hx242_2)).trans hx242_2
         replace hx242_3 := (HB.out.cell (World.block_lt_of_cell? w _ hx242_3)).trans hx242_3
         replace hx242_4 := (HB.out.cell (World.block_lt_of_cell? w _ hx242_4)).trans hx242_4
         replace hx242_5 := (HB.out.cell (World.block_lt_of_cell? w _ hx242_5)).trans hx242_5
         replace p242 := eq_true p242
         replace q242 := eq_true q242
         refine start_ (n := 52) (S := fun w' => w'.cell? ad242 = some (.string ((rd_T43 l0 0).f0)) ∧ w'.cell? ⟨ad242.block, ad242.off + 1, none⟩ = some (.int .i64 ((rd_T43 l0 0).f1)) ∧ w'.cell? ⟨ad242.block, ad242.off + 2, none⟩ = some (.int .i64 ((rd_T43 l0 0).f2)) ∧ w'.cell? ⟨ad242.block, ad242.off + 3, none⟩ = some (.int .i64 ((rd_T43 l0 0).f3)) ∧ w'.cell? ⟨ad242.block, ad242.off + 4, none⟩ = some (.int .i64 ((rd_T43 l0 0).f4)) ∧ w'.cell? ⟨ad242.block, ad242.off + 5, none⟩ = some (.int .i64 ((rd_T43 l0 0).f5))) (ds := []) (bq [0, 52]) (by kernel_rfl) rfl rfl ⟨((HB.out.cell (World.block_lt_of_cell? w _ hw242_0)).trans hw242_0), ((HB.out.cell (World.block_lt_of_cell? w _ hw242_1)).trans hw242_1), ((HB.out.cell (World.block_lt_of_cell? w _ hw242_2)).trans hw242_2), ((HB.out.cell (World.block_lt_of_cell? w _ hw242_3)).trans hw242_3), ((HB.out.cell (World.block_lt_of_cell? w _ hw242_4)).trans hw242_4), ((HB.out.cell (World.block_lt_of_cell? w _ hw242_5)).trans hw242_5)⟩ (fun hHeld => ?_); refine with_tabW spec_l08One.tab1 spec_l08One.bits1 (fun HT_ HW_ => ?_)
         generalize w.drew = w9 at HB hx242_0 hx242_1 hx242_2 hx242_3 hx242_4 hx242_5 hHeld ⊢
         refine pV_ (i := 0) (N := some 3) (bq [1, 51]) rfl rfl HT_.out ?_
         refine pV_ (i := 1) (N := some 4) (bq [2, 50]) rfl rfl HT_.out ?_
         refine pV_ (i := 2) (N := some 5) (bq [3, 49]) rfl rfl HT_.out ?_
         refine take_ (i := 3) (N := some 6) (v := ?_) (a' := ?_) (bq [4, 48]) rfl rfl (take_ofW HT_.out HW_.out (by kernel_rfl)) (fun _ _ _ h => h) (Or.inl ⟨by rfl, ?_⟩) hHeld ?_ ?_
         rotate_left
         · rintro w' ⟨s0, s1, s2, s3, s4, s5⟩
           go_simp
           with_reducible rfl
         rotate_left
         · simp only [Act.put, sx0, sx1, sx2, i64_w, i32_w]
           rfl
         refine one_ (i := 4) (N := some 7) (bq [5, 47]) rfl rfl (one_of HT_.out (by kernel_rfl)) (by decide) (fun K hK => ?_)
         refine gS_ Try.func150 #[.string ((rd_T43 l0 0).f0)] rfl rfl ?_
         with_reducible refine (spec_l01Name.calls k ((rd_T43 l0 0).f0) true _ A2.out).mono ?_
         rintro e w' ⟨rfl, ⟨nd, rfl⟩⟩
         refine ⟨_, rfl, ?_⟩
         refine hK.out _ _ ⟨((HB.out.cell (World.block_lt_of_cell? w _ hw242_0)).trans hw242_0), ((HB.out.cell (World.block_lt_of_cell? w _ hw242_1)).trans hw242_1), ((HB.out.cell (World.block_lt_of_cell? w _ hw242_2)).trans hw242_2), ((HB.out.cell (World.block_lt_of_cell? w _ hw242_3)).trans hw242_3), ((HB.out.cell (World.block_lt_of_cell? w _ hw242_4)).trans hw242_4), ((HB.out.cell (World.block_lt_of_cell? w _ hw242_5)).trans hw242_5)⟩ (fun hHeld => ?_)
         clear hK K
         refine norm_ (a' := ?_) ?_ ?_
         rotate_left
         · show Act.put _ (some 7) _ = _
           simp only [Act.put, sx0, sx1, sx2, i64_w, i32_w]
           rfl
         refine pV_ (i := 5) (N := some 8) (bq [6, 46]) rfl rfl HT_.out ?_
         refine pV_ (i := 6) (N := some 9) (bq [7, 45]) rfl rfl HT_.out ?_
         refine pV_ (i := 7) (N := some 10) (bq [8, 44]) rfl rfl HT_.out ?_
         refine pV_ (i := 8) (N := some 11) (bq [9, 43]) rfl rfl HT_.out ?_
         refine take_ (i := 9) (N := some 12) (v := ?_) (a' := ?_) (bq [10, 42]) rfl rfl (take_ofW HT_.out HW_.out (by kernel_rfl)) (fun _ _ _ h => h) (Or.inl ⟨by rfl, ?_⟩) hHeld ?_ ?_
         rotate_left
         · rintro w' ⟨s0, s1, s2, s3, s4, s5⟩
           go_simp
           with_reducible rfl
         rotate_left
         · simp only [Act.put, sx0, sx1, sx2, i64_w, i32_w]
           rfl
         refine one_ (i := 10) (N := some 13) (bq [11, 41]) rfl rfl (one_of HT_.out (by kernel_rfl)) (by decide) (fun K hK => ?_)
         refine gS_ Try.func90 #[.int .i64 ((rd_T43 l0 0).f1)] rfl rfl ?_
         with_reducible refine (spec_l08Minute.calls ((rd_T43 l0 0).f1) true _ A4.out).mono ?_
         rintro e w' ⟨rfl, ⟨nd, rfl⟩⟩
         refine ⟨_, rfl, ?_⟩
         refine hK.out _ _ ⟨((HB.out.cell (World.block_lt_of_cell? w _ hw242_0)).trans hw242_0), ((HB.out.cell (World.block_lt_of_cell? w _ hw242_1)).trans hw242_1), ((HB.out.cell (World.block_lt_of_cell? w _ hw242_2)).trans hw242_2), ((HB.out.cell (World.block_lt_of_cell? w _ hw242_3)).trans hw242_3), ((HB.out.cell (World.block_lt_of_cell? w _ hw242_4)).trans hw242_4), ((HB.out.cell (World.block_lt_of_cell? w _ hw242_5)).trans hw242_5)⟩ (fun hHeld => ?_)
         clear hK K
         refine norm_ (a' := ?_) ?_ ?_
         rotate_left
         · show Act.put _ (some 13) _ = _
           simp only [Act.put, sx0, sx1, sx2, i64_w, i32_w]
           rfl
         refine pV_ (i := 11) (N := some 14) (bq [12, 40]) rfl rfl HT_.out ?_
         refine pV_ (i := 12) (N := some 15) (bq [13, 39]) rfl rfl HT_.out ?_
         refine pV_ (i := 13) (N := some 16) (bq [14, 38]) rfl rfl HT_.out ?_
         refine pV_ (i := 14) (N := some 17) (bq [15, 37]) rfl rfl HT_.out ?_
         refine pV_ (i := 15) (N := some 18) (bq [16, 36]) rfl rfl HT_.out ?_
         refine take_ (i := 16) (N := some 19) (v := ?_) (a' := ?_) (bq [17, 35]) rfl rfl (take_ofW HT_.out HW_.out (by kernel_rfl)) (fun _ _ _ h => h) (Or.inl ⟨by rfl, ?_⟩) hHeld ?_ ?_
         rotate_left
         · rintro w' ⟨s0, s1, s2, s3, s4, s5⟩
           go_simp
           with_reducible rfl
         rotate_left
         · simp only [Act.put, sx0, sx1, sx2, i64_w, i32_w]
           rfl
         refine one_ (i := 17) (N := some 20) (bq [18, 34]) rfl rfl (one_of HT_.out (by kernel_rfl)) (by decide) (fun K hK => ?_)
         refine gS_ Try.func90 #[.int .i64 ((rd_T43 l0 0).f2)] rfl rfl ?_
         with_reducible refine (spec_l08Minute.calls ((rd_T43 l0 0).f2) true _ A6.out).mono ?_
         rintro e w' ⟨rfl, ⟨nd, rfl⟩⟩
         refine ⟨_, rfl, ?_⟩
         refine hK.out _ _ ⟨((HB.out.cell (World.block_lt_of_cell? w _ hw242_0)).trans hw242_0), ((HB.out.cell (World.block_lt_of_cell? w _ hw242_1)).trans hw242_1), ((HB.out.cell (World.block_lt_of_cell? w _ hw242_2)).trans hw242_2), ((HB.out.cell (World.block_lt_of_cell? w _ hw242_3)).trans hw242_3), ((HB.out.cell (World.block_lt_of_cell? w _ hw242_4)).trans hw242_4), ((HB.out.cell (World.block_lt_of_cell? w _ hw242_5)).trans hw242_5)⟩ (fun hHeld => ?_)
         clear hK K
         refine norm_ (a' := ?_) ?_ ?_
         rotate_left
         · show Act.put _ (some 20) _ = _
           simp only [Act.put, sx0, sx1, sx2, i64_w, i32_w]
           rfl
         refine pV_ (i := 18) (N := some 21) (bq [19, 33]) rfl rfl HT_.out ?_
         refine pV_ (i := 19) (N := some 22) (bq [20, 32]) rfl rfl HT_.out ?_
         refine pV_ (i := 20) (N := some 23) (bq [21, 31]) rfl rfl HT_.out ?_
         refine pV_ (i := 21) (N := some 24) (bq [22, 30]) rfl rfl HT_.out ?_
         refine pV_ (i := 22) (N := some 25) (bq [23, 29]) rfl rfl HT_.out ?_
         refine pV_ (i := 24) (N := some 27) (bq [23, 1, 1, 27]) rfl rfl HT_.out ?_
         refine pV_ (i := 25) (N := some 28) (bq [23, 1, 2, 26]) rfl rfl HT_.out ?_
         refine pV_ (i := 26) (N := some 29) (bq [23, 1, 3, 25]) rfl rfl HT_.out ?_
         refine take_ (i := 23) (N := some 26) (v := ?_) (a' := ?_) (bq [27, 25]) rfl rfl (take_ofW HT_.out HW_.out (by kernel_rfl)) (fun _ _ _ h => h) (Or.inl ⟨by rfl, ?_⟩) hHeld ?_ ?_
         rotate_left
         · rintro w' ⟨s0, s1, s2, s3, s4, s5⟩
           go_simp
           with_reducible rfl
         rotate_left
         · simp only [Act.put, sx0, sx1, sx2, i64_w, i32_w]
           rfl
         refine take_ (i := 27) (N := some 30) (v := ?_) (a' := ?_) (bq [28, 24]) rfl rfl (take_ofW HT_.out HW_.out (by kernel_rfl)) (fun _ _ _ h => h) (Or.inl ⟨by rfl, ?_⟩) hHeld ?_ ?_
         rotate_left
         · rintro w' ⟨s0, s1, s2, s3, s4, s5⟩
           go_simp
           with_reducible rfl
         rotate_left
         · simp only [Act.put, sx0, sx1, sx2, i64_w, i32_w]
           rfl
         refine pV_ (i := 28) (N := some 31) (bq [29, 23]) rfl rfl HT_.out ?_
         refine pV_ (i := 29) (N := some 32) (bq [30, 22]) rfl rfl HT_.out ?_
         refine pV_ (i := 30) (N := some 33) (bq [31, 21]) rfl rfl HT_.out ?_
         refine pU_ (i := 31) (N := some 34) (bq [32, 20]) rfl rfl HT_.out ?_
         refine pU_ (i := 32) (N := some 35) (bq [33, 19]) rfl rfl HT_.out ?_
         refine pU_ (i := 33) (N := some 36) (bq [34, 18]) rfl rfl HT_.out ?_
         refine pU_ (i := 34) (N := some 37) (bq [35, 17]) rfl rfl HT_.out ?_
         refine pU_ (i := 35) (N := some 38) (bq [36, 16]) rfl rfl HT_.out ?_
         refine pV_ (i := 36) (N := some 39) (bq [37, 15]) rfl rfl HT_.out ?_
         refine pV_ (i := 37) (N := some 40) (bq [38, 14]) rfl rfl HT_.out ?_
         refine pU_ (i := 38) (N := some 41) (bq [39, 13]) rfl rfl HT_.out ?_
         refine pU_ (i := 39) (N := some 42) (bq [40, 12]) rfl rfl HT_.out ?_
         refine pU_ (i := 40) (N := some 43) (bq [41, 11]) rfl rfl HT_.out ?_
         refine pU_ (i := 41) (N := some 44) (bq [42, 10]) rfl rfl HT_.out ?_
         refine pU_ (i := 42) (N := some 45) (bq [43, 9]) rfl rfl HT_.out ?_
         refine pV_ (i := 43) (N := some 46) (bq [44, 8]) rfl rfl HT_.out ?_
         refine pV_ (i := 44) (N := some 47) (bq [45, 7]) rfl rfl HT_.out ?_
         refine pU_ (i := 45) (N := some 48) (bq [46, 6]) rfl rfl HT_.out ?_
         refine pU_ (i := 46) (N := some 49) (bq [47, 5]) rfl rfl HT_.out ?_
         refine pU_ (i := 47) (N := some 50) (bq [48, 4]) rfl rfl HT_.out ?_
         refine pU_ (i := 48) (N := some 51) (bq [49, 3]) rfl rfl HT_.out ?_
         refine pU_ (i := 49) (N := some 52) (bq [50, 2]) rfl rfl HT_.out ?_
         refine pV_ (i := 50) (N := some 53) (bq [51, 1]) rfl rfl HT_.out ?_
         refine pV_ (i := 51) (N := some 2) (bq [52]) rfl rfl HT_.out ?_
         refine done_ (done_of HT_.out (by kernel_rfl)) ?_
         try go_wp2
         go_ret
         exact ⟨by first | rfl | (simp [errW_none, errW_some] <;> rfl) | (simp [*, errW_none, errW_some] <;> rfl), by repeat (first | (with_reducible first | exact HB.out | apply qba | apply qbn | apply qb1) | exact HB.out)⟩
       · rw [if_neg c8] at H
         have c8b0 : (((rd_T43 l0 0).f1) == ((rd_T43 l0 0).f2)) = false := beq_eq_false_iff_ne.mpr c8
         have c8b1 : (((rd_T43 l0 0).f1) != ((rd_T43 l0 0).f2)) = true := bne_iff_ne.mpr c8
         replace H := Option.bind_eq_some_iff.mp H
         obtain ⟨t246, A100, H⟩ := H
         replace H : (if t246 = true then ((spec_l00In.f ((rd_T43 l0 0).f4) 1 240).bind fun t247 => (if t247 = true then ((spec_l00In.f ((rd_T43 l0 0).f5) 0 1000).bind fun t248 => (some t248)) else (some false))) else (some false)) = some r := H
         have A10 := Aside0.mk A100
         clear A100
         by_cases c11 : t246 = true
         · subst c11
           have H1 : ((spec_l00In.f ((rd_T43 l0 0).f4) 1 240).bind fun t247 => (if t247 = true then ((spec_l00In.f ((rd_T43 l0 0).f5) 0 1000).bind fun t248 => (some t248)) else (some false))) = some r := by rw [if_pos rfl] at H; exact H
           clear H
           have H := H1
           clear H1
           replace H := Option.bind_eq_some_iff.mp H
           obtain ⟨t247, A120, H⟩ := H
           replace H : (if t247 = true then ((spec_l00In.f ((rd_T43 l0 0).f5) 0 1000).bind fun t248 => (some t248)) else (some false)) = some r := H
           have A12 := Aside0.mk A120
           clear A120
           by_cases c13 : t247 = true
           · subst c13
             have H1 : ((spec_l00In.f ((rd_T43 l0 0).f5) 0 1000).bind fun t248 => (some t248)) = some r := by rw [if_pos rfl] at H; exact H
             clear H
             have H := H1
             clear H1
             replace H := Option.bind_eq_some_iff.mp H
             obtain ⟨t248, A140, H⟩ := H
             replace H : (some t248) = some r := H
             have A14 := Aside0.mk A140
             clear A140
             obtain rfl := Option.some.inj H
             go_enter Try.func89, Try.ntmps89
             try go_wp2
             have n0_ := Aside0.mk (below_drew1 HB.out)
             clear HB
             have HB := n0_
             clear n0_
             have p242 : 0 ≤ (0 : Int) := (by omega)
             have q242 : 0 < (l0.length : Int) := of_decide_eq_true (by first | (with_reducible assumption) | assumption)
             obtain ⟨ad242, e242, hx242_0, hx242_1, hx242_2, hx242_3, hx242_4, hx242_5⟩ := at_T43 HR0.out 0 p242 q242
             have hw242_5 := hx242_5
             (try rw [show ((0 : Int)).toNat = 0 from rfl] at hw242_5)
             (try rw [show 0 * 6 = 0 from rfl] at hw242_5)
             (try rw [Addr.add_zero'] at hw242_5)
             have hw242_4 := hx242_4
             (try rw [show ((0 : Int)).toNat = 0 from rfl] at hw242_4)
             (try rw [show 0 * 6 = 0 from rfl] at hw242_4)
             (try rw [Addr.add_zero'] at hw242_4)
             have hw242_3 := hx242_3
             (try rw [show ((0 : Int)).toNat = 0 from rfl] at hw242_3)
             (try rw [show 0 * 6 = 0 from rfl] at hw242_3)
             (try rw [Addr.add_zero'] at hw242_3)
             have hw242_2 := hx242_2
             (try rw [show ((0 : Int)).toNat = 0 from rfl] at hw242_2)
             (try rw [show 0 * 6 = 0 from rfl] at hw242_2)
             (try rw [Addr.add_zero'] at hw242_2)
             have hw242_1 := hx242_1
             (try rw [show ((0 : Int)).toNat = 0 from rfl] at hw242_1)
             (try rw [show 0 * 6 = 0 from rfl] at hw242_1)
             (try rw [Addr.add_zero'] at hw242_1)
             have hw242_0 := hx242_0
             (try rw [show ((0 : Int)).toNat = 0 from rfl] at hw242_0)
             (try rw [show 0 * 6 = 0 from rfl] at hw242_0)
             (try rw [Addr.add_zero'] at hw242_0)
             cases e242
             have qi242 : (0 < l0.length) = True := eq_true (by omega)
             (try rw [show ((0 : Int)).toNat = 0 from rfl] at hx242_0)
             (try rw [show 0 * 6 = 0 from rfl] at hx242_0)
             (try rw [Addr.add_zero'] at hx242_0)
             (try rw [show ((0 : Int)).toNat = 0 from rfl] at hx242_1)
             (try rw [show 0 * 6 = 0 from rfl] at hx242_1)
             (try rw [Addr.add_zero'] at hx242_1)
             (try rw [show ((0 : Int)).toNat = 0 from rfl] at hx242_2)
             (try rw [show 0 * 6 = 0 from rfl] at hx242_2)
             (try rw [Addr.add_zero'] at hx242_2)
             (try rw [show ((0 : Int)).toNat = 0 from rfl] at hx242_3)
             (try rw [show 0 * 6 = 0 from rfl] at hx242_3)
             (try rw [Addr.add_zero'] at hx242_3)
             (try rw [show ((0 : Int)).toNat = 0 from rfl] at hx242_4)
             (try rw [show 0 * 6 = 0 from rfl] at hx242_4)
             (try rw [Addr.add_zero'] at hx242_4)
             (try rw [show ((0 : Int)).toNat = 0 from rfl] at hx242_5)
             (try rw [show 0 * 6 = 0 from rfl] at hx242_5)
             (try rw [Addr.add_zero'] at hx242_5)
             replace hx242_0 := (HB.out.cell (World.block_lt_of_cell? w _ hx242_0)).trans hx242_0
             replace hx242_1 := (HB.out.cell (World.block_lt_of_cell? w _ hx242_1)).trans hx242_1
             replace hx242_2 := (HB.out.cell (World.block_lt_of_cell? w _ hx242_2)).trans hx242_2
             replace hx242_3 := (HB.out.cell (World.block_lt_of_cell? w _ hx242_3)).trans hx242_3
             replace hx242_4 := (HB.out.cell (World.block_lt_of_cell? w _ hx242_4)).trans hx242_4
             replace hx242_5 := (HB.out.cell (World.block_lt_of_cell? w _ hx242_5)).trans hx242_5
             replace p242 := eq_true p242
             replace q242 := eq_true q242
             refine start_ (n := 52) (S := fun w' => w'.cell? ad242 = some (.string ((rd_T43 l0 0).f0)) ∧ w'.cell? ⟨ad242.block, ad242.off + 1, none⟩ = some (.int .i64 ((rd_T43 l0 0).f1)) ∧ w'.cell? ⟨ad242.block, ad242.off + 2, none⟩ = some (.int .i64 ((rd_T43 l0 0).f2)) ∧ w'.cell? ⟨ad242.block, ad242.off + 3, none⟩ = some (.int .i64 ((rd_T43 l0 0).f3)) ∧ w'.cell? ⟨ad242.block, ad242.off + 4, none⟩ = some (.int .i64 ((rd_T43 l0 0).f4)) ∧ w'.cell? ⟨ad242.block, ad242.off + 5, none⟩ = some (.int .i64 ((rd_T43 l0 0).f5))) (ds := []) (bq [0, 52]) (by kernel_rfl) rfl rfl ⟨((HB.out.cell (World.block_lt_of_cell? w _ hw242_0)).trans hw242_0), ((HB.out.cell (World.block_lt_of_cell? w _ hw242_1)).trans hw242_1), ((HB.out.cell (World.block_lt_of_cell? w _ hw242_2)).trans hw242_2), ((HB.out.cell (World.block_lt_of_cell? w _ hw242_3)).trans hw242_3), ((HB.out.cell (World.block_lt_of_cell? w _ hw242_4)).trans hw242_4), ((HB.out.cell (World.block_lt_of_cell? w _ hw242_5)).trans hw242_5)⟩ (fun hHeld => ?_); refine with_tabW spec_l08One.tab1 spec_l08One.bits1 (fun HT_ HW_ => ?_)
             generalize w.drew = w15 at HB hx242_0 hx242_1 hx242_2 hx242_3 hx242_4 hx242_5 hHeld ⊢
             refine pV_ (i := 0) (N := some 3) (bq [1, 51]) rfl rfl HT_.out ?_
             refine pV_ (i := 1) (N := some 4) (bq [2, 50]) rfl rfl HT_.out ?_
             refine pV_ (i := 2) (N := some 5) (bq [3, 49]) rfl rfl HT_.out ?_
             refine take_ (i := 3) (N := some 6) (v := ?_) (a' := ?_) (bq [4, 48]) rfl rfl (take_ofW HT_.out HW_.out (by kernel_rfl)) (fun _ _ _ h => h) (Or.inl ⟨by rfl, ?_⟩) hHeld ?_ ?_
             rotate_left
             · rintro w' ⟨s0, s1, s2, s3, s4, s5⟩
               go_simp
               with_reducible rfl
             rotate_left
             · simp only [Act.put, sx0, sx1, sx2, i64_w, i32_w]
               rfl
             refine one_ (i := 4) (N := some 7) (bq [5, 47]) rfl rfl (one_of HT_.out (by kernel_rfl)) (by decide) (fun K hK => ?_)
             refine gS_ Try.func150 #[.string ((rd_T43 l0 0).f0)] rfl rfl ?_
             with_reducible refine (spec_l01Name.calls k ((rd_T43 l0 0).f0) true _ A2.out).mono ?_
             rintro e w' ⟨rfl, ⟨nd, rfl⟩⟩
             refine ⟨_, rfl, ?_⟩
             refine hK.out _ _ ⟨((HB.out.cell (World.block_lt_of_cell? w _ hw242_0)).trans hw242_0), ((HB.out.cell (World.block_lt_of_cell? w _ hw242_1)).trans hw242_1), ((HB.out.cell (World.block_lt_of_cell? w _ hw242_2)).trans hw242_2), ((HB.out.cell (World.block_lt_of_cell? w _ hw242_3)).trans hw242_3), ((HB.out.cell (World.block_lt_of_cell? w _ hw242_4)).trans hw242_4), ((HB.out.cell (World.block_lt_of_cell? w _ hw242_5)).trans hw242_5)⟩ (fun hHeld => ?_)
             clear hK K
             refine norm_ (a' := ?_) ?_ ?_
             rotate_left
             · show Act.put _ (some 7) _ = _
               simp only [Act.put, sx0, sx1, sx2, i64_w, i32_w]
               rfl
             refine pV_ (i := 5) (N := some 8) (bq [6, 46]) rfl rfl HT_.out ?_
             refine pV_ (i := 6) (N := some 9) (bq [7, 45]) rfl rfl HT_.out ?_
             refine pV_ (i := 7) (N := some 10) (bq [8, 44]) rfl rfl HT_.out ?_
             refine pV_ (i := 8) (N := some 11) (bq [9, 43]) rfl rfl HT_.out ?_
             refine take_ (i := 9) (N := some 12) (v := ?_) (a' := ?_) (bq [10, 42]) rfl rfl (take_ofW HT_.out HW_.out (by kernel_rfl)) (fun _ _ _ h => h) (Or.inl ⟨by rfl, ?_⟩) hHeld ?_ ?_
             rotate_left
             · rintro w' ⟨s0, s1, s2, s3, s4, s5⟩
               go_simp
               with_reducible rfl
             rotate_left
             · simp only [Act.put, sx0, sx1, sx2, i64_w, i32_w]
               rfl
             refine one_ (i := 10) (N := some 13) (bq [11, 41]) rfl rfl (one_of HT_.out (by kernel_rfl)) (by decide) (fun K hK => ?_)
             refine gS_ Try.func90 #[.int .i64 ((rd_T43 l0 0).f1)] rfl rfl ?_
             with_reducible refine (spec_l08Minute.calls ((rd_T43 l0 0).f1) true _ A4.out).mono ?_
             rintro e w' ⟨rfl, ⟨nd, rfl⟩⟩
             refine ⟨_, rfl, ?_⟩
             refine hK.out _ _ ⟨((HB.out.cell (World.block_lt_of_cell? w _ hw242_0)).trans hw242_0), ((HB.out.cell (World.block_lt_of_cell? w _ hw242_1)).trans hw242_1), ((HB.out.cell (World.block_lt_of_cell? w _ hw242_2)).trans hw242_2), ((HB.out.cell (World.block_lt_of_cell? w _ hw242_3)).trans hw242_3), ((HB.out.cell (World.block_lt_of_cell? w _ hw242_4)).trans hw242_4), ((HB.out.cell (World.block_lt_of_cell? w _ hw242_5)).trans hw242_5)⟩ (fun hHeld => ?_)
             clear hK K
             refine norm_ (a' := ?_) ?_ ?_
             rotate_left
             · show Act.put _ (some 13) _ = _
               simp only [Act.put, sx0, sx1, sx2, i64_w, i32_w]
               rfl
             refine pV_ (i := 11) (N := some 14) (bq [12, 40]) rfl rfl HT_.out ?_
             refine pV_ (i := 12) (N := some 15) (bq [13, 39]) rfl rfl HT_.out ?_
             refine pV_ (i := 13) (N := some 16) (bq [14, 38]) rfl rfl HT_.out ?_
             refine pV_ (i := 14) (N := some 17) (bq [15, 37]) rfl rfl HT_.out ?_
             refine pV_ (i := 15) (N := some 18) (bq [16, 36]) rfl rfl HT_.out ?_
             refine take_ (i := 16) (N := some 19) (v := ?_) (a' := ?_) (bq [17, 35]) rfl rfl (take_ofW HT_.out HW_.out (by kernel_rfl)) (fun _ _ _ h => h) (Or.inl ⟨by rfl, ?_⟩) hHeld ?_ ?_
             rotate_left
             · rintro w' ⟨s0, s1, s2, s3, s4, s5⟩
               go_simp
               with_reducible rfl
             rotate_left
             · simp only [Act.put, sx0, sx1, sx2, i64_w, i32_w]
               rfl
             refine one_ (i := 17) (N := some 20) (bq [18, 34]) rfl rfl (one_of HT_.out (by kernel_rfl)) (by decide) (fun K hK => ?_)
             refine gS_ Try.func90 #[.int .i64 ((rd_T43 l0 0).f2)] rfl rfl ?_
             with_reducible refine (spec_l08Minute.calls ((rd_T43 l0 0).f2) true _ A6.out).mono ?_
             rintro e w' ⟨rfl, ⟨nd, rfl⟩⟩
             refine ⟨_, rfl, ?_⟩
             refine hK.out _ _ ⟨((HB.out.cell (World.block_lt_of_cell? w _ hw242_0)).trans hw242_0), ((HB.out.cell (World.block_lt_of_cell? w _ hw242_1)).trans hw242_1), ((HB.out.cell (World.block_lt_of_cell? w _ hw242_2)).trans hw242_2), ((HB.out.cell (World.block_lt_of_cell? w _ hw242_3)).trans hw242_3), ((HB.out.cell (World.block_lt_of_cell? w _ hw242_4)).trans hw242_4), ((HB.out.cell (World.block_lt_of_cell? w _ hw242_5)).trans hw242_5)⟩ (fun hHeld => ?_)
             clear hK K
             refine norm_ (a' := ?_) ?_ ?_
             rotate_left
             · show Act.put _ (some 20) _ = _
               simp only [Act.put, sx0, sx1, sx2, i64_w, i32_w]
               rfl
             refine pV_ (i := 18) (N := some 21) (bq [19, 33]) rfl rfl HT_.out ?_
             refine pV_ (i := 19) (N := some 22) (bq [20, 32]) rfl rfl HT_.out ?_
             refine pV_ (i := 20) (N := some 23) (bq [21, 31]) rfl rfl HT_.out ?_
             refine pV_ (i := 21) (N := some 24) (bq [22, 30]) rfl rfl HT_.out ?_
             refine pV_ (i := 22) (N := some 25) (bq [23, 29]) rfl rfl HT_.out ?_
             refine pV_ (i := 24) (N := some 27) (bq [23, 1, 1, 27]) rfl rfl HT_.out ?_
             refine pV_ (i := 25) (N := some 28) (bq [23, 1, 2, 26]) rfl rfl HT_.out ?_
             refine pV_ (i := 26) (N := some 29) (bq [23, 1, 3, 25]) rfl rfl HT_.out ?_
             refine take_ (i := 23) (N := some 26) (v := ?_) (a' := ?_) (bq [27, 25]) rfl rfl (take_ofW HT_.out HW_.out (by kernel_rfl)) (fun _ _ _ h => h) (Or.inl ⟨by rfl, ?_⟩) hHeld ?_ ?_
             rotate_left
             · rintro w' ⟨s0, s1, s2, s3, s4, s5⟩
               go_simp
               with_reducible rfl
             rotate_left
             · simp only [Act.put, sx0, sx1, sx2, i64_w, i32_w]
               rfl
             refine take_ (i := 27) (N := some 30) (v := ?_) (a' := ?_) (bq [28, 24]) rfl rfl (take_ofW HT_.out HW_.out (by kernel_rfl)) (fun _ _ _ h => h) (Or.inl ⟨by rfl, ?_⟩) hHeld ?_ ?_
             rotate_left
             · rintro w' ⟨s0, s1, s2, s3, s4, s5⟩
               go_simp
               with_reducible rfl
             rotate_left
             · simp only [Act.put, sx0, sx1, sx2, i64_w, i32_w]
               rfl
             refine pV_ (i := 28) (N := some 31) (bq [29, 23]) rfl rfl HT_.out ?_
             refine pV_ (i := 29) (N := some 32) (bq [30, 22]) rfl rfl HT_.out ?_
             refine pV_ (i := 30) (N := some 33) (bq [31, 21]) rfl rfl HT_.out ?_
             refine pV_ (i := 31) (N := some 34) (bq [32, 20]) rfl rfl HT_.out ?_
             refine pV_ (i := 32) (N := some 35) (bq [33, 19]) rfl rfl HT_.out ?_
             refine pV_ (i := 33) (N := some 36) (bq [34, 18]) rfl rfl HT_.out ?_
             refine take_ (i := 34) (N := some 37) (v := ?_) (a' := ?_) (bq [35, 17]) rfl rfl (take_ofW HT_.out HW_.out (by kernel_rfl)) (fun _ _ _ h => h) (Or.inl ⟨by rfl, ?_⟩) hHeld ?_ ?_
             rotate_left
             · rintro w' ⟨s0, s1, s2, s3, s4, s5⟩
               go_simp
               with_reducible rfl
             rotate_left
             · simp only [Act.put, sx0, sx1, sx2, i64_w, i32_w]
               rfl
             refine one_ (i := 35) (N := some 38) (bq [36, 16]) rfl rfl (one_of HT_.out (by kernel_rfl)) (by decide) (fun K hK => ?_)
             refine gS_ Try.func102 #[.int .i64 ((rd_T43 l0 0).f3), .int .i64 (-1), .int .i64 5] rfl rfl ?_
             with_reducible refine (spec_l00In.calls ((rd_T43 l0 0).f3) (-1) 5 true _ A10.out).mono ?_
             rintro e w' ⟨rfl, ⟨nd, rfl⟩⟩
             refine ⟨_, rfl, ?_⟩
             refine hK.out _ _ ⟨((HB.out.cell (World.block_lt_of_cell? w _ hw242_0)).trans hw242_0), ((HB.out.cell (World.block_lt_of_cell? w _ hw242_1)).trans hw242_1), ((HB.out.cell (World.block_lt_of_cell? w _ hw242_2)).trans hw242_2), ((HB.out.cell (World.block_lt_of_cell? w _ hw242_3)).trans hw242_3), ((HB.out.cell (World.block_lt_of_cell? w _ hw242_4)).trans hw242_4), ((HB.out.cell (World.block_lt_of_cell? w _ hw242_5)).trans hw242_5)⟩ (fun hHeld => ?_)
             clear hK K
             refine norm_ (a' := ?_) ?_ ?_
             rotate_left
             · show Act.put _ (some 38) _ = _
               simp only [Act.put, sx0, sx1, sx2, i64_w, i32_w]
               rfl
             refine pV_ (i := 36) (N := some 39) (bq [37, 15]) rfl rfl HT_.out ?_
             refine pV_ (i := 37) (N := some 40) (bq [38, 14]) rfl rfl HT_.out ?_
             refine pV_ (i := 38) (N := some 41) (bq [39, 13]) rfl rfl HT_.out ?_
             refine pV_ (i := 39) (N := some 42) (bq [40, 12]) rfl rfl HT_.out ?_
             refine pV_ (i := 40) (N := some 43) (bq [41, 11]) rfl rfl HT_.out ?_
             refine take_ (i := 41) (N := some 44) (v := ?_) (a' := ?_) (bq [42, 10]) rfl rfl (take_ofW HT_.out HW_.out (by kernel_rfl)) (fun _ _ _ h => h) (Or.inl ⟨by rfl, ?_⟩) hHeld ?_ ?_
             rotate_left
             · rintro w' ⟨s0, s1, s2, s3, s4, s5⟩
               go_simp
               with_reducible rfl
             rotate_left
             · simp only [Act.put, sx0, sx1, sx2, i64_w, i32_w]
               rfl
             refine one_ (i := 42) (N := some 45) (bq [43, 9]) rfl rfl (one_of HT_.out (by kernel_rfl)) (by decide) (fun K hK => ?_)
             refine gS_ Try.func102 #[.int .i64 ((rd_T43 l0 0).f4), .int .i64 1, .int .i64 240] rfl rfl ?_
             with_reducible refine (spec_l00In.calls ((rd_T43 l0 0).f4) 1 240 true _ A12.out).mono ?_
             rintro e w' ⟨rfl, ⟨nd, rfl⟩⟩
             refine ⟨_, rfl, ?_⟩
             refine hK.out _ _ ⟨((HB.out.cell (World.block_lt_of_cell? w _ hw242_0)).trans hw242_0), ((HB.out.cell (World.block_lt_of_cell? w _ hw242_1)).trans hw242_1), ((HB.out.cell (World.block_lt_of_cell? w _ hw242_2)).trans hw242_2), ((HB.out.cell (World.block_lt_of_cell? w _ hw242_3)).trans hw242_3), ((HB.out.cell (World.block_lt_of_cell? w _ hw242_4)).trans hw242_4), ((HB.out.cell (World.block_lt_of_cell? w _ hw242_5)).trans hw242_5)⟩ (fun hHeld => ?_)
             clear hK K
             refine norm_ (a' := ?_) ?_ ?_
             rotate_left
             · show Act.put _ (some 45) _ = _
               simp only [Act.put, sx0, sx1, sx2, i64_w, i32_w]
               rfl
             refine pV_ (i := 43) (N := some 46) (bq [44, 8]) rfl rfl HT_.out ?_
             refine pV_ (i := 44) (N := some 47) (bq [45, 7]) rfl rfl HT_.out ?_
             refine pV_ (i := 45) (N := some 48) (bq [46, 6]) rfl rfl HT_.out ?_
             refine pV_ (i := 46) (N := some 49) (bq [47, 5]) rfl rfl HT_.out ?_
             refine pV_ (i := 47) (N := some 50) (bq [48, 4]) rfl rfl HT_.out ?_
             refine take_ (i := 48) (N := some 51) (v := ?_) (a' := ?_) (bq [49, 3]) rfl rfl (take_ofW HT_.out HW_.out (by kernel_rfl)) (fun _ _ _ h => h) (Or.inl ⟨by rfl, ?_⟩) hHeld ?_ ?_
             rotate_left
             · rintro w' ⟨s0, s1, s2, s3, s4, s5⟩
               go_simp
               with_reducible rfl
             rotate_left
             · simp only [Act.put, sx0, sx1, sx2, i64_w, i32_w]
               rfl
             refine one_ (i := 49) (N := some 52) (bq [50, 2]) rfl rfl (one_of HT_.out (by kernel_rfl)) (by decide) (fun K hK => ?_)
             refine gS_ Try.func102 #[.int .i64 ((rd_T43 l0 0).f5), .int .i64 0, .int .i64 1000] rfl rfl ?_
             with_reducible refine (spec_l00In.calls ((rd_T43 l0 0).f5) 0 1000 t248 _ A14.out).mono ?_
             rintro e w' ⟨rfl, ⟨nd, rfl⟩⟩
             refine ⟨_, rfl, ?_⟩
             refine hK.out _ _ ⟨((HB.out.cell (World.block_lt_of_cell? w _ hw242_0)).trans hw242_0), ((HB.out.cell (World.block_lt_of_cell? w _ hw242_1)).trans hw242_1), ((HB.out.cell (World.block_lt_of_cell? w _ hw242_2)).trans hw242_2), ((HB.out.cell (World.block_lt_of_cell? w _ hw242_3)).trans hw242_3), ((HB.out.cell (World.block_lt_of_cell? w _ hw242_4)).trans hw242_4), ((HB.out.cell (World.block_lt_of_cell? w _ hw242_5)).trans hw242_5)⟩ (fun hHeld => ?_)
             clear hK K
             refine norm_ (a' := ?_) ?_ ?_
             rotate_left
             · show Act.put _ (some 52) _ = _
               simp only [Act.put, sx0, sx1, sx2, i64_w, i32_w]
               rfl
             refine pV_ (i := 50) (N := some 53) (bq [51, 1]) rfl rfl HT_.out ?_
             refine pV_ (i := 51) (N := some 2) (bq [52]) rfl rfl HT_.out ?_
             refine done_ (done_of HT_.out (by kernel_rfl)) ?_
             try go_wp2
             go_ret
             exact ⟨by first | rfl | (simp [errW_none, errW_some] <;> rfl) | (simp [*, errW_none, errW_some] <;> rfl), by repeat (first | (with_reducible first | exact HB.out | apply qba | apply qbn | apply qb1) | exact HB.out)⟩
           · replace c13 := Bool.eq_false_iff.mpr c13
             subst c13
             have H1 : (some false) = some r := by rw [if_neg (show ¬ (false = true) by decide)] at H; exact H
             clear H
             have H := H1
             clear H1
             obtain rfl := Option.some.inj H
             go_enter Try.func89, Try.ntmps89
             try go_wp2
             have n0_ := Aside0.mk (below_drew1 HB.out)
             clear HB
             have HB := n0_
             clear n0_
             have p242 : 0 ≤ (0 : Int) := (by omega)
             have q242 : 0 < (l0.length : Int) := of_decide_eq_true (by first | (with_reducible assumption) | assumption)
             obtain ⟨ad242, e242, hx242_0, hx242_1, hx242_2, hx242_3, hx242_4, hx242_5⟩ := at_T43 HR0.out 0 p242 q242
             have hw242_5 := hx242_5
             (try rw [show ((0 : Int)).toNat = 0 from rfl] at hw242_5)
             (try rw [show 0 * 6 = 0 from rfl] at hw242_5)
             (try rw [Addr.add_zero'] at hw242_5)
             have hw242_4 := hx242_4
             (try rw [show ((0 : Int)).toNat = 0 from rfl] at hw242_4)
             (try rw [show 0 * 6 = 0 from rfl] at hw242_4)
             (try rw [Addr.add_zero'] at hw242_4)
             have hw242_3 := hx242_3
             (try rw [show ((0 : Int)).toNat = 0 from rfl] at hw242_3)
             (try rw [show 0 * 6 = 0 from rfl] at hw242_3)
             (try rw [Addr.add_zero'] at hw242_3)
             have hw242_2 := hx242_2
             (try rw [show ((0 : Int)).toNat = 0 from rfl] at hw242_2)
             (try rw [show 0 * 6 = 0 from rfl] at hw242_2)
             (try rw [Addr.add_zero'] at hw242_2)
             have hw242_1 := hx242_1
             (try rw [show ((0 : Int)).toNat = 0 from rfl] at hw242_1)
             (try rw [show 0 * 6 = 0 from rfl] at hw242_1)
             (try rw [Addr.add_zero'] at hw242_1)
             have hw242_0 := hx242_0
             (try rw [show ((0 : Int)).toNat = 0 from rfl] at hw242_0)
             (try rw [show 0 * 6 = 0 from rfl] at hw242_0)
             (try rw [Addr.add_zero'] at hw242_0)
             cases e242
             have qi242 : (0 < l0.length) = True := eq_true (by omega)
             (try rw [show ((0 : Int)).toNat = 0 from rfl] at hx242_0)
             (try rw [show 0 * 6 = 0 from rfl] at hx242_0)
             (try rw [Addr.add_zero'] at hx242_0)
             (try rw [show ((0 : Int)).toNat = 0 from rfl] at hx242_1)
             (try rw [show 0 * 6 = 0 from rfl] at hx242_1)
             (try rw [Addr.add_zero'] at hx242_1)
             (try rw [show ((0 : Int)).toNat = 0 from rfl] at hx242_2)
             (try rw [show 0 * 6 = 0 from rfl] at hx242_2)
             (try rw [Addr.add_zero'] at hx242_2)
             (try rw [show ((0 : Int)).toNat = 0 from rfl] at hx242_3)
             (try rw [show 0 * 6 = 0 from rfl] at hx242_3)
             (try rw [Addr.add_zero'] at hx242_3)
             (try rw [show ((0 : Int)).toNat = 0 from rfl] at hx242_4)
             (try rw [show 0 * 6 = 0 from rfl] at hx242_4)
             (try rw [Addr.add_zero'] at hx242_4)
             (try rw [show ((0 : Int)).toNat = 0 from rfl] at hx242_5)
             (try rw [show 0 * 6 = 0 from rfl] at hx242_5)
             (try rw [Addr.add_zero'] at hx242_5)
             replace hx242_0 := (HB.out.cell (World.block_lt_of_cell? w _ hx242_0)).trans hx242_0
             replace hx242_1 := (HB.out.cell (World.block_lt_of_cell? w _ hx242_1)).trans hx242_1
             replace hx242_2 := (HB.out.cell (World.block_lt_of_cell? w _ hx242_2)).trans hx242_2
             replace hx242_3 := (HB.out.cell (World.block_lt_of_cell? w _ hx242_3)).trans hx242_3
             replace hx242_4 := (HB.out.cell (World.block_lt_of_cell? w _ hx242_4)).trans hx242_4
             replace hx242_5 := (HB.out.cell (World.block_lt_of_cell? w _ hx242_5)).trans hx242_5
             replace p242 := eq_true p242
             replace q242 := eq_true q242
             refine start_ (n := 52) (S := fun w' => w'.cell? ad242 = some (.string ((rd_T43 l0 0).f0)) ∧ w'.cell? ⟨ad242.block, ad242.off + 1, none⟩ = some (.int .i64 ((rd_T43 l0 0).f1)) ∧ w'.cell? ⟨ad242.block, ad242.off + 2, none⟩ = some (.int .i64 ((rd_T43 l0 0).f2)) ∧ w'.cell? ⟨ad242.block, ad242.off + 3, none⟩ = some (.int .i64 ((rd_T43 l0 0).f3)) ∧ w'.cell? ⟨ad242.block, ad242.off + 4, none⟩ = some (.int .i64 ((rd_T43 l0 0).f4)) ∧ w'.cell? ⟨ad242.block, ad242.off + 5, none⟩ = some (.int .i64 ((rd_T43 l0 0).f5))) (ds := []) (bq [0, 52]) (by kernel_rfl) rfl rfl ⟨((HB.out.cell (World.block_lt_of_cell? w _ hw242_0)).trans hw242_0), ((HB.out.cell (World.block_lt_of_cell? w _ hw242_1)).trans hw242_1), ((HB.out.cell (World.block_lt_of_cell? w _ hw242_2)).trans hw242_2), ((HB.out.cell (World.block_lt_of_cell? w _ hw242_3)).trans hw242_3), ((HB.out.cell (World.block_lt_of_cell? w _ hw242_4)).trans hw242_4), ((HB.out.cell (World.block_lt_of_cell? w _ hw242_5)).trans hw242_5)⟩ (fun hHeld => ?_); refine with_tabW spec_l08One.tab1 spec_l08One.bits1 (fun HT_ HW_ => ?_)
             generalize w.drew = w16 at HB hx242_0 hx242_1 hx242_2 hx242_3 hx242_4 hx242_5 hHeld ⊢
             refine pV_ (i := 0) (N := some 3) (bq [1, 51]) rfl rfl HT_.out ?_
             refine pV_ (i := 1) (N := some 4) (bq [2, 50]) rfl rfl HT_.out ?_
             refine pV_ (i := 2) (N := some 5) (bq [3, 49]) rfl rfl HT_.out ?_
             refine take_ (i := 3) (N := some 6) (v := ?_) (a' := ?_) (bq [4, 48]) rfl rfl (take_ofW HT_.out HW_.out (by kernel_rfl)) (fun _ _ _ h => h) (Or.inl ⟨by rfl, ?_⟩) hHeld ?_ ?_
             rotate_left
             · rintro w' ⟨s0, s1, s2, s3, s4, s5⟩
               go_simp
               with_reducible rfl
             rotate_left
             · simp only [Act.put, sx0, sx1, sx2, i64_w, i32_w]
               rfl
             refine one_ (i := 4) (N := some 7) (bq [5, 47]) rfl rfl (one_of HT_.out (by kernel_rfl)) (by decide) (fun K hK => ?_)
             refine gS_ Try.func150 #[.string ((rd_T43 l0 0).f0)] rfl rfl ?_
             with_reducible refine (spec_l01Name.calls k ((rd_T43 l0 0).f0) true _ A2.out).mono ?_
             rintro e w' ⟨rfl, ⟨nd, rfl⟩⟩
             refine ⟨_, rfl, ?_⟩
             refine hK.out _ _ ⟨((HB.out.cell (World.block_lt_of_cell? w _ hw242_0)).trans hw242_0), ((HB.out.cell (World.block_lt_of_cell? w _ hw242_1)).trans hw242_1), ((HB.out.cell (World.block_lt_of_cell? w _ hw242_2)).trans hw242_2), ((HB.out.cell (World.block_lt_of_cell? w _ hw242_3)).trans hw242_3), ((HB.out.cell (World.block_lt_of_cell? w _ hw242_4)).trans hw242_4), ((HB.out.cell (World.block_lt_of_cell? w _ hw242_5)).trans hw242_5)⟩ (fun hHeld => ?_)
             clear hK K
             refine norm_ (a' := ?_) ?_ ?_
             rotate_left
             · show Act.put _ (some 7) _ = _
               simp only [Act.put, sx0, sx1, sx2, i64_w, i32_w]
               rfl
             refine pV_ (i := 5) (N := some 8) (bq [6, 46]) rfl rfl HT_.out ?_
             refine pV_ (i := 6) (N := some 9) (bq [7, 45]) rfl rfl HT_.out ?_
             refine pV_ (i := 7) (N := some 10) (bq [8, 44]) rfl rfl HT_.out ?_
             refine pV_ (i := 8) (N := some 11) (bq [9, 43]) rfl rfl HT_.out ?_
             refine take_ (i := 9) (N := some 12) (v := ?_) (a' := ?_) (bq [10, 42]) rfl rfl (take_ofW HT_.out HW_.out (by kernel_rfl)) (fun _ _ _ h => h) (Or.inl ⟨by rfl, ?_⟩) hHeld ?_ ?_
             rotate_left
             · rintro w' ⟨s0, s1, s2, s3, s4, s5⟩
               go_simp
               with_reducible rfl
             rotate_left
             · simp only [Act.put, sx0, sx1, sx2, i64_w, i32_w]
               rfl
             refine one_ (i := 10) (N := some 13) (bq [11, 41]) rfl rfl (one_of HT_.out (by kernel_rfl)) (by decide) (fun K hK => ?_)
             refine gS_ Try.func90 #[.int .i64 ((rd_T43 l0 0).f1)] rfl rfl ?_
             with_reducible refine (spec_l08Minute.calls ((rd_T43 l0 0).f1) true _ A4.out).mono ?_
             rintro e w' ⟨rfl, ⟨nd, rfl⟩⟩
             refine ⟨_, rfl, ?_⟩
             refine hK.out _ _ ⟨((HB.out.cell (World.block_lt_of_cell? w _ hw242_0)).trans hw242_0), ((HB.out.cell (World.block_lt_of_cell? w _ hw242_1)).trans hw242_1), ((HB.out.cell (World.block_lt_of_cell? w _ hw242_2)).trans hw242_2), ((HB.out.cell (World.block_lt_of_cell? w _ hw242_3)).trans hw242_3), ((HB.out.cell (World.block_lt_of_cell? w _ hw242_4)).trans hw242_4), ((HB.out.cell (World.block_lt_of_cell? w _ hw242_5)).trans hw242_5)⟩ (fun hHeld => ?_)
             clear hK K
             refine norm_ (a' := ?_) ?_ ?_
             rotate_left
             · show Act.put _ (some 13) _ = _
               simp only [Act.put, sx0, sx1, sx2, i64_w, i32_w]
               rfl
             refine pV_ (i := 11) (N := some 14) (bq [12, 40]) rfl rfl HT_.out ?_
             refine pV_ (i := 12) (N := some 15) (bq [13, 39]) rfl rfl HT_.out ?_
             refine pV_ (i := 13) (N := some 16) (bq [14, 38]) rfl rfl HT_.out ?_
             refine pV_ (i := 14) (N := some 17) (bq [15, 37]) rfl rfl HT_.out ?_
             refine pV_ (i := 15) (N := some 18) (bq [16, 36]) rfl rfl HT_.out ?_
             refine take_ (i := 16) (N := some 19) (v := ?_) (a' := ?_) (bq [17, 35]) rfl rfl (take_ofW HT_.out HW_.out (by kernel_rfl)) (fun _ _ _ h => h) (Or.inl ⟨by rfl, ?_⟩) hHeld ?_ ?_
             rotate_left
             · rintro w' ⟨s0, s1, s2, s3, s4, s5⟩
               go_simp
               with_reducible rfl
             rotate_left
             · simp only [Act.put, sx0, sx1, sx2, i64_w, i32_w]
               rfl
             refine one_ (i := 17) (N := some 20) (bq [18, 34]) rfl rfl (one_of HT_.out (by kernel_rfl)) (by decide) (fun K hK => ?_)
             refine gS_ Try.func90 #[.int .i64 ((rd_T43 l0 0).f2)] rfl rfl ?_
             with_reducible refine (spec_l08Minute.calls ((rd_T43 l0 0).f2) true _ A6.out).mono ?_
             rintro e w' ⟨rfl, ⟨nd, rfl⟩⟩
             refine ⟨_, rfl, ?_⟩
             refine hK.out _ _ ⟨((HB.out.cell (World.block_lt_of_cell? w _ hw242_0)).trans hw242_0), ((HB.out.cell (World.block_lt_of_cell? w _ hw242_1)).trans hw242_1), ((HB.out.cell (World.block_lt_of_cell? w _ hw242_2)).trans hw242_2), ((HB.out.cell (World.block_lt_of_cell? w _ hw242_3)).trans hw242_3), ((HB.out.cell (World.block_lt_of_cell? w _ hw242_4)).trans hw242_4), ((HB.out.cell (World.block_lt_of_cell? w _ hw242_5)).trans hw242_5)⟩ (fun hHeld => ?_)
             clear hK K
             refine norm_ (a' := ?_) ?_ ?_
             rotate_left
             · show Act.put _ (some 20) _ = _
               simp only [Act.put, sx0, sx1, sx2, i64_w, i32_w]
               rfl
             refine pV_ (i := 18) (N := some 21) (bq [19, 33]) rfl rfl HT_.out ?_
             refine pV_ (i := 19) (N := some 22) (bq [20, 32]) rfl rfl HT_.out ?_
             refine pV_ (i := 20) (N := some 23) (bq [21, 31]) rfl rfl HT_.out ?_
             refine pV_ (i := 21) (N := some 24) (bq [22, 30]) rfl rfl HT_.out ?_
             refine pV_ (i := 22) (N := some 25) (bq [23, 29]) rfl rfl HT_.out ?_
             refine pV_ (i := 24) (N := some 27) (bq [23, 1, 1, 27]) rfl rfl HT_.out ?_
             refine pV_ (i := 25) (N := some 28) (bq [23, 1, 2, 26]) rfl rfl HT_.out ?_
             refine pV_ (i := 26) (N := some 29) (bq [23, 1, 3, 25]) rfl rfl HT_.out ?_
             refine take_ (i := 23) (N := some 26) (v := ?_) (a' := ?_) (bq [27, 25]) rfl rfl (take_ofW HT_.out HW_.out (by kernel_rfl)) (fun _ _ _ h => h) (Or.inl ⟨by rfl, ?_⟩) hHeld ?_ ?_
             rotate_left
             · rintro w' ⟨s0, s1, s2, s3, s4, s5⟩
               go_simp
               with_reducible rfl
             rotate_left
             · simp only [Act.put, sx0, sx1, sx2, i64_w, i32_w]
               rfl
             refine take_ (i := 27) (N := some 30) (v := ?_) (a' := ?_) (bq [28, 24]) rfl rfl (take_ofW HT_.out HW_.out (by kernel_rfl)) (fun _ _ _ h => h) (Or.inl ⟨by rfl, ?_⟩) hHeld ?_ ?_
             rotate_left
             · rintro w' ⟨s0, s1, s2, s3, s4, s5⟩
               go_simp
               with_reducible rfl
             rotate_left
             · simp only [Act.put, sx0, sx1, sx2, i64_w, i32_w]
               rfl
             refine pV_ (i := 28) (N := some 31) (bq [29, 23]) rfl rfl HT_.out ?_
             refine pV_ (i := 29) (N := some 32) (bq [30, 22]) rfl rfl HT_.out ?_
             refine pV_ (i := 30) (N := some 33) (bq [31, 21]) rfl rfl HT_.out ?_
             refine pV_ (i := 31) (N := some 34) (bq [32, 20]) rfl rfl HT_.out ?_
             refine pV_ (i := 32) (N := some 35) (bq [33, 19]) rfl rfl HT_.out ?_
             refine pV_ (i := 33) (N := some 36) (bq [34, 18]) rfl rfl HT_.out ?_
             refine take_ (i := 34) (N := some 37) (v := ?_) (a' := ?_) (bq [35, 17]) rfl rfl (take_ofW HT_.out HW_.out (by kernel_rfl)) (fun _ _ _ h => h) (Or.inl ⟨by rfl, ?_⟩) hHeld ?_ ?_
             rotate_left
             · rintro w' ⟨s0, s1, s2, s3, s4, s5⟩
               go_simp
               with_reducible rfl
             rotate_left
             · simp only [Act.put, sx0, sx1, sx2, i64_w, i32_w]
               rfl
             refine one_ (i := 35) (N := some 38) (bq [36, 16]) rfl rfl (one_of HT_.out (by kernel_rfl)) (by decide) (fun K hK => ?_)
             refine gS_ Try.func102 #[.int .i64 ((rd_T43 l0 0).f3), .int .i64 (-1), .int .i64 5] rfl rfl ?_
             with_reducible refine (spec_l00In.calls ((rd_T43 l0 0).f3) (-1) 5 true _ A10.out).mono ?_
             rintro e w' ⟨rfl, ⟨nd, rfl⟩⟩
             refine ⟨_, rfl, ?_⟩
             refine hK.out _ _ ⟨((HB.out.cell (World.block_lt_of_cell? w _ hw242_0)).trans hw242_0), ((HB.out.cell (World.block_lt_of_cell? w _ hw242_1)).trans hw242_1), ((HB.out.cell (World.block_lt_of_cell? w _ hw242_2)).trans hw242_2), ((HB.out.cell (World.block_lt_of_cell? w _ hw242_3)).trans hw242_3), ((HB.out.cell (World.block_lt_of_cell? w _ hw242_4)).trans hw242_4), ((HB.out.cell (World.block_lt_of_cell? w _ hw242_5)).trans hw242_5)⟩ (fun hHeld => ?_)
             clear hK K
             refine norm_ (a' := ?_) ?_ ?_
             rotate_left
             · show Act.put _ (some 38) _ = _
               simp only [Act.put, sx0, sx1, sx2, i64_w, i32_w]
               rfl
             refine pV_ (i := 36) (N := some 39) (bq [37, 15]) rfl rfl HT_.out ?_
             refine pV_ (i := 37) (N := some 40) (bq [38, 14]) rfl rfl HT_.out ?_
             refine pV_ (i := 38) (N := some 41) (bq [39, 13]) rfl rfl HT_.out ?_
             refine pV_ (i := 39) (N := some 42) (bq [40, 12]) rfl rfl HT_.out ?_
             refine pV_ (i := 40) (N := some 43) (bq [41, 11]) rfl rfl HT_.out ?_
             refine take_ (i := 41) (N := some 44) (v := ?_) (a' := ?_) (bq [42, 10]) rfl rfl (take_ofW HT_.out HW_.out (by kernel_rfl)) (fun _ _ _ h => h) (Or.inl ⟨by rfl, ?_⟩) hHeld ?_ ?_
             rotate_left
             · rintro w' ⟨s0, s1, s2, s3, s4, s5⟩
               go_simp
               with_reducible rfl
             rotate_left
             · simp only [Act.put, sx0, sx1, sx2, i64_w, i32_w]
               rfl
             refine one_ (i := 42) (N := some 45) (bq [43, 9]) rfl rfl (one_of HT_.out (by kernel_rfl)) (by decide) (fun K hK => ?_)
             refine gS_ Try.func102 #[.int .i64 ((rd_T43 l0 0).f4), .int .i64 1, .int .i64 240] rfl rfl ?_
             with_reducible refine (spec_l00In.calls ((rd_T43 l0 0).f4) 1 240 false _ A12.out).mono ?_
             rintro e w' ⟨rfl, ⟨nd, rfl⟩⟩
             refine ⟨_, rfl, ?_⟩
             refine hK.out _ _ ⟨((HB.out.cell (World.block_lt_of_cell? w _ hw242_0)).trans hw242_0), ((HB.out.cell (World.block_lt_of_cell? w _ hw242_1)).trans hw242_1), ((HB.out.cell (World.block_lt_of_cell? w _ hw242_2)).trans hw242_2), ((HB.out.cell (World.block_lt_of_cell? w _ hw242_3)).trans hw242_3), ((HB.out.cell (World.block_lt_of_cell? w _ hw242_4)).trans hw242_4), ((HB.out.cell (World.block_lt_of_cell? w _ hw242_5)).trans hw242_5)⟩ (fun hHeld => ?_)
             clear hK K
             refine norm_ (a' := ?_) ?_ ?_
             rotate_left
             · show Act.put _ (some 45) _ = _
               simp only [Act.put, sx0, sx1, sx2, i64_w, i32_w]
               rfl
             refine pV_ (i := 43) (N := some 46) (bq [44, 8]) rfl rfl HT_.out ?_
             refine pV_ (i := 44) (N := some 47) (bq [45, 7]) rfl rfl HT_.out ?_
             refine pU_ (i := 45) (N := some 48) (bq [46, 6]) rfl rfl HT_.out ?_
             refine pU_ (i := 46) (N := some 49) (bq [47, 5]) rfl rfl HT_.out ?_
             refine pU_ (i := 47) (N := some 50) (bq [48, 4]) rfl rfl HT_.out ?_
             refine pU_ (i := 48) (N := some 51) (bq [49, 3]) rfl rfl HT_.out ?_
             refine pU_ (i := 49) (N := some 52) (bq [50, 2]) rfl rfl HT_.out ?_
             refine pV_ (i := 50) (N := some 53) (bq [51, 1]) rfl rfl HT_.out ?_
             refine pV_ (i := 51) (N := some 2) (bq [52]) rfl rfl HT_.out ?_
             refine done_ (done_of HT_.out (by kernel_rfl)) ?_
             try go_wp2
             go_ret
             exact ⟨by first | rfl | (simp [errW_none, errW_some] <;> rfl) | (simp [*, errW_none, errW_some] <;> rfl), by repeat (first | (with_reducible first | exact HB.out | apply qba | apply qbn | apply qb1) | exact HB.out)⟩
         · replace c11 := Bool.eq_false_iff.mpr c11
           subst c11
           have H1 : (some false) = some r := by rw [if_neg (show ¬ (false = true) by decide)] at H; exact H
           clear H
           have H := H1
           clear H1
           obtain rfl := Option.some.inj H
           go_enter Try.func89, Try.ntmps89
           try go_wp2
           have n0_ := Aside0.mk (below_drew1 HB.out)
           clear HB
           have HB := n0_
           clear n0_
           have p242 : 0 ≤ (0 : Int) := (by omega)
           have q242 : 0 < (l0.length : Int) := of_decide_eq_true (by first | (with_reducible assumption) | assumption)
           obtain ⟨ad242, e242, hx242_0, hx242_1, hx242_2, hx242_3, hx242_4, hx242_5⟩ := at_T43 HR0.out 0 p242 q242
           have hw242_5 := hx242_5
           (try rw [show ((0 : Int)).toNat = 0 from rfl] at hw242_5)
           (try rw [show 0 * 6 = 0 from rfl] at hw242_5)
           (try rw [Addr.add_zero'] at hw242_5)
           have hw242_4 := hx242_4
           (try rw [show ((0 : Int)).toNat = 0 from rfl] at hw242_4)
           (try rw [show 0 * 6 = 0 from rfl] at hw242_4)
           (try rw [Addr.add_zero'] at hw242_4)
           have hw242_3 := hx242_3
           (try rw [show ((0 : Int)).toNat = 0 from rfl] at hw242_3)
           (try rw [show 0 * 6 = 0 from rfl] at hw242_3)
           (try rw [Addr.add_zero'] at hw242_3)
           have hw242_2 := hx242_2
           (try rw [show ((0 : Int)).toNat = 0 from rfl] at hw242_2)
           (try rw [show 0 * 6 = 0 from rfl] at hw242_2)
           (try rw [Addr.add_zero'] at hw242_2)
           have hw242_1 := hx242_1
           (try rw [show ((0 : Int)).toNat = 0 from rfl] at hw242_1)
           (try rw [show 0 * 6 = 0 from rfl] at hw242_1)
           (try rw [Addr.add_zero'] at hw242_1)
           have hw242_0 := hx242_0
           (try rw [show ((0 : Int)).toNat = 0 from rfl] at hw242_0)
           (try rw [show 0 * 6 = 0 from rfl] at hw242_0)
           (try rw [Addr.add_zero'] at hw242_0)
           cases e242
           have qi242 : (0 < l0.length) = True := eq_true (by omega)
           (try rw [show ((0 : Int)).toNat = 0 from rfl] at hx242_0)
           (try rw [show 0 * 6 = 0 from rfl] at hx242_0)
           (try rw [Addr.add_zero'] at hx242_0)
           (try rw [show ((0 : Int)).toNat = 0 from rfl] at hx242_1)
           (try rw [show 0 * 6 = 0 from rfl] at hx242_1)
           (try rw [Addr.add_zero'] at hx242_1)
           (try rw [show ((0 : Int)).toNat = 0 from rfl] at hx242_2)
           (try rw [show 0 * 6 = 0 from rfl] at hx242_2)
           (try rw [Addr.add_zero'] at hx242_2)
           (try rw [show ((0 : Int)).toNat = 0 from rfl] at hx242_3)
           (try rw [show 0 * 6 = 0 from rfl] at hx242_3)
           (try rw [Addr.add_zero'] at hx242_3)
           (try rw [show ((0 : Int)).toNat = 0 from rfl] at hx242_4)
           (try rw [show 0 * 6 = 0 from rfl] at hx242_4)
           (try rw [Addr.add_zero'] at hx242_4)
           (try rw [show ((0 : Int)).toNat = 0 from rfl] at hx242_5)
           (try rw [show 0 * 6 = 0 from rfl] at hx242_5)
           (try rw [Addr.add_zero'] at hx242_5)
           replace hx242_0 := (HB.out.cell (World.block_lt_of_cell? w _ hx242_0)).trans hx242_0
           replace hx242_1 := (HB.out.cell (World.block_lt_of_cell? w _ hx242_1)).trans hx242_1
           replace hx242_2 := (HB.out.cell (World.block_lt_of_cell? w _ hx242_2)).trans hx242_2
           replace hx242_3 := (HB.out.cell (World.block_lt_of_cell? w _ hx242_3)).trans hx242_3
           replace hx242_4 := (HB.out.cell (World.block_lt_of_cell? w _ hx242_4)).trans hx242_4
           replace hx242_5 := (HB.out.cell (World.block_lt_of_cell? w _ hx242_5)).trans hx242_5
           replace p242 := eq_true p242
           replace q242 := eq_true q242
           refine start_ (n := 52) (S := fun w' => w'.cell? ad242 = some (.string ((rd_T43 l0 0).f0)) ∧ w'.cell? ⟨ad242.block, ad242.off + 1, none⟩ = some (.int .i64 ((rd_T43 l0 0).f1)) ∧ w'.cell? ⟨ad242.block, ad242.off + 2, none⟩ = some (.int .i64 ((rd_T43 l0 0).f2)) ∧ w'.cell? ⟨ad242.block, ad242.off + 3, none⟩ = some (.int .i64 ((rd_T43 l0 0).f3)) ∧ w'.cell? ⟨ad242.block, ad242.off + 4, none⟩ = some (.int .i64 ((rd_T43 l0 0).f4)) ∧ w'.cell? ⟨ad242.block, ad242.off + 5, none⟩ = some (.int .i64 ((rd_T43 l0 0).f5))) (ds := []) (bq [0, 52]) (by kernel_rfl) rfl rfl ⟨((HB.out.cell (World.block_lt_of_cell? w _ hw242_0)).trans hw242_0), ((HB.out.cell (World.block_lt_of_cell? w _ hw242_1)).trans hw242_1), ((HB.out.cell (World.block_lt_of_cell? w _ hw242_2)).trans hw242_2), ((HB.out.cell (World.block_lt_of_cell? w _ hw242_3)).trans hw242_3), ((HB.out.cell (World.block_lt_of_cell? w _ hw242_4)).trans hw242_4), ((HB.out.cell (World.block_lt_of_cell? w _ hw242_5)).trans hw242_5)⟩ (fun hHeld => ?_); refine with_tabW spec_l08One.tab1 spec_l08One.bits1 (fun HT_ HW_ => ?_)
           generalize w.drew = w17 at HB hx242_0 hx242_1 hx242_2 hx242_3 hx242_4 hx242_5 hHeld ⊢
           refine pV_ (i := 0) (N := some 3) (bq [1, 51]) rfl rfl HT_.out ?_
           refine pV_ (i := 1) (N := some 4) (bq [2, 50]) rfl rfl HT_.out ?_
           refine pV_ (i := 2) (N := some 5) (bq [3, 49]) rfl rfl HT_.out ?_
           refine take_ (i := 3) (N := some 6) (v := ?_) (a' := ?_) (bq [4, 48]) rfl rfl (take_ofW HT_.out HW_.out (by kernel_rfl)) (fun _ _ _ h => h) (Or.inl ⟨by rfl, ?_⟩) hHeld ?_ ?_
           rotate_left
           · rintro w' ⟨s0, s1, s2, s3, s4, s5⟩
             go_simp
             with_reducible rfl
           rotate_left
           · simp only [Act.put, sx0, sx1, sx2, i64_w, i32_w]
             rfl
           refine one_ (i := 4) (N := some 7) (bq [5, 47]) rfl rfl (one_of HT_.out (by kernel_rfl)) (by decide) (fun K hK => ?_)
           refine gS_ Try.func150 #[.string ((rd_T43 l0 0).f0)] rfl rfl ?_
           with_reducible refine (spec_l01Name.calls k ((rd_T43 l0 0).f0) true _ A2.out).mono ?_
           rintro e w' ⟨rfl, ⟨nd, rfl⟩⟩
           refine ⟨_, rfl, ?_⟩
           refine hK.out _ _ ⟨((HB.out.cell (World.block_lt_of_cell? w _ hw242_0)).trans hw242_0), ((HB.out.cell (World.block_lt_of_cell? w _ hw242_1)).trans hw242_1), ((HB.out.cell (World.block_lt_of_cell? w _ hw242_2)).trans hw242_2), ((HB.out.cell (World.block_lt_of_cell? w _ hw242_3)).trans hw242_3), ((HB.out.cell (World.block_lt_of_cell? w _ hw242_4)).trans hw242_4), ((HB.out.cell (World.block_lt_of_cell? w _ hw242_5)).trans hw242_5)⟩ (fun hHeld => ?_)
           clear hK K
           refine norm_ (a' := ?_) ?_ ?_
           rotate_left
           · show Act.put _ (some 7) _ = _
             simp only [Act.put, sx0, sx1, sx2, i64_w, i32_w]
             rfl
           refine pV_ (i := 5) (N := some 8) (bq [6, 46]) rfl rfl HT_.out ?_
           refine pV_ (i := 6) (N := some 9) (bq [7, 45]) rfl rfl HT_.out ?_
           refine pV_ (i := 7) (N := some 10) (bq [8, 44]) rfl rfl HT_.out ?_
           refine pV_ (i := 8) (N := some 11) (bq [9, 43]) rfl rfl HT_.out ?_
           refine take_ (i := 9) (N := some 12) (v := ?_) (a' := ?_) (bq [10, 42]) rfl rfl (take_ofW HT_.out HW_.out (by kernel_rfl)) (fun _ _ _ h => h) (Or.inl ⟨by rfl, ?_⟩) hHeld ?_ ?_
           rotate_left
           · rintro w' ⟨s0, s1, s2, s3, s4, s5⟩
             go_simp
             with_reducible rfl
           rotate_left
           · simp only [Act.put, sx0, sx1, sx2, i64_w, i32_w]
             rfl
           refine one_ (i := 10) (N := some 13) (bq [11, 41]) rfl rfl (one_of HT_.out (by kernel_rfl)) (by decide) (fun K hK => ?_)
           refine gS_ Try.func90 #[.int .i64 ((rd_T43 l0 0).f1)] rfl rfl ?_
           with_reducible refine (spec_l08Minute.calls ((rd_T43 l0 0).f1) true _ A4.out).mono ?_
           rintro e w' ⟨rfl, ⟨nd, rfl⟩⟩
           refine ⟨_, rfl, ?_⟩
           refine hK.out _ _ ⟨((HB.out.cell (World.block_lt_of_cell? w _ hw242_0)).trans hw242_0), ((HB.out.cell (World.block_lt_of_cell? w _ hw242_1)).trans hw242_1), ((HB.out.cell (World.block_lt_of_cell? w _ hw242_2)).trans hw242_2), ((HB.out.cell (World.block_lt_of_cell? w _ hw242_3)).trans hw242_3), ((HB.out.cell (World.block_lt_of_cell? w _ hw242_4)).trans hw242_4), ((HB.out.cell (World.block_lt_of_cell? w _ hw242_5)).trans hw242_5)⟩ (fun hHeld => ?_)
           clear hK K
           refine norm_ (a' := ?_) ?_ ?_
           rotate_left
           · show Act.put _ (some 13) _ = _
             simp only [Act.put, sx0, sx1, sx2, i64_w, i32_w]
             rfl
           refine pV_ (i := 11) (N := some 14) (bq [12, 40]) rfl rfl HT_.out ?_
           refine pV_ (i := 12) (N := some 15) (bq [13, 39]) rfl rfl HT_.out ?_
           refine pV_ (i := 13) (N := some 16) (bq [14, 38]) rfl rfl HT_.out ?_
           refine pV_ (i := 14) (N := some 17) (bq [15, 37]) rfl rfl HT_.out ?_
           refine pV_ (i := 15) (N := some 18) (bq [16, 36]) rfl rfl HT_.out ?_
           refine take_ (i := 16) (N := some 19) (v := ?_) (a' := ?_) (bq [17, 35]) rfl rfl (take_ofW HT_.out HW_.out (by kernel_rfl)) (fun _ _ _ h => h) (Or.inl ⟨by rfl, ?_⟩) hHeld ?_ ?_
           rotate_left
           · rintro w' ⟨s0, s1, s2, s3, s4, s5⟩
             go_simp
             with_reducible rfl
           rotate_left
           · simp only [Act.put, sx0, sx1, sx2, i64_w, i32_w]
             rfl
           refine one_ (i := 17) (N := some 20) (bq [18, 34]) rfl rfl (one_of HT_.out (by kernel_rfl)) (by decide) (fun K hK => ?_)
           refine gS_ Try.func90 #[.int .i64 ((rd_T43 l0 0).f2)] rfl rfl ?_
           with_reducible refine (spec_l08Minute.calls ((rd_T43 l0 0).f2) true _ A6.out).mono ?_
           rintro e w' ⟨rfl, ⟨nd, rfl⟩⟩
           refine ⟨_, rfl, ?_⟩
           refine hK.out _ _ ⟨((HB.out.cell (World.block_lt_of_cell? w _ hw242_0)).trans hw242_0), ((HB.out.cell (World.block_lt_of_cell? w _ hw242_1)).trans hw242_1), ((HB.out.cell (World.block_lt_of_cell? w _ hw242_2)).trans hw242_2), ((HB.out.cell (World.block_lt_of_cell? w _ hw242_3)).trans hw242_3), ((HB.out.cell (World.block_lt_of_cell? w _ hw242_4)).trans hw242_4), ((HB.out.cell (World.block_lt_of_cell? w _ hw242_5)).trans hw242_5)⟩ (fun hHeld => ?_)
           clear hK K
           refine norm_ (a' := ?_) ?_ ?_
           rotate_left
           · show Act.put _ (some 20) _ = _
             simp only [Act.put, sx0, sx1, sx2, i64_w, i32_w]
             rfl
           refine pV_ (i := 18) (N := some 21) (bq [19, 33]) rfl rfl HT_.out ?_
           refine pV_ (i := 19) (N := some 22) (bq [20, 32]) rfl rfl HT_.out ?_
           refine pV_ (i := 20) (N := some 23) (bq [21, 31]) rfl rfl HT_.out ?_
           refine pV_ (i := 21) (N := some 24) (bq [22, 30]) rfl rfl HT_.out ?_
           refine pV_ (i := 22) (N := some 25) (bq [23, 29]) rfl rfl HT_.out ?_
           refine pV_ (i := 24) (N := some 27) (bq [23, 1, 1, 27]) rfl rfl HT_.out ?_
           refine pV_ (i := 25) (N := some 28) (bq [23, 1, 2, 26]) rfl rfl HT_.out ?_
           refine pV_ (i := 26) (N := some 29) (bq [23, 1, 3, 25]) rfl rfl HT_.out ?_
           refine take_ (i := 23) (N := some 26) (v := ?_) (a' := ?_) (bq [27, 25]) rfl rfl (take_ofW HT_.out HW_.out (by kernel_rfl)) (fun _ _ _ h => h) (Or.inl ⟨by rfl, ?_⟩) hHeld ?_ ?_
           rotate_left
           · rintro w' ⟨s0, s1, s2, s3, s4, s5⟩
             go_simp
             with_reducible rfl
           rotate_left
           · simp only [Act.put, sx0, sx1, sx2, i64_w, i32_w]
             rfl
           refine take_ (i := 27) (N := some 30) (v := ?_) (a' := ?_) (bq [28, 24]) rfl rfl (take_ofW HT_.out HW_.out (by kernel_rfl)) (fun _ _ _ h => h) (Or.inl ⟨by rfl, ?_⟩) hHeld ?_ ?_
           rotate_left
           · rintro w' ⟨s0, s1, s2, s3, s4, s5⟩
             go_simp
             with_reducible rfl
           rotate_left
           · simp only [Act.put, sx0, sx1, sx2, i64_w, i32_w]
             rfl
           refine pV_ (i := 28) (N := some 31) (bq [29, 23]) rfl rfl HT_.out ?_
           refine pV_ (i := 29) (N := some 32) (bq [30, 22]) rfl rfl HT_.out ?_
           refine pV_ (i := 30) (N := some 33) (bq [31, 21]) rfl rfl HT_.out ?_
           refine pV_ (i := 31) (N := some 34) (bq [32, 20]) rfl rfl HT_.out ?_
           refine pV_ (i := 32) (N := some 35) (bq [33, 19]) rfl rfl HT_.out ?_
           refine pV_ (i := 33) (N := some 36) (bq [34, 18]) rfl rfl HT_.out ?_
           refine take_ (i := 34) (N := some 37) (v := ?_) (a' := ?_) (bq [35, 17]) rfl rfl (take_ofW HT_.out HW_.out (by kernel_rfl)) (fun _ _ _ h => h) (Or.inl ⟨by rfl, ?_⟩) hHeld ?_ ?_
           rotate_left
           · rintro w' ⟨s0, s1, s2, s3, s4, s5⟩
             go_simp
             with_reducible rfl
           rotate_left
           · simp only [Act.put, sx0, sx1, sx2, i64_w, i32_w]
             rfl
           refine one_ (i := 35) (N := some 38) (bq [36, 16]) rfl rfl (one_of HT_.out (by kernel_rfl)) (by decide) (fun K hK => ?_)
           refine gS_ Try.func102 #[.int .i64 ((rd_T43 l0 0).f3), .int .i64 (-1), .int .i64 5] rfl rfl ?_
           with_reducible refine (spec_l00In.calls ((rd_T43 l0 0).f3) (-1) 5 false _ A10.out).mono ?_
           rintro e w' ⟨rfl, ⟨nd, rfl⟩⟩
           refine ⟨_, rfl, ?_⟩
           refine hK.out _ _ ⟨((HB.out.cell (World.block_lt_of_cell? w _ hw242_0)).trans hw242_0), ((HB.out.cell (World.block_lt_of_cell? w _ hw242_1)).trans hw242_1), ((HB.out.cell (World.block_lt_of_cell? w _ hw242_2)).trans hw242_2), ((HB.out.cell (World.block_lt_of_cell? w _ hw242_3)).trans hw242_3), ((HB.out.cell (World.block_lt_of_cell? w _ hw242_4)).trans hw242_4), ((HB.out.cell (World.block_lt_of_cell? w _ hw242_5)).trans hw242_5)⟩ (fun hHeld => ?_)
           clear hK K
           refine norm_ (a' := ?_) ?_ ?_
           rotate_left
           · show Act.put _ (some 38) _ = _
             simp only [Act.put, sx0, sx1, sx2, i64_w, i32_w]
             rfl
           refine pV_ (i := 36) (N := some 39) (bq [37, 15]) rfl rfl HT_.out ?_
           refine pV_ (i := 37) (N := some 40) (bq [38, 14]) rfl rfl HT_.out ?_
           refine pU_ (i := 38) (N := some 41) (bq [39, 13]) rfl rfl HT_.out ?_
           refine pU_ (i := 39) (N := some 42) (bq [40, 12]) rfl rfl HT_.out ?_
           refine pU_ (i := 40) (N := some 43) (bq [41, 11]) rfl rfl HT_.out ?_
           refine pU_ (i := 41) (N := some 44) (bq [42, 10]) rfl rfl HT_.out ?_
           refine pU_ (i := 42) (N := some 45) (bq [43, 9]) rfl rfl HT_.out ?_
           refine pV_ (i := 43) (N := some 46) (bq [44, 8]) rfl rfl HT_.out ?_
           refine pV_ (i := 44) (N := some 47) (bq [45, 7]) rfl rfl HT_.out ?_
           refine pU_ (i := 45) (N := some 48) (bq [46, 6]) rfl rfl HT_.out ?_
           refine pU_ (i := 46) (N := some 49) (bq [47, 5]) rfl rfl HT_.out ?_
           refine pU_ (i := 47) (N := some 50) (bq [48, 4]) rfl rfl HT_.out ?_
           refine pU_ (i := 48) (N := some 51) (bq [49, 3]) rfl rfl HT_.out ?_
           refine pU_ (i := 49) (N := some 52) (bq [50, 2]) rfl rfl HT_.out ?_
           refine pV_ (i := 50) (N := some 53) (bq [51, 1]) rfl rfl HT_.out ?_
           refine pV_ (i := 51) (N := some 2) (bq [52]) rfl rfl HT_.out ?_
           refine done_ (done_of HT_.out (by kernel_rfl)) ?_
           try go_wp2
           go_ret
           exact ⟨by first | rfl | (simp [errW_none, errW_some] <;> rfl) | (simp [*, errW_none, errW_some] <;> rfl), by repeat (first | (with_reducible first | exact HB.out | apply qba | apply qbn | apply qb1) | exact HB.out)⟩
     · replace c7 := Bool.eq_false_iff.mpr c7
       subst c7
       have H1 : (some false) = some r := by rw [if_neg (show ¬ (false = true) by decide)] at H; exact H
       clear H
       have H := H1
       clear H1
       obtain rfl := Option.some.inj H
       go_enter Try.func89, Try.ntmps89
       try go_wp2
       have n0_ := Aside0.mk (below_drew1 HB.out)
       clear HB
       have HB := n0_
       clear n0_
       have p242 : 0 ≤ (0 : Int) := (by omega)
       have q242 : 0 < (l0.length : Int) := of_decide_eq_true (by first | (with_reducible assumption) | assumption)
       obtain ⟨ad242, e242, hx242_0, hx242_1, hx242_2, hx242_3, hx242_4, hx242_5⟩ := at_T43 HR0.out 0 p242 q242
       have hw242_5 := hx242_5
       (try rw [show ((0 : Int)).toNat = 0 from rfl] at hw242_5)
       (try rw [show 0 * 6 = 0 from rfl] at hw242_5)
       (try rw [Addr.add_zero'] at hw242_5)
       have hw242_4 := hx242_4
       (try rw [show ((0 : Int)).toNat = 0 from rfl] at hw242_4)
       (try rw [show 0 * 6 = 0 from rfl] at hw242_4)
       (try rw [Addr.add_zero'] at hw242_4)
       have hw242_3 := hx242_3
       (try rw [show ((0 : Int)).toNat = 0 from rfl] at hw242_3)
       (try rw [show 0 * 6 = 0 from rfl] at hw242_3)
       (try rw [Addr.add_zero'] at hw242_3)
       have hw242_2 := hx242_2
       (try rw [show ((0 : Int)).toNat = 0 from rfl] at hw242_2)
       (try rw [show 0 * 6 = 0 from rfl] at hw242_2)
       (try rw [Addr.add_zero'] at hw242_2)
       have hw242_1 := hx242_1
       (try rw [show ((0 : Int)).toNat = 0 from rfl] at hw242_1)
       (try rw [show 0 * 6 = 0 from rfl] at hw242_1)
       (try rw [Addr.add_zero'] at hw242_1)
       have hw242_0 := hx242_0
       (try rw [show ((0 : Int)).toNat = 0 from rfl] at hw242_0)
       (try rw [show 0 * 6 = 0 from rfl] at hw242_0)
       (try rw [Addr.add_zero'] at hw242_0)
       cases e242
       have qi242 : (0 < l0.length) = True := eq_true (by omega)
       (try rw [show ((0 : Int)).toNat = 0 from rfl] at hx242_0)
       (try rw [show 0 * 6 = 0 from rfl] at hx242_0)
       (try rw [Addr.add_zero'] at hx242_0)
       (try rw [show ((0 : Int)).toNat = 0 from rfl] at hx242_1)
       (try rw [show 0 * 6 = 0 from rfl] at hx242_1)
       (try rw [Addr.add_zero'] at hx242_1)
       (try rw [show ((0 : Int)).toNat = 0 from rfl] at hx242_2)
       (try rw [show 0 * 6 = 0 from rfl] at hx242_2)
       (try rw [Addr.add_zero'] at hx242_2)
       (try rw [show ((0 : Int)).toNat = 0 from rfl] at hx242_3)
       (try rw [show 0 * 6 = 0 from rfl] at hx242_3)
       (try rw [Addr.add_zero'] at hx242_3)
       (try rw [show ((0 : Int)).toNat = 0 from rfl] at hx242_4)
       (try rw [show 0 * 6 = 0 from rfl] at hx242_4)
       (try rw [Addr.add_zero'] at hx242_4)
       (try rw [show ((0 : Int)).toNat = 0 from rfl] at hx242_5)
       (try rw [show 0 * 6 = 0 from rfl] at hx242_5)
       (try rw [Addr.add_zero'] at hx242_5)
       replace hx242_0 := (HB.out.cell (World.block_lt_of_cell? w _ hx242_0)).trans hx242_0
       replace hx242_1 := (HB.out.cell (World.block_lt_of_cell? w _ hx242_1)).trans hx242_1
       replace hx242_2 := (HB.out.cell (World.block_lt_of_cell? w _ hx242_2)).trans hx242_2
       replace hx242_3 := (HB.out.cell (World.block_lt_of_cell? w _ hx242_3)).trans hx242_3
       replace hx242_4 := (HB.out.cell (World.block_lt_of_cell? w _ hx242_4)).trans hx242_4
       replace hx242_5 := (HB.out.cell (World.block_lt_of_cell? w _ hx242_5)).trans hx242_5
       replace p242 := eq_true p242
       replace q242 := eq_true q242
       refine start_ (n := 52) (S := fun w' => w'.cell? ad242 = some (.string ((rd_T43 l0 0).f0)) ∧ w'.cell? ⟨ad242.block, ad242.off + 1, none⟩ = some (.int .i64 ((rd_T43 l0 0).f1)) ∧ w'.cell? ⟨ad242.block, ad242.off + 2, none⟩ = some (.int .i64 ((rd_T43 l0 0).f2)) ∧ w'.cell? ⟨ad242.block, ad242.off + 3, none⟩ = some (.int .i64 ((rd_T43 l0 0).f3)) ∧ w'.cell? ⟨ad242.block, ad242.off + 4, none⟩ = some (.int .i64 ((rd_T43 l0 0).f4)) ∧ w'.cell? ⟨ad242.block, ad242.off + 5, none⟩ = some (.int .i64 ((rd_T43 l0 0).f5))) (ds := []) (bq [0, 52]) (by kernel_rfl) rfl rfl ⟨((HB.out.cell (World.block_lt_of_cell? w _ hw242_0)).trans hw242_0), ((HB.out.cell (World.block_lt_of_cell? w _ hw242_1)).trans hw242_1), ((HB.out.cell (World.block_lt_of_cell? w _ hw242_2)).trans hw242_2), ((HB.out.cell (World.block_lt_of_cell? w _ hw242_3)).trans hw242_3), ((HB.out.cell (World.block_lt_of_cell? w _ hw242_4)).trans hw242_4), ((HB.out.cell (World.block_lt_of_cell? w _ hw242_5)).trans hw242_5)⟩ (fun hHeld => ?_); refine with_tabW spec_l08One.tab1 spec_l08One.bits1 (fun HT_ HW_ => ?_)
       generalize w.drew = w18 at HB hx242_0 hx242_1 hx242_2 hx242_3 hx242_4 hx242_5 hHeld ⊢
       refine pV_ (i := 0) (N := some 3) (bq [1, 51]) rfl rfl HT_.out ?_
       refine pV_ (i := 1) (N := some 4) (bq [2, 50]) rfl rfl HT_.out ?_
       refine pV_ (i := 2) (N := some 5) (bq [3, 49]) rfl rfl HT_.out ?_
       refine take_ (i := 3) (N := some 6) (v := ?_) (a' := ?_) (bq [4, 48]) rfl rfl (take_ofW HT_.out HW_.out (by kernel_rfl)) (fun _ _ _ h => h) (Or.inl ⟨by rfl, ?_⟩) hHeld ?_ ?_
       rotate_left
       · rintro w' ⟨s0, s1, s2, s3, s4, s5⟩
         go_simp
         with_reducible rfl
       rotate_left
       · simp only [Act.put, sx0, sx1, sx2, i64_w, i32_w]
         rfl
       refine one_ (i := 4) (N := some 7) (bq [5, 47]) rfl rfl (one_of HT_.out (by kernel_rfl)) (by decide) (fun K hK => ?_)
       refine gS_ Try.func150 #[.string ((rd_T43 l0 0).f0)] rfl rfl ?_
       with_reducible refine (spec_l01Name.calls k ((rd_T43 l0 0).f0) true _ A2.out).mono ?_
       rintro e w' ⟨rfl, ⟨nd, rfl⟩⟩
       refine ⟨_, rfl, ?_⟩
       refine hK.out _ _ ⟨((HB.out.cell (World.block_lt_of_cell? w _ hw242_0)).trans hw242_0), ((HB.out.cell (World.block_lt_of_cell? w _ hw242_1)).trans hw242_1), ((HB.out.cell (World.block_lt_of_cell? w _ hw242_2)).trans hw242_2), ((HB.out.cell (World.block_lt_of_cell? w _ hw242_3)).trans hw242_3), ((HB.out.cell (World.block_lt_of_cell? w _ hw242_4)).trans hw242_4), ((HB.out.cell (World.block_lt_of_cell? w _ hw242_5)).trans hw242_5)⟩ (fun hHeld => ?_)
       clear hK K
       refine norm_ (a' := ?_) ?_ ?_
       rotate_left
       · show Act.put _ (some 7) _ = _
         simp only [Act.put, sx0, sx1, sx2, i64_w, i32_w]
         rfl
       refine pV_ (i := 5) (N := some 8) (bq [6, 46]) rfl rfl HT_.out ?_
       refine pV_ (i := 6) (N := some 9) (bq [7, 45]) rfl rfl HT_.out ?_
       refine pV_ (i := 7) (N := some 10) (bq [8, 44]) rfl rfl HT_.out ?_
       refine pV_ (i := 8) (N := some 11) (bq [9, 43]) rfl rfl HT_.out ?_
       refine take_ (i := 9) (N := some 12) (v := ?_) (a' := ?_) (bq [10, 42]) rfl rfl (take_ofW HT_.out HW_.out (by kernel_rfl)) (fun _ _ _ h => h) (Or.inl ⟨by rfl, ?_⟩) hHeld ?_ ?_
       rotate_left
       · rintro w' ⟨s0, s1, s2, s3, s4, s5⟩
         go_simp
         with_reducible rfl
       rotate_left
       · simp only [Act.put, sx0, sx1, sx2, i64_w, i32_w]
         rfl
       refine one_ (i := 10) (N := some 13) (bq [11, 41]) rfl rfl (one_of HT_.out (by kernel_rfl)) (by decide) (fun K hK => ?_)
       refine gS_ Try.func90 #[.int .i64 ((rd_T43 l0 0).f1)] rfl rfl ?_
       with_reducible refine (spec_l08Minute.calls ((rd_T43 l0 0).f1) true _ A4.out).mono ?_
       rintro e w' ⟨rfl, ⟨nd, rfl⟩⟩
       refine ⟨_, rfl, ?_⟩
       refine hK.out _ _ ⟨((HB.out.cell (World.block_lt_of_cell? w _ hw242_0)).trans hw242_0), ((HB.out.cell (World.block_lt_of_cell? w _ hw242_1)).trans hw242_1), ((HB.out.cell (World.block_lt_of_cell? w _ hw242_2)).trans hw242_2), ((HB.out.cell (World.block_lt_of_cell? w _ hw242_3)).trans hw242_3), ((HB.out.cell (World.block_lt_of_cell? w _ hw242_4)).trans hw242_4), ((HB.out.cell (World.block_lt_of_cell? w _ hw242_5)).trans hw242_5)⟩ (fun hHeld => ?_)
       clear hK K
       refine norm_ (a' := ?_) ?_ ?_
       rotate_left
       · show Act.put _ (some 13) _ = _
         simp only [Act.put, sx0, sx1, sx2, i64_w, i32_w]
         rfl
       refine pV_ (i := 11) (N := some 14) (bq [12, 40]) rfl rfl HT_.out ?_
       refine pV_ (i := 12) (N := some 15) (bq [13, 39]) rfl rfl HT_.out ?_
       refine pV_ (i := 13) (N := some 16) (bq [14, 38]) rfl rfl HT_.out ?_
       refine pV_ (i := 14) (N := some 17) (bq [15, 37]) rfl rfl HT_.out ?_
       refine pV_ (i := 15) (N := some 18) (bq [16, 36]) rfl rfl HT_.out ?_
       refine take_ (i := 16) (N := some 19) (v := ?_) (a' := ?_) (bq [17, 35]) rfl rfl (take_ofW HT_.out HW_.out (by kernel_rfl)) (fun _ _ _ h => h) (Or.inl ⟨by rfl, ?_⟩) hHeld ?_ ?_
       rotate_left
       · rintro w' ⟨s0, s1, s2, s3, s4, s5⟩
         go_simp
         with_reducible rfl
       rotate_left
       · simp only [Act.put, sx0, sx1, sx2, i64_w, i32_w]
         rfl
       refine one_ (i := 17) (N := some 20) (bq [18, 34]) rfl rfl (one_of HT_.out (by kernel_rfl)) (by decide) (fun K hK => ?_)
       refine gS_ Try.func90 #[.int .i64 ((rd_T43 l0 0).f2)] rfl rfl ?_
       with_reducible refine (spec_l08Minute.calls ((rd_T43 l0 0).f2) false _ A6.out).mono ?_
       rintro e w' ⟨rfl, ⟨nd, rfl⟩⟩
       refine ⟨_, rfl, ?_⟩
       refine hK.out _ _ ⟨((HB.out.cell (World.block_lt_of_cell? w _ hw242_0)).trans hw242_0), ((HB.out.cell (World.block_lt_of_cell? w _ hw242_1)).trans hw242_1), ((HB.out.cell (World.block_lt_of_cell? w _ hw242_2)).trans hw242_2), ((HB.out.cell (World.block_lt_of_cell? w _ hw242_3)).trans hw242_3), ((HB.out.cell (World.block_lt_of_cell? w _ hw242_4)).trans hw242_4), ((HB.out.cell (World.block_lt_of_cell? w _ hw242_5)).trans hw242_5)⟩ (fun hHeld => ?_)
       clear hK K
       refine norm_ (a' := ?_) ?_ ?_
       rotate_left
       · show Act.put _ (some 20) _ = _
         simp only [Act.put, sx0, sx1, sx2, i64_w, i32_w]
         rfl
       refine pV_ (i := 18) (N := some 21) (bq [19, 33]) rfl rfl HT_.out ?_
       refine pV_ (i := 19) (N := some 22) (bq [20, 32]) rfl rfl HT_.out ?_
       refine pU_ (i := 20) (N := some 23) (bq [21, 31]) rfl rfl HT_.out ?_
       refine pU_ (i := 21) (N := some 24) (bq [22, 30]) rfl rfl HT_.out ?_
       refine pU_ (i := 22) (N := some 25) (bq [23, 29]) rfl rfl HT_.out ?_
       refine pU_ (i := 23) (N := some 26) (bq [24, 28]) rfl rfl HT_.out ?_
       refine pU_ (i := 24) (N := some 27) (bq [25, 27]) rfl rfl HT_.out ?_
       refine pU_ (i := 25) (N := some 28) (bq [26, 26]) rfl rfl HT_.out ?_
       refine pU_ (i := 26) (N := some 29) (bq [27, 25]) rfl rfl HT_.out ?_
       refine pU_ (i := 27) (N := some 30) (bq [28, 24]) rfl rfl HT_.out ?_
       refine pU_ (i := 28) (N := some 31) (bq [29, 23]) rfl rfl HT_.out ?_
       refine pV_ (i := 29) (N := some 32) (bq [30, 22]) rfl rfl HT_.out ?_
       refine pV_ (i := 30) (N := some 33) (bq [31, 21]) rfl rfl HT_.out ?_
       refine pU_ (i := 31) (N := some 34) (bq [32, 20]) rfl rfl HT_.out ?_
       refine pU_ (i := 32) (N := some 35) (bq [33, 19]) rfl rfl HT_.out ?_
       refine pU_ (i := 33) (N := some 36) (bq [34, 18]) rfl rfl HT_.out ?_
       refine pU_ (i := 34) (N := some 37) (bq [35, 17]) rfl rfl HT_.out ?_
       refine pU_ (i := 35) (N := some 38) (bq [36, 16]) rfl rfl HT_.out ?_
       refine pV_ (i := 36) (N := some 39) (bq [37, 15]) rfl rfl HT_.out ?_
       refine pV_ (i := 37) (N := some 40) (bq [38, 14]) rfl rfl HT_.out ?_
       refine pU_ (i := 38) (N := some 41) (bq [39, 13]) rfl rfl HT_.out ?_
       refine pU_ (i := 39) (N := some 42) (bq [40, 12]) rfl rfl HT_.out ?_
       refine pU_ (i := 40) (N := some 43) (bq [41, 11]) rfl rfl HT_.out ?_
       refine pU_ (i := 41) (N := some 44) (bq [42, 10]) rfl rfl HT_.out ?_
       refine pU_ (i := 42) (N := some 45) (bq [43, 9]) rfl rfl HT_.out ?_
       refine pV_ (i := 43) (N := some 46) (bq [44, 8]) rfl rfl HT_.out ?_
       refine pV_ (i := 44) (N := some 47) (bq [45, 7]) rfl rfl HT_.out ?_
       refine pU_ (i := 45) (N := some 48) (bq [46, 6]) rfl rfl HT_.out ?_
       refine pU_ (i := 46) (N := some 49) (bq [47, 5]) rfl rfl HT_.out ?_
       refine pU_ (i := 47) (N := some 50) (bq [48, 4]) rfl rfl HT_.out ?_
       refine pU_ (i := 48) (N := some 51) (bq [49, 3]) rfl rfl HT_.out ?_
       refine pU_ (i := 49) (N := some 52) (bq [50, 2]) rfl rfl HT_.out ?_
       refine pV_ (i := 50) (N := some 53) (bq [51, 1]) rfl rfl HT_.out ?_
       refine pV_ (i := 51) (N := some 2) (bq [52]) rfl rfl HT_.out ?_
       refine done_ (done_of HT_.out (by kernel_rfl)) ?_
       try go_wp2
       go_ret
       exact ⟨by first | rfl | (simp [errW_none, errW_some] <;> rfl) | (simp [*, errW_none, errW_some] <;> rfl), by repeat (first | (with_reducible first | exact HB.out | apply qba | apply qbn | apply qb1) | exact HB.out)⟩
   · replace c5 := Bool.eq_false_iff.mpr c5
     subst c5
     have H1 : (some false) = some r := by rw [if_neg (show ¬ (false = true) by decide)] at H; exact H
     clear H
     have H := H1
     clear H1
     obtain rfl := Option.some.inj H
     go_enter Try.func89, Try.ntmps89
     try go_wp2
     have n0_ := Aside0.mk (below_drew1 HB.out)
     clear HB
     have HB := n0_
     clear n0_
     have p242 : 0 ≤ (0 : Int) := (by omega)
     have q242 : 0 < (l0.length : Int) := of_decide_eq_true (by first | (with_reducible assumption) | assumption)
     obtain ⟨ad242, e242, hx242_0, hx242_1, hx242_2, hx242_3, hx242_4, hx242_5⟩ := at_T43 HR0.out 0 p242 q242
     have hw242_5 := hx242_5
     (try rw [show ((0 : Int)).toNat = 0 from rfl] at hw242_5)
     (try rw [show 0 * 6 = 0 from rfl] at hw242_5)
     (try rw [Addr.add_zero'] at hw242_5)
     have hw242_4 := hx242_4
     (try rw [show ((0 : Int)).toNat = 0 from rfl] at hw242_4)
     (try rw [show 0 * 6 = 0 from rfl] at hw242_4)
     (try rw [Addr.add_zero'] at hw242_4)
     have hw242_3 := hx242_3
     (try rw [show ((0 : Int)).toNat = 0 from rfl] at hw242_3)
     (try rw [show 0 * 6 = 0 from rfl] at hw242_3)
     (try rw [Addr.add_zero'] at hw242_3)
     have hw242_2 := hx242_2
     (try rw [show ((0 : Int)).toNat = 0 from rfl] at hw242_2)
     (try rw [show 0 * 6 = 0 from rfl] at hw242_2)
     (try rw [Addr.add_zero'] at hw242_2)
     have hw242_1 := hx242_1
     (try rw [show ((0 : Int)).toNat = 0 from rfl] at hw242_1)
     (try rw [show 0 * 6 = 0 from rfl] at hw242_1)
     (try rw [Addr.add_zero'] at hw242_1)
     have hw242_0 := hx242_0
     (try rw [show ((0 : Int)).toNat = 0 from rfl] at hw242_0)
     (try rw [show 0 * 6 = 0 from rfl] at hw242_0)
     (try rw [Addr.add_zero'] at hw242_0)
     cases e242
     have qi242 : (0 < l0.length) = True := eq_true (by omega)
     (try rw [show ((0 : Int)).toNat = 0 from rfl] at hx242_0)
     (try rw [show 0 * 6 = 0 from rfl] at hx242_0)
     (try rw [Addr.add_zero'] at hx242_0)
     (try rw [show ((0 : Int)).toNat = 0 from rfl] at hx242_1)
     (try rw [show 0 * 6 = 0 from rfl] at hx242_1)
     (try rw [Addr.add_zero'] at hx242_1)
     (try rw [show ((0 : Int)).toNat = 0 from rfl] at hx242_2)
     (try rw [show 0 * 6 = 0 from rfl] at hx242_2)
     (try rw [Addr.add_zero'] at hx242_2)
     (try rw [show ((0 : Int)).toNat = 0 from rfl] at hx242_3)
     (try rw [show 0 * 6 = 0 from rfl] at hx242_3)
     (try rw [Addr.add_zero'] at hx242_3)
     (try rw [show ((0 : Int)).toNat = 0 from rfl] at hx242_4)
     (try rw [show 0 * 6 = 0 from rfl] at hx242_4)
     (try rw [Addr.add_zero'] at hx242_4)
     (try rw [show ((0 : Int)).toNat = 0 from rfl] at hx242_5)
     (try rw [show 0 * 6 = 0 from rfl] at hx242_5)
     (try rw [Addr.add_zero'] at hx242_5)
     replace hx242_0 := (HB.out.cell (World.block_lt_of_cell? w _ hx242_0)).trans hx242_0
     replace hx242_1 := (HB.out.cell (World.block_lt_of_cell? w _ hx242_1)).trans hx242_1
     replace hx242_2 := (HB.out.cell (World.block_lt_of_cell? w _ hx242_2)).trans hx242_2
     replace hx242_3 := (HB.out.cell (World.block_lt_of_cell? w _ hx242_3)).trans hx242_3
     replace hx242_4 := (HB.out.cell (World.block_lt_of_cell? w _ hx242_4)).trans hx242_4
     replace hx242_5 := (HB.out.cell (World.block_lt_of_cell? w _ hx242_5)).trans hx242_5
     replace p242 := eq_true p242
     replace q242 := eq_true q242
     refine start_ (n := 52) (S := fun w' => w'.cell? ad242 = some (.string ((rd_T43 l0 0).f0)) ∧ w'.cell? ⟨ad242.block, ad242.off + 1, none⟩ = some (.int .i64 ((rd_T43 l0 0).f1)) ∧ w'.cell? ⟨ad242.block, ad242.off + 2, none⟩ = some (.int .i64 ((rd_T43 l0 0).f2)) ∧ w'.cell? ⟨ad242.block, ad242.off + 3, none⟩ = some (.int .i64 ((rd_T43 l0 0).f3)) ∧ w'.cell? ⟨ad242.block, ad242.off + 4, none⟩ = some (.int .i64 ((rd_T43 l0 0).f4)) ∧ w'.cell? ⟨ad242.block, ad242.off + 5, none⟩ = some (.int .i64 ((rd_T43 l0 0).f5))) (ds := []) (bq [0, 52]) (by kernel_rfl) rfl rfl ⟨((HB.out.cell (World.block_lt_of_cell? w _ hw242_0)).trans hw242_0), ((HB.out.cell (World.block_lt_of_cell? w _ hw242_1)).trans hw242_1), ((HB.out.cell (World.block_lt_of_cell? w _ hw242_2)).trans hw242_2), ((HB.out.cell (World.block_lt_of_cell? w _ hw242_3)).trans hw242_3), ((HB.out.cell (World.block_lt_of_cell? w _ hw242_4)).trans hw242_4), ((HB.out.cell (World.block_lt_of_cell? w _ hw242_5)).trans hw242_5)⟩ (fun hHeld => ?_); refine with_tabW spec_l08One.tab1 spec_l08One.bits1 (fun HT_ HW_ => ?_)
     generalize w.drew = w19 at HB hx242_0 hx242_1 hx242_2 hx242_3 hx242_4 hx242_5 hHeld ⊢
     refine pV_ (i := 0) (N := some 3) (bq [1, 51]) rfl rfl HT_.out ?_
     refine pV_ (i := 1) (N := some 4) (bq [2, 50]) rfl rfl HT_.out ?_
     refine pV_ (i := 2) (N := some 5) (bq [3, 49]) rfl rfl HT_.out ?_
     refine take_ (i := 3) (N := some 6) (v := ?_) (a' := ?_) (bq [4, 48]) rfl rfl (take_ofW HT_.out HW_.out (by kernel_rfl)) (fun _ _ _ h => h) (Or.inl ⟨by rfl, ?_⟩) hHeld ?_ ?_
     rotate_left
     · rintro w' ⟨s0, s1, s2, s3, s4, s5⟩
       go_simp
       with_reducible rfl
     rotate_left
     · simp only [Act.put, sx0, sx1, sx2, i64_w, i32_w]
       rfl
     refine one_ (i := 4) (N := some 7) (bq [5, 47]) rfl rfl (one_of HT_.out (by kernel_rfl)) (by decide) (fun K hK => ?_)
     refine gS_ Try.func150 #[.string ((rd_T43 l0 0).f0)] rfl rfl ?_
     with_reducible refine (spec_l01Name.calls k ((rd_T43 l0 0).f0) true _ A2.out).mono ?_
     rintro e w' ⟨rfl, ⟨nd, rfl⟩⟩
     refine ⟨_, rfl, ?_⟩
     refine hK.out _ _ ⟨((HB.out.cell (World.block_lt_of_cell? w _ hw242_0)).trans hw242_0), ((HB.out.cell (World.block_lt_of_cell? w _ hw242_1)).trans hw242_1), ((HB.out.cell (World.block_lt_of_cell? w _ hw242_2)).trans hw242_2), ((HB.out.cell (World.block_lt_of_cell? w _ hw242_3)).trans hw242_3), ((HB.out.cell (World.block_lt_of_cell? w _ hw242_4)).trans hw242_4), ((HB.out.cell (World.block_lt_of_cell? w _ hw242_5)).trans hw242_5)⟩ (fun hHeld => ?_)
     clear hK K
     refine norm_ (a' := ?_) ?_ ?_
     rotate_left
     · show Act.put _ (some 7) _ = _
       simp only [Act.put, sx0, sx1, sx2, i64_w, i32_w]
       rfl
     refine pV_ (i := 5) (N := some 8) (bq [6, 46]) rfl rfl HT_.out ?_
     refine pV_ (i := 6) (N := some 9) (bq [7, 45]) rfl rfl HT_.out ?_
     refine pV_ (i := 7) (N := some 10) (bq [8, 44]) rfl rfl HT_.out ?_
     refine pV_ (i := 8) (N := some 11) (bq [9, 43]) rfl rfl HT_.out ?_
     refine take_ (i := 9) (N := some 12) (v := ?_) (a' := ?_) (bq [10, 42]) rfl rfl (take_ofW HT_.out HW_.out (by kernel_rfl)) (fun _ _ _ h => h) (Or.inl ⟨by rfl, ?_⟩) hHeld ?_ ?_
     rotate_left
     · rintro w' ⟨s0, s1, s2, s3, s4, s5⟩
       go_simp
       with_reducible rfl
     rotate_left
     · simp only [Act.put, sx0, sx1, sx2, i64_w, i32_w]
       rfl
     refine one_ (i := 10) (N := some 13) (bq [11, 41]) rfl rfl (one_of HT_.out (by kernel_rfl)) (by decide) (fun K hK => ?_)
     refine gS_ Try.func90 #[.int .i64 ((rd_T43 l0 0).f1)] rfl rfl ?_
     with_reducible refine (spec_l08Minute.calls ((rd_T43 l0 0).f1) false _ A4.out).mono ?_
     rintro e w' ⟨rfl, ⟨nd, rfl⟩⟩
     refine ⟨_, rfl, ?_⟩
     refine hK.out _ _ ⟨((HB.out.cell (World.block_lt_of_cell? w _ hw242_0)).trans hw242_0), ((HB.out.cell (World.block_lt_of_cell? w _ hw242_1)).trans hw242_1), ((HB.out.cell (World.block_lt_of_cell? w _ hw242_2)).trans hw242_2), ((HB.out.cell (World.block_lt_of_cell? w _ hw242_3)).trans hw242_3), ((HB.out.cell (World.block_lt_of_cell? w _ hw242_4)).trans hw242_4), ((HB.out.cell (World.block_lt_of_cell? w _ hw242_5)).trans hw242_5)⟩ (fun hHeld => ?_)
     clear hK K
     refine norm_ (a' := ?_) ?_ ?_
     rotate_left
     · show Act.put _ (some 13) _ = _
       simp only [Act.put, sx0, sx1, sx2, i64_w, i32_w]
       rfl
     refine pV_ (i := 11) (N := some 14) (bq [12, 40]) rfl rfl HT_.out ?_
     refine pV_ (i := 12) (N := some 15) (bq [13, 39]) rfl rfl HT_.out ?_
     refine pU_ (i := 13) (N := some 16) (bq [14, 38]) rfl rfl HT_.out ?_
     refine pU_ (i := 14) (N := some 17) (bq [15, 37]) rfl rfl HT_.out ?_
     refine pU_ (i := 15) (N := some 18) (bq [16, 36]) rfl rfl HT_.out ?_
     refine pU_ (i := 16) (N := some 19) (bq [17, 35]) rfl rfl HT_.out ?_
     refine pU_ (i := 17) (N := some 20) (bq [18, 34]) rfl rfl HT_.out ?_
     refine pV_ (i := 18) (N := some 21) (bq [19, 33]) rfl rfl HT_.out ?_
     refine pV_ (i := 19) (N := some 22) (bq [20, 32]) rfl rfl HT_.out ?_
     refine pU_ (i := 20) (N := some 23) (bq [21, 31]) rfl rfl HT_.out ?_
     refine pU_ (i := 21) (N := some 24) (bq [22, 30]) rfl rfl HT_.out ?_
     refine pU_ (i := 22) (N := some 25) (bq [23, 29]) rfl rfl HT_.out ?_
     refine pU_ (i := 23) (N := some 26) (bq [24, 28]) rfl rfl HT_.out ?_
     refine pU_ (i := 24) (N := some 27) (bq [25, 27]) rfl rfl HT_.out ?_
     refine pU_ (i := 25) (N := some 28) (bq [26, 26]) rfl rfl HT_.out ?_
     refine pU_ (i := 26) (N := some 29) (bq [27, 25]) rfl rfl HT_.out ?_
     refine pU_ (i := 27) (N := some 30) (bq [28, 24]) rfl rfl HT_.out ?_
     refine pU_ (i := 28) (N := some 31) (bq [29, 23]) rfl rfl HT_.out ?_
     refine pV_ (i := 29) (N := some 32) (bq [30, 22]) rfl rfl HT_.out ?_
     refine pV_ (i := 30) (N := some 33) (bq [31, 21]) rfl rfl HT_.out ?_
     refine pU_ (i := 31) (N := some 34) (bq [32, 20]) rfl rfl HT_.out ?_
     refine pU_ (i := 32) (N := some 35) (bq [33, 19]) rfl rfl HT_.out ?_
     refine pU_ (i := 33) (N := some 36) (bq [34, 18]) rfl rfl HT_.out ?_
     refine pU_ (i := 34) (N := some 37) (bq [35, 17]) rfl rfl HT_.out ?_
     refine pU_ (i := 35) (N := some 38) (bq [36, 16]) rfl rfl HT_.out ?_
     refine pV_ (i := 36) (N := some 39) (bq [37, 15]) rfl rfl HT_.out ?_
     refine pV_ (i := 37) (N := some 40) (bq [38, 14]) rfl rfl HT_.out ?_
     refine pU_ (i := 38) (N := some 41) (bq [39, 13]) rfl rfl HT_.out ?_
     refine pU_ (i := 39) (N := some 42) (bq [40, 12]) rfl rfl HT_.out ?_
     refine pU_ (i := 40) (N := some 43) (bq [41, 11]) rfl rfl HT_.out ?_
     refine pU_ (i := 41) (N := some 44) (bq [42, 10]) rfl rfl HT_.out ?_
     refine pU_ (i := 42) (N := some 45) (bq [43, 9]) rfl rfl HT_.out ?_
     refine pV_ (i := 43) (N := some 46) (bq [44, 8]) rfl rfl HT_.out ?_
     refine pV_ (i := 44) (N := some 47) (bq [45, 7]) rfl rfl HT_.out ?_
     refine pU_ (i := 45) (N := some 48) (bq [46, 6]) rfl rfl HT_.out ?_
     refine pU_ (i := 46) (N := some 49) (bq [47, 5]) rfl rfl HT_.out ?_
     refine pU_ (i := 47) (N := some 50) (bq [48, 4]) rfl rfl HT_.out ?_
     refine pU_ (i := 48) (N := some 51) (bq [49, 3]) rfl rfl HT_.out ?_
     refine pU_ (i := 49) (N := some 52) (bq [50, 2]) rfl rfl HT_.out ?_
     refine pV_ (i := 50) (N := some 53) (bq [51, 1]) rfl rfl HT_.out ?_
     refine pV_ (i := 51) (N := some 2) (bq [52]) rfl rfl HT_.out ?_
     refine done_ (done_of HT_.out (by kernel_rfl)) ?_
     try go_wp2
     go_ret
     exact ⟨by first | rfl | (simp [errW_none, errW_some] <;> rfl) | (simp [*, errW_none, errW_some] <;> rfl), by repeat (first | (with_reducible first | exact HB.out | apply qba | apply qbn | apply qb1) | exact HB.out)⟩
 · replace c3 := Bool.eq_false_iff.mpr c3
   subst c3
   have H1 : (some false) = some r := by rw [if_neg (show ¬ (false = true) by decide)] at H; exact H
   clear H
   have H := H1
   clear H1
   obtain rfl := Option.some.inj H
   go_enter Try.func89, Try.ntmps89
   try go_wp2
   have n0_ := Aside0.mk (below_drew1 HB.out)
   clear HB
   have HB := n0_
   clear n0_
   have p242 : 0 ≤ (0 : Int) := (by omega)
   have q242 : 0 < (l0.length : Int) := of_decide_eq_true (by first | (with_reducible assumption) | assumption)
   obtain ⟨ad242, e242, hx242_0, hx242_1, hx242_2, hx242_3, hx242_4, hx242_5⟩ := at_T43 HR0.out 0 p242 q242
   have hw242_5 := hx242_5
   (try rw [show ((0 : Int)).toNat = 0 from rfl] at hw242_5)
   (try rw [show 0 * 6 = 0 from rfl] at hw242_5)
   (try rw [Addr.add_zero'] at hw242_5)
   have hw242_4 := hx242_4
   (try rw [show ((0 : Int)).toNat = 0 from rfl] at hw242_4)
   (try rw [show 0 * 6 = 0 from rfl] at hw242_4)
   (try rw [Addr.add_zero'] at hw242_4)
   have hw242_3 := hx242_3
   (try rw [show ((0 : Int)).toNat = 0 from rfl] at hw242_3)
   (try rw [show 0 * 6 = 0 from rfl] at hw242_3)
   (try rw [Addr.add_zero'] at hw242_3)
   have hw242_2 := hx242_2
   (try rw [show ((0 : Int)).toNat = 0 from rfl] at hw242_2)
   (try rw [show 0 * 6 = 0 from rfl] at hw242_2)
   (try rw [Addr.add_zero'] at hw242_2)
   have hw242_1 := hx242_1
   (try rw [show ((0 : Int)).toNat = 0 from rfl] at hw242_1)
   (try rw [show 0 * 6 = 0 from rfl] at hw242_1)
   (try rw [Addr.add_zero'] at hw242_1)
   have hw242_0 := hx242_0
   (try rw [show ((0 : Int)).toNat = 0 from rfl] at hw242_0)
   (try rw [show 0 * 6 = 0 from rfl] at hw242_0)
   (try rw [Addr.add_zero'] at hw242_0)
   cases e242
   have qi242 : (0 < l0.length) = True := eq_true (by omega)
   (try rw [show ((0 : Int)).toNat = 0 from rfl] at hx242_0)
   (try rw [show 0 * 6 = 0 from rfl] at hx242_0)
   (try rw [Addr.add_zero'] at hx242_0)
   (try rw [show ((0 : Int)).toNat = 0 from rfl] at hx242_1)
   (try rw [show 0 * 6 = 0 from rfl] at hx242_1)
   (try rw [Addr.add_zero'] at hx242_1)
   (try rw [show ((0 : Int)).toNat = 0 from rfl] at hx242_2)
   (try rw [show 0 * 6 = 0 from rfl] at hx242_2)
   (try rw [Addr.add_zero'] at hx242_2)
   (try rw [show ((0 : Int)).toNat = 0 from rfl] at hx242_3)
   (try rw [show 0 * 6 = 0 from rfl] at hx242_3)
   (try rw [Addr.add_zero'] at hx242_3)
   (try rw [show ((0 : Int)).toNat = 0 from rfl] at hx242_4)
   (try rw [show 0 * 6 = 0 from rfl] at hx242_4)
   (try rw [Addr.add_zero'] at hx242_4)
   (try rw [show ((0 : Int)).toNat = 0 from rfl] at hx242_5)
   (try rw [show 0 * 6 = 0 from rfl] at hx242_5)
   (try rw [Addr.add_zero'] at hx242_5)
   replace hx242_0 := (HB.out.cell (World.block_lt_of_cell? w _ hx242_0)).trans hx242_0
   replace hx242_1 := (HB.out.cell (World.block_lt_of_cell? w _ hx242_1)).trans hx242_1
   replace hx242_2 := (HB.out.cell (World.block_lt_of_cell? w _ hx242_2)).trans hx242_2
   replace hx242_3 := (HB.out.cell (World.block_lt_of_cell? w _ hx242_3)).trans hx242_3
   replace hx242_4 := (HB.out.cell (World.block_lt_of_cell? w _ hx242_4)).trans hx242_4
   replace hx242_5 := (HB.out.cell (World.block_lt_of_cell? w _ hx242_5)).trans hx242_5
   replace p242 := eq_true p242
   replace q242 := eq_true q242
   refine start_ (n := 52) (S := fun w' => w'.cell? ad242 = some (.string ((rd_T43 l0 0).f0)) ∧ w'.cell? ⟨ad242.block, ad242.off + 1, none⟩ = some (.int .i64 ((rd_T43 l0 0).f1)) ∧ w'.cell? ⟨ad242.block, ad242.off + 2, none⟩ = some (.int .i64 ((rd_T43 l0 0).f2)) ∧ w'.cell? ⟨ad242.block, ad242.off + 3, none⟩ = some (.int .i64 ((rd_T43 l0 0).f3)) ∧ w'.cell? ⟨ad242.block, ad242.off + 4, none⟩ = some (.int .i64 ((rd_T43 l0 0).f4)) ∧ w'.cell? ⟨ad242.block, ad242.off + 5, none⟩ = some (.int .i64 ((rd_T43 l0 0).f5))) (ds := []) (bq [0, 52]) (by kernel_rfl) rfl rfl ⟨((HB.out.cell (World.block_lt_of_cell? w _ hw242_0)).trans hw242_0), ((HB.out.cell (World.block_lt_of_cell? w _ hw242_1)).trans hw242_1), ((HB.out.cell (World.block_lt_of_cell? w _ hw242_2)).trans hw242_2), ((HB.out.cell (World.block_lt_of_cell? w _ hw242_3)).trans hw242_3), ((HB.out.cell (World.block_lt_of_cell? w _ hw242_4)).trans hw242_4), ((HB.out.cell (World.block_lt_of_cell? w _ hw242_5)).trans hw242_5)⟩ (fun hHeld => ?_); refine with_tabW spec_l08One.tab1 spec_l08One.bits1 (fun HT_ HW_ => ?_)
   generalize w.drew = w20 at HB hx242_0 hx242_1 hx242_2 hx242_3 hx242_4 hx242_5 hHeld ⊢
   refine pV_ (i := 0) (N := some 3) (bq [1, 51]) rfl rfl HT_.out ?_
   refine pV_ (i := 1) (N := some 4) (bq [2, 50]) rfl rfl HT_.out ?_
   refine pV_ (i := 2) (N := some 5) (bq [3, 49]) rfl rfl HT_.out ?_
   refine take_ (i := 3) (N := some 6) (v := ?_) (a' := ?_) (bq [4, 48]) rfl rfl (take_ofW HT_.out HW_.out (by kernel_rfl)) (fun _ _ _ h => h) (Or.inl ⟨by rfl, ?_⟩) hHeld ?_ ?_
   rotate_left
   · rintro w' ⟨s0, s1, s2, s3, s4, s5⟩
     go_simp
     with_reducible rfl
   rotate_left
   · simp only [Act.put, sx0, sx1, sx2, i64_w, i32_w]
     rfl
   refine one_ (i := 4) (N := some 7) (bq [5, 47]) rfl rfl (one_of HT_.out (by kernel_rfl)) (by decide) (fun K hK => ?_)
   refine gS_ Try.func150 #[.string ((rd_T43 l0 0).f0)] rfl rfl ?_
   with_reducible refine (spec_l01Name.calls k ((rd_T43 l0 0).f0) false _ A2.out).mono ?_
   rintro e w' ⟨rfl, ⟨nd, rfl⟩⟩
   refine ⟨_, rfl, ?_⟩
   refine hK.out _ _ ⟨((HB.out.cell (World.block_lt_of_cell? w _ hw242_0)).trans hw242_0), ((HB.out.cell (World.block_lt_of_cell? w _ hw242_1)).trans hw242_1), ((HB.out.cell (World.block_lt_of_cell? w _ hw242_2)).trans hw242_2), ((HB.out.cell (World.block_lt_of_cell? w _ hw242_3)).trans hw242_3), ((HB.out.cell (World.block_lt_of_cell? w _ hw242_4)).trans hw242_4), ((HB.out.cell (World.block_lt_of_cell? w _ hw242_5)).trans hw242_5)⟩ (fun hHeld => ?_)
   clear hK K
   refine norm_ (a' := ?_) ?_ ?_
   rotate_left
   · show Act.put _ (some 7) _ = _
     simp only [Act.put, sx0, sx1, sx2, i64_w, i32_w]
     rfl
   refine pV_ (i := 5) (N := some 8) (bq [6, 46]) rfl rfl HT_.out ?_
   refine pU_ (i := 6) (N := some 9) (bq [7, 45]) rfl rfl HT_.out ?_
   refine pU_ (i := 7) (N := some 10) (bq [8, 44]) rfl rfl HT_.out ?_
   refine pU_ (i := 8) (N := some 11) (bq [9, 43]) rfl rfl HT_.out ?_
   refine pU_ (i := 9) (N := some 12) (bq [10, 42]) rfl rfl HT_.out ?_
   refine pU_ (i := 10) (N := some 13) (bq [11, 41]) rfl rfl HT_.out ?_
   refine pV_ (i := 11) (N := some 14) (bq [12, 40]) rfl rfl HT_.out ?_
   refine pV_ (i := 12) (N := some 15) (bq [13, 39]) rfl rfl HT_.out ?_
   refine pU_ (i := 13) (N := some 16) (bq [14, 38]) rfl rfl HT_.out ?_
   refine pU_ (i := 14) (N := some 17) (bq [15, 37]) rfl rfl HT_.out ?_
   refine pU_ (i := 15) (N := some 18) (bq [16, 36]) rfl rfl HT_.out ?_
   refine pU_ (i := 16) (N := some 19) (bq [17, 35]) rfl rfl HT_.out ?_
   refine pU_ (i := 17) (N := some 20) (bq [18, 34]) rfl rfl HT_.out ?_
   refine pV_ (i := 18) (N := some 21) (bq [19, 33]) rfl rfl HT_.out ?_
   refine pV_ (i := 19) (N := some 22) (bq [20, 32]) rfl rfl HT_.out ?_
   refine pU_ (i := 20) (N := some 23) (bq [21, 31]) rfl rfl HT_.out ?_
   refine pU_ (i := 21) (N := some 24) (bq [22, 30]) rfl rfl HT_.out ?_
   refine pU_ (i := 22) (N := some 25) (bq [23, 29]) rfl rfl HT_.out ?_
   refine pU_ (i := 23) (N := some 26) (bq [24, 28]) rfl rfl HT_.out ?_
   refine pU_ (i := 24) (N := some 27) (bq [25, 27]) rfl rfl HT_.out ?_
   refine pU_ (i := 25) (N := some 28) (bq [26, 26]) rfl rfl HT_.out ?_
   refine pU_ (i := 26) (N := some 29) (bq [27, 25]) rfl rfl HT_.out ?_
   refine pU_ (i := 27) (N := some 30) (bq [28, 24]) rfl rfl HT_.out ?_
   refine pU_ (i := 28) (N := some 31) (bq [29, 23]) rfl rfl HT_.out ?_
   refine pV_ (i := 29) (N := some 32) (bq [30, 22]) rfl rfl HT_.out ?_
   refine pV_ (i := 30) (N := some 33) (bq [31, 21]) rfl rfl HT_.out ?_
   refine pU_ (i := 31) (N := some 34) (bq [32, 20]) rfl rfl HT_.out ?_
   refine pU_ (i := 32) (N := some 35) (bq [33, 19]) rfl rfl HT_.out ?_
   refine pU_ (i := 33) (N := some 36) (bq [34, 18]) rfl rfl HT_.out ?_
   refine pU_ (i := 34) (N := some 37) (bq [35, 17]) rfl rfl HT_.out ?_
   refine pU_ (i := 35) (N := some 38) (bq [36, 16]) rfl rfl HT_.out ?_
   refine pV_ (i := 36) (N := some 39) (bq [37, 15]) rfl rfl HT_.out ?_
   refine pV_ (i := 37) (N := some 40) (bq [38, 14]) rfl rfl HT_.out ?_
   refine pU_ (i := 38) (N := some 41) (bq [39, 13]) rfl rfl HT_.out ?_
   refine pU_ (i := 39) (N := some 42) (bq [40, 12]) rfl rfl HT_.out ?_
   refine pU_ (i := 40) (N := some 43) (bq [41, 11]) rfl rfl HT_.out ?_
   refine pU_ (i := 41) (N := some 44) (bq [42, 10]) rfl rfl HT_.out ?_
   refine pU_ (i := 42) (N := some 45) (bq [43, 9]) rfl rfl HT_.out ?_
   refine pV_ (i := 43) (N := some 46) (bq [44, 8]) rfl rfl HT_.out ?_
   refine pV_ (i := 44) (N := some 47) (bq [45, 7]) rfl rfl HT_.out ?_
   refine pU_ (i := 45) (N := some 48) (bq [46, 6]) rfl rfl HT_.out ?_
   refine pU_ (i := 46) (N := some 49) (bq [47, 5]) rfl rfl HT_.out ?_
   refine pU_ (i := 47) (N := some 50) (bq [48, 4]) rfl rfl HT_.out ?_
   refine pU_ (i := 48) (N := some 51) (bq [49, 3]) rfl rfl HT_.out ?_
   refine pU_ (i := 49) (N := some 52) (bq [50, 2]) rfl rfl HT_.out ?_
   refine pV_ (i := 50) (N := some 53) (bq [51, 1]) rfl rfl HT_.out ?_
   refine pV_ (i := 51) (N := some 2) (bq [52]) rfl rfl HT_.out ?_
   refine done_ (done_of HT_.out (by kernel_rfl)) ?_
   try go_wp2
   go_ret
   exact ⟨by first | rfl | (simp [errW_none, errW_some] <;> rfl) | (simp [*, errW_none, errW_some] <;> rfl), by repeat (first | (with_reducible first | exact HB.out | apply qba | apply qbn | apply qb1) | exact HB.out)⟩

end Go.Proofs.Ytomeeimjlagbbaa.PH
