-- WRITTEN BY wip/gprint.py, a program of this session's over the kit's print, with contracts given by hand
import Derived.Test.YtmeflmlejcmckaaDoorPCx0
import Derived.Test.YtmeflmlejcmckaaDoorPCx12
import Derived.Test.YtmeflmlejcmckaaDoorPCx13
namespace Go.Proofs.YtmeflmlejcmckaaDoor.PC
open Go.RowKit Go.Proofs.YtmeflmlejcmckaaDoorW.PrintWords Go.Proofs.YtmeflmlejcmckaaDoorW.PrintLast Go.Proofs.YtmeflmlejcmckaaDoorW.PrintMore
attribute [local go_sem] max2_int min2_int max_two min_two max_three min_three max_four min_four   -- for this text's walks alone
set_option linter.unusedVariables false
set_option linter.unusedSimpArgs false

/-! ### spec_l02Cents: function 120 -/
def spec_l02Cents.f (k : Nat) (l0 : List (S52)) : Option (Int) := (spec_l02Octave.f k l0).bind fun bt286 => ((spec_l02Table.f).bind fun t289 => (if bt286.2.1 = 0 then (none) else (if 0 ≤ (wrap64 (Int.tdiv (wrap64 (32 * (wrap64 (bt286.1 - bt286.2.1)))) bt286.2.1)) then (if (wrap64 (Int.tdiv (wrap64 (32 * (wrap64 (bt286.1 - bt286.2.1)))) bt286.2.1)) < (t289.length : Int) then (if 0 ≤ (wrap64 ((wrap64 (Int.tdiv (wrap64 (32 * (wrap64 (bt286.1 - bt286.2.1)))) bt286.2.1)) + 1)) then (if (wrap64 ((wrap64 (Int.tdiv (wrap64 (32 * (wrap64 (bt286.1 - bt286.2.1)))) bt286.2.1)) + 1)) < (t289.length : Int) then ((spec_l01Div.f (wrap64 ((wrap64 ((rd t289 (wrap64 ((wrap64 (Int.tdiv (wrap64 (32 * (wrap64 (bt286.1 - bt286.2.1)))) bt286.2.1)) + 1))) - (rd t289 (wrap64 (Int.tdiv (wrap64 (32 * (wrap64 (bt286.1 - bt286.2.1)))) bt286.2.1))))) * (wrap64 ((wrap64 (32 * (wrap64 (bt286.1 - bt286.2.1)))) - (wrap64 ((wrap64 (Int.tdiv (wrap64 (32 * (wrap64 (bt286.1 - bt286.2.1)))) bt286.2.1)) * bt286.2.1)))))) bt286.2.1).bind fun t295 => (some (wrap64 ((wrap64 ((wrap64 (120000 * bt286.2.2)) + (rd t289 (wrap64 (Int.tdiv (wrap64 (32 * (wrap64 (bt286.1 - bt286.2.1)))) bt286.2.1))))) + t295)))) else (none)) else (none)) else (none)) else (none))))
theorem spec_l02Cents.mono : ∀ a0 k, LeO (spec_l02Cents.f k a0) (spec_l02Cents.f (k + 1) a0) := by
 intro a0 k
 unfold spec_l02Cents.f
 repeat' first
  | (with_reducible exact spec_l02Octave.mono _ _)
  | (with_reducible exact LeO.refl _)
  | (with_reducible exact LeO.none _)
  | (with_reducible refine LeO.ite ?_ ?_)
  | (with_reducible refine LeO.bind ?_ (fun _ => ?_))
  | exact spec_l02Octave.mono _ _
  | exact LeO.none _
  | refine LeO.ite ?_ ?_
  | refine LeO.bind ?_ (fun _ => ?_)
def spec_l02Cents.T4 : Bool × List (List Nat × List Nat) := (true, [([], []), ([0], [0]), ([], []), ([], []), ([2, 3], [2, 3]), ([4], [4]), ([1, 5], [1, 5]), ([], []), ([], []), ([8], [8]), ([7, 9], [7, 9]), ([10], [10]), ([], []), ([], []), ([12, 13], [12, 13]), ([14], [14]), ([11, 15], [11, 15]), ([], []), ([], []), ([17, 18], [17, 18]), ([19], [19]), ([], []), ([], []), ([21, 22], [21, 22]), ([20, 23], [20, 23]), ([16, 24], [16, 24]), ([], []), ([25, 26], [25, 26]), ([6, 27], [6, 27]), ([28, 27, 0, 1, 2, 3, 4, 5, 6, 7, 8, 9, 10, 11, 12, 13, 14, 15, 16, 17, 18, 19, 20, 21, 22, 23, 24, 25, 26, 27, 28], [28])])
def spec_l02Cents.B4 : List Nat := [0, 1, 0, 0, 12, 28, 63, 0, 0, 256, 896, 1920, 0, 0, 12288, 28672, 65408, 0, 0, 393216, 917504, 0, 0, 6291456, 16646144, 33554304, 0, 134217600, 268435455, 536870911]
theorem spec_l02Cents.tab4 : rtab .any (opsOf Tryd.f120 4) = spec_l02Cents.T4 := by kernel_rfl
theorem spec_l02Cents.bits4 : waitsOk spec_l02Cents.T4.2 spec_l02Cents.B4 = true := by kernel_rfl
set_option maxHeartbeats 8000000 in
set_option maxRecDepth 100000 in
theorem spec_l02Cents.calls (k : Nat) (A0 : Option Addr) (l0 : List (S52)) (r : Int) (w : World) (hr0 : Kd.C k52 w A0 l0.length l0) (hn0 : 0 < l0.length) (h : spec_l02Cents.f k l0 = some r) :
 Calls Tryd.prog 120 #[.pointer A0] w fun e w' => e = .returned (.int .i64 r) ∧ Below w.heap.size w w' := by
 have HR0 := Aside0.mk hr0
 clear hr0
 have HN0 := Aside0.mk hn0
 have hn0b0 : decide ((0 : Int) < (l0.length : Int)) = true := decide_eq_true (Int.ofNat_lt.2 hn0)
 have hn0b1 : decide (0 < l0.length) = true := decide_eq_true hn0
 clear hn0
 have HB := Aside0.mk (Below.refl w.heap.size w)
 have H : ((spec_l02Octave.f k l0).bind fun bt286 => ((spec_l02Table.f).bind fun t289 => (if bt286.2.1 = 0 then (none) else (if 0 ≤ (wrap64 (Int.tdiv (wrap64 (32 * (wrap64 (bt286.1 - bt286.2.1)))) bt286.2.1)) then (if (wrap64 (Int.tdiv (wrap64 (32 * (wrap64 (bt286.1 - bt286.2.1)))) bt286.2.1)) < (t289.length : Int) then (if 0 ≤ (wrap64 ((wrap64 (Int.tdiv (wrap64 (32 * (wrap64 (bt286.1 - bt286.2.1)))) bt286.2.1)) + 1)) then (if (wrap64 ((wrap64 (Int.tdiv (wrap64 (32 * (wrap64 (bt286.1 - bt286.2.1)))) bt286.2.1)) + 1)) < (t289.length : Int) then ((spec_l01Div.f (wrap64 ((wrap64 ((rd t289 (wrap64 ((wrap64 (Int.tdiv (wrap64 (32 * (wrap64 (bt286.1 - bt286.2.1)))) bt286.2.1)) + 1))) - (rd t289 (wrap64 (Int.tdiv (wrap64 (32 * (wrap64 (bt286.1 - bt286.2.1)))) bt286.2.1))))) * (wrap64 ((wrap64 (32 * (wrap64 (bt286.1 - bt286.2.1)))) - (wrap64 ((wrap64 (Int.tdiv (wrap64 (32 * (wrap64 (bt286.1 - bt286.2.1)))) bt286.2.1)) * bt286.2.1)))))) bt286.2.1).bind fun t295 => (some (wrap64 ((wrap64 ((wrap64 (120000 * bt286.2.2)) + (rd t289 (wrap64 (Int.tdiv (wrap64 (32 * (wrap64 (bt286.1 - bt286.2.1)))) bt286.2.1))))) + t295)))) else (none)) else (none)) else (none)) else (none))))) = some r := h
 clear h
 replace H := Option.bind_eq_some_iff.mp H
 obtain ⟨⟨t286, t287, t288⟩, A20, H⟩ := H
 replace H : ((spec_l02Table.f).bind fun t289 => (if t287 = 0 then (none) else (if 0 ≤ (wrap64 (Int.tdiv (wrap64 (32 * (wrap64 (t286 - t287)))) t287)) then (if (wrap64 (Int.tdiv (wrap64 (32 * (wrap64 (t286 - t287)))) t287)) < (t289.length : Int) then (if 0 ≤ (wrap64 ((wrap64 (Int.tdiv (wrap64 (32 * (wrap64 (t286 - t287)))) t287)) + 1)) then (if (wrap64 ((wrap64 (Int.tdiv (wrap64 (32 * (wrap64 (t286 - t287)))) t287)) + 1)) < (t289.length : Int) then ((spec_l01Div.f (wrap64 ((wrap64 ((rd t289 (wrap64 ((wrap64 (Int.tdiv (wrap64 (32 * (wrap64 (t286 - t287)))) t287)) + 1))) - (rd t289 (wrap64 (Int.tdiv (wrap64 (32 * (wrap64 (t286 - t287)))) t287))))) * (wrap64 ((wrap64 (32 * (wrap64 (t286 - t287)))) - (wrap64 ((wrap64 (Int.tdiv (wrap64 (32 * (wrap64 (t286 - t287)))) t287)) * t287)))))) t287).bind fun t295 => (some (wrap64 ((wrap64 ((wrap64 (120000 * t288)) + (rd t289 (wrap64 (Int.tdiv (wrap64 (32 * (wrap64 (t286 - t287)))) t287))))) + t295)))) else (none)) else (none)) else (none)) else (none)))) = some r := H
 have A2 := Aside0.mk A20
 clear A20
 replace H := Option.bind_eq_some_iff.mp H
 obtain ⟨t289, A30, H⟩ := H
 replace H : (if t287 = 0 then (none) else (if 0 ≤ (wrap64 (Int.tdiv (wrap64 (32 * (wrap64 (t286 - t287)))) t287)) then (if (wrap64 (Int.tdiv (wrap64 (32 * (wrap64 (t286 - t287)))) t287)) < (t289.length : Int) then (if 0 ≤ (wrap64 ((wrap64 (Int.tdiv (wrap64 (32 * (wrap64 (t286 - t287)))) t287)) + 1)) then (if (wrap64 ((wrap64 (Int.tdiv (wrap64 (32 * (wrap64 (t286 - t287)))) t287)) + 1)) < (t289.length : Int) then ((spec_l01Div.f (wrap64 ((wrap64 ((rd t289 (wrap64 ((wrap64 (Int.tdiv (wrap64 (32 * (wrap64 (t286 - t287)))) t287)) + 1))) - (rd t289 (wrap64 (Int.tdiv (wrap64 (32 * (wrap64 (t286 - t287)))) t287))))) * (wrap64 ((wrap64 (32 * (wrap64 (t286 - t287)))) - (wrap64 ((wrap64 (Int.tdiv (wrap64 (32 * (wrap64 (t286 - t287)))) t287)) * t287)))))) t287).bind fun t295 => (some (wrap64 ((wrap64 ((wrap64 (120000 * t288)) + (rd t289 (wrap64 (Int.tdiv (wrap64 (32 * (wrap64 (t286 - t287)))) t287))))) + t295)))) else (none)) else (none)) else (none)) else (none))) = some r := H
 have A3 := Aside0.mk A30
 clear A30
 by_cases c4 : t287 = 0
 · rw [if_pos c4] at H
   exact absurd H (by simp)
 rw [if_neg c4] at H
 have c4b0 : (t287 == 0) = false := beq_eq_false_iff_ne.mpr c4
 have c4b1 : (t287 != 0) = true := bne_iff_ne.mpr c4
 obtain ⟨ji5, hji5⟩ : ∃ j_ : Int, (wrap64 (Int.tdiv (wrap64 (32 * (wrap64 (t286 - t287)))) t287)) = j_ := ⟨_, rfl⟩
 replace H : (if 0 ≤ (ji5) then (if (ji5) < (t289.length : Int) then (if 0 ≤ (wrap64 ((ji5) + 1)) then (if (wrap64 ((ji5) + 1)) < (t289.length : Int) then ((spec_l01Div.f (wrap64 ((wrap64 ((rd t289 (wrap64 ((ji5) + 1))) - (rd t289 (ji5)))) * (wrap64 ((wrap64 (32 * (wrap64 (t286 - t287)))) - (wrap64 ((ji5) * t287)))))) t287).bind fun t295 => (some (wrap64 ((wrap64 ((wrap64 (120000 * t288)) + (rd t289 (ji5)))) + t295)))) else (none)) else (none)) else (none)) else (none)) = some r := by first | (rw [hji5] at H; exact H) | (simp only [hji5] at H ⊢; exact H)
 (try rw [hji5] at A2)
 (try rw [hji5] at A3)
 have hji5w : (IntKind.i64.wrap (Int.tdiv (wrap64 (32 * (wrap64 (t286 - t287)))) t287)) = ji5 := (i64_w _).trans hji5
 by_cases c6 : 0 ≤ (ji5)
 · rw [if_pos c6] at H
   have c6b0 : decide (0 ≤ (ji5)) = true := decide_eq_true c6
   clear c6
   by_cases c7 : (ji5) < (t289.length : Int)
   · rw [if_pos c7] at H
     have c7b0 : decide ((ji5) < (t289.length : Int)) = true := decide_eq_true c7
     clear c7
     obtain ⟨ji8, hji8⟩ : ∃ j_ : Int, (wrap64 ((ji5) + 1)) = j_ := ⟨_, rfl⟩
     replace H : (if 0 ≤ (ji8) then (if (ji8) < (t289.length : Int) then ((spec_l01Div.f (wrap64 ((wrap64 ((rd t289 (ji8)) - (rd t289 (ji5)))) * (wrap64 ((wrap64 (32 * (wrap64 (t286 - t287)))) - (wrap64 ((ji5) * t287)))))) t287).bind fun t295 => (some (wrap64 ((wrap64 ((wrap64 (120000 * t288)) + (rd t289 (ji5)))) + t295)))) else (none)) else (none)) = some r := by first | (rw [hji8] at H; exact H) | (simp only [hji8] at H ⊢; exact H)
     (try rw [hji8] at A2)
     (try rw [hji8] at A3)
     have hji8w : (IntKind.i64.wrap ((ji5) + 1)) = ji8 := (i64_w _).trans hji8
     by_cases c9 : 0 ≤ (ji8)
     · rw [if_pos c9] at H
       have c9b0 : decide (0 ≤ (ji8)) = true := decide_eq_true c9
       clear c9
       by_cases c10 : (ji8) < (t289.length : Int)
       · rw [if_pos c10] at H
         have c10b0 : decide ((ji8) < (t289.length : Int)) = true := decide_eq_true c10
         clear c10
         replace H := Option.bind_eq_some_iff.mp H
         obtain ⟨t295, A110, H⟩ := H
         replace H : (some (wrap64 ((wrap64 ((wrap64 (120000 * t288)) + (rd t289 (ji5)))) + t295))) = some r := H
         have A11 := Aside0.mk A110
         clear A110
         obtain rfl := Option.some.inj H
         go_enter Tryd.func120, Tryd.ntmps120
         try go_wp2_with (first | ((with_reducible refine gate_callee (f := 172) rfl ?_); refine gL_ (some 10) rfl rfl Tryd.func172 #[.pointer A0] rfl ?_; (with_reducible refine (spec_l02Octave.calls k _ l0 t286 t287 t288 _ ?side1 ?side2 A2.out).mono ?_); (case side1 => exact tC HR0.out); (case side2 => exact HN0.out); rintro e w' ⟨rfl, ⟨nd, rfl⟩⟩; refine ⟨_, rfl, ?_⟩) | ((with_reducible refine gate_callee (f := 173) rfl ?_); refine gL_ (some 14) rfl rfl Tryd.func173 #[] rfl ?_; (with_reducible refine (spec_l02Table.calls  t289 _ A3.out).mono ?_); rintro e w12 ⟨v290, rfl, ho0, hb⟩; refine ⟨_, rfl, ?_⟩; have HO291 := Aside0.mk (Kd.R_lower ho0 (below_size (tH HB))); replace HB := Aside0.mk (below_step (tH HB) hb); (try clear hb); (try clear hb2); (try clear hk); (try clear hi); (try clear ho0)))
         replace HO291 := Aside0.mk (Kd.R_drew HO291.out)
         replace HB := Aside0.mk (below_drew1 HB.out)
         obtain ⟨Ao14, co14, eo14⟩ := Kd.R_slice HO291.out
         (first | subst eo14 | (injection eo14 with f1_ f2_ f3_; have f4_ := f1_.symm; have f5_ := f3_.symm; clear f1_ f2_ f3_; subst f4_; subst f5_))
         have p292 : 0 ≤ ((ji5) : Int) := of_decide_eq_true tA
         have q292 : (ji5) < (t289.length : Int) := of_decide_eq_true tA
         obtain ⟨ad292, e292, hx292_0⟩ := Kd.at_int (Kd.R_reads' HO291.out).2.2 (ji5) p292 q292
         cases e292
         replace p292 := eq_true p292
         replace q292 := eq_true q292
         have p293 : 0 ≤ ((ji8) : Int) := of_decide_eq_true tA
         have q293 : (ji8) < (t289.length : Int) := of_decide_eq_true tA
         obtain ⟨ad293, e293, hx293_0⟩ := Kd.at_int (Kd.R_reads' HO291.out).2.2 (ji8) p293 q293
         obtain rfl : ad292 = ad293 := (by injection e293)
         replace p293 := eq_true p293
         replace q293 := eq_true q293
         have p294 : 0 ≤ ((ji5) : Int) := of_decide_eq_true tA
         have q294 : (ji5) < (t289.length : Int) := of_decide_eq_true tA
         obtain ⟨ad294, e294, hx294_0⟩ := Kd.at_int (Kd.R_reads' HO291.out).2.2 (ji5) p294 q294
         obtain rfl : ad292 = ad294 := (by injection e294)
         replace p294 := eq_true p294
         replace q294 := eq_true q294
         refine start_ (n := 30) (S := fun w' => w'.cell? (ad292.add ((ji5)).toNat) = some (.int .i64 (rd t289 (ji5))) ∧ w'.cell? (ad292.add ((ji8)).toNat) = some (.int .i64 (rd t289 (ji8))) ∧ w'.cell? (ad292.add ((ji5)).toNat) = some (.int .i64 (rd t289 (ji5)))) (ds := []) (bq [0, 30]) (by kernel_rfl) rfl rfl ⟨hx292_0, hx293_0, hx294_0⟩ (fun hHeld => ?_); refine with_tabW spec_l02Cents.tab4 spec_l02Cents.bits4 (fun HT_ HW_ => ?_)
         generalize w12.drew = w13 at HO291 HB hx292_0 hx293_0 hx294_0 hHeld ⊢
         refine pV 0 (some 21) [1, 29] rfl rfl HT_ ?_
         refine pV 1 (some 22) [2, 28] rfl rfl HT_ ?_
         refine pV 2 (some 23) [3, 27] rfl rfl HT_ ?_
         refine pV 3 (some 24) [4, 26] rfl rfl HT_ ?_
         refine pV 4 (some 25) [5, 25] rfl rfl HT_ ?_
         refine pV 7 (some 28) [5, 2, 1, 22] rfl rfl HT_ ?_
         refine pV 8 (some 29) [5, 2, 2, 21] rfl rfl HT_ ?_
         refine pV 9 (some 30) [5, 2, 3, 20] rfl rfl HT_ ?_
         refine pV 10 (some 31) [5, 2, 4, 19] rfl rfl HT_ ?_
         refine pV 12 (some 33) [5, 2, 4, 1, 1, 17] rfl rfl HT_ ?_
         refine pV 13 (some 34) [5, 2, 4, 1, 2, 16] rfl rfl HT_ ?_
         refine pV 14 (some 35) [5, 2, 4, 1, 3, 15] rfl rfl HT_ ?_
         refine pV 17 (some 38) [5, 2, 4, 1, 3, 2, 1, 12] rfl rfl HT_ ?_
         refine pV 18 (some 39) [5, 2, 4, 1, 3, 2, 2, 11] rfl rfl HT_ ?_
         refine pV 19 (some 40) [5, 2, 4, 1, 3, 2, 3, 10] rfl rfl HT_ ?_
         refine pV 20 (some 41) [5, 2, 4, 1, 3, 2, 4, 9] rfl rfl HT_ ?_
         refine pV 21 (some 42) [5, 2, 4, 1, 3, 2, 5, 8] rfl rfl HT_ ?_
         refine pV 22 (some 43) [5, 2, 4, 1, 3, 2, 6, 7] rfl rfl HT_ ?_
         refine pV 23 (some 44) [5, 2, 4, 1, 3, 2, 7, 6] rfl rfl HT_ ?_
         refine pV 24 (some 45) [5, 2, 4, 1, 3, 2, 8, 5] rfl rfl HT_ ?_
         refine pV 26 (some 47) [5, 2, 4, 1, 3, 2, 8, 1, 1, 3] rfl rfl HT_ ?_
         refine pT 5 (some 26) (bq [6, 1, 4, 1, 3, 2, 8, 1, 1, 3]) rfl rfl HT_ HW_ hHeld ?_
         refine pV 6 (some 27) [11, 1, 3, 2, 8, 1, 1, 3] rfl rfl HT_ ?_
         refine pT 11 (some 32) (bq [15, 2, 8, 1, 1, 3]) rfl rfl HT_ HW_ hHeld ?_
         refine pT 15 (some 36) (bq [16, 1, 8, 1, 1, 3]) rfl rfl HT_ HW_ hHeld ?_
         refine pV 16 (some 37) [25, 1, 1, 3] rfl rfl HT_ ?_
         refine pV 25 (some 46) [27, 3] rfl rfl HT_ ?_
         refine pO 27 (some 48) (bq [28, 2]) rfl rfl HT_ (fun K hK => ?_)
         refine goes_ Tryd.func174 (by kernel_rfl) rfl #[.int .i64 (wrap64 ((wrap64 ((rd t289 (ji8)) - (rd t289 (ji5)))) * (wrap64 ((wrap64 (32 * (wrap64 (t286 - t287)))) - (wrap64 ((ji5) * t287)))))), .int .i64 t287] (by rfl) rfl rfl (by (try simp only [List.map_toArray, List.map_cons, List.map_nil]); first | done | (simp only [hji5, hji8]; rfl) | rfl | (simp only [List.length_drop, List.length_take]; rfl)) ?_
         with_reducible refine (spec_l01Div.calls (wrap64 ((wrap64 ((rd t289 (ji8)) - (rd t289 (ji5)))) * (wrap64 ((wrap64 (32 * (wrap64 (t286 - t287)))) - (wrap64 ((ji5) * t287)))))) t287 t295 _ A11.out).mono ?_
         rintro e w' ⟨rfl, ⟨nd, rfl⟩⟩
         refine ⟨_, rfl, ?_⟩
         refine hK.out _ _ ⟨hHeld.1, hHeld.2.1, hHeld.2.2⟩ (fun hHeld => ?_)
         clear hK K
         refine nO (some 48) ?_
         refine pV 28 (some 49) [29, 1] rfl rfl HT_ ?_
         refine pV 29 (some 2) [30] rfl rfl HT_ ?_
         refine done_ (done_of HT_.out (by kernel_rfl)) ?_
         try go_wp2
         go_ret
         exact ⟨by first | rfl | (simp [errW_none, errW_some] <;> rfl) | (simp only [← hji5, ← hji8]; first | rfl | (simp [errW_none, errW_some] <;> rfl)) | (simp [*, errW_none, errW_some] <;> rfl), tH HB⟩
       rw [if_neg c10] at H
       exact absurd H (by simp)
     rw [if_neg c9] at H
     exact absurd H (by simp)
   rw [if_neg c7] at H
   exact absurd H (by simp)
 rw [if_neg c6] at H
 exact absurd H (by simp)

end Go.Proofs.YtmeflmlejcmckaaDoor.PC
