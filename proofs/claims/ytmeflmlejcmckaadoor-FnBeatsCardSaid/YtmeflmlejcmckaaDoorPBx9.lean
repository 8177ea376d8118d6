-- WRITTEN BY wip/gprint.py, a program of this session's over the kit's print, with contracts given by hand
import Derived.Test.YtmeflmlejcmckaaDoorPBx0
import Derived.Test.YtmeflmlejcmckaaDoorPBx3
import Derived.Test.YtmeflmlejcmckaaDoorPBx7
import Derived.Test.YtmeflmlejcmckaaDoorPBx8
namespace Go.Proofs.YtmeflmlejcmckaaDoor.PB
open Go.RowKit Go.Proofs.YtmeflmlejcmckaaDoorW.PrintWords Go.Proofs.YtmeflmlejcmckaaDoorW.PrintLast Go.Proofs.YtmeflmlejcmckaaDoorW.PrintMore
attribute [local go_sem] max2_int min2_int max_two min_two max_three min_three max_four min_four   -- for this text's walks alone
set_option linter.unusedVariables false
set_option linter.unusedSimpArgs false

/-! ### spec_l04Ok: function 206 -/
mutual
def spec_l04Ok.j0 : Nat → List (S71) → Bool → Option (Bool)
 | 0, _, _ => none
 | k + 1, x0, x18 => if x18 = true then (some false) else (spec_l04Ok.l0 k x0 0)
def spec_l04Ok.l0 : Nat → List (S71) → Int → Option (Bool)
 | 0, _, _ => none
 | k + 1, x0, x3 => if x3 < (((rd_T71 x0 0).f1).length : Int) then (if 0 ≤ x3 then ((spec_l02Ok.f k [rd_T52 ((rd_T71 x0 0).f1) x3]).bind fun t198 => (if t198 = true then (if ((rd_T52 ((rd_T71 x0 0).f1) x3).f0) ≥ (wrap64 (2 * ((rd_T52 ((rd_T71 x0 0).f1) x3).f1))) then (some false) else (if x3 > 0 then (if 0 ≤ (wrap64 (x3 - 1)) then (if (wrap64 (x3 - 1)) < (((rd_T71 x0 0).f1).length : Int) then ((spec_l02Compare.f [rd_T52 ((rd_T71 x0 0).f1) (wrap64 (x3 - 1))] [rd_T52 ((rd_T71 x0 0).f1) x3]).bind fun t201 => (if t201 ≥ 0 then (some false) else (spec_l04Ok.l0 k x0 (wrap64 (x3 + 1))))) else (none)) else (none)) else (spec_l04Ok.l0 k x0 (wrap64 (x3 + 1))))) else (some false))) else (none)) else (if 0 < (((rd_T71 x0 0).f1).length : Int) then (if ((rd_T52 ((rd_T71 x0 0).f1) 0).f0) = 1 then (some (((rd_T52 ((rd_T71 x0 0).f1) 0).f1) == 1)) else (some false)) else (none))
end
def spec_l04Ok.f (k : Nat) (l0 : List (S71)) : Option (Bool) := (spec_l01Name.f k ((rd_T71 l0 0).f0)).bind fun t191 => (if t191 = true then (spec_l04Ok.j0 k l0 ((((rd_T71 l0 0).f1).length : Int) != 12)) else (spec_l04Ok.j0 k l0 true))
theorem spec_l04Ok.mono_l : ∀ k, (∀ y0 y1, LeO (spec_l04Ok.j0 k y0 y1) (spec_l04Ok.j0 (k + 1) y0 y1)) ∧ (∀ y0 y1, LeO (spec_l04Ok.l0 k y0 y1) (spec_l04Ok.l0 (k + 1) y0 y1))
 | 0 => ⟨fun _ _ r h => by simp [spec_l04Ok.j0] at h, fun _ _ r h => by simp [spec_l04Ok.l0] at h⟩
 | k + 1 => by
  obtain ⟨ih0, ih1⟩ := spec_l04Ok.mono_l k
  refine ⟨?_, ?_⟩
  all_goals (intros; (first | unfold spec_l04Ok.j0 | unfold spec_l04Ok.l0); repeat' first
   | (with_reducible exact ih0 _ _)
   | (with_reducible exact ih1 _ _)
   | (with_reducible exact spec_l01Name.mono _ _)
   | (with_reducible exact spec_l02Ok.mono _ _)
   | (with_reducible exact LeO.refl _)
   | (with_reducible exact LeO.none _)
   | (with_reducible refine LeO.ite ?_ ?_)
   | (with_reducible refine LeO.bind ?_ (fun _ => ?_))
   | exact ih0 _ _
   | exact ih1 _ _
   | exact spec_l01Name.mono _ _
   | exact spec_l02Ok.mono _ _
   | exact LeO.none _
   | refine LeO.ite ?_ ?_
   | refine LeO.bind ?_ (fun _ => ?_))
theorem spec_l04Ok.mono : ∀ a0 k, LeO (spec_l04Ok.f k a0) (spec_l04Ok.f (k + 1) a0) := by
 intro a0 k
 obtain ⟨ih0, ih1⟩ := spec_l04Ok.mono_l k
 unfold spec_l04Ok.f
 repeat' first
  | (with_reducible exact ih0 _ _)
  | (with_reducible exact ih1 _ _)
  | (with_reducible exact spec_l01Name.mono _ _)
  | (with_reducible exact spec_l02Ok.mono _ _)
  | (with_reducible exact LeO.refl _)
  | (with_reducible exact LeO.none _)
  | (with_reducible refine LeO.ite ?_ ?_)
  | (with_reducible refine LeO.bind ?_ (fun _ => ?_))
  | exact ih0 _ _
  | exact ih1 _ _
  | exact spec_l01Name.mono _ _
  | exact spec_l02Ok.mono _ _
  | exact LeO.none _
  | refine LeO.ite ?_ ?_
  | refine LeO.bind ?_ (fun _ => ?_)
def spec_l04Ok.T7 : Bool × List (List Nat × List Nat) := (true, [([], []), ([0], [0]), ([1], [1]), ([2, 1], [2]), ([3], [3]), ([4, 3], [3, 4]), ([5, 3], [3, 5]), ([6, 3], [3, 6]), ([3], [3]), ([8, 3], [3, 8]), ([9, 3], [3, 9]), ([10, 3], [3, 10]), ([11, 3], [3, 11]), ([7, 12, 3], [3, 7, 12]), ([3, 13], [3, 13]), ([14, 3], [14]), ([15], [15]), ([16, 15], [15, 16]), ([17, 15, 15], [15, 17]), ([18], [18]), ([19, 18], [18, 19]), ([20, 18], [18, 20]), ([21, 18], [18, 21]), ([18], [18]), ([23, 18], [18, 23]), ([22, 24, 18], [18, 22, 24]), ([18], [18]), ([25, 26, 18, 18], [18, 25, 26]), ([27, 18], [18, 27]), ([18, 28, 15], [15, 18, 28]), ([15, 29], [15, 29])])
def spec_l04Ok.B7 : List Nat := [0, 1, 3, 7, 15, 31, 63, 127, 15, 271, 783, 1807, 3855, 8191, 16383, 32767, 65535, 131071, 262143, 524287, 1048575, 2097151, 4194303, 524287, 8912895, 33554431, 524287, 134217727, 268435455, 536870911, 1073741823]
theorem spec_l04Ok.tab7 : rtab .any (opsOf Tryd.f206 7) = spec_l04Ok.T7 := by kernel_rfl
theorem spec_l04Ok.bits7 : waitsOk spec_l04Ok.T7.2 spec_l04Ok.B7 = true := by kernel_rfl
set_option maxHeartbeats 8000000 in
set_option maxRecDepth 100000 in
theorem spec_l04Ok.calls (k : Nat) (A0 : Option Addr) (l0 : List (S71)) (r : Bool) (w : World) (hr0 : Kd.C k71 w A0 l0.length l0) (hn0 : 0 < l0.length) (h : spec_l04Ok.f k l0 = some r) :
 Calls Tryd.prog 206 #[.pointer A0] w fun e w' => e = .returned (.bool r) ∧ Below w.heap.size w w' := by
 have HR0 := Aside0.mk hr0
 clear hr0
 have HN0 := Aside0.mk hn0
 have hn0b0 : decide ((0 : Int) < (l0.length : Int)) = true := decide_eq_true (Int.ofNat_lt.2 hn0)
 have hn0b1 : decide (0 < l0.length) = true := decide_eq_true hn0
 clear hn0
 have HB := Aside0.mk (Below.refl w.heap.size w)
 have H : ((spec_l01Name.f k ((rd_T71 l0 0).f0)).bind fun t191 => (if t191 = true then (spec_l04Ok.j0 k l0 ((((rd_T71 l0 0).f1).length : Int) != 12)) else (spec_l04Ok.j0 k l0 true))) = some r := h
 clear h
 have HC2 := Aside0.mk H
 clear H
 go_enter Tryd.func206, Tryd.ntmps206
 go_upto_region 1 with (fail)
 go_cut [18] (fun v18 wc => ∃ (kq : Nat) (x18_1 : Bool), v18 = .bool x18_1 ∧ Aside0 (spec_l04Ok.j0 kq l0 x18_1 = some r) ∧ Aside0 (kq ≤ k) ∧ Aside0 (Below w.heap.size w wc))
 case first =>
  have H := HC2.out
  clear HC2
  replace H := Option.bind_eq_some_iff.mp H
  obtain ⟨t191, A30, H⟩ := H
  replace H : (if t191 = true then (spec_l04Ok.j0 k l0 ((((rd_T71 l0 0).f1).length : Int) != 12)) else (spec_l04Ok.j0 k l0 true)) = some r := H
  have A3 := Aside0.mk A30
  clear A30
  by_cases c4 : t191 = true
  · subst c4
    have H1 : (spec_l04Ok.j0 k l0 ((((rd_T71 l0 0).f1).length : Int) != 12)) = some r := by rw [if_pos rfl] at H; exact H
    clear H
    have H := H1
    clear H1
    have H' := Aside0.mk H
    clear H
    have p190 : 0 ≤ (0 : Int) := (by omega)
    have q190 : 0 < (l0.length : Int) := of_decide_eq_true tA
    obtain ⟨ad190, A190_1, c190_1, e190, hx190_0, hx190_1, hl190_1, hi190_1⟩ := at_T71 HR0.out 0 p190 q190
    cases e190
    have qi190 : (0 < l0.length) = True := eq_true (by omega)
    (try rw [t0n] at hx190_0)
    (try rw [show 0 * 2 = 0 from rfl] at hx190_0)
    (try rw [Addr.add_zero'] at hx190_0)
    (try rw [t0n] at hx190_1)
    (try rw [show 0 * 2 = 0 from rfl] at hx190_1)
    (try rw [Addr.add_zero'] at hx190_1)
    replace hx190_0 := tW HB hx190_0
    replace hx190_1 := tW HB hx190_1
    have HR190_1 := Aside0.mk hi190_1
    have HC190_1 := Aside0.mk hl190_1
    clear hi190_1 hl190_1
    replace p190 := eq_true p190
    replace q190 := eq_true q190
    go_wp2_with (first | ((with_reducible refine gate_callee (f := 156) rfl ?_); refine gL_ (some 9) rfl rfl Tryd.func156 #[.string ((rd_T71 l0 0).f0)] rfl ?_; (with_reducible refine (spec_l01Name.calls k ((rd_T71 l0 0).f0) true _ A3.out).mono ?_); rintro e w' ⟨rfl, ⟨nd, rfl⟩⟩; refine ⟨_, rfl, ?_⟩))
    go_meet
    case rel => exact ⟨_, (((((rd_T71 l0 0).f1).length : Int) != 12)), tq, H', ⟨by first | omega | exact Nat.le_refl _⟩, ⟨tH HB⟩⟩
  replace c4 := Bool.eq_false_iff.mpr c4
  subst c4
  have H1 : (spec_l04Ok.j0 k l0 true) = some r := by rw [if_neg (show ¬ (false = true) by decide)] at H; exact H
  clear H
  have H := H1
  clear H1
  have H' := Aside0.mk H
  clear H
  have p190 : 0 ≤ (0 : Int) := (by omega)
  have q190 : 0 < (l0.length : Int) := of_decide_eq_true tA
  obtain ⟨ad190, A190_1, c190_1, e190, hx190_0, hx190_1, hl190_1, hi190_1⟩ := at_T71 HR0.out 0 p190 q190
  cases e190
  have qi190 : (0 < l0.length) = True := eq_true (by omega)
  (try rw [t0n] at hx190_0)
  (try rw [show 0 * 2 = 0 from rfl] at hx190_0)
  (try rw [Addr.add_zero'] at hx190_0)
  (try rw [t0n] at hx190_1)
  (try rw [show 0 * 2 = 0 from rfl] at hx190_1)
  (try rw [Addr.add_zero'] at hx190_1)
  replace hx190_0 := tW HB hx190_0
  replace hx190_1 := tW HB hx190_1
  have HR190_1 := Aside0.mk hi190_1
  have HC190_1 := Aside0.mk hl190_1
  clear hi190_1 hl190_1
  replace p190 := eq_true p190
  replace q190 := eq_true q190
  go_wp2_with (first | ((with_reducible refine gate_callee (f := 156) rfl ?_); refine gL_ (some 9) rfl rfl Tryd.func156 #[.string ((rd_T71 l0 0).f0)] rfl ?_; (with_reducible refine (spec_l01Name.calls k ((rd_T71 l0 0).f0) false _ A3.out).mono ?_); rintro e w' ⟨rfl, ⟨nd, rfl⟩⟩; refine ⟨_, rfl, ?_⟩))
  go_meet
  case rel => exact ⟨_, (true), tq, H', ⟨by first | omega | exact Nat.le_refl _⟩, ⟨tH HB⟩⟩
 case rest =>
 clear HC2
 try clear c1
 try clear p1
 try clear q1
 try clear hx1
 try clear qi1
 try clear c2
 try clear p2
 try clear c4
 try clear hx190_0
 try clear hx190_1
 try clear p190
 try clear q190
 obtain ⟨kq, x18_1, rfl, HA, HJ1, HB⟩ := hcut
 cases kq with
 | zero => exact absurd HA.out (by simp [spec_l04Ok.j0])
 | succ kj1 =>
 have H := HA.out
 clear HA
 simp only [spec_l04Ok.j0] at H
 by_cases c5 : x18_1 = true
 · subst c5
   have H1 : (some false) = some r := by rw [if_pos rfl] at H; exact H
   clear H
   have H := H1
   clear H1
   obtain rfl := Option.some.inj H
   go_wp2
   go_ret
   exact ⟨tE, tH HB⟩
 replace c5 := Bool.eq_false_iff.mpr c5
 subst c5
 have H1 : (spec_l04Ok.l0 kj1 l0 0) = some r := by rw [if_neg (show ¬ (false = true) by decide)] at H; exact H
 clear H
 have H := H1
 clear H1
 have H' := Aside0.mk H
 clear H
 go_wp2
 go_loopg [3] kj1 (fun kq v3 w' => ∃ (x3_2 : Int), v3 = .int .i64 x3_2 ∧ Aside0 (spec_l04Ok.l0 kq l0 x3_2 = some r) ∧ Aside0 (kq ≤ kj1) ∧ Aside0 (Below w.heap.size w w'))
 case atStart => exact ⟨(0), tq, H', ⟨Nat.le_refl _⟩, ⟨tH HB⟩⟩
 case round =>
 clear H'
 try clear c1
 try clear p1
 try clear q1
 try clear hx1
 try clear qi1
 try clear c2
 try clear p2
 try clear c4
 try clear c5
 try clear hx190_0
 try clear hx190_1
 try clear p1
 try clear p190
 try clear p2
 try clear q1
 try clear q190
 obtain ⟨x3_2, rfl, HA, HK2, HB⟩ := hrel
 cases gk with
 | zero => exact absurd HA.out (by simp [spec_l04Ok.l0])
 | succ k2 =>
 have H := HA.out
 clear HA
 simp only [spec_l04Ok.l0] at H
 by_cases c6 : x3_2 < (((rd_T71 l0 0).f1).length : Int)
 · rw [if_pos c6] at H
   have c6b0 : decide (x3_2 < (((rd_T71 l0 0).f1).length : Int)) = true := decide_eq_true c6
   clear c6
   by_cases c7 : 0 ≤ x3_2
   · rw [if_pos c7] at H
     have c7b0 : decide (0 ≤ x3_2) = true := decide_eq_true c7
     clear c7
     replace H := Option.bind_eq_some_iff.mp H
     obtain ⟨t198, A80, H⟩ := H
     replace H : (if t198 = true then (if ((rd_T52 ((rd_T71 l0 0).f1) x3_2).f0) ≥ (wrap64 (2 * ((rd_T52 ((rd_T71 l0 0).f1) x3_2).f1))) then (some false) else (if x3_2 > 0 then (if 0 ≤ (wrap64 (x3_2 - 1)) then (if (wrap64 (x3_2 - 1)) < (((rd_T71 l0 0).f1).length : Int) then ((spec_l02Compare.f [rd_T52 ((rd_T71 l0 0).f1) (wrap64 (x3_2 - 1))] [rd_T52 ((rd_T71 l0 0).f1) x3_2]).bind fun t201 => (if t201 ≥ 0 then (some false) else (spec_l04Ok.l0 k2 l0 (wrap64 (x3_2 + 1))))) else (none)) else (none)) else (spec_l04Ok.l0 k2 l0 (wrap64 (x3_2 + 1))))) else (some false)) = some r := H
     have A8 := Aside0.mk A80
     clear A80
     by_cases c9 : t198 = true
     · subst c9
       have H1 : (if ((rd_T52 ((rd_T71 l0 0).f1) x3_2).f0) ≥ (wrap64 (2 * ((rd_T52 ((rd_T71 l0 0).f1) x3_2).f1))) then (some false) else (if x3_2 > 0 then (if 0 ≤ (wrap64 (x3_2 - 1)) then (if (wrap64 (x3_2 - 1)) < (((rd_T71 l0 0).f1).length : Int) then ((spec_l02Compare.f [rd_T52 ((rd_T71 l0 0).f1) (wrap64 (x3_2 - 1))] [rd_T52 ((rd_T71 l0 0).f1) x3_2]).bind fun t201 => (if t201 ≥ 0 then (some false) else (spec_l04Ok.l0 k2 l0 (wrap64 (x3_2 + 1))))) else (none)) else (none)) else (spec_l04Ok.l0 k2 l0 (wrap64 (x3_2 + 1))))) = some r := by rw [if_pos rfl] at H; exact H
       clear H
       have H := H1
       clear H1
       by_cases c10 : ((rd_T52 ((rd_T71 l0 0).f1) x3_2).f0) ≥ (wrap64 (2 * ((rd_T52 ((rd_T71 l0 0).f1) x3_2).f1)))
       · rw [if_pos c10] at H
         have c10b0 : decide ((wrap64 (2 * ((rd_T52 ((rd_T71 l0 0).f1) x3_2).f1))) ≤ ((rd_T52 ((rd_T71 l0 0).f1) x3_2).f0)) = true := decide_eq_true c10
         clear c10
         obtain rfl := Option.some.inj H
         have p192 : 0 ≤ (0 : Int) := (by omega)
         have q192 : 0 < (l0.length : Int) := of_decide_eq_true tA
         obtain ⟨ad192, A192_1, c192_1, e192, hx192_0, hx192_1, hl192_1, hi192_1⟩ := at_T71 HR0.out 0 p192 q192
         cases e192
         have qi192 : (0 < l0.length) = True := eq_true (by omega)
         (try rw [t0n] at hx192_0)
         (try rw [show 0 * 2 = 0 from rfl] at hx192_0)
         (try rw [Addr.add_zero'] at hx192_0)
         (try rw [t0n] at hx192_1)
         (try rw [show 0 * 2 = 0 from rfl] at hx192_1)
         (try rw [Addr.add_zero'] at hx192_1)
         replace hx192_0 := tW HB hx192_0
         replace hx192_1 := tW HB hx192_1
         have HR192_1 := Aside0.mk hi192_1
         have HC192_1 := Aside0.mk hl192_1
         clear hi192_1 hl192_1
         replace p192 := eq_true p192
         replace q192 := eq_true q192
         have p196 : 0 ≤ (0 : Int) := (by omega)
         have q196 : 0 < (l0.length : Int) := of_decide_eq_true tA
         obtain ⟨ad196, A196_1, c196_1, e196, hx196_0, hx196_1, hl196_1, hi196_1⟩ := at_T71 HR0.out 0 p196 q196
         obtain rfl : ad192 = ad196 := (by injection e196)
         have qi196 : (0 < l0.length) = True := eq_true (by omega)
         (try rw [t0n] at hx196_0)
         (try rw [show 0 * 2 = 0 from rfl] at hx196_0)
         (try rw [Addr.add_zero'] at hx196_0)
         (try rw [t0n] at hx196_1)
         (try rw [show 0 * 2 = 0 from rfl] at hx196_1)
         (try rw [Addr.add_zero'] at hx196_1)
         replace hx196_0 := tW HB hx196_0
         replace hx196_1 := tW HB hx196_1
         have HR196_1 := Aside0.mk hi196_1
         have HC196_1 := Aside0.mk hl196_1
         clear hi196_1 hl196_1
         replace p196 := eq_true p196
         replace q196 := eq_true q196
         have ea_ := Option.some.inj (hx192_1.symm.trans hx196_1)
         injection ea_ with ea_ en_ ec_
         subst ea_
         subst ec_
         clear en_
         have p197 : 0 ≤ (x3_2 : Int) := of_decide_eq_true tA
         have q197 : x3_2 < (((rd_T71 l0 0).f1).length : Int) := of_decide_eq_true tA
         obtain ⟨ad197, e197, hx197_0, hx197_1⟩ := at_T52 HR196_1.out x3_2 p197 q197
         have hw197_0 := hx197_0
         have hw197_1 := hx197_1
         cases e197
         replace hx197_0 := tW HB hx197_0
         replace hx197_1 := tW HB hx197_1
         replace p197 := eq_true p197
         replace q197 := eq_true q197
         try go_wp2
         replace HB := Aside0.mk (below_drew1 HB.out)
         refine start_ (n := 31) (S := fun w' => w'.cell? (ad197.add ((x3_2).toNat * 2)) = some (.int .i64 ((rd_T52 ((rd_T71 l0 0).f1) x3_2).f0)) ∧ w'.cell? ⟨(ad197.add ((x3_2).toNat * 2)).block, (ad197.add ((x3_2).toNat * 2)).off + 1, none⟩ = some (.int .i64 ((rd_T52 ((rd_T71 l0 0).f1) x3_2).f1))) (ds := []) (bq [0, 31]) (by kernel_rfl) rfl rfl ⟨(tW HB hw197_0), (tW HB hw197_1)⟩ (fun hHeld => ?_); refine with_tabW spec_l04Ok.tab7 spec_l04Ok.bits7 (fun HT_ HW_ => ?_)
         generalize wr.drew = w11 at HB hHeld ⊢
         refine pV 0 (some 34) [1, 30] rfl rfl HT_ ?_
         refine pO 1 (some 35) (bq [2, 29]) rfl rfl HT_ (fun K hK => ?_)
         refine gS_ Tryd.func117 #[.pointer (some (ad197.add ((x3_2).toNat * 2)))] rfl rfl ?_
         with_reducible refine (spec_l02Ok.calls k2 _ [rd_T52 ((rd_T71 l0 0).f1) x3_2] true _ ?side1 ?side2 A8.out).mono ?_
         (case side1 => refine Kd.C_one (i := x3_2) (n := ((rd_T71 l0 0).f1).length) (xs := ((rd_T71 l0 0).f1)) (z := z52) ?_ (of_eq_true p197) (of_eq_true q197); exact tC (Kd.C_below HR196_1.out HB.out))
         (case side2 => exact Nat.one_pos)
         rintro e w' ⟨rfl, ⟨nd, rfl⟩⟩
         refine ⟨_, rfl, ?_⟩
         refine hK.out _ _ ⟨(tW HB hw197_0), (tW HB hw197_1)⟩ (fun hHeld => ?_)
         clear hK K
         refine nO (some 35) ?_
         refine pV 2 (some 36) [3, 28] rfl rfl HT_ ?_
         refine pV 3 (some 37) [4, 27] rfl rfl HT_ ?_
         refine pV 4 (some 38) [5, 26] rfl rfl HT_ ?_
         refine pV 5 (some 39) [6, 25] rfl rfl HT_ ?_
         refine pV 6 (some 40) [7, 24] rfl rfl HT_ ?_
         refine pV 8 (some 42) [7, 1, 1, 22] rfl rfl HT_ ?_
         refine pV 9 (some 43) [7, 1, 2, 21] rfl rfl HT_ ?_
         refine pV 10 (some 44) [7, 1, 3, 20] rfl rfl HT_ ?_
         refine take_ (i := 7) (N := some 41) (v := ?_) (a' := ?_) (bq [11, 20]) rfl rfl (take_ofW HT_.out HW_.out (by kernel_rfl)) (fun _ _ _ h => h) (Or.inl ⟨by rfl, ?_⟩) hHeld ?_ ?_
         rotate_left
         · intro w' hS_
           obtain ⟨hS0_, hS1_⟩ := hS_
           go_simp
           with_reducible rfl
         rotate_left
         · simp only [Act.put, sx0, sx1, sx2, i64_w, i32_w]
           rfl
         refine take_ (i := 11) (N := some 45) (v := ?_) (a' := ?_) (bq [12, 19]) rfl rfl (take_ofW HT_.out HW_.out (by kernel_rfl)) (fun _ _ _ h => h) (Or.inl ⟨by rfl, ?_⟩) hHeld ?_ ?_
         rotate_left
         · intro w' hS_
           obtain ⟨hS0_, hS1_⟩ := hS_
           go_simp
           with_reducible rfl
         rotate_left
         · simp only [Act.put, sx0, sx1, sx2, i64_w, i32_w]
           rfl
         refine pV 12 (some 46) [13, 18] rfl rfl HT_ ?_
         refine pV 13 (some 47) [14, 17] rfl rfl HT_ ?_
         refine pV 14 (some 48) [15, 16] rfl rfl HT_ ?_
         refine pV 15 (some 49) [16, 15] rfl rfl HT_ ?_
         refine pU 16 (some 50) [17, 14] rfl rfl HT_ ?_
         refine pU 17 (some 51) [18, 13] rfl rfl HT_ ?_
         refine pU 18 (some 52) [19, 12] rfl rfl HT_ ?_
         refine pU 19 (some 53) [20, 11] rfl rfl HT_ ?_
         refine pU 20 (some 54) [21, 10] rfl rfl HT_ ?_
         refine pU 21 (some 55) [22, 9] rfl rfl HT_ ?_
         refine pU 22 (some 56) [23, 8] rfl rfl HT_ ?_
         refine pU 23 (some 57) [24, 7] rfl rfl HT_ ?_
         refine pU 24 (some 58) [25, 6] rfl rfl HT_ ?_
         refine pU 25 (some 59) [26, 5] rfl rfl HT_ ?_
         refine pU 26 (some 60) [27, 4] rfl rfl HT_ ?_
         refine pU 27 (some 61) [28, 3] rfl rfl HT_ ?_
         refine pU 28 (some 62) [29, 2] rfl rfl HT_ ?_
         refine pU 29 (some 63) [30, 1] rfl rfl HT_ ?_
         refine pV 30 (some 64) [31] rfl rfl HT_ ?_
         refine done_ (done_of HT_.out (by kernel_rfl)) ?_
         try go_wp2
         go_ret
         exact ⟨tE, tH HB⟩
       rw [if_neg c10] at H
       have c10b0 : decide ((wrap64 (2 * ((rd_T52 ((rd_T71 l0 0).f1) x3_2).f1))) ≤ ((rd_T52 ((rd_T71 l0 0).f1) x3_2).f0)) = false := decide_eq_false c10
       clear c10
       by_cases c12 : x3_2 > 0
       · rw [if_pos c12] at H
         have c12b0 : decide (0 < x3_2) = true := decide_eq_true c12
         clear c12
         obtain ⟨ji13, hji13⟩ : ∃ j_ : Int, (wrap64 (x3_2 - 1)) = j_ := ⟨_, rfl⟩
         replace H : (if 0 ≤ (ji13) then (if (ji13) < (((rd_T71 l0 0).f1).length : Int) then ((spec_l02Compare.f [rd_T52 ((rd_T71 l0 0).f1) (ji13)] [rd_T52 ((rd_T71 l0 0).f1) x3_2]).bind fun t201 => (if t201 ≥ 0 then (some false) else (spec_l04Ok.l0 k2 l0 (wrap64 (x3_2 + 1))))) else (none)) else (none)) = some r := by first | (rw [hji13] at H; exact H) | (simp only [hji13] at H ⊢; exact H)
         (try rw [hji13] at A8)
         have hji13w : (IntKind.i64.wrap (x3_2 - 1)) = ji13 := (i64_w _).trans hji13
         by_cases c14 : 0 ≤ (ji13)
         · rw [if_pos c14] at H
           have c14b0 : decide (0 ≤ (ji13)) = true := decide_eq_true c14
           clear c14
           by_cases c15 : (ji13) < (((rd_T71 l0 0).f1).length : Int)
           · rw [if_pos c15] at H
             have c15b0 : decide ((ji13) < (((rd_T71 l0 0).f1).length : Int)) = true := decide_eq_true c15
             clear c15
             replace H := Option.bind_eq_some_iff.mp H
             obtain ⟨t201, A160, H⟩ := H
             replace H : (if t201 ≥ 0 then (some false) else (spec_l04Ok.l0 k2 l0 (wrap64 (x3_2 + 1)))) = some r := H
             have A16 := Aside0.mk A160
             clear A160
             by_cases c17 : t201 ≥ 0
             · rw [if_pos c17] at H
               have c17b0 : decide (0 ≤ t201) = true := decide_eq_true c17
               clear c17
               obtain rfl := Option.some.inj H
               have p192 : 0 ≤ (0 : Int) := (by omega)
               have q192 : 0 < (l0.length : Int) := of_decide_eq_true tA
               obtain ⟨ad192, A192_1, c192_1, e192, hx192_0, hx192_1, hl192_1, hi192_1⟩ := at_T71 HR0.out 0 p192 q192
               cases e192
               have qi192 : (0 < l0.length) = True := eq_true (by omega)
               (try rw [t0n] at hx192_0)
               (try rw [show 0 * 2 = 0 from rfl] at hx192_0)
               (try rw [Addr.add_zero'] at hx192_0)
               (try rw [t0n] at hx192_1)
               (try rw [show 0 * 2 = 0 from rfl] at hx192_1)
               (try rw [Addr.add_zero'] at hx192_1)
               replace hx192_0 := tW HB hx192_0
               replace hx192_1 := tW HB hx192_1
               have HR192_1 := Aside0.mk hi192_1
               have HC192_1 := Aside0.mk hl192_1
               clear hi192_1 hl192_1
               replace p192 := eq_true p192
               replace q192 := eq_true q192
               have p196 : 0 ≤ (0 : Int) := (by omega)
               have q196 : 0 < (l0.length : Int) := of_decide_eq_true tA
               obtain ⟨ad196, A196_1, c196_1, e196, hx196_0, hx196_1, hl196_1, hi196_1⟩ := at_T71 HR0.out 0 p196 q196
               obtain rfl : ad192 = ad196 := (by injection e196)
               have qi196 : (0 < l0.length) = True := eq_true (by omega)
               (try rw [t0n] at hx196_0)
               (try rw [show 0 * 2 = 0 from rfl] at hx196_0)
               (try rw [Addr.add_zero'] at hx196_0)
               (try rw [t0n] at hx196_1)
               (try rw [show 0 * 2 = 0 from rfl] at hx196_1)
               (try rw [Addr.add_zero'] at hx196_1)
               replace hx196_0 := tW HB hx196_0
               replace hx196_1 := tW HB hx196_1
               have HR196_1 := Aside0.mk hi196_1
               have HC196_1 := Aside0.mk hl196_1
               clear hi196_1 hl196_1
               replace p196 := eq_true p196
               replace q196 := eq_true q196
               have ea_ := Option.some.inj (hx192_1.symm.trans hx196_1)
               injection ea_ with ea_ en_ ec_
               subst ea_
               subst ec_
               clear en_
               have p197 : 0 ≤ (x3_2 : Int) := of_decide_eq_true tA
               have q197 : x3_2 < (((rd_T71 l0 0).f1).length : Int) := of_decide_eq_true tA
               obtain ⟨ad197, e197, hx197_0, hx197_1⟩ := at_T52 HR196_1.out x3_2 p197 q197
               have hw197_0 := hx197_0
               have hw197_1 := hx197_1
               cases e197
               replace hx197_0 := tW HB hx197_0
               replace hx197_1 := tW HB hx197_1
               replace p197 := eq_true p197
               replace q197 := eq_true q197
               try go_wp2
               replace HB := Aside0.mk (below_drew1 HB.out)
               have p199 : 0 ≤ (0 : Int) := (by omega)
               have q199 : 0 < (l0.length : Int) := of_decide_eq_true tA
               obtain ⟨ad199, A199_1, c199_1, e199, hx199_0, hx199_1, hl199_1, hi199_1⟩ := at_T71 HR0.out 0 p199 q199
               have hw199_1 := hx199_1
               (try rw [t0n] at hw199_1)
               (try rw [show 0 * 2 = 0 from rfl] at hw199_1)
               (try rw [Addr.add_zero'] at hw199_1)
               have hw199_0 := hx199_0
               (try rw [t0n] at hw199_0)
               (try rw [show 0 * 2 = 0 from rfl] at hw199_0)
               (try rw [Addr.add_zero'] at hw199_0)
               obtain rfl : ad192 = ad199 := (by injection e199)
               have qi199 : (0 < l0.length) = True := eq_true (by omega)
               (try rw [t0n] at hx199_0)
               (try rw [show 0 * 2 = 0 from rfl] at hx199_0)
               (try rw [Addr.add_zero'] at hx199_0)
               (try rw [t0n] at hx199_1)
               (try rw [show 0 * 2 = 0 from rfl] at hx199_1)
               (try rw [Addr.add_zero'] at hx199_1)
               replace hx199_0 := tW HB hx199_0
               replace hx199_1 := tW HB hx199_1
               have HR199_1 := Aside0.mk hi199_1
               have HC199_1 := Aside0.mk hl199_1
               clear hi199_1 hl199_1
               replace p199 := eq_true p199
               replace q199 := eq_true q199
               have p200 : 0 ≤ ((ji13) : Int) := of_decide_eq_true tA
               have q200 : (ji13) < (((rd_T71 l0 0).f1).length : Int) := of_decide_eq_true tA
               obtain ⟨ad200, e200, hx200_0, hx200_1⟩ := at_T52 HR199_1.out (ji13) p200 q200
               have hw200_1 := hx200_1
               have hw200_0 := hx200_0
               cases e200
               replace hx200_0 := tW HB hx200_0
               replace hx200_1 := tW HB hx200_1
               replace p200 := eq_true p200
               replace q200 := eq_true q200
               refine start_ (n := 31) (S := fun w' => w'.cell? (ad197.add ((x3_2).toNat * 2)) = some (.int .i64 ((rd_T52 ((rd_T71 l0 0).f1) x3_2).f0)) ∧ w'.cell? ⟨(ad197.add ((x3_2).toNat * 2)).block, (ad197.add ((x3_2).toNat * 2)).off + 1, none⟩ = some (.int .i64 ((rd_T52 ((rd_T71 l0 0).f1) x3_2).f1)) ∧ w'.cell? ad192 = some (.string ((rd_T71 l0 0).f0)) ∧ w'.cell? ⟨ad192.block, ad192.off + 1, none⟩ = some (.slice (some ad200) ((rd_T71 l0 0).f1).length c199_1) ∧ w'.cell? (ad200.add (((ji13)).toNat * 2)) = some (.int .i64 ((rd_T52 ((rd_T71 l0 0).f1) (ji13)).f0)) ∧ w'.cell? ⟨(ad200.add (((ji13)).toNat * 2)).block, (ad200.add (((ji13)).toNat * 2)).off + 1, none⟩ = some (.int .i64 ((rd_T52 ((rd_T71 l0 0).f1) (ji13)).f1))) (ds := []) (bq [0, 31]) (by kernel_rfl) rfl rfl ⟨(tW HB hw197_0), (tW HB hw197_1), (tW HB hw199_0), (tW HB hw199_1), (tW HB hw200_0), (tW HB hw200_1)⟩ (fun hHeld => ?_); refine with_tabW spec_l04Ok.tab7 spec_l04Ok.bits7 (fun HT_ HW_ => ?_)
               generalize wr.drew = w18 at HB HR199_1 hx199_0 hx199_1 hx200_0 hx200_1 hHeld ⊢
               refine pV 0 (some 34) [1, 30] rfl rfl HT_ ?_
               refine pO 1 (some 35) (bq [2, 29]) rfl rfl HT_ (fun K hK => ?_)
               refine gS_ Tryd.func117 #[.pointer (some (ad197.add ((x3_2).toNat * 2)))] rfl rfl ?_
               with_reducible refine (spec_l02Ok.calls k2 _ [rd_T52 ((rd_T71 l0 0).f1) x3_2] true _ ?side1 ?side2 A8.out).mono ?_
               (case side1 => refine Kd.C_one (i := x3_2) (n := ((rd_T71 l0 0).f1).length) (xs := ((rd_T71 l0 0).f1)) (z := z52) ?_ (of_eq_true p197) (of_eq_true q197); exact tC (Kd.C_below HR196_1.out HB.out))
               (case side2 => exact Nat.one_pos)
               rintro e w' ⟨rfl, ⟨nd, rfl⟩⟩
               refine ⟨_, rfl, ?_⟩
               refine hK.out _ _ ⟨(tW HB hw197_0), (tW HB hw197_1), (tW HB hw199_0), (tW HB hw199_1), (tW HB hw200_0), (tW HB hw200_1)⟩ (fun hHeld => ?_)
               clear hK K
               refine nO (some 35) ?_
               refine pV 2 (some 36) [3, 28] rfl rfl HT_ ?_
               refine pV 3 (some 37) [4, 27] rfl rfl HT_ ?_
               refine pV 4 (some 38) [5, 26] rfl rfl HT_ ?_
               refine pV 5 (some 39) [6, 25] rfl rfl HT_ ?_
               refine pV 6 (some 40) [7, 24] rfl rfl HT_ ?_
               refine pV 8 (some 42) [7, 1, 1, 22] rfl rfl HT_ ?_
               refine pV 9 (some 43) [7, 1, 2, 21] rfl rfl HT_ ?_
               refine pV 10 (some 44) [7, 1, 3, 20] rfl rfl HT_ ?_
               refine pT 7 (some 41) (bq [11, 20]) rfl rfl HT_ HW_ hHeld ?_
               refine pT 11 (some 45) (bq [12, 19]) rfl rfl HT_ HW_ hHeld ?_
               refine pV 12 (some 46) [13, 18] rfl rfl HT_ ?_
               refine pV 13 (some 47) [14, 17] rfl rfl HT_ ?_
               refine pV 14 (some 48) [15, 16] rfl rfl HT_ ?_
               refine pV 15 (some 49) [16, 15] rfl rfl HT_ ?_
               refine pV 16 (some 50) [17, 14] rfl rfl HT_ ?_
               refine pV 17 (some 51) [18, 13] rfl rfl HT_ ?_
               refine pV 18 (some 52) [19, 12] rfl rfl HT_ ?_
               refine pV 19 (some 53) [20, 11] rfl rfl HT_ ?_
               refine pV 20 (some 54) [21, 10] rfl rfl HT_ ?_
               refine pV 21 (some 55) [22, 9] rfl rfl HT_ ?_
               refine pV 23 (some 57) [22, 1, 1, 7] rfl rfl HT_ ?_
               refine pV 24 (some 58) [22, 1, 2, 6] rfl rfl HT_ ?_
               refine pV 26 (some 60) [22, 1, 2, 1, 1, 4] rfl rfl HT_ ?_
               refine pT 22 (some 56) (bq [25, 1, 1, 4]) rfl rfl HT_ HW_ hHeld ?_
               refine pV 25 (some 59) [27, 4] rfl rfl HT_ ?_
               refine pO 27 (some 61) (bq [28, 3]) rfl rfl HT_ (fun K hK => ?_)
               refine goes_ Tryd.func230 (by kernel_rfl) rfl #[.pointer (some (ad200.add (((ji13)).toNat * 2))), .pointer (some (ad197.add ((x3_2).toNat * 2)))] (by rfl) rfl rfl (by (try simp only [List.map_toArray, List.map_cons, List.map_nil]); first | done | (simp only [hji13]; rfl) | rfl | (simp only [List.length_drop, List.length_take]; rfl)) ?_
               with_reducible refine (spec_l02Compare.calls _ [rd_T52 ((rd_T71 l0 0).f1) (ji13)] _ [rd_T52 ((rd_T71 l0 0).f1) x3_2] t201 _ ?side1 ?side2 ?side3 ?side4 A16.out).mono ?_
               (case side1 => refine Kd.C_one (i := (ji13)) (n := ((rd_T71 l0 0).f1).length) (xs := ((rd_T71 l0 0).f1)) (z := z52) ?_ (of_eq_true p200) (of_eq_true q200); exact Kd.C_below HR199_1.out (tH HB))
               (case side2 => exact Nat.one_pos)
               (case side3 => refine Kd.C_one (i := x3_2) (n := ((rd_T71 l0 0).f1).length) (xs := ((rd_T71 l0 0).f1)) (z := z52) ?_ (of_eq_true p197) (of_eq_true q197); exact Kd.C_below HR196_1.out (tH HB))
               (case side4 => exact Nat.one_pos)
               rintro e w' ⟨rfl, ⟨nd, rfl⟩⟩
               refine ⟨_, rfl, ?_⟩
               refine hK.out _ _ ⟨(tW HB hw197_0), (tW HB hw197_1), (tW HB hw199_0), (tW HB hw199_1), (tW HB hw200_0), (tW HB hw200_1)⟩ (fun hHeld => ?_)
               clear hK K
               refine nO (some 61) ?_
               refine pV 28 (some 62) [29, 2] rfl rfl HT_ ?_
               refine pV 29 (some 63) [30, 1] rfl rfl HT_ ?_
               refine pV 30 (some 64) [31] rfl rfl HT_ ?_
               refine done_ (done_of HT_.out (by kernel_rfl)) ?_
               try go_wp2
               go_ret
               exact ⟨by first | rfl | (simp [errW_none, errW_some] <;> rfl) | (simp only [← hji13]; first | rfl | (simp [errW_none, errW_some] <;> rfl)) | (simp [*, errW_none, errW_some] <;> rfl), tH HB⟩
             rw [if_neg c17] at H
             have c17b0 : decide (0 ≤ t201) = false := decide_eq_false c17
             clear c17
             have H' := Aside0.mk H
             clear H
             have p192 : 0 ≤ (0 : Int) := (by omega)
             have q192 : 0 < (l0.length : Int) := of_decide_eq_true tA
             obtain ⟨ad192, A192_1, c192_1, e192, hx192_0, hx192_1, hl192_1, hi192_1⟩ := at_T71 HR0.out 0 p192 q192
             cases e192
             have qi192 : (0 < l0.length) = True := eq_true (by omega)
             (try rw [t0n] at hx192_0)
             (try rw [show 0 * 2 = 0 from rfl] at hx192_0)
             (try rw [Addr.add_zero'] at hx192_0)
             (try rw [t0n] at hx192_1)
             (try rw [show 0 * 2 = 0 from rfl] at hx192_1)
             (try rw [Addr.add_zero'] at hx192_1)
             replace hx192_0 := tW HB hx192_0
             replace hx192_1 := tW HB hx192_1
             have HR192_1 := Aside0.mk hi192_1
             have HC192_1 := Aside0.mk hl192_1
             clear hi192_1 hl192_1
             replace p192 := eq_true p192
             replace q192 := eq_true q192
             have p196 : 0 ≤ (0 : Int) := (by omega)
             have q196 : 0 < (l0.length : Int) := of_decide_eq_true tA
             obtain ⟨ad196, A196_1, c196_1, e196, hx196_0, hx196_1, hl196_1, hi196_1⟩ := at_T71 HR0.out 0 p196 q196
             obtain rfl : ad192 = ad196 := (by injection e196)
             have qi196 : (0 < l0.length) = True := eq_true (by omega)
             (try rw [t0n] at hx196_0)
             (try rw [show 0 * 2 = 0 from rfl] at hx196_0)
             (try rw [Addr.add_zero'] at hx196_0)
             (try rw [t0n] at hx196_1)
             (try rw [show 0 * 2 = 0 from rfl] at hx196_1)
             (try rw [Addr.add_zero'] at hx196_1)
             replace hx196_0 := tW HB hx196_0
             replace hx196_1 := tW HB hx196_1
             have HR196_1 := Aside0.mk hi196_1
             have HC196_1 := Aside0.mk hl196_1
             clear hi196_1 hl196_1
             replace p196 := eq_true p196
             replace q196 := eq_true q196
             have ea_ := Option.some.inj (hx192_1.symm.trans hx196_1)
             injection ea_ with ea_ en_ ec_
             subst ea_
             subst ec_
             clear en_
             have p197 : 0 ≤ (x3_2 : Int) := of_decide_eq_true tA
             have q197 : x3_2 < (((rd_T71 l0 0).f1).length : Int) := of_decide_eq_true tA
             obtain ⟨ad197, e197, hx197_0, hx197_1⟩ := at_T52 HR196_1.out x3_2 p197 q197
             have hw197_0 := hx197_0
             have hw197_1 := hx197_1
             cases e197
             replace hx197_0 := tW HB hx197_0
             replace hx197_1 := tW HB hx197_1
             replace p197 := eq_true p197
             replace q197 := eq_true q197
             try go_wp2
             replace HB := Aside0.mk (below_drew1 HB.out)
             have p199 : 0 ≤ (0 : Int) := (by omega)
             have q199 : 0 < (l0.length : Int) := of_decide_eq_true tA
             obtain ⟨ad199, A199_1, c199_1, e199, hx199_0, hx199_1, hl199_1, hi199_1⟩ := at_T71 HR0.out 0 p199 q199
             have hw199_1 := hx199_1
             (try rw [t0n] at hw199_1)
             (try rw [show 0 * 2 = 0 from rfl] at hw199_1)
             (try rw [Addr.add_zero'] at hw199_1)
             have hw199_0 := hx199_0
             (try rw [t0n] at hw199_0)
             (try rw [show 0 * 2 = 0 from rfl] at hw199_0)
             (try rw [Addr.add_zero'] at hw199_0)
             obtain rfl : ad192 = ad199 := (by injection e199)
             have qi199 : (0 < l0.length) = True := eq_true (by omega)
             (try rw [t0n] at hx199_0)
             (try rw [show 0 * 2 = 0 from rfl] at hx199_0)
             (try rw [Addr.add_zero'] at hx199_0)
             (try rw [t0n] at hx199_1)
             (try rw [show 0 * 2 = 0 from rfl] at hx199_1)
             (try rw [Addr.add_zero'] at hx199_1)
             replace hx199_0 := tW HB hx199_0
             replace hx199_1 := tW HB hx199_1
             have HR199_1 := Aside0.mk hi199_1
             have HC199_1 := Aside0.mk hl199_1
             clear hi199_1 hl199_1
             replace p199 := eq_true p199
             replace q199 := eq_true q199
             have p200 : 0 ≤ ((ji13) : Int) := of_decide_eq_true tA
             have q200 : (ji13) < (((rd_T71 l0 0).f1).length : Int) := of_decide_eq_true tA
             obtain ⟨ad200, e200, hx200_0, hx200_1⟩ := at_T52 HR199_1.out (ji13) p200 q200
             have hw200_1 := hx200_1
             have hw200_0 := hx200_0
             cases e200
             replace hx200_0 := tW HB hx200_0
             replace hx200_1 := tW HB hx200_1
             replace p200 := eq_true p200
             replace q200 := eq_true q200
             refine start_ (n := 31) (S := fun w' => w'.cell? (ad197.add ((x3_2).toNat * 2)) = some (.int .i64 ((rd_T52 ((rd_T71 l0 0).f1) x3_2).f0)) ∧ w'.cell? ⟨(ad197.add ((x3_2).toNat * 2)).block, (ad197.add ((x3_2).toNat * 2)).off + 1, none⟩ = some (.int .i64 ((rd_T52 ((rd_T71 l0 0).f1) x3_2).f1)) ∧ w'.cell? ad192 = some (.string ((rd_T71 l0 0).f0)) ∧ w'.cell? ⟨ad192.block, ad192.off + 1, none⟩ = some (.slice (some ad200) ((rd_T71 l0 0).f1).length c199_1) ∧ w'.cell? (ad200.add (((ji13)).toNat * 2)) = some (.int .i64 ((rd_T52 ((rd_T71 l0 0).f1) (ji13)).f0)) ∧ w'.cell? ⟨(ad200.add (((ji13)).toNat * 2)).block, (ad200.add (((ji13)).toNat * 2)).off + 1, none⟩ = some (.int .i64 ((rd_T52 ((rd_T71 l0 0).f1) (ji13)).f1))) (ds := []) (bq [0, 31]) (by kernel_rfl) rfl rfl ⟨(tW HB hw197_0), (tW HB hw197_1), (tW HB hw199_0), (tW HB hw199_1), (tW HB hw200_0), (tW HB hw200_1)⟩ (fun hHeld => ?_); refine with_tabW spec_l04Ok.tab7 spec_l04Ok.bits7 (fun HT_ HW_ => ?_)
             generalize wr.drew = w19 at HB HR199_1 hx199_0 hx199_1 hx200_0 hx200_1 hHeld ⊢
             refine pV 0 (some 34) [1, 30] rfl rfl HT_ ?_
             refine pO 1 (some 35) (bq [2, 29]) rfl rfl HT_ (fun K hK => ?_)
             refine gS_ Tryd.func117 #[.pointer (some (ad197.add ((x3_2).toNat * 2)))] rfl rfl ?_
             with_reducible refine (spec_l02Ok.calls k2 _ [rd_T52 ((rd_T71 l0 0).f1) x3_2] true _ ?side1 ?side2 A8.out).mono ?_
             (case side1 => refine Kd.C_one (i := x3_2) (n := ((rd_T71 l0 0).f1).length) (xs := ((rd_T71 l0 0).f1)) (z := z52) ?_ (of_eq_true p197) (of_eq_true q197); exact tC (Kd.C_below HR196_1.out HB.out))
             (case side2 => exact Nat.one_pos)
             rintro e w' ⟨rfl, ⟨nd, rfl⟩⟩
             refine ⟨_, rfl, ?_⟩
             refine hK.out _ _ ⟨(tW HB hw197_0), (tW HB hw197_1), (tW HB hw199_0), (tW HB hw199_1), (tW HB hw200_0), (tW HB hw200_1)⟩ (fun hHeld => ?_)
             clear hK K
             refine nO (some 35) ?_
             refine pV 2 (some 36) [3, 28] rfl rfl HT_ ?_
             refine pV 3 (some 37) [4, 27] rfl rfl HT_ ?_
             refine pV 4 (some 38) [5, 26] rfl rfl HT_ ?_
             refine pV 5 (some 39) [6, 25] rfl rfl HT_ ?_
             refine pV 6 (some 40) [7, 24] rfl rfl HT_ ?_
             refine pV 8 (some 42) [7, 1, 1, 22] rfl rfl HT_ ?_
             refine pV 9 (some 43) [7, 1, 2, 21] rfl rfl HT_ ?_
             refine pV 10 (some 44) [7, 1, 3, 20] rfl rfl HT_ ?_
             refine pT 7 (some 41) (bq [11, 20]) rfl rfl HT_ HW_ hHeld ?_
             refine pT 11 (some 45) (bq [12, 19]) rfl rfl HT_ HW_ hHeld ?_
             refine pV 12 (some 46) [13, 18] rfl rfl HT_ ?_
             refine pV 13 (some 47) [14, 17] rfl rfl HT_ ?_
             refine pV 14 (some 48) [15, 16] rfl rfl HT_ ?_
             refine pV 15 (some 49) [16, 15] rfl rfl HT_ ?_
             refine pV 16 (some 50) [17, 14] rfl rfl HT_ ?_
             refine pV 17 (some 51) [18, 13] rfl rfl HT_ ?_
             refine pV 18 (some 52) [19, 12] rfl rfl HT_ ?_
             refine pV 19 (some 53) [20, 11] rfl rfl HT_ ?_
             refine pV 20 (some 54) [21, 10] rfl rfl HT_ ?_
             refine pV 21 (some 55) [22, 9] rfl rfl HT_ ?_
             refine pV 23 (some 57) [22, 1, 1, 7] rfl rfl HT_ ?_
             refine pV 24 (some 58) [22, 1, 2, 6] rfl rfl HT_ ?_
             refine pV 26 (some 60) [22, 1, 2, 1, 1, 4] rfl rfl HT_ ?_
             refine pT 22 (some 56) (bq [25, 1, 1, 4]) rfl rfl HT_ HW_ hHeld ?_
             refine pV 25 (some 59) [27, 4] rfl rfl HT_ ?_
             refine pO 27 (some 61) (bq [28, 3]) rfl rfl HT_ (fun K hK => ?_)
             refine goes_ Tryd.func230 (by kernel_rfl) rfl #[.pointer (some (ad200.add (((ji13)).toNat * 2))), .pointer (some (ad197.add ((x3_2).toNat * 2)))] (by rfl) rfl rfl (by (try simp only [List.map_toArray, List.map_cons, List.map_nil]); first | done | (simp only [hji13]; rfl) | rfl | (simp only [List.length_drop, List.length_take]; rfl)) ?_
             with_reducible refine (spec_l02Compare.calls _ [rd_T52 ((rd_T71 l0 0).f1) (ji13)] _ [rd_T52 ((rd_T71 l0 0).f1) x3_2] t201 _ ?side1 ?side2 ?side3 ?side4 A16.out).mono ?_
             (case side1 => refine Kd.C_one (i := (ji13)) (n := ((rd_T71 l0 0).f1).length) (xs := ((rd_T71 l0 0).f1)) (z := z52) ?_ (of_eq_true p200) (of_eq_true q200); exact Kd.C_below HR199_1.out (tH HB))
             (case side2 => exact Nat.one_pos)
             (case side3 => refine Kd.C_one (i := x3_2) (n := ((rd_T71 l0 0).f1).length) (xs := ((rd_T71 l0 0).f1)) (z := z52) ?_ (of_eq_true p197) (of_eq_true q197); exact Kd.C_below HR196_1.out (tH HB))
             (case side4 => exact Nat.one_pos)
             rintro e w' ⟨rfl, ⟨nd, rfl⟩⟩
             refine ⟨_, rfl, ?_⟩
             refine hK.out _ _ ⟨(tW HB hw197_0), (tW HB hw197_1), (tW HB hw199_0), (tW HB hw199_1), (tW HB hw200_0), (tW HB hw200_1)⟩ (fun hHeld => ?_)
             clear hK K
             refine nO (some 61) ?_
             refine pV 28 (some 62) [29, 2] rfl rfl HT_ ?_
             refine pV 29 (some 63) [30, 1] rfl rfl HT_ ?_
             refine pV 30 (some 64) [31] rfl rfl HT_ ?_
             refine done_ (done_of HT_.out (by kernel_rfl)) ?_
             try go_wp2
             go_roundg k2
             case measure => have := HJ1.out; have := HK2.out; omega
             case rel => exact ⟨(wrap64 (x3_2 + 1)), tq, H', ⟨by have := HJ1.out; have := HK2.out; omega⟩, ⟨tH HB⟩⟩
           rw [if_neg c15] at H
           exact absurd H (by simp)
         rw [if_neg c14] at H
         exact absurd H (by simp)
       rw [if_neg c12] at H
       have c12b0 : decide (0 < x3_2) = false := decide_eq_false c12
       clear c12
       have H' := Aside0.mk H
       clear H
       have p192 : 0 ≤ (0 : Int) := (by omega)
       have q192 : 0 < (l0.length : Int) := of_decide_eq_true tA
       obtain ⟨ad192, A192_1, c192_1, e192, hx192_0, hx192_1, hl192_1, hi192_1⟩ := at_T71 HR0.out 0 p192 q192
       cases e192
       have qi192 : (0 < l0.length) = True := eq_true (by omega)
       (try rw [t0n] at hx192_0)
       (try rw [show 0 * 2 = 0 from rfl] at hx192_0)
       (try rw [Addr.add_zero'] at hx192_0)
       (try rw [t0n] at hx192_1)
       (try rw [show 0 * 2 = 0 from rfl] at hx192_1)
       (try rw [Addr.add_zero'] at hx192_1)
       replace hx192_0 := tW HB hx192_0
       replace hx192_1 := tW HB hx192_1
       have HR192_1 := Aside0.mk hi192_1
       have HC192_1 := Aside0.mk hl192_1
       clear hi192_1 hl192_1
       replace p192 := eq_true p192
       replace q192 := eq_true q192
       have p196 : 0 ≤ (0 : Int) := (by omega)
       have q196 : 0 < (l0.length : Int) := of_decide_eq_true tA
       obtain ⟨ad196, A196_1, c196_1, e196, hx196_0, hx196_1, hl196_1, hi196_1⟩ := at_T71 HR0.out 0 p196 q196
       obtain rfl : ad192 = ad196 := (by injection e196)
       have qi196 : (0 < l0.length) = True := eq_true (by omega)
       (try rw [t0n] at hx196_0)
       (try rw [show 0 * 2 = 0 from rfl] at hx196_0)
       (try rw [Addr.add_zero'] at hx196_0)
       (try rw [t0n] at hx196_1)
       (try rw [show 0 * 2 = 0 from rfl] at hx196_1)
       (try rw [Addr.add_zero'] at hx196_1)
       replace hx196_0 := tW HB hx196_0
       replace hx196_1 := tW HB hx196_1
       have HR196_1 := Aside0.mk hi196_1
       have HC196_1 := Aside0.mk hl196_1
       clear hi196_1 hl196_1
       replace p196 := eq_true p196
       replace q196 := eq_true q196
       have ea_ := Option.some.inj (hx192_1.symm.trans hx196_1)
       injection ea_ with ea_ en_ ec_
       subst ea_
       subst ec_
       clear en_
       have p197 : 0 ≤ (x3_2 : Int) := of_decide_eq_true tA
       have q197 : x3_2 < (((rd_T71 l0 0).f1).length : Int) := of_decide_eq_true tA
       obtain ⟨ad197, e197, hx197_0, hx197_1⟩ := at_T52 HR196_1.out x3_2 p197 q197
       have hw197_0 := hx197_0
       have hw197_1 := hx197_1
       cases e197
       replace hx197_0 := tW HB hx197_0
       replace hx197_1 := tW HB hx197_1
       replace p197 := eq_true p197
       replace q197 := eq_true q197
       try go_wp2
       replace HB := Aside0.mk (below_drew1 HB.out)
       refine start_ (n := 31) (S := fun w' => w'.cell? (ad197.add ((x3_2).toNat * 2)) = some (.int .i64 ((rd_T52 ((rd_T71 l0 0).f1) x3_2).f0)) ∧ w'.cell? ⟨(ad197.add ((x3_2).toNat * 2)).block, (ad197.add ((x3_2).toNat * 2)).off + 1, none⟩ = some (.int .i64 ((rd_T52 ((rd_T71 l0 0).f1) x3_2).f1))) (ds := []) (bq [0, 31]) (by kernel_rfl) rfl rfl ⟨(tW HB hw197_0), (tW HB hw197_1)⟩ (fun hHeld => ?_); refine with_tabW spec_l04Ok.tab7 spec_l04Ok.bits7 (fun HT_ HW_ => ?_)
       generalize wr.drew = w20 at HB hHeld ⊢
       refine pV 0 (some 34) [1, 30] rfl rfl HT_ ?_
       refine pO 1 (some 35) (bq [2, 29]) rfl rfl HT_ (fun K hK => ?_)
       refine gS_ Tryd.func117 #[.pointer (some (ad197.add ((x3_2).toNat * 2)))] rfl rfl ?_
       with_reducible refine (spec_l02Ok.calls k2 _ [rd_T52 ((rd_T71 l0 0).f1) x3_2] true _ ?side1 ?side2 A8.out).mono ?_
       (case side1 => refine Kd.C_one (i := x3_2) (n := ((rd_T71 l0 0).f1).length) (xs := ((rd_T71 l0 0).f1)) (z := z52) ?_ (of_eq_true p197) (of_eq_true q197); exact tC (Kd.C_below HR196_1.out HB.out))
       (case side2 => exact Nat.one_pos)
       rintro e w' ⟨rfl, ⟨nd, rfl⟩⟩
       refine ⟨_, rfl, ?_⟩
       refine hK.out _ _ ⟨(tW HB hw197_0), (tW HB hw197_1)⟩ (fun hHeld => ?_)
       clear hK K
       refine nO (some 35) ?_
       refine pV 2 (some 36) [3, 28] rfl rfl HT_ ?_
       refine pV 3 (some 37) [4, 27] rfl rfl HT_ ?_
       refine pV 4 (some 38) [5, 26] rfl rfl HT_ ?_
       refine pV 5 (some 39) [6, 25] rfl rfl HT_ ?_
       refine pV 6 (some 40) [7, 24] rfl rfl HT_ ?_
       refine pV 8 (some 42) [7, 1, 1, 22] rfl rfl HT_ ?_
       refine pV 9 (some 43) [7, 1, 2, 21] rfl rfl HT_ ?_
       refine pV 10 (some 44) [7, 1, 3, 20] rfl rfl HT_ ?_
       refine take_ (i := 7) (N := some 41) (v := ?_) (a' := ?_) (bq [11, 20]) rfl rfl (take_ofW HT_.out HW_.out (by kernel_rfl)) (fun _ _ _ h => h) (Or.inl ⟨by rfl, ?_⟩) hHeld ?_ ?_
       rotate_left
       · intro w' hS_
         obtain ⟨hS0_, hS1_⟩ := hS_
         go_simp
         with_reducible rfl
       rotate_left
       · simp only [Act.put, sx0, sx1, sx2, i64_w, i32_w]
         rfl
       refine take_ (i := 11) (N := some 45) (v := ?_) (a' := ?_) (bq [12, 19]) rfl rfl (take_ofW HT_.out HW_.out (by kernel_rfl)) (fun _ _ _ h => h) (Or.inl ⟨by rfl, ?_⟩) hHeld ?_ ?_
       rotate_left
       · intro w' hS_
         obtain ⟨hS0_, hS1_⟩ := hS_
         go_simp
         with_reducible rfl
       rotate_left
       · simp only [Act.put, sx0, sx1, sx2, i64_w, i32_w]
         rfl
       refine pV 12 (some 46) [13, 18] rfl rfl HT_ ?_
       refine pV 13 (some 47) [14, 17] rfl rfl HT_ ?_
       refine pV 14 (some 48) [15, 16] rfl rfl HT_ ?_
       refine pV 15 (some 49) [16, 15] rfl rfl HT_ ?_
       refine pV 16 (some 50) [17, 14] rfl rfl HT_ ?_
       refine pV 17 (some 51) [18, 13] rfl rfl HT_ ?_
       refine pV 18 (some 52) [19, 12] rfl rfl HT_ ?_
       refine pU 19 (some 53) [20, 11] rfl rfl HT_ ?_
       refine pU 20 (some 54) [21, 10] rfl rfl HT_ ?_
       refine pU 21 (some 55) [22, 9] rfl rfl HT_ ?_
       refine pU 22 (some 56) [23, 8] rfl rfl HT_ ?_
       refine pU 23 (some 57) [24, 7] rfl rfl HT_ ?_
       refine pU 24 (some 58) [25, 6] rfl rfl HT_ ?_
       refine pU 25 (some 59) [26, 5] rfl rfl HT_ ?_
       refine pU 26 (some 60) [27, 4] rfl rfl HT_ ?_
       refine pU 27 (some 61) [28, 3] rfl rfl HT_ ?_
       refine pU 28 (some 62) [29, 2] rfl rfl HT_ ?_
       refine pV 29 (some 63) [30, 1] rfl rfl HT_ ?_
       refine pV 30 (some 64) [31] rfl rfl HT_ ?_
       refine done_ (done_of HT_.out (by kernel_rfl)) ?_
       try go_wp2
       go_roundg k2
       case measure => have := HJ1.out; have := HK2.out; omega
       case rel => exact ⟨(wrap64 (x3_2 + 1)), tq, H', ⟨by have := HJ1.out; have := HK2.out; omega⟩, ⟨tH HB⟩⟩
     replace c9 := Bool.eq_false_iff.mpr c9
     subst c9
     have H1 : (some false) = some r := by rw [if_neg (show ¬ (false = true) by decide)] at H; exact H
     clear H
     have H := H1
     clear H1
     obtain rfl := Option.some.inj H
     have p192 : 0 ≤ (0 : Int) := (by omega)
     have q192 : 0 < (l0.length : Int) := of_decide_eq_true tA
     obtain ⟨ad192, A192_1, c192_1, e192, hx192_0, hx192_1, hl192_1, hi192_1⟩ := at_T71 HR0.out 0 p192 q192
     cases e192
     have qi192 : (0 < l0.length) = True := eq_true (by omega)
     (try rw [t0n] at hx192_0)
     (try rw [show 0 * 2 = 0 from rfl] at hx192_0)
     (try rw [Addr.add_zero'] at hx192_0)
     (try rw [t0n] at hx192_1)
     (try rw [show 0 * 2 = 0 from rfl] at hx192_1)
     (try rw [Addr.add_zero'] at hx192_1)
     replace hx192_0 := tW HB hx192_0
     replace hx192_1 := tW HB hx192_1
     have HR192_1 := Aside0.mk hi192_1
     have HC192_1 := Aside0.mk hl192_1
     clear hi192_1 hl192_1
     replace p192 := eq_true p192
     replace q192 := eq_true q192
     have p196 : 0 ≤ (0 : Int) := (by omega)
     have q196 : 0 < (l0.length : Int) := of_decide_eq_true tA
     obtain ⟨ad196, A196_1, c196_1, e196, hx196_0, hx196_1, hl196_1, hi196_1⟩ := at_T71 HR0.out 0 p196 q196
     obtain rfl : ad192 = ad196 := (by injection e196)
     have qi196 : (0 < l0.length) = True := eq_true (by omega)
     (try rw [t0n] at hx196_0)
     (try rw [show 0 * 2 = 0 from rfl] at hx196_0)
     (try rw [Addr.add_zero'] at hx196_0)
     (try rw [t0n] at hx196_1)
     (try rw [show 0 * 2 = 0 from rfl] at hx196_1)
     (try rw [Addr.add_zero'] at hx196_1)
     replace hx196_0 := tW HB hx196_0
     replace hx196_1 := tW HB hx196_1
     have HR196_1 := Aside0.mk hi196_1
     have HC196_1 := Aside0.mk hl196_1
     clear hi196_1 hl196_1
     replace p196 := eq_true p196
     replace q196 := eq_true q196
     have ea_ := Option.some.inj (hx192_1.symm.trans hx196_1)
     injection ea_ with ea_ en_ ec_
     subst ea_
     subst ec_
     clear en_
     have p197 : 0 ≤ (x3_2 : Int) := of_decide_eq_true tA
     have q197 : x3_2 < (((rd_T71 l0 0).f1).length : Int) := of_decide_eq_true tA
     obtain ⟨ad197, e197, hx197_0, hx197_1⟩ := at_T52 HR196_1.out x3_2 p197 q197
     have hw197_0 := hx197_0
     have hw197_1 := hx197_1
     cases e197
     replace hx197_0 := tW HB hx197_0
     replace hx197_1 := tW HB hx197_1
     replace p197 := eq_true p197
     replace q197 := eq_true q197
     try go_wp2
     replace HB := Aside0.mk (below_drew1 HB.out)
     refine start_ (n := 31) (S := fun w' => True) (ds := []) (bq [0, 31]) (by kernel_rfl) rfl rfl trivial (fun hHeld => ?_); refine with_tabW spec_l04Ok.tab7 spec_l04Ok.bits7 (fun HT_ HW_ => ?_)
     generalize wr.drew = w21 at HB hHeld ⊢
     refine pV 0 (some 34) [1, 30] rfl rfl HT_ ?_
     refine pO 1 (some 35) (bq [2, 29]) rfl rfl HT_ (fun K hK => ?_)
     refine gS_ Tryd.func117 #[.pointer (some (ad197.add ((x3_2).toNat * 2)))] rfl rfl ?_
     with_reducible refine (spec_l02Ok.calls k2 _ [rd_T52 ((rd_T71 l0 0).f1) x3_2] false _ ?side1 ?side2 A8.out).mono ?_
     (case side1 => refine Kd.C_one (i := x3_2) (n := ((rd_T71 l0 0).f1).length) (xs := ((rd_T71 l0 0).f1)) (z := z52) ?_ (of_eq_true p197) (of_eq_true q197); exact tC (Kd.C_below HR196_1.out HB.out))
     (case side2 => exact Nat.one_pos)
     rintro e w' ⟨rfl, ⟨nd, rfl⟩⟩
     refine ⟨_, rfl, ?_⟩
     refine hK.out _ _ trivial (fun hHeld => ?_)
     clear hK K
     refine nO (some 35) ?_
     refine pV 2 (some 36) [3, 28] rfl rfl HT_ ?_
     refine pV 3 (some 37) [4, 27] rfl rfl HT_ ?_
     refine pU 4 (some 38) [5, 26] rfl rfl HT_ ?_
     refine pU 5 (some 39) [6, 25] rfl rfl HT_ ?_
     refine pU 6 (some 40) [7, 24] rfl rfl HT_ ?_
     refine pU 7 (some 41) [8, 23] rfl rfl HT_ ?_
     refine pU 8 (some 42) [9, 22] rfl rfl HT_ ?_
     refine pU 9 (some 43) [10, 21] rfl rfl HT_ ?_
     refine pU 10 (some 44) [11, 20] rfl rfl HT_ ?_
     refine pU 11 (some 45) [12, 19] rfl rfl HT_ ?_
     refine pU 12 (some 46) [13, 18] rfl rfl HT_ ?_
     refine pU 13 (some 47) [14, 17] rfl rfl HT_ ?_
     refine pV 14 (some 48) [15, 16] rfl rfl HT_ ?_
     refine pV 15 (some 49) [16, 15] rfl rfl HT_ ?_
     refine pU 16 (some 50) [17, 14] rfl rfl HT_ ?_
     refine pU 17 (some 51) [18, 13] rfl rfl HT_ ?_
     refine pU 18 (some 52) [19, 12] rfl rfl HT_ ?_
     refine pU 19 (some 53) [20, 11] rfl rfl HT_ ?_
     refine pU 20 (some 54) [21, 10] rfl rfl HT_ ?_
     refine pU 21 (some 55) [22, 9] rfl rfl HT_ ?_
     refine pU 22 (some 56) [23, 8] rfl rfl HT_ ?_
     refine pU 23 (some 57) [24, 7] rfl rfl HT_ ?_
     refine pU 24 (some 58) [25, 6] rfl rfl HT_ ?_
     refine pU 25 (some 59) [26, 5] rfl rfl HT_ ?_
     refine pU 26 (some 60) [27, 4] rfl rfl HT_ ?_
     refine pU 27 (some 61) [28, 3] rfl rfl HT_ ?_
     refine pU 28 (some 62) [29, 2] rfl rfl HT_ ?_
     refine pU 29 (some 63) [30, 1] rfl rfl HT_ ?_
     refine pV 30 (some 64) [31] rfl rfl HT_ ?_
     refine done_ (done_of HT_.out (by kernel_rfl)) ?_
     try go_wp2
     go_ret
     exact ⟨tE, tH HB⟩
   rw [if_neg c7] at H
   exact absurd H (by simp)
 rw [if_neg c6] at H
 have c6b0 : decide (x3_2 < (((rd_T71 l0 0).f1).length : Int)) = false := decide_eq_false c6
 clear c6
 by_cases c22 : 0 < (((rd_T71 l0 0).f1).length : Int)
 · rw [if_pos c22] at H
   have c22b0 : decide (0 < (((rd_T71 l0 0).f1).length : Int)) = true := decide_eq_true c22
   have c22b1 : decide (0 < ((rd_T71 l0 0).f1).length) = true := decide_eq_true (by omega)
   clear c22
   by_cases c23 : ((rd_T52 ((rd_T71 l0 0).f1) 0).f0) = 1
   · rw [if_pos c23] at H
     have c23b0 : (((rd_T52 ((rd_T71 l0 0).f1) 0).f0) == 1) = true := beq_iff_eq.mpr c23
     have c23b1 : (((rd_T52 ((rd_T71 l0 0).f1) 0).f0) != 1) = false := bne_eq_false_iff_eq.mpr c23
     clear c23
     obtain rfl := Option.some.inj H
     have p192 : 0 ≤ (0 : Int) := (by omega)
     have q192 : 0 < (l0.length : Int) := of_decide_eq_true tA
     obtain ⟨ad192, A192_1, c192_1, e192, hx192_0, hx192_1, hl192_1, hi192_1⟩ := at_T71 HR0.out 0 p192 q192
     cases e192
     have qi192 : (0 < l0.length) = True := eq_true (by omega)
     (try rw [t0n] at hx192_0)
     (try rw [show 0 * 2 = 0 from rfl] at hx192_0)
     (try rw [Addr.add_zero'] at hx192_0)
     (try rw [t0n] at hx192_1)
     (try rw [show 0 * 2 = 0 from rfl] at hx192_1)
     (try rw [Addr.add_zero'] at hx192_1)
     replace hx192_0 := tW HB hx192_0
     replace hx192_1 := tW HB hx192_1
     have HR192_1 := Aside0.mk hi192_1
     have HC192_1 := Aside0.mk hl192_1
     clear hi192_1 hl192_1
     replace p192 := eq_true p192
     replace q192 := eq_true q192
     have p193 : 0 ≤ (0 : Int) := (by omega)
     have q193 : 0 < (l0.length : Int) := of_decide_eq_true tA
     obtain ⟨ad193, A193_1, c193_1, e193, hx193_0, hx193_1, hl193_1, hi193_1⟩ := at_T71 HR0.out 0 p193 q193
     obtain rfl : ad192 = ad193 := (by injection e193)
     have qi193 : (0 < l0.length) = True := eq_true (by omega)
     (try rw [t0n] at hx193_0)
     (try rw [show 0 * 2 = 0 from rfl] at hx193_0)
     (try rw [Addr.add_zero'] at hx193_0)
     (try rw [t0n] at hx193_1)
     (try rw [show 0 * 2 = 0 from rfl] at hx193_1)
     (try rw [Addr.add_zero'] at hx193_1)
     replace hx193_0 := tW HB hx193_0
     replace hx193_1 := tW HB hx193_1
     have HR193_1 := Aside0.mk hi193_1
     have HC193_1 := Aside0.mk hl193_1
     clear hi193_1 hl193_1
     replace p193 := eq_true p193
     replace q193 := eq_true q193
     have ea_ := Option.some.inj (hx192_1.symm.trans hx193_1)
     injection ea_ with ea_ en_ ec_
     subst ea_
     subst ec_
     clear en_
     have p194 : 0 ≤ (0 : Int) := (by omega)
     have q194 : 0 < (((rd_T71 l0 0).f1).length : Int) := of_decide_eq_true tA
     obtain ⟨ad194, e194, hx194_0, hx194_1⟩ := at_T52 HR193_1.out 0 p194 q194
     cases e194
     have qi194 : (0 < ((rd_T71 l0 0).f1).length) = True := eq_true (by omega)
     (try rw [t0n] at hx194_0)
     (try rw [show 0 * 2 = 0 from rfl] at hx194_0)
     (try rw [Addr.add_zero'] at hx194_0)
     (try rw [t0n] at hx194_1)
     (try rw [show 0 * 2 = 0 from rfl] at hx194_1)
     (try rw [Addr.add_zero'] at hx194_1)
     replace hx194_0 := tW HB hx194_0
     replace hx194_1 := tW HB hx194_1
     replace p194 := eq_true p194
     replace q194 := eq_true q194
     have p195 : 0 ≤ (0 : Int) := (by omega)
     have q195 : 0 < (((rd_T71 l0 0).f1).length : Int) := of_decide_eq_true tA
     obtain ⟨ad195, e195, hx195_0, hx195_1⟩ := at_T52 HR193_1.out 0 p195 q195
     cases e195
     have qi195 : (0 < ((rd_T71 l0 0).f1).length) = True := eq_true (by omega)
     (try rw [t0n] at hx195_0)
     (try rw [show 0 * 2 = 0 from rfl] at hx195_0)
     (try rw [Addr.add_zero'] at hx195_0)
     (try rw [t0n] at hx195_1)
     (try rw [show 0 * 2 = 0 from rfl] at hx195_1)
     (try rw [Addr.add_zero'] at hx195_1)
     replace hx195_0 := tW HB hx195_0
     replace hx195_1 := tW HB hx195_1
     replace p195 := eq_true p195
     replace q195 := eq_true q195
     go_wp2
     go_ret
     exact ⟨tE, tH HB⟩
   rw [if_neg c23] at H
   have c23b0 : (((rd_T52 ((rd_T71 l0 0).f1) 0).f0) == 1) = false := beq_eq_false_iff_ne.mpr c23
   have c23b1 : (((rd_T52 ((rd_T71 l0 0).f1) 0).f0) != 1) = true := bne_iff_ne.mpr c23
   obtain rfl := Option.some.inj H
   have p192 : 0 ≤ (0 : Int) := (by omega)
   have q192 : 0 < (l0.length : Int) := of_decide_eq_true tA
   obtain ⟨ad192, A192_1, c192_1, e192, hx192_0, hx192_1, hl192_1, hi192_1⟩ := at_T71 HR0.out 0 p192 q192
   cases e192
   have qi192 : (0 < l0.length) = True := eq_true (by omega)
   (try rw [t0n] at hx192_0)
   (try rw [show 0 * 2 = 0 from rfl] at hx192_0)
   (try rw [Addr.add_zero'] at hx192_0)
   (try rw [t0n] at hx192_1)
   (try rw [show 0 * 2 = 0 from rfl] at hx192_1)
   (try rw [Addr.add_zero'] at hx192_1)
   replace hx192_0 := tW HB hx192_0
   replace hx192_1 := tW HB hx192_1
   have HR192_1 := Aside0.mk hi192_1
   have HC192_1 := Aside0.mk hl192_1
   clear hi192_1 hl192_1
   replace p192 := eq_true p192
   replace q192 := eq_true q192
   have p193 : 0 ≤ (0 : Int) := (by omega)
   have q193 : 0 < (l0.length : Int) := of_decide_eq_true tA
   obtain ⟨ad193, A193_1, c193_1, e193, hx193_0, hx193_1, hl193_1, hi193_1⟩ := at_T71 HR0.out 0 p193 q193
   obtain rfl : ad192 = ad193 := (by injection e193)
   have qi193 : (0 < l0.length) = True := eq_true (by omega)
   (try rw [t0n] at hx193_0)
   (try rw [show 0 * 2 = 0 from rfl] at hx193_0)
   (try rw [Addr.add_zero'] at hx193_0)
   (try rw [t0n] at hx193_1)
   (try rw [show 0 * 2 = 0 from rfl] at hx193_1)
   (try rw [Addr.add_zero'] at hx193_1)
   replace hx193_0 := tW HB hx193_0
   replace hx193_1 := tW HB hx193_1
   have HR193_1 := Aside0.mk hi193_1
   have HC193_1 := Aside0.mk hl193_1
   clear hi193_1 hl193_1
   replace p193 := eq_true p193
   replace q193 := eq_true q193
   have ea_ := Option.some.inj (hx192_1.symm.trans hx193_1)
   injection ea_ with ea_ en_ ec_
   subst ea_
   subst ec_
   clear en_
   have p194 : 0 ≤ (0 : Int) := (by omega)
   have q194 : 0 < (((rd_T71 l0 0).f1).length : Int) := of_decide_eq_true tA
   obtain ⟨ad194, e194, hx194_0, hx194_1⟩ := at_T52 HR193_1.out 0 p194 q194
   cases e194
   have qi194 : (0 < ((rd_T71 l0 0).f1).length) = True := eq_true (by omega)
   (try rw [t0n] at hx194_0)
   (try rw [show 0 * 2 = 0 from rfl] at hx194_0)
   (try rw [Addr.add_zero'] at hx194_0)
   (try rw [t0n] at hx194_1)
   (try rw [show 0 * 2 = 0 from rfl] at hx194_1)
   (try rw [Addr.add_zero'] at hx194_1)
   replace hx194_0 := tW HB hx194_0
   replace hx194_1 := tW HB hx194_1
   replace p194 := eq_true p194
   replace q194 := eq_true q194
   go_wp2
   go_ret
   exact ⟨tE, tH HB⟩
 rw [if_neg c22] at H
 exact absurd H (by simp)

end Go.Proofs.YtmeflmlejcmckaaDoor.PB
