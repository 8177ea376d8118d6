-- WRITTEN BY wip/gprint.py, a program of this session's over the kit's print, with contracts given by hand
import Derived.Test.YtmeflmlejcmckaaDoorPBx0
import Derived.Test.YtmeflmlejcmckaaDoorPBx12
import Derived.Test.YtmeflmlejcmckaaDoorPBx16
import Derived.Test.YtmeflmlejcmckaaDoorPBx18
namespace Go.Proofs.YtmeflmlejcmckaaDoor.PB
open Go.RowKit Go.Proofs.YtmeflmlejcmckaaDoorW.PrintWords Go.Proofs.YtmeflmlejcmckaaDoorW.PrintLast Go.Proofs.YtmeflmlejcmckaaDoorW.PrintMore
attribute [local go_sem] max2_int min2_int max_two min_two max_three min_three max_four min_four   -- for this text's walks alone
set_option linter.unusedVariables false
set_option linter.unusedSimpArgs false

/-! ### impl_BeatingOf: function 48 -/
def impl_BeatingOf.j0 : Nat → Int → Int → Int → Int → Int → Bool → ByteArray → List (S52) → Option (Int × Int)
 | 0, _, _, _, _, _, _, _, _ => none
 | k + 1, x1, x2, x3, x4, x5, x25, x342000, x342001 => if x25 = true then (some (0, 2)) else ((impl_Tuning_frequency.f x342000 x342001 x1 x2).bind fun t348 => ((impl_Tuning_frequency.f x342000 x342001 x1 x4).bind fun t349 => ((impl_abs.f (wrap64 ((wrap64 (x3 * t348)) - (wrap64 (x5 * t349))))).bind fun t350 => (some (t350, 0)))))
def impl_BeatingOf.f (k : Nat) (a0_0 : ByteArray) (l0_1 : List (S52)) (a1 : Int) (a2 : Int) (a3 : Int) (a4 : Int) (a5 : Int) : Option (Int × Int) := (impl_tuningCode.f k a0_0 l0_1 a1 (([a2, a4] : List Int))).bind fun t345 => (if t345 = 0 then ((impl_within.f a3 1 16).bind fun t346 => (if t346 = true then ((impl_within.f a5 1 16).bind fun t347 => (impl_BeatingOf.j0 k a1 a2 a3 a4 a5 (!t347) a0_0 l0_1)) else (impl_BeatingOf.j0 k a1 a2 a3 a4 a5 true a0_0 l0_1))) else (some (0, t345)))
theorem impl_BeatingOf.mono_l : ∀ k, (∀ y0 y1 y2 y3 y4 y5 y6 y7, LeO (impl_BeatingOf.j0 k y0 y1 y2 y3 y4 y5 y6 y7) (impl_BeatingOf.j0 (k + 1) y0 y1 y2 y3 y4 y5 y6 y7))
 | 0 => fun _ _ _ _ _ _ _ _ r h => by simp [impl_BeatingOf.j0] at h
 | k + 1 => by
  have ih0 := impl_BeatingOf.mono_l k
  · intro y0 y1 y2 y3 y4 y5 y6 y7
    unfold impl_BeatingOf.j0
    repeat' first
    | (with_reducible exact ih0 _ _ _ _ _ _ _ _)
    | (with_reducible exact impl_tuningCode.mono _ _ _ _ _)
    | (with_reducible exact LeO.refl _)
    | (with_reducible exact LeO.none _)
    | (with_reducible refine LeO.ite ?_ ?_)
    | (with_reducible refine LeO.bind ?_ (fun _ => ?_))
    | exact ih0 _ _ _ _ _ _ _ _
    | exact impl_tuningCode.mono _ _ _ _ _
    | exact LeO.none _
    | refine LeO.ite ?_ ?_
    | refine LeO.bind ?_ (fun _ => ?_)
theorem impl_BeatingOf.mono : ∀ a0 a1 a2 a3 a4 a5 a6 k, LeO (impl_BeatingOf.f k a0 a1 a2 a3 a4 a5 a6) (impl_BeatingOf.f (k + 1) a0 a1 a2 a3 a4 a5 a6) := by
 intro a0 a1 a2 a3 a4 a5 a6 k
 have ih0 := impl_BeatingOf.mono_l k
 unfold impl_BeatingOf.f
 repeat' first
  | (with_reducible exact ih0 _ _ _ _ _ _ _ _)
  | (with_reducible exact impl_tuningCode.mono _ _ _ _ _)
  | (with_reducible exact LeO.refl _)
  | (with_reducible exact LeO.none _)
  | (with_reducible refine LeO.ite ?_ ?_)
  | (with_reducible refine LeO.bind ?_ (fun _ => ?_))
  | exact ih0 _ _ _ _ _ _ _ _
  | exact impl_tuningCode.mono _ _ _ _ _
  | exact LeO.none _
  | refine LeO.ite ?_ ?_
  | refine LeO.bind ?_ (fun _ => ?_)
def impl_BeatingOf.T6 : Bool × List (List Nat × List Nat) := (true, [([], []), ([], []), ([], []), ([], []), ([1, 2, 3], [1, 2, 3]), ([0, 4], [0, 4]), ([], []), ([], []), ([], []), ([], []), ([7, 8, 9, 4], [7, 8, 9]), ([6, 10], [6, 10]), ([5, 11], [5, 11]), ([12, 10], [12]), ([13, 13, 0, 1, 2, 3, 4, 5, 6, 7, 8, 9, 10, 11, 12, 13], [13]), ([14, 0, 1, 2, 3, 4, 5, 6, 7, 8, 9, 10, 11, 12, 13, 14], [])])
def impl_BeatingOf.B6 : List Nat := [0, 0, 0, 0, 14, 31, 0, 0, 0, 0, 926, 2014, 4095, 8191, 16383, 32767]
theorem impl_BeatingOf.tab6 : rtab .any (opsOf Tryd.f48 6) = impl_BeatingOf.T6 := by kernel_rfl
theorem impl_BeatingOf.bits6 : waitsOk impl_BeatingOf.T6.2 impl_BeatingOf.B6 = true := by kernel_rfl
set_option maxHeartbeats 8000000 in
set_option maxRecDepth 100000 in
theorem impl_BeatingOf.calls (k : Nat) (a0_0 : ByteArray) (A0_1 : Option Addr) (c0_1 : Nat) (l0_1 : List (S52)) (a1 : Int) (a2 : Int) (a3 : Int) (a4 : Int) (a5 : Int) (r1 : Int) (r2 : Int) (w : World) (hr0_1 : Kd.C k52 w A0_1 l0_1.length l0_1) (hc0_1 : l0_1.length ≤ c0_1) (h : impl_BeatingOf.f k a0_0 l0_1 a1 a2 a3 a4 a5 = some (r1, r2)) :
 Calls Tryd.prog 48 #[.agg #[.string a0_0, .slice A0_1 l0_1.length c0_1], .int .i64 a1, .int .i64 a2, .int .i64 a3, .int .i64 a4, .int .i64 a5] w fun e w' => e = .returned (.tuple #[.int .i64 r1, .int .i64 r2]) ∧ Below w.heap.size w w' := by
 have hu71 := Tryd.underlying71
 have HR0_1 := Aside0.mk hr0_1
 have HC0_1 := Aside0.mk hc0_1
 clear hr0_1 hc0_1
 have HB := Aside0.mk (Below.refl w.heap.size w)
 have H : ((impl_tuningCode.f k a0_0 l0_1 a1 (([a2, a4] : List Int))).bind fun t345 => (if t345 = 0 then ((impl_within.f a3 1 16).bind fun t346 => (if t346 = true then ((impl_within.f a5 1 16).bind fun t347 => (impl_BeatingOf.j0 k a1 a2 a3 a4 a5 (!t347) a0_0 l0_1)) else (impl_BeatingOf.j0 k a1 a2 a3 a4 a5 true a0_0 l0_1))) else (some (0, t345)))) = some (r1, r2) := h
 clear h
 obtain ⟨y342, hy342⟩ : ∃ y_ : List Int, y_ = (([a2, a4] : List Int)) := ⟨_, rfl⟩
 replace H : ((impl_tuningCode.f k a0_0 l0_1 a1 y342).bind fun t345 => (if t345 = 0 then ((impl_within.f a3 1 16).bind fun t346 => (if t346 = true then ((impl_within.f a5 1 16).bind fun t347 => (impl_BeatingOf.j0 k a1 a2 a3 a4 a5 (!t347) a0_0 l0_1)) else (impl_BeatingOf.j0 k a1 a2 a3 a4 a5 true a0_0 l0_1))) else (some (0, t345)))) = some (r1, r2) := by first | (rw [hy342]; with_reducible exact H) | (have H2_ := (Option.bind_some _ _).symm.trans H; rw [hy342]; with_reducible exact H2_) | (have H2_ := (Option.bind_some _ _).symm.trans H; with_reducible exact H2_) | with_reducible exact H | (rw [hy342]; exact H) | exact H
 have Ny342 := Aside0.mk hy342
 clear hy342
 replace H := Option.bind_eq_some_iff.mp H
 obtain ⟨t345, A70, H⟩ := H
 replace H : (if t345 = 0 then ((impl_within.f a3 1 16).bind fun t346 => (if t346 = true then ((impl_within.f a5 1 16).bind fun t347 => (impl_BeatingOf.j0 k a1 a2 a3 a4 a5 (!t347) a0_0 l0_1)) else (impl_BeatingOf.j0 k a1 a2 a3 a4 a5 true a0_0 l0_1))) else (some (0, t345))) = some (r1, r2) := H
 have A7 := Aside0.mk A70
 clear A70
 by_cases c8 : t345 = 0
 · rw [if_pos c8] at H
   have c8b0 : (t345 == 0) = true := beq_iff_eq.mpr c8
   have c8b1 : (t345 != 0) = false := bne_eq_false_iff_eq.mpr c8
   clear c8
   have HC9 := Aside0.mk H
   clear H
   go_enter Tryd.func48, Tryd.ntmps48
   go_upto_region 4 with (first | ((with_reducible refine gate_dst (N := 6) rfl ?_); refine box_event ?hg (N := 6) ?hd (cs := #[.string a0_0, .slice A0_1 l0_1.length c0_1]) (t := 71) ?hr ?_; (case hd => rfl); (case hg => rfl); (case hr => first | (go_simp; done) | (go_simp; rfl)); intro gb341 hg w10 hbox hb; have BK341 := Aside0.mk (hbox); have GW341 := Aside0.mk ((by rw [hg]; exact (below_size (tH HB)) : w.heap.size ≤ gb341)); have GE341 := Aside0.mk ((by rw [hg]; exact (below_size (tH HB)) : w.heap.size ≤ gb341)); replace HB := Aside0.mk (below_step (tH HB) hb); clear hb hbox hg; have hcz11_0 : w10.cell? ⟨gb341, 0, none⟩ = some (.string a0_0) := (blk_cell BK341.out 0).trans rfl; have hcz11_1 : w10.cell? ⟨gb341, 1, none⟩ = some (.slice A0_1 l0_1.length c0_1) := (blk_cell BK341.out 1).trans rfl; have hfz11_0 := blk_frozen BK341.out 0; have hfz11_1 := blk_frozen BK341.out 1) | ((with_reducible refine gate_dst (N := 19) rfl ?_); refine Kd.R_lit (Kd.int .i64) _ 2 ?hg (N := 19) ?hd (xs := ([a2, a4] : List Int)) (inner := [.int .i64 a2, .int .i64 a4]) (ok := fun _ => True) (okp := fun _ => True) ?hr ?hp (fun _ hk => hk) trivial (Below.refl _ _) (Nat.le_refl _) (by simp) ?_; (case hd => rfl); (case hg => rfl); (case hr => first | (go_simp; done) | (go_simp; rfl)); (case hp => exact (Reps.one (show Kd.M (Kd.int .i64) _ _ _ a2 [.int .i64 a2] from rfl) (Reps.one (show Kd.M (Kd.int .i64) _ _ _ a4 [.int .i64 a4] from rfl) (Reps.none _ _)))); intro v343 w12 ho13 hb hg_ hnew_; clear hg_ hnew_; (first | rw [← Ny342.out] at ho13 | (simp only [Int.reduceToNat] at ho13; rw [← Ny342.out] at ho13)); have HO344 := Aside0.mk (Kd.R_lower ho13 (below_size (tH1 HB GE341.out))); replace BK341 := tbB BK341 hb; replace HB := Aside0.mk (below_step (tH1 HB GE341.out) hb); clear hb ho13; obtain ⟨Ao14, co14, eo14⟩ := Kd.R_slice HO344.out; subst eo14) | ((with_reducible refine gate_callee (f := 124) rfl ?_); refine gL_ (some 20) rfl rfl Tryd.func124 #[.agg #[.string a0_0, .slice A0_1 l0_1.length c0_1], .int .i64 a1, .slice Ao14 y342.length co14] rfl ?_; (with_reducible refine (impl_tuningCode.calls k a0_0 _ _ l0_1 a1 _ _ y342 t345 _ ?side1 ?side2 ?side3 ?side4 A7.out).mono ?_); (case side1 => exact tC (Kd.C_below HR0_1.out HB.out)); (case side2 => exact HC0_1.out); (case side3 => exact tC (Kd.R_reads' HO344.out).2.2); (case side4 => exact (Kd.R_reads' HO344.out).2.1); rintro e w15 ⟨rfl, hb⟩; refine ⟨_, rfl, ?_⟩; replace HO344 := Aside0.mk (Kd.R_below (tR HO344) hb); replace BK341 := tbB BK341 hb; replace HB := Aside0.mk (below_step (tH1 HB GE341.out) hb); (try clear hb); (try clear hb2); (try clear hk); (try clear hi)))
   (try simp only [Act.put, sx0, sx1, sx2])
   go_cut [25] (fun v25 wc => ∃ (kq : Nat) (x25_8 : Bool), v25 = .bool x25_8 ∧ Aside0 (impl_BeatingOf.j0 kq a1 a2 a3 a4 a5 x25_8 a0_0 l0_1 = some (r1, r2)) ∧ Aside0 (kq ≤ k) ∧ Aside0 (wc.heap[gb341]? = some (.cells #[.string a0_0, (.slice A0_1 l0_1.length c0_1)] 71 (0, 0))) ∧ Aside0 (Below w.heap.size w wc))
   case first =>
    have H := HC9.out
    clear HC9
    replace H := Option.bind_eq_some_iff.mp H
    obtain ⟨t346, A160, H⟩ := H
    replace H : (if t346 = true then ((impl_within.f a5 1 16).bind fun t347 => (impl_BeatingOf.j0 k a1 a2 a3 a4 a5 (!t347) a0_0 l0_1)) else (impl_BeatingOf.j0 k a1 a2 a3 a4 a5 true a0_0 l0_1)) = some (r1, r2) := H
    have A16 := Aside0.mk A160
    clear A160
    by_cases c17 : t346 = true
    · subst c17
      have H1 : ((impl_within.f a5 1 16).bind fun t347 => (impl_BeatingOf.j0 k a1 a2 a3 a4 a5 (!t347) a0_0 l0_1)) = some (r1, r2) := by rw [if_pos rfl] at H; exact H
      clear H
      have H := H1
      clear H1
      replace H := Option.bind_eq_some_iff.mp H
      obtain ⟨t347, A180, H⟩ := H
      replace H : (impl_BeatingOf.j0 k a1 a2 a3 a4 a5 (!t347) a0_0 l0_1) = some (r1, r2) := H
      have A18 := Aside0.mk A180
      clear A180
      have H' := Aside0.mk H
      clear H
      go_wp2_with (first | ((with_reducible refine gate_callee (f := 115) rfl ?_); refine gL_ (some 27) rfl rfl Tryd.func115 #[.int .i64 a3, .int .i64 1, .int .i64 16] rfl ?_; (with_reducible refine (impl_within.calls a3 1 16 true _ A16.out).mono ?_); rintro e w' ⟨rfl, ⟨nd, rfl⟩⟩; refine ⟨_, rfl, ?_⟩) | (go_at_call 115; (with_reducible refine (impl_within.calls a5 1 16 t347 _ A18.out).mono ?_); rintro e w' ⟨rfl, ⟨nd, rfl⟩⟩))
      go_meet
      case rel => exact ⟨_, (!t347), tq, H', ⟨by first | omega | exact Nat.le_refl _⟩, ⟨tB BK341⟩, ⟨tH1 HB GE341.out⟩⟩
    replace c17 := Bool.eq_false_iff.mpr c17
    subst c17
    have H1 : (impl_BeatingOf.j0 k a1 a2 a3 a4 a5 true a0_0 l0_1) = some (r1, r2) := by rw [if_neg (show ¬ (false = true) by decide)] at H; exact H
    clear H
    have H := H1
    clear H1
    have H' := Aside0.mk H
    clear H
    go_wp2_with (first | ((with_reducible refine gate_callee (f := 115) rfl ?_); refine gL_ (some 27) rfl rfl Tryd.func115 #[.int .i64 a3, .int .i64 1, .int .i64 16] rfl ?_; (with_reducible refine (impl_within.calls a3 1 16 false _ A16.out).mono ?_); rintro e w' ⟨rfl, ⟨nd, rfl⟩⟩; refine ⟨_, rfl, ?_⟩))
    go_meet
    case rel => exact ⟨_, (true), tq, H', ⟨by first | omega | exact Nat.le_refl _⟩, ⟨tB BK341⟩, ⟨tH1 HB GE341.out⟩⟩
   case rest =>
   clear HC9
   try clear c1
   try clear p2
   try clear c4
   try clear c8
   try clear c8b0
   try clear c8b1
   try clear c11
   try clear c12
   try clear c17
   try clear hcz11_0 hcz11_1
   try clear hfz11_0 hfz11_1
   obtain ⟨kq, x25_8, rfl, HA, HJ8, BK341, HB⟩ := hcut
   cases kq with
   | zero => exact absurd HA.out (by simp [impl_BeatingOf.j0])
   | succ kj8 =>
   have H := HA.out
   clear HA
   simp only [impl_BeatingOf.j0] at H
   by_cases c19 : x25_8 = true
   · subst c19
     have H1 : (some (0, 2)) = some (r1, r2) := by rw [if_pos rfl] at H; exact H
     clear H
     have H := H1
     clear H1
     simp only [Option.some.injEq, Prod.mk.injEq] at H
     obtain ⟨rfl, rfl⟩ := H
     go_wp2
     go_ret2
     exact ⟨tE, tH1 HB GE341.out⟩
   replace c19 := Bool.eq_false_iff.mpr c19
   subst c19
   have H1 : ((impl_Tuning_frequency.f a0_0 l0_1 a1 a2).bind fun t348 => ((impl_Tuning_frequency.f a0_0 l0_1 a1 a4).bind fun t349 => ((impl_abs.f (wrap64 ((wrap64 (a3 * t348)) - (wrap64 (a5 * t349))))).bind fun t350 => (some (t350, 0))))) = some (r1, r2) := by rw [if_neg (show ¬ (false = true) by decide)] at H; exact H
   clear H
   have H := H1
   clear H1
   replace H := Option.bind_eq_some_iff.mp H
   obtain ⟨t348, A200, H⟩ := H
   replace H : ((impl_Tuning_frequency.f a0_0 l0_1 a1 a4).bind fun t349 => ((impl_abs.f (wrap64 ((wrap64 (a3 * t348)) - (wrap64 (a5 * t349))))).bind fun t350 => (some (t350, 0)))) = some (r1, r2) := H
   have A20 := Aside0.mk A200
   clear A200
   replace H := Option.bind_eq_some_iff.mp H
   obtain ⟨t349, A210, H⟩ := H
   replace H : ((impl_abs.f (wrap64 ((wrap64 (a3 * t348)) - (wrap64 (a5 * t349))))).bind fun t350 => (some (t350, 0))) = some (r1, r2) := H
   have A21 := Aside0.mk A210
   clear A210
   replace H := Option.bind_eq_some_iff.mp H
   obtain ⟨t350, A220, H⟩ := H
   replace H : (some (t350, 0)) = some (r1, r2) := H
   have A22 := Aside0.mk A220
   clear A220
   simp only [Option.some.injEq, Prod.mk.injEq] at H
   obtain ⟨rfl, rfl⟩ := H
   try go_wp2
   replace BK341 := Aside0.mk (blk_drew BK341.out)
   replace HB := Aside0.mk (below_drew1 HB.out)
   refine start_ (n := 16) (S := fun w' => w'.cell? ⟨gb341, 0, none⟩ = some (.string a0_0) ∧ w'.cell? ⟨gb341, 1, none⟩ = some (.slice A0_1 l0_1.length c0_1)) (ds := []) (bq [0, 16]) (by kernel_rfl) rfl rfl ⟨(blk_cell BK341.out 0).trans rfl, (blk_cell BK341.out 1).trans rfl⟩ (fun hHeld => ?_); refine with_tabW impl_BeatingOf.tab6 impl_BeatingOf.bits6 (fun HT_ HW_ => ?_)
   generalize wc.drew = w23 at BK341 HB hHeld ⊢
   refine pV 0 (some 34) [1, 15] rfl rfl HT_ ?_
   refine pV 2 (some 36) [1, 1, 1, 13] rfl rfl HT_ ?_
   refine pV 3 (some 37) [1, 1, 2, 12] rfl rfl HT_ ?_
   refine pV 6 (some 40) [1, 1, 2, 2, 1, 9] rfl rfl HT_ ?_
   refine pV 8 (some 42) [1, 1, 2, 2, 1, 1, 1, 7] rfl rfl HT_ ?_
   refine pV 9 (some 43) [1, 1, 2, 2, 1, 1, 2, 6] rfl rfl HT_ ?_
   refine pT 1 (some 35) (bq [4, 2, 1, 1, 2, 6]) rfl rfl HT_ HW_ hHeld ?_
   refine pT 7 (some 41) (bq [4, 2, 4, 6]) rfl rfl HT_ HW_ hHeld ?_
   refine pO 4 (some 38) (bq [5, 1, 4, 6]) rfl rfl HT_ (fun K hK => ?_)
   refine gS_ Tryd.func125 #[.agg #[.string a0_0, .slice A0_1 l0_1.length c0_1], .int .i64 a1, .int .i64 a2] rfl rfl ?_
   with_reducible refine (impl_Tuning_frequency.calls a0_0 _ _ l0_1 a1 a2 t348 _ ?side1 ?side2 A20.out).mono ?_
   (case side1 => exact tC (Kd.C_below HR0_1.out HB.out))
   (case side2 => exact HC0_1.out)
   rintro e w24 ⟨rfl, hb⟩
   refine ⟨_, rfl, ?_⟩
   replace BK341 := tbB BK341 hb
   replace HB := Aside0.mk (below_step (tH1 HB GE341.out) hb)
   (try clear hb)
   (try clear hb2)
   (try clear hk)
   (try clear hi)
   refine hK.out _ _ ⟨(blk_cell BK341.out 0).trans rfl, (blk_cell BK341.out 1).trans rfl⟩ (fun hHeld => ?_)
   clear hK K
   refine nO (some 38) ?_
   refine pV 5 (some 39) [10, 6] rfl rfl HT_ ?_
   refine pO 10 (some 44) (bq [11, 5]) rfl rfl HT_ (fun K hK => ?_)
   refine gS_ Tryd.func125 #[.agg #[.string a0_0, .slice A0_1 l0_1.length c0_1], .int .i64 a1, .int .i64 a4] rfl rfl ?_
   with_reducible refine (impl_Tuning_frequency.calls a0_0 _ _ l0_1 a1 a4 t349 _ ?side1 ?side2 A21.out).mono ?_
   (case side1 => exact tC (Kd.C_below HR0_1.out HB.out))
   (case side2 => exact HC0_1.out)
   rintro e w25 ⟨rfl, hb⟩
   refine ⟨_, rfl, ?_⟩
   replace BK341 := tbB BK341 hb
   replace HB := Aside0.mk (below_step (tH1 HB GE341.out) hb)
   (try clear hb)
   (try clear hb2)
   (try clear hk)
   (try clear hi)
   refine hK.out _ _ ⟨(blk_cell BK341.out 0).trans rfl, (blk_cell BK341.out 1).trans rfl⟩ (fun hHeld => ?_)
   clear hK K
   refine nO (some 44) ?_
   refine pV 11 (some 45) [12, 4] rfl rfl HT_ ?_
   refine pV 12 (some 46) [13, 3] rfl rfl HT_ ?_
   refine pO 13 (some 47) (bq [14, 2]) rfl rfl HT_ (fun K hK => ?_)
   refine gS_ Tryd.func116 #[.int .i64 (wrap64 ((wrap64 (a3 * t348)) - (wrap64 (a5 * t349))))] rfl rfl ?_
   with_reducible refine (impl_abs.calls (wrap64 ((wrap64 (a3 * t348)) - (wrap64 (a5 * t349)))) t350 _ A22.out).mono ?_
   rintro e w26 ⟨rfl, hb⟩
   refine ⟨_, rfl, ?_⟩
   replace BK341 := tbB BK341 hb
   replace HB := Aside0.mk (below_step (tH1 HB GE341.out) hb)
   (try clear hb)
   (try clear hb2)
   (try clear hk)
   (try clear hi)
   refine hK.out _ _ ⟨(blk_cell BK341.out 0).trans rfl, (blk_cell BK341.out 1).trans rfl⟩ (fun hHeld => ?_)
   clear hK K
   refine nO (some 47) ?_
   refine pV 14 (some 12) [15, 1] rfl rfl HT_ ?_
   refine pV 15 (some 13) [16] rfl rfl HT_ ?_
   refine done_ (done_of HT_.out (by kernel_rfl)) ?_
   try go_wp2
   go_ret2
   exact ⟨tE, tH1 HB GE341.out⟩
 rw [if_neg c8] at H
 have c8b0 : (t345 == 0) = false := beq_eq_false_iff_ne.mpr c8
 have c8b1 : (t345 != 0) = true := bne_iff_ne.mpr c8
 simp only [Option.some.injEq, Prod.mk.injEq] at H
 obtain ⟨rfl, rfl⟩ := H
 go_enter Tryd.func48, Tryd.ntmps48
 go_wp2_with (first | ((with_reducible refine gate_dst (N := 6) rfl ?_); refine box_event ?hg (N := 6) ?hd (cs := #[.string a0_0, .slice A0_1 l0_1.length c0_1]) (t := 71) ?hr ?_; (case hd => rfl); (case hg => rfl); (case hr => first | (go_simp; done) | (go_simp; rfl)); intro gb341 hg w27 hbox hb; have BK341 := Aside0.mk (hbox); have GW341 := Aside0.mk ((by rw [hg]; exact (below_size (tH HB)) : w.heap.size ≤ gb341)); have GE341 := Aside0.mk ((by rw [hg]; exact (below_size (tH HB)) : w.heap.size ≤ gb341)); replace HB := Aside0.mk (below_step (tH HB) hb); clear hb hbox hg; have hcz28_0 : w27.cell? ⟨gb341, 0, none⟩ = some (.string a0_0) := (blk_cell BK341.out 0).trans rfl; have hcz28_1 : w27.cell? ⟨gb341, 1, none⟩ = some (.slice A0_1 l0_1.length c0_1) := (blk_cell BK341.out 1).trans rfl; have hfz28_0 := blk_frozen BK341.out 0; have hfz28_1 := blk_frozen BK341.out 1) | ((with_reducible refine gate_dst (N := 19) rfl ?_); refine Kd.R_lit (Kd.int .i64) _ 2 ?hg (N := 19) ?hd (xs := ([a2, a4] : List Int)) (inner := [.int .i64 a2, .int .i64 a4]) (ok := fun _ => True) (okp := fun _ => True) ?hr ?hp (fun _ hk => hk) trivial (Below.refl _ _) (Nat.le_refl _) (by simp) ?_; (case hd => rfl); (case hg => rfl); (case hr => first | (go_simp; done) | (go_simp; rfl)); (case hp => exact (Reps.one (show Kd.M (Kd.int .i64) _ _ _ a2 [.int .i64 a2] from rfl) (Reps.one (show Kd.M (Kd.int .i64) _ _ _ a4 [.int .i64 a4] from rfl) (Reps.none _ _)))); intro v343 w29 ho30 hb hg_ hnew_; clear hg_ hnew_; (first | rw [← Ny342.out] at ho30 | (simp only [Int.reduceToNat] at ho30; rw [← Ny342.out] at ho30)); have HO344 := Aside0.mk (Kd.R_lower ho30 (below_size (tH1 HB GE341.out))); replace BK341 := tbB BK341 hb; replace HB := Aside0.mk (below_step (tH1 HB GE341.out) hb); clear hb ho30; obtain ⟨Ao31, co31, eo31⟩ := Kd.R_slice HO344.out; subst eo31) | ((with_reducible refine gate_callee (f := 124) rfl ?_); refine gL_ (some 20) rfl rfl Tryd.func124 #[.agg #[.string a0_0, .slice A0_1 l0_1.length c0_1], .int .i64 a1, .slice Ao31 y342.length co31] rfl ?_; (with_reducible refine (impl_tuningCode.calls k a0_0 _ _ l0_1 a1 _ _ y342 t345 _ ?side1 ?side2 ?side3 ?side4 A7.out).mono ?_); (case side1 => exact tC (Kd.C_below HR0_1.out HB.out)); (case side2 => exact HC0_1.out); (case side3 => exact tC (Kd.R_reads' HO344.out).2.2); (case side4 => exact (Kd.R_reads' HO344.out).2.1); rintro e w32 ⟨rfl, hb⟩; refine ⟨_, rfl, ?_⟩; replace HO344 := Aside0.mk (Kd.R_below (tR HO344) hb); replace BK341 := tbB BK341 hb; replace HB := Aside0.mk (below_step (tH1 HB GE341.out) hb); (try clear hb); (try clear hb2); (try clear hk); (try clear hi)))
 go_ret2
 exact ⟨tE, tH1 HB GE341.out⟩

end Go.Proofs.YtmeflmlejcmckaaDoor.PB
