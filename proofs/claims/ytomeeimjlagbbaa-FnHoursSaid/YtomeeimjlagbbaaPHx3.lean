-- WRITTEN BY wip/gprint.py, a program of this session's over the kit's print, with contracts given by hand
import Derived.Test.YtomeeimjlagbbaaPHx0
import Derived.Test.YtomeeimjlagbbaaPHx1
import Derived.Test.YtomeeimjlagbbaaPHx2
namespace Go.Proofs.Ytomeeimjlagbbaa.PH
open Go.RowKit Go.Proofs.YtomeeimjlagbbaaW.PrintWords Go.Proofs.YtomeeimjlagbbaaW.PrintLast Go.Proofs.YtomeeimjlagbbaaW.PrintMore
attribute [local go_sem] max2_int min2_int max_two min_two max_three min_three max_four min_four   -- for this text's walks alone
set_option linter.unusedVariables false
set_option linter.unusedSimpArgs false

attribute [local go_sem] isSome_setCell
/-! ### spec_l08DrawMinute: function 83 -/
def spec_l08DrawMinute.f (s0_0 : List Int) (s0_1 : Int) (s0_2 : Int) : Option (Int × Int × Int) := (spec_l00Src_one.f s0_0 s0_1 s0_2 9).bind fun bt171 => (if bt171.1 = true then ((spec_l00Src_among.f s0_0 bt171.2.1 bt171.2.2 (([(-1), 0, 1439, 1440] : List Int))).bind fun bt177 => (some (bt177.1, bt177.2.1, bt177.2.2))) else ((spec_l00Src_pick.f s0_0 bt171.2.1 bt171.2.2 48).bind fun bt180 => (some (wrap64 (30 * bt180.1), bt180.2.1, bt180.2.2))))
set_option maxHeartbeats 8000000 in
set_option maxRecDepth 100000 in
theorem spec_l08DrawMinute.calls (g : Nat) (s0_0 : List Int) (s0_1 : Int) (s0_2 : Int) (r1 : Int) (r2 : Int) (r3 : Int) (w0 w : World) (hI : IsS128 w0 w g s0_0 s0_1 s0_2) (hB : Below w0.heap.size w0 w) (h : spec_l08DrawMinute.f s0_0 s0_1 s0_2 = some (r1, r2, r3)) :
 Calls Try.prog 83 #[.pointer (some ⟨g, 0, none⟩)] w fun e w' => e = .returned (.int .i64 r1) ∧ IsS128 w0 w' g s0_0 r2 r3 ∧ Below w0.heap.size w0 w' ∧ KeepBut w w' g none := by
 have HI0 := Aside0.mk hI
 have HK := Aside0.mk (KeepBut.refl w g none)
 have HL := Aside0.mk hB.size
 clear hI
 have HW0 := Aside0.mk hB.size
 have HB := Aside0.mk hB
 clear hB
 have H : ((spec_l00Src_one.f s0_0 s0_1 s0_2 9).bind fun bt171 => (if bt171.1 = true then ((spec_l00Src_among.f s0_0 bt171.2.1 bt171.2.2 (([(-1), 0, 1439, 1440] : List Int))).bind fun bt177 => (some (bt177.1, bt177.2.1, bt177.2.2))) else ((spec_l00Src_pick.f s0_0 bt171.2.1 bt171.2.2 48).bind fun bt180 => (some (wrap64 (30 * bt180.1), bt180.2.1, bt180.2.2))))) = some (r1, r2, r3) := h
 clear h
 replace H := Option.bind_eq_some_iff.mp H
 obtain ⟨⟨t171, t172, t173⟩, A20, H⟩ := H
 replace H : (if t171 = true then ((spec_l00Src_among.f s0_0 t172 t173 (([(-1), 0, 1439, 1440] : List Int))).bind fun bt177 => (some (bt177.1, bt177.2.1, bt177.2.2))) else ((spec_l00Src_pick.f s0_0 t172 t173 48).bind fun bt180 => (some (wrap64 (30 * bt180.1), bt180.2.1, bt180.2.2)))) = some (r1, r2, r3) := H
 have A2 := Aside0.mk A20
 clear A20
 by_cases c3 : t171 = true
 · subst c3
   have H1 : ((spec_l00Src_among.f s0_0 t172 t173 (([(-1), 0, 1439, 1440] : List Int))).bind fun bt177 => (some (bt177.1, bt177.2.1, bt177.2.2))) = some (r1, r2, r3) := by rw [if_pos rfl] at H; exact H
   clear H
   have H := H1
   clear H1
   obtain ⟨y174, hy174⟩ : ∃ y_ : List Int, y_ = (([(-1), 0, 1439, 1440] : List Int)) := ⟨_, rfl⟩
   replace H : ((spec_l00Src_among.f s0_0 t172 t173 y174).bind fun bt177 => (some (bt177.1, bt177.2.1, bt177.2.2))) = some (r1, r2, r3) := by first | (rw [hy174]; with_reducible exact H) | (have H2_ := (Option.bind_some _ _).symm.trans H; rw [hy174]; with_reducible exact H2_) | (have H2_ := (Option.bind_some _ _).symm.trans H; with_reducible exact H2_) | with_reducible exact H | (rw [hy174]; exact H) | exact H
   have Ny174 := Aside0.mk hy174
   clear hy174
   replace H := Option.bind_eq_some_iff.mp H
   obtain ⟨⟨t177, t178, t179⟩, A40, H⟩ := H
   replace H : (some (t177, t178, t179)) = some (r1, r2, r3) := H
   have A4 := Aside0.mk A40
   clear A40
   simp only [Option.some.injEq, Prod.mk.injEq] at H
   obtain ⟨rfl, rfl, rfl⟩ := H
   go_enter Try.func83, Try.ntmps83
   go_wp2_with (first | ((with_reducible refine gate_callee (f := 123) rfl ?_); refine gL_ (some 4) rfl rfl Try.func123 #[.pointer (some ⟨g, 0, none⟩), .int .i64 9] rfl ?_; (with_reducible refine (spec_l00Src_one.calls g s0_0 s0_1 s0_2 9 true t172 t173 w0 _ ?side1 ?side2 A2.out).mono ?_); (case side1 => repeat (first | (with_reducible first | exact HI0.out | apply IsS128.alloc | apply IsS128.drewN | apply IsS128.drew | apply IsS128.set_1 | apply IsS128.set_2) | exact HI0.out)); (case side2 => repeat (first | (with_reducible first | exact HB.out | apply qba | apply qbn | apply qb1 | refine below_set ?_ (IsS128.ge HI0.out)) | exact HB.out)); rintro e w5 ⟨rfl, hi, hb, hk⟩; refine ⟨_, rfl, ?_⟩; have n0_ := Aside0.mk (KeepBut.trans (by repeat (first | (with_reducible first | exact HK.out | apply qks | apply qkn | apply qkd | apply qka) | exact HK.out)) hk (.inl rfl)); have n1_ := Aside0.mk (hb); have n2_ := Aside0.mk (hi); clear HK; clear HB; clear HI0; have HK := n0_; have HB := n1_; have HI0 := n2_; clear n0_ n1_ n2_; (try clear hb); (try clear hb2); (try clear hk); (try clear hi)) | ((with_reducible refine gate_dst (N := 6) rfl ?_); refine Kd.R_lit (Kd.int .i64) _ 2 ?hg (N := 6) ?hd (xs := ([(-1), 0, 1439, 1440] : List Int)) (inner := [.int .i64 (-1), .int .i64 0, .int .i64 1439, .int .i64 1440]) (ok := fun _ => True) (okp := fun _ => True) ?hr ?hp (fun _ hk => hk) trivial (Below.refl _ _) (Nat.le_refl _) (by simp) ?_; (case hd => rfl); (case hg => rfl); (case hr => first | (go_simp; done) | (go_simp; rfl)); (case hp => exact (Reps.one (show Kd.M (Kd.int .i64) _ _ _ (-1) [.int .i64 (-1)] from rfl) (Reps.one (show Kd.M (Kd.int .i64) _ _ _ 0 [.int .i64 0] from rfl) (Reps.one (show Kd.M (Kd.int .i64) _ _ _ 1439 [.int .i64 1439] from rfl) (Reps.one (show Kd.M (Kd.int .i64) _ _ _ 1440 [.int .i64 1440] from rfl) (Reps.none _ _)))))); intro v175 w6 ho7 hb hg_ hnew_; clear hg_ hnew_; (first | rw [← Ny174.out] at ho7 | (simp only [Int.reduceToNat] at ho7; rw [← Ny174.out] at ho7)); have n0_ := Aside0.mk (Kd.R_lower ho7 (keep_size (w := w) (g := g) (row := none) (by repeat (first | (with_reducible first | exact HK.out | apply qks | apply qkn | apply qkd | apply qka) | exact HK.out)))); have n1_ := Aside0.mk (IsS128.below (by repeat (first | (with_reducible first | exact HI0.out | apply IsS128.alloc | apply IsS128.drewN | apply IsS128.drew | apply IsS128.set_1 | apply IsS128.set_2) | exact HI0.out)) hb); have n2_ := Aside0.mk (KeepBut.trans (by repeat (first | (with_reducible first | exact HK.out | apply qks | apply qkn | apply qkd | apply qka) | exact HK.out)) (KeepBut.of_below hb g none) (.inl rfl)); have n3_ := Aside0.mk (below_step (by repeat (first | (with_reducible first | exact HB.out | apply qba | apply qbn | apply qb1 | refine below_set ?_ (IsS128.ge HI0.out)) | exact HB.out)) hb); clear HI0; clear HK; clear HB; have HO176 := n0_; have HI0 := n1_; have HK := n2_; have HB := n3_; clear n0_ n1_ n2_ n3_; clear hb ho7; obtain ⟨Ao8, co8, eo8⟩ := Kd.R_slice HO176.out; subst eo8) | ((with_reducible refine gate_callee (f := 124) rfl ?_); refine gL_ (some 7) rfl rfl Try.func124 #[.pointer (some ⟨g, 0, none⟩), .slice Ao8 y174.length co8] rfl ?_; (with_reducible refine (spec_l00Src_among.calls g s0_0 t172 t173 _ _ y174 t177 t178 t179 w0 _ ?side1 ?side2 ?side3 ?side4 ?side5 A4.out).mono ?_); (case side1 => repeat (first | (with_reducible first | exact HI0.out | apply IsS128.alloc | apply IsS128.drewN | apply IsS128.drew | apply IsS128.set_1 | apply IsS128.set_2) | exact HI0.out)); (case side2 => repeat (first | (with_reducible first | exact HB.out | apply qba | apply qbn | apply qb1 | refine below_set ?_ (IsS128.ge HI0.out)) | exact HB.out)); (case side3 => repeat (first | exact (Kd.R_reads' HO176.out).2.2 | (with_reducible refine Kd.C_alloc ?_ _) | (with_reducible refine Kd.C_drewN ?_ _) | (with_reducible refine Kd.C_drew ?_))); (case side4 => exact (Kd.R_reads' HO176.out).2.1); (case side5 => exact far_slice (IsS128.own_ne HI0.out HO176.out (by decide))); rintro e w9 ⟨rfl, hi, hb, hk⟩; refine ⟨_, rfl, ?_⟩; have n0_ := Aside0.mk (Kd.R_mono (Kd.R_keep (IsS128.apart (show IsS128 w0 _ g s0_0 t172 t173 from by repeat (first | (with_reducible first | exact HI0.out | apply IsS128.alloc | apply IsS128.drewN | apply IsS128.drew | apply IsS128.set_1 | apply IsS128.set_2) | exact HI0.out)) (by (with_reducible repeat (first | apply qra | apply qrn | apply qrd)); exact HO176.out) (by decide)) hk (fun _ h => h.2)) (fun _ h => h.1)); have n1_ := Aside0.mk (KeepBut.trans (by repeat (first | (with_reducible first | exact HK.out | apply qks | apply qkn | apply qkd | apply qka) | exact HK.out)) hk (.inl rfl)); have n2_ := Aside0.mk (hb); have n3_ := Aside0.mk (hi); clear HO176; clear HK; clear HB; clear HI0; have HO176 := n0_; have HK := n1_; have HB := n2_; have HI0 := n3_; clear n0_ n1_ n2_ n3_; (try clear hb); (try clear hb2); (try clear hk); (try clear hi)))
   go_ret
   exact ⟨by first | rfl | (simp [errW_none, errW_some] <;> rfl) | (simp [*, errW_none, errW_some] <;> rfl), by repeat (first | (with_reducible first | exact HI0.out | apply IsS128.alloc | apply IsS128.drewN | apply IsS128.drew | apply IsS128.set_1 | apply IsS128.set_2) | exact HI0.out), by repeat (first | (with_reducible first | exact HB.out | apply qba | apply qbn | apply qb1 | refine below_set ?_ (IsS128.ge HI0.out)) | exact HB.out), by repeat (first | (with_reducible first | exact HK.out | apply qks | apply qkn | apply qkd | apply qka) | exact HK.out)⟩
 · replace c3 := Bool.eq_false_iff.mpr c3
   subst c3
   have H1 : ((spec_l00Src_pick.f s0_0 t172 t173 48).bind fun bt180 => (some (wrap64 (30 * bt180.1), bt180.2.1, bt180.2.2))) = some (r1, r2, r3) := by rw [if_neg (show ¬ (false = true) by decide)] at H; exact H
   clear H
   have H := H1
   clear H1
   replace H := Option.bind_eq_some_iff.mp H
   obtain ⟨⟨t180, t181, t182⟩, A100, H⟩ := H
   replace H : (some (wrap64 (30 * t180), t181, t182)) = some (r1, r2, r3) := H
   have A10 := Aside0.mk A100
   clear A100
   simp only [Option.some.injEq, Prod.mk.injEq] at H
   obtain ⟨rfl, rfl, rfl⟩ := H
   go_enter Try.func83, Try.ntmps83
   go_wp2_with (first | ((with_reducible refine gate_callee (f := 123) rfl ?_); refine gL_ (some 4) rfl rfl Try.func123 #[.pointer (some ⟨g, 0, none⟩), .int .i64 9] rfl ?_; (with_reducible refine (spec_l00Src_one.calls g s0_0 s0_1 s0_2 9 false t172 t173 w0 _ ?side1 ?side2 A2.out).mono ?_); (case side1 => repeat (first | (with_reducible first | exact HI0.out | apply IsS128.alloc | apply IsS128.drewN | apply IsS128.drew | apply IsS128.set_1 | apply IsS128.set_2) | exact HI0.out)); (case side2 => repeat (first | (with_reducible first | exact HB.out | apply qba | apply qbn | apply qb1 | refine below_set ?_ (IsS128.ge HI0.out)) | exact HB.out)); rintro e w11 ⟨rfl, hi, hb, hk⟩; refine ⟨_, rfl, ?_⟩; have n0_ := Aside0.mk (KeepBut.trans (by repeat (first | (with_reducible first | exact HK.out | apply qks | apply qkn | apply qkd | apply qka) | exact HK.out)) hk (.inl rfl)); have n1_ := Aside0.mk (hb); have n2_ := Aside0.mk (hi); clear HK; clear HB; clear HI0; have HK := n0_; have HB := n1_; have HI0 := n2_; clear n0_ n1_ n2_; (try clear hb); (try clear hb2); (try clear hk); (try clear hi)) | ((with_reducible refine gate_callee (f := 122) rfl ?_); refine gL_ (some 9) rfl rfl Try.func122 #[.pointer (some ⟨g, 0, none⟩), .int .i64 48] rfl ?_; (with_reducible refine (spec_l00Src_pick.calls g s0_0 t172 t173 48 t180 t181 t182 w0 _ ?side1 ?side2 A10.out).mono ?_); (case side1 => repeat (first | (with_reducible first | exact HI0.out | apply IsS128.alloc | apply IsS128.drewN | apply IsS128.drew | apply IsS128.set_1 | apply IsS128.set_2) | exact HI0.out)); (case side2 => repeat (first | (with_reducible first | exact HB.out | apply qba | apply qbn | apply qb1 | refine below_set ?_ (IsS128.ge HI0.out)) | exact HB.out)); rintro e w12 ⟨rfl, hi, hb, hk⟩; refine ⟨_, rfl, ?_⟩; have n0_ := Aside0.mk (KeepBut.trans (by repeat (first | (with_reducible first | exact HK.out | apply qks | apply qkn | apply qkd | apply qka) | exact HK.out)) hk (.inl rfl)); have n1_ := Aside0.mk (hb); have n2_ := Aside0.mk (hi); clear HK; clear HB; clear HI0; have HK := n0_; have HB := n1_; have HI0 := n2_; clear n0_ n1_ n2_; (try clear hb); (try clear hb2); (try clear hk); (try clear hi)))
   go_ret
   exact ⟨by first | rfl | (simp [errW_none, errW_some] <;> rfl) | (simp [*, errW_none, errW_some] <;> rfl), by repeat (first | (with_reducible first | exact HI0.out | apply IsS128.alloc | apply IsS128.drewN | apply IsS128.drew | apply IsS128.set_1 | apply IsS128.set_2) | exact HI0.out), by repeat (first | (with_reducible first | exact HB.out | apply qba | apply qbn | apply qb1 | refine below_set ?_ (IsS128.ge HI0.out)) | exact HB.out), by repeat (first | (with_reducible first | exact HK.out | apply qks | apply qkn | apply qkd | apply qka) | exact HK.out)⟩

/-! ### spec_l08DrawSeason: function 84 -/
def spec_l08DrawSeason.f (s0_0 : List Int) (s0_1 : Int) (s0_2 : Int) : Option (Int × Int × Int) := (spec_l00Src_among.f s0_0 s0_1 s0_2 (([0, 1, 5, 0, 1, 6, (-1), 2] : List Int))).bind fun bt186 => (some (bt186.1, bt186.2.1, bt186.2.2))
set_option maxHeartbeats 8000000 in
set_option maxRecDepth 100000 in
theorem spec_l08DrawSeason.calls (g : Nat) (s0_0 : List Int) (s0_1 : Int) (s0_2 : Int) (r1 : Int) (r2 : Int) (r3 : Int) (w0 w : World) (hI : IsS128 w0 w g s0_0 s0_1 s0_2) (hB : Below w0.heap.size w0 w) (h : spec_l08DrawSeason.f s0_0 s0_1 s0_2 = some (r1, r2, r3)) :
 Calls Try.prog 84 #[.pointer (some ⟨g, 0, none⟩)] w fun e w' => e = .returned (.int .i64 r1) ∧ IsS128 w0 w' g s0_0 r2 r3 ∧ Below w0.heap.size w0 w' ∧ KeepBut w w' g none := by
 have HI0 := Aside0.mk hI
 have HK := Aside0.mk (KeepBut.refl w g none)
 have HL := Aside0.mk hB.size
 clear hI
 have HW0 := Aside0.mk hB.size
 have HB := Aside0.mk hB
 clear hB
 have H : ((spec_l00Src_among.f s0_0 s0_1 s0_2 (([0, 1, 5, 0, 1, 6, (-1), 2] : List Int))).bind fun bt186 => (some (bt186.1, bt186.2.1, bt186.2.2))) = some (r1, r2, r3) := h
 clear h
 obtain ⟨y183, hy183⟩ : ∃ y_ : List Int, y_ = (([0, 1, 5, 0, 1, 6, (-1), 2] : List Int)) := ⟨_, rfl⟩
 replace H : ((spec_l00Src_among.f s0_0 s0_1 s0_2 y183).bind fun bt186 => (some (bt186.1, bt186.2.1, bt186.2.2))) = some (r1, r2, r3) := by first | (rw [hy183]; with_reducible exact H) | (have H2_ := (Option.bind_some _ _).symm.trans H; rw [hy183]; with_reducible exact H2_) | (have H2_ := (Option.bind_some _ _).symm.trans H; with_reducible exact H2_) | with_reducible exact H | (rw [hy183]; exact H) | exact H
 have Ny183 := Aside0.mk hy183
 clear hy183
 replace H := Option.bind_eq_some_iff.mp H
 obtain ⟨⟨t186, t187, t188⟩, A20, H⟩ := H
 replace H : (some (t186, t187, t188)) = some (r1, r2, r3) := H
 have A2 := Aside0.mk A20
 clear A20
 simp only [Option.some.injEq, Prod.mk.injEq] at H
 obtain ⟨rfl, rfl, rfl⟩ := H
 go_enter Try.func84, Try.ntmps84
 go_wp2_with (first | ((with_reducible refine gate_dst (N := 4) rfl ?_); refine Kd.R_lit (Kd.int .i64) _ 2 ?hg (N := 4) ?hd (xs := ([0, 1, 5, 0, 1, 6, (-1), 2] : List Int)) (inner := [.int .i64 0, .int .i64 1, .int .i64 5, .int .i64 0, .int .i64 1, .int .i64 6, .int .i64 (-1), .int .i64 2]) (ok := fun _ => True) (okp := fun _ => True) ?hr ?hp (fun _ hk => hk) trivial (Below.refl _ _) (Nat.le_refl _) (by simp) ?_; (case hd => rfl); (case hg => rfl); (case hr => first | (go_simp; done) | (go_simp; rfl)); (case hp => exact (Reps.one (show Kd.M (Kd.int .i64) _ _ _ 0 [.int .i64 0] from rfl) (Reps.one (show Kd.M (Kd.int .i64) _ _ _ 1 [.int .i64 1] from rfl) (Reps.one (show Kd.M (Kd.int .i64) _ _ _ 5 [.int .i64 5] from rfl) (Reps.one (show Kd.M (Kd.int .i64) _ _ _ 0 [.int .i64 0] from rfl) (Reps.one (show Kd.M (Kd.int .i64) _ _ _ 1 [.int .i64 1] from rfl) (Reps.one (show Kd.M (Kd.int .i64) _ _ _ 6 [.int .i64 6] from rfl) (Reps.one (show Kd.M (Kd.int .i64) _ _ _ (-1) [.int .i64 (-1)] from rfl) (Reps.one (show Kd.M (Kd.int .i64) _ _ _ 2 [.int .i64 2] from rfl) (Reps.none _ _)))))))))); intro v184 w3 ho4 hb hg_ hnew_; clear hg_ hnew_; (first | rw [← Ny183.out] at ho4 | (simp only [Int.reduceToNat] at ho4; rw [← Ny183.out] at ho4)); have n0_ := Aside0.mk (Kd.R_lower ho4 (keep_size (w := w) (g := g) (row := none) (by repeat (first | (with_reducible first | exact HK.out | apply qks | apply qkn | apply qkd | apply qka) | exact HK.out)))); have n1_ := Aside0.mk (IsS128.below (by repeat (first | (with_reducible first | exact HI0.out | apply IsS128.alloc | apply IsS128.drewN | apply IsS128.drew | apply IsS128.set_1 | apply IsS128.set_2) | exact HI0.out)) hb); have n2_ := Aside0.mk (KeepBut.trans (by repeat (first | (with_reducible first | exact HK.out | apply qks | apply qkn | apply qkd | apply qka) | exact HK.out)) (KeepBut.of_below hb g none) (.inl rfl)); have n3_ := Aside0.mk (below_step (by repeat (first | (with_reducible first | exact HB.out | apply qba | apply qbn | apply qb1 | refine below_set ?_ (IsS128.ge HI0.out)) | exact HB.out)) hb); clear HI0; clear HK; clear HB; have HO185 := n0_; have HI0 := n1_; have HK := n2_; have HB := n3_; clear n0_ n1_ n2_ n3_; clear hb ho4; obtain ⟨Ao5, co5, eo5⟩ := Kd.R_slice HO185.out; subst eo5) | ((with_reducible refine gate_callee (f := 124) rfl ?_); refine gL_ (some 5) rfl rfl Try.func124 #[.pointer (some ⟨g, 0, none⟩), .slice Ao5 y183.length co5] rfl ?_; (with_reducible refine (spec_l00Src_among.calls g s0_0 s0_1 s0_2 _ _ y183 t186 t187 t188 w0 _ ?side1 ?side2 ?side3 ?side4 ?side5 A2.out).mono ?_); (case side1 => repeat (first | (with_reducible first | exact HI0.out | apply IsS128.alloc | apply IsS128.drewN | apply IsS128.drew | apply IsS128.set_1 | apply IsS128.set_2) | exact HI0.out)); (case side2 => repeat (first | (with_reducible first | exact HB.out | apply qba | apply qbn | apply qb1 | refine below_set ?_ (IsS128.ge HI0.out)) | exact HB.out)); (case side3 => repeat (first | exact (Kd.R_reads' HO185.out).2.2 | (with_reducible refine Kd.C_alloc ?_ _) | (with_reducible refine Kd.C_drewN ?_ _) | (with_reducible refine Kd.C_drew ?_))); (case side4 => exact (Kd.R_reads' HO185.out).2.1); (case side5 => exact far_slice (IsS128.own_ne HI0.out HO185.out (by decide))); rintro e w6 ⟨rfl, hi, hb, hk⟩; refine ⟨_, rfl, ?_⟩; have n0_ := Aside0.mk (Kd.R_mono (Kd.R_keep (IsS128.apart (show IsS128 w0 _ g s0_0 s0_1 s0_2 from by repeat (first | (with_reducible first | exact HI0.out | apply IsS128.alloc | apply IsS128.drewN | apply IsS128.drew | apply IsS128.set_1 | apply IsS128.set_2) | exact HI0.out)) (by (with_reducible repeat (first | apply qra | apply qrn | apply qrd)); exact HO185.out) (by decide)) hk (fun _ h => h.2)) (fun _ h => h.1)); have n1_ := Aside0.mk (KeepBut.trans (by repeat (first | (with_reducible first | exact HK.out | apply qks | apply qkn | apply qkd | apply qka) | exact HK.out)) hk (.inl rfl)); have n2_ := Aside0.mk (hb); have n3_ := Aside0.mk (hi); clear HO185; clear HK; clear HB; clear HI0; have HO185 := n0_; have HK := n1_; have HB := n2_; have HI0 := n3_; clear n0_ n1_ n2_ n3_; (try clear hb); (try clear hb2); (try clear hk); (try clear hi)))
 go_ret
 exact ⟨by first | rfl | (simp [errW_none, errW_some] <;> rfl) | (simp [*, errW_none, errW_some] <;> rfl), by repeat (first | (with_reducible first | exact HI0.out | apply IsS128.alloc | apply IsS128.drewN | apply IsS128.drew | apply IsS128.set_1 | apply IsS128.set_2) | exact HI0.out), by repeat (first | (with_reducible first | exact HB.out | apply qba | apply qbn | apply qb1 | refine below_set ?_ (IsS128.ge HI0.out)) | exact HB.out), by repeat (first | (with_reducible first | exact HK.out | apply qks | apply qkn | apply qkd | apply qka) | exact HK.out)⟩

/-! ### spec_DrawNextStart: function 20 -/
def spec_DrawNextStart.f (l0 : List Int) : Option (ByteArray × Int × Int × Int × Int × Int × Int × Int) := (spec_l00From.f l0).bind fun bt190 => ((spec_l08DrawOne.f bt190.1 bt190.2.1 bt190.2.2 (⟨#[121, 97, 109, 97, 110]⟩ : ByteArray)).bind fun bt194 => ((spec_l08Bend.f bt190.1 bt194.2.2.2.2.2.2.1 bt194.2.2.2.2.2.2.2 bt194.1 bt194.2.1 bt194.2.2.1 bt194.2.2.2.1 bt194.2.2.2.2.1 bt194.2.2.2.2.2.1).bind fun bt202 => ((spec_l08DrawMinute.f bt190.1 bt202.2.2.2.2.2.2.1 bt202.2.2.2.2.2.2.2).bind fun bt211 => ((spec_l08DrawSeason.f bt190.1 bt211.2.1 bt211.2.2).bind fun bt214 => (some (bt202.1, bt202.2.1, bt202.2.2.1, bt202.2.2.2.1, bt202.2.2.2.2.1, bt202.2.2.2.2.2.1, bt211.1, bt214.1))))))
set_option maxHeartbeats 8000000 in
set_option maxRecDepth 100000 in
theorem spec_DrawNextStart.calls (A0 : Option Addr) (c0 : Nat) (l0 : List Int) (r1 : ByteArray) (r2 : Int) (r3 : Int) (r4 : Int) (r5 : Int) (r6 : Int) (r7 : Int) (r8 : Int) (w : World) (hr0 : Kd.C (Kd.int .u8) w A0 l0.length l0) (hc0 : l0.length ≤ c0) (h : spec_DrawNextStart.f l0 = some (r1, r2, r3, r4, r5, r6, r7, r8)) :
 Calls Try.prog 20 #[.slice A0 l0.length c0] w fun e w' => e = .returned (.tuple #[.agg #[.string r1, .int .i64 r2, .int .i64 r3, .int .i64 r4, .int .i64 r5, .int .i64 r6], .int .i64 r7, .int .i64 r8]) ∧ Below w.heap.size w w' := by
 have hu43 := Try.underlying43
 have HR0 := Aside0.mk hr0
 have HC0 := Aside0.mk hc0
 clear hr0 hc0
 have HB := Aside0.mk (Below.refl w.heap.size w)
 have H : ((spec_l00From.f l0).bind fun bt190 => ((spec_l08DrawOne.f bt190.1 bt190.2.1 bt190.2.2 (⟨#[121, 97, 109, 97, 110]⟩ : ByteArray)).bind fun bt194 => ((spec_l08Bend.f bt190.1 bt194.2.2.2.2.2.2.1 bt194.2.2.2.2.2.2.2 bt194.1 bt194.2.1 bt194.2.2.1 bt194.2.2.2.1 bt194.2.2.2.2.1 bt194.2.2.2.2.2.1).bind fun bt202 => ((spec_l08DrawMinute.f bt190.1 bt202.2.2.2.2.2.2.1 bt202.2.2.2.2.2.2.2).bind fun bt211 => ((spec_l08DrawSeason.f bt190.1 bt211.2.1 bt211.2.2).bind fun bt214 => (some (bt202.1, bt202.2.1, bt202.2.2.1, bt202.2.2.2.1, bt202.2.2.2.2.1, bt202.2.2.2.2.2.1, bt211.1, bt214.1))))))) = some (r1, r2, r3, r4, r5, r6, r7, r8) := h
 clear h
 replace H := Option.bind_eq_some_iff.mp H
 obtain ⟨⟨t190, t191, t192⟩, A20, H⟩ := H
 replace H : ((spec_l08DrawOne.f t190 t191 t192 (⟨#[121, 97, 109, 97, 110]⟩ : ByteArray)).bind fun bt194 => ((spec_l08Bend.f t190 bt194.2.2.2.2.2.2.1 bt194.2.2.2.2.2.2.2 bt194.1 bt194.2.1 bt194.2.2.1 bt194.2.2.2.1 bt194.2.2.2.2.1 bt194.2.2.2.2.2.1).bind fun bt202 => ((spec_l08DrawMinute.f t190 bt202.2.2.2.2.2.2.1 bt202.2.2.2.2.2.2.2).bind fun bt211 => ((spec_l08DrawSeason.f t190 bt211.2.1 bt211.2.2).bind fun bt214 => (some (bt202.1, bt202.2.1, bt202.2.2.1, bt202.2.2.2.1, bt202.2.2.2.2.1, bt202.2.2.2.2.2.1, bt211.1, bt214.1)))))) = some (r1, r2, r3, r4, r5, r6, r7, r8) := H
 have A2 := Aside0.mk A20
 clear A20
 replace H := Option.bind_eq_some_iff.mp H
 obtain ⟨⟨t194, t195, t196, t197, t198, t199, t200, t201⟩, A30, H⟩ := H
 replace H : ((spec_l08Bend.f t190 t200 t201 t194 t195 t196 t197 t198 t199).bind fun bt202 => ((spec_l08DrawMinute.f t190 bt202.2.2.2.2.2.2.1 bt202.2.2.2.2.2.2.2).bind fun bt211 => ((spec_l08DrawSeason.f t190 bt211.2.1 bt211.2.2).bind fun bt214 => (some (bt202.1, bt202.2.1, bt202.2.2.1, bt202.2.2.2.1, bt202.2.2.2.2.1, bt202.2.2.2.2.2.1, bt211.1, bt214.1))))) = some (r1, r2, r3, r4, r5, r6, r7, r8) := H
 have A3 := Aside0.mk A30
 clear A30
 replace H := Option.bind_eq_some_iff.mp H
 obtain ⟨⟨t202, t203, t204, t205, t206, t207, t208, t209⟩, A40, H⟩ := H
 replace H : ((spec_l08DrawMinute.f t190 t208 t209).bind fun bt211 => ((spec_l08DrawSeason.f t190 bt211.2.1 bt211.2.2).bind fun bt214 => (some (t202, t203, t204, t205, t206, t207, bt211.1, bt214.1)))) = some (r1, r2, r3, r4, r5, r6, r7, r8) := H
 have A4 := Aside0.mk A40
 clear A40
 replace H := Option.bind_eq_some_iff.mp H
 obtain ⟨⟨t211, t212, t213⟩, A50, H⟩ := H
 replace H : ((spec_l08DrawSeason.f t190 t212 t213).bind fun bt214 => (some (t202, t203, t204, t205, t206, t207, t211, bt214.1))) = some (r1, r2, r3, r4, r5, r6, r7, r8) := H
 have A5 := Aside0.mk A50
 clear A50
 replace H := Option.bind_eq_some_iff.mp H
 obtain ⟨⟨t214, t215, t216⟩, A60, H⟩ := H
 replace H : (some (t202, t203, t204, t205, t206, t207, t211, t214)) = some (r1, r2, r3, r4, r5, r6, r7, r8) := H
 have A6 := Aside0.mk A60
 clear A60
 simp only [Option.some.injEq, Prod.mk.injEq] at H
 obtain ⟨rfl, rfl, rfl, rfl, rfl, rfl, rfl, rfl⟩ := H
 go_enter Try.func20, Try.ntmps20
 try go_wp2_with (first | ((with_reducible refine gate_dst (N := 2) rfl ?_); refine box_event ?hg (N := 2) ?hd (cs := #[.string (⟨#[]⟩ : ByteArray), .int .i64 0, .int .i64 0, .int .i64 0, .int .i64 0, .int .i64 0]) (t := 43) ?hr ?_; (case hd => rfl); (case hg => rfl); (case hr => first | (go_simp; done) | (go_simp; rfl)); intro gb189 hg w7 hbox hb; have n0_ := Aside0.mk (below_step (by repeat (first | (with_reducible first | exact HB.out | apply qba | apply qbn | apply qb1) | exact HB.out)) hb); have n1_ := Aside0.mk (hbox); have n2_ := Aside0.mk ((by rw [hg]; exact (below_size (by repeat (first | (with_reducible first | exact HB.out | apply qba | apply qbn | apply qb1) | exact HB.out))) : w.heap.size ≤ gb189)); have n3_ := Aside0.mk ((by rw [hg]; exact (below_size (by repeat (first | (with_reducible first | exact HB.out | apply qba | apply qbn | apply qb1) | exact HB.out))) : w.heap.size ≤ gb189)); clear HB; have HB := n0_; have BK189 := n1_; have GW189 := n2_; have GE189 := n3_; clear n0_ n1_ n2_ n3_; clear hb hbox hg) | ((with_reducible refine gate_callee (f := 74) rfl ?_); refine gL_ (some 9) rfl rfl Try.func74 #[.slice A0 l0.length c0] rfl ?_; (with_reducible refine (spec_l00From.calls _ _ l0 t190 t191 t192 w _ ?side1 ?side2 ?side3 A2.out).mono ?_); (case side1 => repeat (first | (with_reducible first | exact HB.out | apply qba | apply qbn | apply qb1 | refine below_set ?_ GE189.out) | exact HB.out)); (case side2 => exact HR0.out); (case side3 => exact HC0.out); rintro e w8 ⟨g193, rfl, hi, hb, hb2⟩; refine ⟨_, rfl, ?_⟩; have n0_ := Aside0.mk (blk_below (g := gb189) (o := .cells #[.string (⟨#[]⟩ : ByteArray), .int .i64 0, .int .i64 0, .int .i64 0, .int .i64 0, .int .i64 0] 43 (0, 0)) (by (with_reducible repeat (first | refine blk_drewN ?_ _ | refine blk_drew ?_ | refine blk_alloc ?_ _)); exact BK189.out) hb2); have n1_ := Aside0.mk (hb); have n2_ := Aside0.mk (hi); have n3_ := Aside0.mk (IsS128.ne_blk hi (blk_below (g := gb189) (o := .cells #[.string (⟨#[]⟩ : ByteArray), .int .i64 0, .int .i64 0, .int .i64 0, .int .i64 0, .int .i64 0] 43 (0, 0)) (by (with_reducible repeat (first | refine blk_drewN ?_ _ | refine blk_drew ?_ | refine blk_alloc ?_ _)); exact BK189.out) hb2) (by decide)); have n4_ := Aside0.mk (Ne.symm (IsS128.ne_blk hi (blk_below (g := gb189) (o := .cells #[.string (⟨#[]⟩ : ByteArray), .int .i64 0, .int .i64 0, .int .i64 0, .int .i64 0, .int .i64 0] 43 (0, 0)) (by (with_reducible repeat (first | refine blk_drewN ?_ _ | refine blk_drew ?_ | refine blk_alloc ?_ _)); exact BK189.out) hb2) (by decide))); clear BK189; clear HB; have BK189 := n0_; have HB := n1_; have HI193 := n2_; have NB193_189 := n3_; have NB189_193 := n4_; clear n0_ n1_ n2_ n3_ n4_; (try clear hb); (try clear hb2); (try clear hk); (try clear hi)) | ((with_reducible refine gate_callee (f := 82) rfl ?_); refine gL_ (some 12) rfl rfl Try.func82 #[.pointer (some ⟨g193, 0, none⟩), .string (⟨#[121, 97, 109, 97, 110]⟩ : ByteArray)] rfl ?_; (with_reducible refine (spec_l08DrawOne.calls g193 t190 t191 t192 (⟨#[121, 97, 109, 97, 110]⟩ : ByteArray) t194 t195 t196 t197 t198 t199 t200 t201 w _ ?side1 ?side2 A3.out).mono ?_); (case side1 => repeat (first | (with_reducible first | exact HI193.out | apply IsS128.alloc | apply IsS128.drewN | apply IsS128.drew | apply IsS128.set_1 | apply IsS128.set_2 | refine IsS128.far ?_ NB193_189.out _) | exact HI193.out)); (case side2 => repeat (first | (with_reducible first | exact HB.out | apply qba | apply qbn | apply qb1 | refine below_set ?_ (IsS128.ge HI193.out) | refine below_set ?_ GE189.out) | exact HB.out)); rintro e w9 ⟨rfl, hi, hb, hk⟩; refine ⟨_, rfl, ?_⟩; have n0_ := Aside0.mk (KeepBut.blk hk (g' := gb189) (o := .cells #[.string (⟨#[]⟩ : ByteArray), .int .i64 0, .int .i64 0, .int .i64 0, .int .i64 0, .int .i64 0] 43 (0, 0)) (by (with_reducible repeat (first | refine blk_drewN ?_ _ | refine blk_drew ?_ | refine blk_alloc ?_ _)); exact BK189.out) NB189_193.out (by simp)); have n1_ := Aside0.mk (hb); have n2_ := Aside0.mk (hi); clear BK189; clear HB; clear HI193; have BK189 := n0_; have HB := n1_; have HI193 := n2_; clear n0_ n1_ n2_; (try clear hb); (try clear hb2); (try clear hk); (try clear hi)) | ((with_reducible refine gate_callee (f := 81) rfl ?_); refine gL_ (some 13) rfl rfl Try.func81 #[.pointer (some ⟨g193, 0, none⟩), .agg #[.string t194, .int .i64 t195, .int .i64 t196, .int .i64 t197, .int .i64 t198, .int .i64 t199]] rfl ?_; (with_reducible refine (spec_l08Bend.calls g193 t190 t200 t201 t194 t195 t196 t197 t198 t199 t202 t203 t204 t205 t206 t207 t208 t209 w _ ?side1 ?side2 A4.out).mono ?_); (case side1 => repeat (first | (with_reducible first | exact HI193.out | apply IsS128.alloc | apply IsS128.drewN | apply IsS128.drew | apply IsS128.set_1 | apply IsS128.set_2 | refine IsS128.far ?_ NB193_189.out _) | exact HI193.out)); (case side2 => repeat (first | (with_reducible first | exact HB.out | apply qba | apply qbn | apply qb1 | refine below_set ?_ (IsS128.ge HI193.out) | refine below_set ?_ GE189.out) | exact HB.out)); rintro e w10 ⟨rfl, hi, hb, hk⟩; refine ⟨_, rfl, ?_⟩; have n0_ := Aside0.mk (KeepBut.blk hk (g' := gb189) (o := .cells #[.string (⟨#[]⟩ : ByteArray), .int .i64 0, .int .i64 0, .int .i64 0, .int .i64 0, .int .i64 0] 43 (0, 0)) (by (with_reducible repeat (first | refine blk_drewN ?_ _ | refine blk_drew ?_ | refine blk_alloc ?_ _)); exact BK189.out) NB189_193.out (by simp)); have n1_ := Aside0.mk (hb); have n2_ := Aside0.mk (hi); clear BK189; clear HB; clear HI193; have BK189 := n0_; have HB := n1_; have HI193 := n2_; clear n0_ n1_ n2_; (try clear hb); (try clear hb2); (try clear hk); (try clear hi)) | ((with_reducible refine gate_dst (N := 6) rfl ?_); refine box_event ?hg (N := 6) ?hd (cs := #[.string (⟨#[]⟩ : ByteArray), .int .i64 0, .int .i64 0, .int .i64 0, .int .i64 0, .int .i64 0]) (t := 43) ?hr ?_; (case hd => rfl); (case hg => rfl); (case hr => first | (go_simp; done) | (go_simp; rfl)); intro gb210 hg w11 hbox hb; have n0_ := Aside0.mk (blk_below (g := gb189) (o := .cells #[.string (⟨#[]⟩ : ByteArray), .int .i64 0, .int .i64 0, .int .i64 0, .int .i64 0, .int .i64 0] 43 (0, 0)) (by (with_reducible repeat (first | refine blk_drewN ?_ _ | refine blk_drew ?_ | refine blk_alloc ?_ _)); exact BK189.out) hb); have n1_ := Aside0.mk (IsS128.below (by repeat (first | (with_reducible first | exact HI193.out | apply IsS128.alloc | apply IsS128.drewN | apply IsS128.drew | apply IsS128.set_1 | apply IsS128.set_2 | refine IsS128.far ?_ NB193_189.out _) | exact HI193.out)) hb); have n2_ := Aside0.mk (below_step (by repeat (first | (with_reducible first | exact HB.out | apply qba | apply qbn | apply qb1 | refine below_set ?_ (IsS128.ge HI193.out) | refine below_set ?_ GE189.out) | exact HB.out)) hb); have n3_ := Aside0.mk (hbox); have n4_ := Aside0.mk ((by rw [hg]; exact (below_size (by repeat (first | (with_reducible first | exact HB.out | apply qba | apply qbn | apply qb1 | refine below_set ?_ (IsS128.ge HI193.out) | refine below_set ?_ GE189.out) | exact HB.out))) : w.heap.size ≤ gb210)); have n5_ := Aside0.mk ((by rw [hg]; exact (below_size (by repeat (first | (with_reducible first | exact HB.out | apply qba | apply qbn | apply qb1 | refine below_set ?_ (IsS128.ge HI193.out) | refine below_set ?_ GE189.out) | exact HB.out))) : w.heap.size ≤ gb210)); have n6_ := Aside0.mk ((by rw [hg]; exact Nat.ne_of_lt (blk_lt (g := gb189) (o := .cells #[.string (⟨#[]⟩ : ByteArray), .int .i64 0, .int .i64 0, .int .i64 0, .int .i64 0, .int .i64 0] 43 (0, 0)) (by (with_reducible repeat (first | refine blk_drewN ?_ _ | refine blk_drew ?_ | refine blk_alloc ?_ _)); exact BK189.out)) : gb189 ≠ gb210)); have n7_ := Aside0.mk ((by rw [hg]; exact Nat.ne_of_gt (blk_lt (g := gb189) (o := .cells #[.string (⟨#[]⟩ : ByteArray), .int .i64 0, .int .i64 0, .int .i64 0, .int .i64 0, .int .i64 0] 43 (0, 0)) (by (with_reducible repeat (first | refine blk_drewN ?_ _ | refine blk_drew ?_ | refine blk_alloc ?_ _)); exact BK189.out)) : gb210 ≠ gb189)); have n8_ := Aside0.mk ((by rw [hg]; exact Nat.ne_of_lt (IsS128.lt (show IsS128 w _ g193 t190 t208 t209 from by repeat (first | (with_reducible first | exact HI193.out | apply IsS128.alloc | apply IsS128.drewN | apply IsS128.drew | apply IsS128.set_1 | apply IsS128.set_2 | refine IsS128.far ?_ NB193_189.out _) | exact HI193.out))) : g193 ≠ gb210)); have n9_ := Aside0.mk ((by rw [hg]; exact Nat.ne_of_gt (IsS128.lt (show IsS128 w _ g193 t190 t208 t209 from by repeat (first | (with_reducible first | exact HI193.out | apply IsS128.alloc | apply IsS128.drewN | apply IsS128.drew | apply IsS128.set_1 | apply IsS128.set_2 | refine IsS128.far ?_ NB193_189.out _) | exact HI193.out))) : gb210 ≠ g193)); clear BK189; clear HI193; clear HB; have BK189 := n0_; have HI193 := n1_; have HB := n2_; have BK210 := n3_; have GW210 := n4_; have GE210 := n5_; have NB189_210 := n6_; have NB210_189 := n7_; have NB193_210 := n8_; have NB210_193 := n9_; clear n0_ n1_ n2_ n3_ n4_ n5_ n6_ n7_ n8_ n9_; clear hb hbox hg; have hnb12 := NB210_189.out; have hnc12 := NB189_210.out; have hnb13 := NB210_193.out; have hnc13 := NB193_210.out; have hcz14_0 : w11.cell? ⟨gb210, 0, none⟩ = some (.string (⟨#[]⟩ : ByteArray)) := (blk_cell BK210.out 0).trans rfl; have hcz14_1 : w11.cell? ⟨gb210, 1, none⟩ = some (.int .i64 0) := (blk_cell BK210.out 1).trans rfl; have hcz14_2 : w11.cell? ⟨gb210, 2, none⟩ = some (.int .i64 0) := (blk_cell BK210.out 2).trans rfl; have hcz14_3 : w11.cell? ⟨gb210, 3, none⟩ = some (.int .i64 0) := (blk_cell BK210.out 3).trans rfl; have hcz14_4 : w11.cell? ⟨gb210, 4, none⟩ = some (.int .i64 0) := (blk_cell BK210.out 4).trans rfl; have hcz14_5 : w11.cell? ⟨gb210, 5, none⟩ = some (.int .i64 0) := (blk_cell BK210.out 5).trans rfl; have hfz14_0 := blk_frozen BK210.out 0; have hfz14_1 := blk_frozen BK210.out 1; have hfz14_2 := blk_frozen BK210.out 2; have hfz14_3 := blk_frozen BK210.out 3; have hfz14_4 := blk_frozen BK210.out 4; have hfz14_5 := blk_frozen BK210.out 5) | ((with_reducible refine gate_callee (f := 83) rfl ?_); refine gL_ (some 15) rfl rfl Try.func83 #[.pointer (some ⟨g193, 0, none⟩)] rfl ?_; (with_reducible refine (spec_l08DrawMinute.calls g193 t190 t208 t209 t211 t212 t213 w _ ?side1 ?side2 A5.out).mono ?_); (case side1 => repeat (first | (with_reducible first | exact HI193.out | apply IsS128.alloc | apply IsS128.drewN | apply IsS128.drew | apply IsS128.set_1 | apply IsS128.set_2 | refine IsS128.far ?_ NB193_189.out _ | refine IsS128.far ?_ NB193_210.out _) | exact HI193.out)); (case side2 => repeat (first | (with_reducible first | exact HB.out | apply qba | apply qbn | apply qb1 | refine below_set ?_ (IsS128.ge HI193.out) | refine below_set ?_ GE189.out | refine below_set ?_ GE210.out) | exact HB.out)); rintro e w15 ⟨rfl, hi, hb, hk⟩; refine ⟨_, rfl, ?_⟩; have n0_ := Aside0.mk (KeepBut.blk hk (g' := gb189) (o := .cells #[.string (⟨#[]⟩ : ByteArray), .int .i64 0, .int .i64 0, .int .i64 0, .int .i64 0, .int .i64 0] 43 (0, 0)) (by (with_reducible repeat (first | refine blk_drewN ?_ _ | refine blk_drew ?_ | refine blk_alloc ?_ _)); refine blk_far ?_ NB189_210.out _; (with_reducible repeat (first | refine blk_drewN ?_ _ | refine blk_drew ?_ | refine blk_alloc ?_ _)); refine blk_far ?_ NB189_210.out _; (with_reducible repeat (first | refine blk_drewN ?_ _ | refine blk_drew ?_ | refine blk_alloc ?_ _)); refine blk_far ?_ NB189_210.out _; (with_reducible repeat (first | refine blk_drewN ?_ _ | refine blk_drew ?_ | refine blk_alloc ?_ _)); refine blk_far ?_ NB189_210.out _; (with_reducible repeat (first | refine blk_drewN ?_ _ | refine blk_drew ?_ | refine blk_alloc ?_ _)); refine blk_far ?_ NB189_210.out _; (with_reducible repeat (first | refine blk_drewN ?_ _ | refine blk_drew ?_ | refine blk_alloc ?_ _)); refine blk_far ?_ NB189_210.out _; (with_reducible repeat (first | refine blk_drewN ?_ _ | refine blk_drew ?_ | refine blk_alloc ?_ _)); exact BK189.out) NB189_193.out (by simp)); have n1_ := Aside0.mk (KeepBut.blk hk (g' := gb210) (o := .cells #[.string t202, .int .i64 t203, .int .i64 t204, .int .i64 t205, .int .i64 t206, .int .i64 t207] 43 (0, 0)) (by (with_reducible repeat (first | refine blk_drewN ?_ _ | refine blk_drew ?_ | refine blk_alloc ?_ _)); refine blk_put (cs := #[.string t202, .int .i64 t203, .int .i64 t204, .int .i64 t205, .int .i64 t206, .int .i64 0]) ?_ 5 _ rfl; (with_reducible repeat (first | refine blk_drewN ?_ _ | refine blk_drew ?_ | refine blk_alloc ?_ _)); refine blk_put (cs := #[.string t202, .int .i64 t203, .int .i64 t204, .int .i64 t205, .int .i64 0, .int .i64 0]) ?_ 4 _ rfl; (with_reducible repeat (first | refine blk_drewN ?_ _ | refine blk_drew ?_ | refine blk_alloc ?_ _)); refine blk_put (cs := #[.string t202, .int .i64 t203, .int .i64 t204, .int .i64 0, .int .i64 0, .int .i64 0]) ?_ 3 _ rfl; (with_reducible repeat (first | refine blk_drewN ?_ _ | refine blk_drew ?_ | refine blk_alloc ?_ _)); refine blk_put (cs := #[.string t202, .int .i64 t203, .int .i64 0, .int .i64 0, .int .i64 0, .int .i64 0]) ?_ 2 _ rfl; (with_reducible repeat (first | refine blk_drewN ?_ _ | refine blk_drew ?_ | refine blk_alloc ?_ _)); refine blk_put (cs := #[.string t202, .int .i64 0, .int .i64 0, .int .i64 0, .int .i64 0, .int .i64 0]) ?_ 1 _ rfl; (with_reducible repeat (first | refine blk_drewN ?_ _ | refine blk_drew ?_ | refine blk_alloc ?_ _)); refine blk_put (cs := #[.string (⟨#[]⟩ : ByteArray), .int .i64 0, .int .i64 0, .int .i64 0, .int .i64 0, .int .i64 0]) ?_ 0 _ rfl; (with_reducible repeat (first | refine blk_drewN ?_ _ | refine blk_drew ?_ | refine blk_alloc ?_ _)); exact BK210.out) NB210_193.out (by simp)); have n2_ := Aside0.mk (hb); have n3_ := Aside0.mk (hi); clear BK189; clear BK210; clear HB; clear HI193; have BK189 := n0_; have BK210 := n1_; have HB := n2_; have HI193 := n3_; clear n0_ n1_ n2_ n3_; (try clear hb); (try clear hb2); (try clear hk); (try clear hi)))
 have n0_ := Aside0.mk (blk_drew BK189.out)
 have n1_ := Aside0.mk (blk_drew BK210.out)
 have n2_ := Aside0.mk (IsS128.drew HI193.out)
 have n3_ := Aside0.mk (below_drew1 HB.out)
 clear BK189
 clear BK210
 clear HI193
 clear HB
 have BK189 := n0_
 have BK210 := n1_
 have HI193 := n2_
 have HB := n3_
 clear n0_ n1_ n2_ n3_
 refine start_ (n := 7) (S := fun w' => w'.cell? ⟨gb210, 0, none⟩ = some (.string t202) ∧ w'.cell? ⟨gb210, 1, none⟩ = some (.int .i64 t203) ∧ w'.cell? ⟨gb210, 2, none⟩ = some (.int .i64 t204) ∧ w'.cell? ⟨gb210, 3, none⟩ = some (.int .i64 t205) ∧ w'.cell? ⟨gb210, 4, none⟩ = some (.int .i64 t206) ∧ w'.cell? ⟨gb210, 5, none⟩ = some (.int .i64 t207)) (ds := []) (bq [0, 7]) (by kernel_rfl) rfl rfl ⟨(blk_cell BK210.out 0).trans rfl, (blk_cell BK210.out 1).trans rfl, (blk_cell BK210.out 2).trans rfl, (blk_cell BK210.out 3).trans rfl, (blk_cell BK210.out 4).trans rfl, (blk_cell BK210.out 5).trans rfl⟩ (fun hHeld => ?_)
 generalize w15.drew = w16 at BK189 BK210 HI193 HB hHeld ⊢
 refine pv_ (i := 1) (N := some 17) (bq [0, 1, 1, 5]) rfl rfl ?_
 refine pv_ (i := 2) (N := some 18) (bq [0, 1, 2, 4]) rfl rfl ?_
 refine take_ (i := 0) (N := some 16) (v := ?_) (a' := ?_) (bq [3, 4]) rfl rfl (by kernel_rfl) (fun _ _ _ h => h) (Or.inl ⟨by rfl, ?_⟩) hHeld ?_ ?_
 rotate_left
 · rintro w' ⟨s0, s1, s2, s3, s4, s5⟩
   go_simp
   with_reducible rfl
 rotate_left
 · simp only [Act.put, sx0, sx1, sx2, i64_w, i32_w]
   rfl
 refine one_ (i := 3) (N := some 19) (bq [4, 3]) rfl rfl (by kernel_rfl) (by decide) (fun K hK => ?_)
 refine gS_ Try.func84 #[.pointer (some ⟨g193, 0, none⟩)] rfl rfl ?_
 with_reducible refine (spec_l08DrawSeason.calls g193 t190 t212 t213 t214 t215 t216 w _ ?side1 ?side2 A6.out).mono ?_
 (case side1 => repeat (first | (with_reducible first | exact HI193.out | apply IsS128.alloc | apply IsS128.drewN | apply IsS128.drew | apply IsS128.set_1 | apply IsS128.set_2 | refine IsS128.far ?_ NB193_189.out _ | refine IsS128.far ?_ NB193_210.out _) | exact HI193.out))
 (case side2 => repeat (first | (with_reducible first | exact HB.out | apply qba | apply qbn | apply qb1 | refine below_set ?_ (IsS128.ge HI193.out) | refine below_set ?_ GE189.out | refine below_set ?_ GE210.out) | exact HB.out))
 rintro e w17 ⟨rfl, hi, hb, hk⟩
 refine ⟨_, rfl, ?_⟩
 have n0_ := Aside0.mk (KeepBut.blk hk (g' := gb189) (o := .cells #[.string (⟨#[]⟩ : ByteArray), .int .i64 0, .int .i64 0, .int .i64 0, .int .i64 0, .int .i64 0] 43 (0, 0)) (by (with_reducible repeat (first | refine blk_drewN ?_ _ | refine blk_drew ?_ | refine blk_alloc ?_ _)); exact BK189.out) NB189_193.out (by simp))
 have n1_ := Aside0.mk (KeepBut.blk hk (g' := gb210) (o := .cells #[.string t202, .int .i64 t203, .int .i64 t204, .int .i64 t205, .int .i64 t206, .int .i64 t207] 43 (0, 0)) (by (with_reducible repeat (first | refine blk_drewN ?_ _ | refine blk_drew ?_ | refine blk_alloc ?_ _)); exact BK210.out) NB210_193.out (by simp))
 have n2_ := Aside0.mk (hb)
 have n3_ := Aside0.mk (hi)
 clear BK189
 clear BK210
 clear HB
 clear HI193
 have BK189 := n0_
 have BK210 := n1_
 have HB := n2_
 have HI193 := n3_
 clear n0_ n1_ n2_ n3_
 (try clear hb)
 (try clear hb2)
 (try clear hk)
 (try clear hi)
 refine hK.out _ _ ⟨(blk_cell BK210.out 0).trans rfl, (blk_cell BK210.out 1).trans rfl, (blk_cell BK210.out 2).trans rfl, (blk_cell BK210.out 3).trans rfl, (blk_cell BK210.out 4).trans rfl, (blk_cell BK210.out 5).trans rfl⟩ (fun hHeld => ?_)
 clear hK K
 refine norm_ (a' := ?_) ?_ ?_
 rotate_left
 · show Act.put _ (some 19) _ = _
   simp only [Act.put, sx0, sx1, sx2, i64_w, i32_w]
   rfl
 refine one_ (i := 4) (N := none) (bq [5, 2]) rfl rfl (by kernel_rfl) (by decide) (fun K hK => ?_)
 have hs18 : w17.cell? ⟨gb189, 0, none⟩ = some (.string (⟨#[]⟩ : ByteArray)) := (blk_cell BK189.out 0).trans rfl
 have hfs18 := blk_frozen BK189.out 0
 have hns18_1 := NB210_189.out
 have hms18_1 := NB189_210.out
 have hs19 : w17.cell? ⟨gb189, 1, none⟩ = some (.int .i64 0) := (blk_cell BK189.out 1).trans rfl
 have hfs19 := blk_frozen BK189.out 1
 have hns19_1 := NB210_189.out
 have hms19_1 := NB189_210.out
 have hs20 : w17.cell? ⟨gb189, 2, none⟩ = some (.int .i64 0) := (blk_cell BK189.out 2).trans rfl
 have hfs20 := blk_frozen BK189.out 2
 have hns20_1 := NB210_189.out
 have hms20_1 := NB189_210.out
 have hs21 : w17.cell? ⟨gb189, 3, none⟩ = some (.int .i64 0) := (blk_cell BK189.out 3).trans rfl
 have hfs21 := blk_frozen BK189.out 3
 have hns21_1 := NB210_189.out
 have hms21_1 := NB189_210.out
 have hs22 : w17.cell? ⟨gb189, 4, none⟩ = some (.int .i64 0) := (blk_cell BK189.out 4).trans rfl
 have hfs22 := blk_frozen BK189.out 4
 have hns22_1 := NB210_189.out
 have hms22_1 := NB189_210.out
 have hs23 : w17.cell? ⟨gb189, 5, none⟩ = some (.int .i64 0) := (blk_cell BK189.out 5).trans rfl
 have hfs23 := blk_frozen BK189.out 5
 have hns23_1 := NB210_189.out
 have hms23_1 := NB189_210.out
 refine skip_ (w1 := ?_) (by rfl) rfl ?_ ?_
 rotate_left
 · go_simp
   rfl
 refine hK.out _ _ ⟨((cell_far (p := ⟨gb189, _, none⟩) NB210_189.out _).trans (((cell_far (p := ⟨gb189, _, none⟩) NB210_189.out _).trans (((cell_far (p := ⟨gb189, _, none⟩) NB210_189.out _).trans (((cell_far (p := ⟨gb189, _, none⟩) NB210_189.out _).trans (((cell_far (p := ⟨gb189, _, none⟩) NB210_189.out _).trans (((cell_far (p := ⟨gb189, _, none⟩) NB210_189.out _).trans (hHeld.1)))))))))))), ((cell_far (p := ⟨gb189, _, none⟩) NB210_189.out _).trans (((cell_far (p := ⟨gb189, _, none⟩) NB210_189.out _).trans (((cell_far (p := ⟨gb189, _, none⟩) NB210_189.out _).trans (((cell_far (p := ⟨gb189, _, none⟩) NB210_189.out _).trans (((cell_far (p := ⟨gb189, _, none⟩) NB210_189.out _).trans (((cell_far (p := ⟨gb189, _, none⟩) NB210_189.out _).trans (hHeld.2.1)))))))))))), ((cell_far (p := ⟨gb189, _, none⟩) NB210_189.out _).trans (((cell_far (p := ⟨gb189, _, none⟩) NB210_189.out _).trans (((cell_far (p := ⟨gb189, _, none⟩) NB210_189.out _).trans (((cell_far (p := ⟨gb189, _, none⟩) NB210_189.out _).trans (((cell_far (p := ⟨gb189, _, none⟩) NB210_189.out _).trans (((cell_far (p := ⟨gb189, _, none⟩) NB210_189.out _).trans (hHeld.2.2.1)))))))))))), ((cell_far (p := ⟨gb189, _, none⟩) NB210_189.out _).trans (((cell_far (p := ⟨gb189, _, none⟩) NB210_189.out _).trans (((cell_far (p := ⟨gb189, _, none⟩) NB210_189.out _).trans (((cell_far (p := ⟨gb189, _, none⟩) NB210_189.out _).trans (((cell_far (p := ⟨gb189, _, none⟩) NB210_189.out _).trans (((cell_far (p := ⟨gb189, _, none⟩) NB210_189.out _).trans (hHeld.2.2.2.1)))))))))))), ((cell_far (p := ⟨gb189, _, none⟩) NB210_189.out _).trans (((cell_far (p := ⟨gb189, _, none⟩) NB210_189.out _).trans (((cell_far (p := ⟨gb189, _, none⟩) NB210_189.out _).trans (((cell_far (p := ⟨gb189, _, none⟩) NB210_189.out _).trans (((cell_far (p := ⟨gb189, _, none⟩) NB210_189.out _).trans (((cell_far (p := ⟨gb189, _, none⟩) NB210_189.out _).trans (hHeld.2.2.2.2.1)))))))))))), ((cell_far (p := ⟨gb189, _, none⟩) NB210_189.out _).trans (((cell_far (p := ⟨gb189, _, none⟩) NB210_189.out _).trans (((cell_far (p := ⟨gb189, _, none⟩) NB210_189.out _).trans (((cell_far (p := ⟨gb189, _, none⟩) NB210_189.out _).trans (((cell_far (p := ⟨gb189, _, none⟩) NB210_189.out _).trans (((cell_far (p := ⟨gb189, _, none⟩) NB210_189.out _).trans (hHeld.2.2.2.2.2))))))))))))⟩ (fun hHeld => ?_)
 clear hK K
 refine pv_ (i := 5) (N := some 3) (bq [6, 1]) rfl rfl ?_
 refine pv_ (i := 6) (N := some 4) (bq [7]) rfl rfl ?_
 refine done_ (by kernel_rfl) ?_
 try go_wp2
 refine bodyPost_ret (results_ctt rfl _ _ gb189 43 #[.string t202, .int .i64 t203, .int .i64 t204, .int .i64 t205, .int .i64 t206, .int .i64 t207] (0, 0) _ rfl (by (with_reducible repeat (first | refine blk_drewN ?_ _ | refine blk_drew ?_ | refine blk_alloc ?_ _)); refine blk_put (cs := #[.string t202, .int .i64 t203, .int .i64 t204, .int .i64 t205, .int .i64 t206, .int .i64 0]) ?_ 5 _ rfl; (with_reducible repeat (first | refine blk_drewN ?_ _ | refine blk_drew ?_ | refine blk_alloc ?_ _)); refine blk_put (cs := #[.string t202, .int .i64 t203, .int .i64 t204, .int .i64 t205, .int .i64 0, .int .i64 0]) ?_ 4 _ rfl; (with_reducible repeat (first | refine blk_drewN ?_ _ | refine blk_drew ?_ | refine blk_alloc ?_ _)); refine blk_put (cs := #[.string t202, .int .i64 t203, .int .i64 t204, .int .i64 0, .int .i64 0, .int .i64 0]) ?_ 3 _ rfl; (with_reducible repeat (first | refine blk_drewN ?_ _ | refine blk_drew ?_ | refine blk_alloc ?_ _)); refine blk_put (cs := #[.string t202, .int .i64 t203, .int .i64 0, .int .i64 0, .int .i64 0, .int .i64 0]) ?_ 2 _ rfl; (with_reducible repeat (first | refine blk_drewN ?_ _ | refine blk_drew ?_ | refine blk_alloc ?_ _)); refine blk_put (cs := #[.string t202, .int .i64 0, .int .i64 0, .int .i64 0, .int .i64 0, .int .i64 0]) ?_ 1 _ rfl; (with_reducible repeat (first | refine blk_drewN ?_ _ | refine blk_drew ?_ | refine blk_alloc ?_ _)); refine blk_put (cs := #[.string (⟨#[]⟩ : ByteArray), .int .i64 0, .int .i64 0, .int .i64 0, .int .i64 0, .int .i64 0]) ?_ 0 _ rfl; (with_reducible repeat (first | refine blk_drewN ?_ _ | refine blk_drew ?_ | refine blk_alloc ?_ _)); exact BK189.out) Try.underlying43 rfl (by kernel_rfl)) rfl ?_
 exact ⟨by first | rfl | (simp [errW_none, errW_some] <;> rfl) | (simp [*, errW_none, errW_some] <;> rfl), by repeat (first | (with_reducible first | exact HB.out | apply qba | apply qbn | apply qb1 | refine below_set ?_ (IsS128.ge HI193.out) | refine below_set ?_ GE189.out | refine below_set ?_ GE210.out) | exact HB.out)⟩

/-! ### impl_within: function 73 -/
def impl_within.f (a0 : Int) (a1 : Int) (a2 : Int) : Option (Bool) := if a0 ≥ a1 then (some (decide (a0 ≤ a2))) else (some false)
set_option maxHeartbeats 8000000 in
set_option maxRecDepth 100000 in
theorem impl_within.calls (a0 : Int) (a1 : Int) (a2 : Int) (r : Bool) (w : World) (h : impl_within.f a0 a1 a2 = some r) :
 Calls Try.prog 73 #[.int .i64 a0, .int .i64 a1, .int .i64 a2] w fun e w' => e = .returned (.bool r) ∧ Drawn0 w w' := by
 have H : (if a0 ≥ a1 then (some (decide (a0 ≤ a2))) else (some false)) = some r := h
 clear h
 by_cases c4 : a0 ≥ a1
 · rw [if_pos c4] at H
   have c4b0 : decide (a1 ≤ a0) = true := decide_eq_true c4
   clear c4
   obtain rfl := Option.some.inj H
   go_enter Try.func73, Try.ntmps73
   go_wp2
   go_ret
   exact ⟨by first | rfl | (simp; done) | (simp [*]; done), by repeat (first | exact Drawn0.refl _ | apply Drawn0.step)⟩
 · rw [if_neg c4] at H
   have c4b0 : decide (a1 ≤ a0) = false := decide_eq_false c4
   clear c4
   obtain rfl := Option.some.inj H
   go_enter Try.func73, Try.ntmps73
   go_wp2
   go_ret
   exact ⟨by first | rfl | (simp; done) | (simp [*]; done), by repeat (first | exact Drawn0.refl _ | apply Drawn0.step)⟩

/-! ### impl_minuteOk: function 86 -/
def impl_minuteOk.f (a0 : Int) : Option (Bool) := (impl_within.f a0 0 1439).bind fun t217 => (some t217)
set_option maxHeartbeats 8000000 in
set_option maxRecDepth 100000 in
theorem impl_minuteOk.calls (a0 : Int) (r : Bool) (w : World) (h : impl_minuteOk.f a0 = some r) :
 Calls Try.prog 86 #[.int .i64 a0] w fun e w' => e = .returned (.bool r) ∧ Drawn0 w w' := by
 have H : ((impl_within.f a0 0 1439).bind fun t217 => (some t217)) = some r := h
 clear h
 replace H := Option.bind_eq_some_iff.mp H
 obtain ⟨t217, A20, H⟩ := H
 replace H : (some t217) = some r := H
 have A2 := Aside0.mk A20
 clear A20
 obtain rfl := Option.some.inj H
 go_enter Try.func86, Try.ntmps86
 go_wp2_with (first | ((with_reducible refine gate_callee (f := 73) rfl ?_); refine gL_ (some 4) rfl rfl Try.func73 #[.int .i64 a0, .int .i64 0, .int .i64 1439] rfl ?_; (with_reducible refine (impl_within.calls a0 0 1439 t217 _ A2.out).mono ?_); rintro e w' ⟨rfl, ⟨nd, rfl⟩⟩; refine ⟨_, rfl, ?_⟩))
 go_ret
 exact ⟨by first | rfl | (simp; done) | (simp [*]; done), by repeat (first | exact Drawn0.refl _ | apply Drawn0.step)⟩

end Go.Proofs.Ytomeeimjlagbbaa.PH
