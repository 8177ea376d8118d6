-- WRITTEN BY wip/gprint.py, a program of this session's over the kit's print, with contracts given by hand
import Derived.Test.YtmeflmlejcmckaaDoorPBx0
import Derived.Test.YtmeflmlejcmckaaDoorPBx12
import Derived.Test.YtmeflmlejcmckaaDoorPBx15
import Derived.Test.YtmeflmlejcmckaaDoorPBx22
namespace Go.Proofs.YtmeflmlejcmckaaDoor.PB
open Go.RowKit Go.Proofs.YtmeflmlejcmckaaDoorW.PrintWords Go.Proofs.YtmeflmlejcmckaaDoorW.PrintLast Go.Proofs.YtmeflmlejcmckaaDoorW.PrintMore
attribute [local go_sem] max2_int min2_int max_two min_two max_three min_three max_four min_four   -- for this text's walks alone
set_option linter.unusedVariables false
set_option linter.unusedSimpArgs false

/-! ### impl_WorstFifth: function 51 -/
def impl_WorstFifth.l0 : Nat → Int → Int → Int → ByteArray → List (S52) → Option (Int × Int × Int)
 | 0, _, _, _, _, _ => none
 | k + 1, x5, x6, x12, x389000, x389001 => if x12 < 12 then ((impl_Tuning_cents.f k x389000 x389001 (wrap64 (x12 + 7))).bind fun t390 => ((impl_Tuning_cents.f k x389000 x389001 x12).bind fun t391 => (if x5 < 0 then (impl_WorstFifth.l0 k x12 (wrap64 ((wrap64 (t390 - t391)) - 70196)) (wrap64 (x12 + 1)) x389000 x389001) else ((impl_abs.f (wrap64 ((wrap64 (t390 - t391)) - 70196))).bind fun t392 => ((impl_abs.f x6).bind fun t393 => (if t392 > t393 then (impl_WorstFifth.l0 k x12 (wrap64 ((wrap64 (t390 - t391)) - 70196)) (wrap64 (x12 + 1)) x389000 x389001) else (impl_WorstFifth.l0 k x5 x6 (wrap64 (x12 + 1)) x389000 x389001))))))) else (some (x5, x6, 0))
def impl_WorstFifth.f (k : Nat) (a0_0 : ByteArray) (l0_1 : List (S52)) : Option (Int × Int × Int) := (impl_ValidTuning.f k a0_0 l0_1).bind fun t389 => (if t389 = true then (impl_WorstFifth.l0 k (-1) 0 0 a0_0 l0_1) else (some (0, 0, 1)))
theorem impl_WorstFifth.mono_l : ∀ k, (∀ y0 y1 y2 y3 y4, LeO (impl_WorstFifth.l0 k y0 y1 y2 y3 y4) (impl_WorstFifth.l0 (k + 1) y0 y1 y2 y3 y4))
 | 0 => fun _ _ _ _ _ r h => by simp [impl_WorstFifth.l0] at h
 | k + 1 => by
  have ih0 := impl_WorstFifth.mono_l k
  · intro y0 y1 y2 y3 y4
    unfold impl_WorstFifth.l0
    repeat' first
    | (with_reducible exact ih0 _ _ _ _ _)
    | (with_reducible exact impl_Tuning_cents.mono _ _ _ _)
    | (with_reducible exact impl_ValidTuning.mono _ _ _)
    | (with_reducible exact LeO.refl _)
    | (with_reducible exact LeO.none _)
    | (with_reducible refine LeO.ite ?_ ?_)
    | (with_reducible refine LeO.bind ?_ (fun _ => ?_))
    | exact ih0 _ _ _ _ _
    | exact impl_Tuning_cents.mono _ _ _ _
    | exact impl_ValidTuning.mono _ _ _
    | exact LeO.none _
    | refine LeO.ite ?_ ?_
    | refine LeO.bind ?_ (fun _ => ?_)
theorem impl_WorstFifth.mono : ∀ a0 a1 k, LeO (impl_WorstFifth.f k a0 a1) (impl_WorstFifth.f (k + 1) a0 a1) := by
 intro a0 a1 k
 have ih0 := impl_WorstFifth.mono_l k
 unfold impl_WorstFifth.f
 repeat' first
  | (with_reducible exact ih0 _ _ _ _ _)
  | (with_reducible exact impl_Tuning_cents.mono _ _ _ _)
  | (with_reducible exact impl_ValidTuning.mono _ _ _)
  | (with_reducible exact LeO.refl _)
  | (with_reducible exact LeO.none _)
  | (with_reducible refine LeO.ite ?_ ?_)
  | (with_reducible refine LeO.bind ?_ (fun _ => ?_))
  | exact ih0 _ _ _ _ _
  | exact impl_Tuning_cents.mono _ _ _ _
  | exact impl_ValidTuning.mono _ _ _
  | exact LeO.none _
  | refine LeO.ite ?_ ?_
  | refine LeO.bind ?_ (fun _ => ?_)
def impl_WorstFifth.T7 : Bool × List (List Nat × List Nat) := (true, [([], []), ([], []), ([1], [1]), ([0, 2], [0, 2]), ([], []), ([], []), ([4, 5, 3], [4, 5]), ([3, 6], [3, 6]), ([7], [7]), ([8, 6, 0, 1, 2, 3, 4, 5, 6, 7, 8], [8])])
def impl_WorstFifth.B7 : List Nat := [0, 0, 2, 7, 0, 0, 63, 127, 255, 511]
theorem impl_WorstFifth.tab7 : rtab .any (opsOf Tryd.f51 7) = impl_WorstFifth.T7 := by kernel_rfl
theorem impl_WorstFifth.bits7 : waitsOk impl_WorstFifth.T7.2 impl_WorstFifth.B7 = true := by kernel_rfl
set_option maxHeartbeats 8000000 in
set_option maxRecDepth 100000 in
theorem impl_WorstFifth.calls (k : Nat) (a0_0 : ByteArray) (A0_1 : Option Addr) (c0_1 : Nat) (l0_1 : List (S52)) (r1 : Int) (r2 : Int) (r3 : Int) (w : World) (hr0_1 : Kd.C k52 w A0_1 l0_1.length l0_1) (hc0_1 : l0_1.length ≤ c0_1) (ht : Tab_ w) (h : impl_WorstFifth.f k a0_0 l0_1 = some (r1, r2, r3)) :
 Calls Tryd.prog 51 #[.agg #[.string a0_0, .slice A0_1 l0_1.length c0_1]] w fun e w' => e = .returned (.tuple #[.int .i64 r1, .int .i64 r2, .int .i64 r3]) ∧ Below w.heap.size w w' := by
 have hu71 := Tryd.underlying71
 have HR0_1 := Aside0.mk hr0_1
 have HC0_1 := Aside0.mk hc0_1
 clear hr0_1 hc0_1
 have HT := Aside0.mk ht
 clear ht
 have HB := Aside0.mk (Below.refl w.heap.size w)
 have H : ((impl_ValidTuning.f k a0_0 l0_1).bind fun t389 => (if t389 = true then (impl_WorstFifth.l0 k (-1) 0 0 a0_0 l0_1) else (some (0, 0, 1)))) = some (r1, r2, r3) := h
 clear h
 replace H := Option.bind_eq_some_iff.mp H
 obtain ⟨t389, A20, H⟩ := H
 replace H : (if t389 = true then (impl_WorstFifth.l0 k (-1) 0 0 a0_0 l0_1) else (some (0, 0, 1))) = some (r1, r2, r3) := H
 have A2 := Aside0.mk A20
 clear A20
 by_cases c3 : t389 = true
 · subst c3
   have H1 : (impl_WorstFifth.l0 k (-1) 0 0 a0_0 l0_1) = some (r1, r2, r3) := by rw [if_pos rfl] at H; exact H
   clear H
   have H := H1
   clear H1
   have H' := Aside0.mk H
   clear H
   go_enter Tryd.func51, Tryd.ntmps51
   go_wp2_with (first | ((with_reducible refine gate_dst (N := 1) rfl ?_); refine box_event ?hg (N := 1) ?hd (cs := #[.string a0_0, .slice A0_1 l0_1.length c0_1]) (t := 71) ?hr ?_; (case hd => rfl); (case hg => rfl); (case hr => first | (go_simp; done) | (go_simp; rfl)); intro gb388 hg w4 hbox hb; have BK388 := Aside0.mk (hbox); have GW388 := Aside0.mk ((by rw [hg]; exact (below_size (tH HB)) : w.heap.size ≤ gb388)); have GE388 := Aside0.mk ((by rw [hg]; exact (below_size (tH HB)) : w.heap.size ≤ gb388)); replace HB := Aside0.mk (below_step (tH HB) hb); clear hb hbox hg; have hcz5_0 : w4.cell? ⟨gb388, 0, none⟩ = some (.string a0_0) := (blk_cell BK388.out 0).trans rfl; have hcz5_1 : w4.cell? ⟨gb388, 1, none⟩ = some (.slice A0_1 l0_1.length c0_1) := (blk_cell BK388.out 1).trans rfl; have hfz5_0 := blk_frozen BK388.out 0; have hfz5_1 := blk_frozen BK388.out 1) | ((with_reducible refine gate_callee (f := 126) rfl ?_); refine gL_ (some 10) rfl rfl Tryd.func126 #[.agg #[.string a0_0, .slice A0_1 l0_1.length c0_1]] rfl ?_; (with_reducible refine (impl_ValidTuning.calls k a0_0 _ _ l0_1 true _ ?side1 ?side2 A2.out).mono ?_); (case side1 => exact tC (Kd.C_below HR0_1.out HB.out)); (case side2 => exact HC0_1.out); rintro e w6 ⟨rfl, hb⟩; refine ⟨_, rfl, ?_⟩; replace BK388 := tbB BK388 hb; replace HB := Aside0.mk (below_step (tH1 HB GE388.out) hb); (try clear hb); (try clear hb2); (try clear hk); (try clear hi)))
   go_loopg [5, 6, 12] k (fun kq v5 v6 v12 w' => ∃ (x5_1 : Int) (x6_1 : Int) (x12_1 : Int), v5 = .int .i64 x5_1 ∧ v6 = .int .i64 x6_1 ∧ v12 = .int .i64 x12_1 ∧ Aside0 (impl_WorstFifth.l0 kq x5_1 x6_1 x12_1 a0_0 l0_1 = some (r1, r2, r3)) ∧ Aside0 (kq ≤ k) ∧ Aside0 (w'.heap[gb388]? = some (.cells #[.string a0_0, (.slice A0_1 l0_1.length c0_1)] 71 (0, 0))) ∧ Aside0 (Below w.heap.size w w'))
   case atStart => exact ⟨((-1)), (0), (0), tq, tq, tq, H', ⟨Nat.le_refl _⟩, ⟨tB BK388⟩, ⟨tH1 HB GE388.out⟩⟩
   case round =>
   clear H'
   try clear c1
   try clear p2
   try clear c3
   try clear c5
   try clear hcz5_0 hcz5_1
   try clear hfz5_0 hfz5_1
   obtain ⟨x5_1, x6_1, x12_1, rfl, rfl, rfl, HA, HK1, BK388, HB⟩ := hrel
   cases gk with
   | zero => exact absurd HA.out (by simp [impl_WorstFifth.l0])
   | succ k1 =>
   have H := HA.out
   clear HA
   simp only [impl_WorstFifth.l0] at H
   by_cases c7 : x12_1 < 12
   · rw [if_pos c7] at H
     have c7b0 : decide (x12_1 < 12) = true := decide_eq_true c7
     clear c7
     replace H := Option.bind_eq_some_iff.mp H
     obtain ⟨t390, A80, H⟩ := H
     replace H : ((impl_Tuning_cents.f k1 a0_0 l0_1 x12_1).bind fun t391 => (if x5_1 < 0 then (impl_WorstFifth.l0 k1 x12_1 (wrap64 ((wrap64 (t390 - t391)) - 70196)) (wrap64 (x12_1 + 1)) a0_0 l0_1) else ((impl_abs.f (wrap64 ((wrap64 (t390 - t391)) - 70196))).bind fun t392 => ((impl_abs.f x6_1).bind fun t393 => (if t392 > t393 then (impl_WorstFifth.l0 k1 x12_1 (wrap64 ((wrap64 (t390 - t391)) - 70196)) (wrap64 (x12_1 + 1)) a0_0 l0_1) else (impl_WorstFifth.l0 k1 x5_1 x6_1 (wrap64 (x12_1 + 1)) a0_0 l0_1)))))) = some (r1, r2, r3) := H
     have A8 := Aside0.mk A80
     clear A80
     replace H := Option.bind_eq_some_iff.mp H
     obtain ⟨t391, A90, H⟩ := H
     replace H : (if x5_1 < 0 then (impl_WorstFifth.l0 k1 x12_1 (wrap64 ((wrap64 (t390 - t391)) - 70196)) (wrap64 (x12_1 + 1)) a0_0 l0_1) else ((impl_abs.f (wrap64 ((wrap64 (t390 - t391)) - 70196))).bind fun t392 => ((impl_abs.f x6_1).bind fun t393 => (if t392 > t393 then (impl_WorstFifth.l0 k1 x12_1 (wrap64 ((wrap64 (t390 - t391)) - 70196)) (wrap64 (x12_1 + 1)) a0_0 l0_1) else (impl_WorstFifth.l0 k1 x5_1 x6_1 (wrap64 (x12_1 + 1)) a0_0 l0_1))))) = some (r1, r2, r3) := H
     have A9 := Aside0.mk A90
     clear A90
     by_cases c10 : x5_1 < 0
     · rw [if_pos c10] at H
       have c10b0 : decide (x5_1 < 0) = true := decide_eq_true c10
       clear c10
       have H' := Aside0.mk H
       clear H
       try go_wp2
       replace BK388 := Aside0.mk (blk_drew BK388.out)
       replace HB := Aside0.mk (below_drew1 HB.out)
       refine start_ (n := 10) (S := fun w' => w'.cell? ⟨gb388, 0, none⟩ = some (.string a0_0) ∧ w'.cell? ⟨gb388, 1, none⟩ = some (.slice A0_1 l0_1.length c0_1)) (ds := []) (bq [0, 10]) (by kernel_rfl) rfl rfl ⟨(blk_cell BK388.out 0).trans rfl, (blk_cell BK388.out 1).trans rfl⟩ (fun hHeld => ?_); refine with_tabW impl_WorstFifth.tab7 impl_WorstFifth.bits7 (fun HT_ HW_ => ?_)
       generalize wr.drew = w11 at BK388 HB hHeld ⊢
       refine pV 1 (some 16) [0, 1, 1, 8] rfl rfl HT_ ?_
       refine pV 2 (some 17) [0, 1, 2, 7] rfl rfl HT_ ?_
       refine pV 5 (some 20) [0, 1, 2, 2, 1, 4] rfl rfl HT_ ?_
       refine pT 0 (some 15) (bq [3, 2, 1, 4]) rfl rfl HT_ HW_ hHeld ?_
       refine pT 4 (some 19) (bq [3, 1, 2, 4]) rfl rfl HT_ HW_ hHeld ?_
       refine pO 3 (some 18) (bq [6, 4]) rfl rfl HT_ (fun K hK => ?_)
       refine gS_ Tryd.func127 #[.agg #[.string a0_0, .slice A0_1 l0_1.length c0_1], .int .i64 (wrap64 (x12_1 + 7))] rfl rfl ?_
       with_reducible refine (impl_Tuning_cents.calls k1 a0_0 _ _ l0_1 (wrap64 (x12_1 + 7)) t390 _ ?side1 ?side2 ?side3 A8.out).mono ?_
       (case side1 => exact tC (Kd.C_below HR0_1.out HB.out))
       (case side2 => exact HC0_1.out)
       (case side3 => exact tC (Kd.C_below HT.out HB.out))
       rintro e w12 ⟨rfl, hb⟩
       refine ⟨_, rfl, ?_⟩
       replace BK388 := tbB BK388 hb
       replace HB := Aside0.mk (below_step (tH1 HB GE388.out) hb)
       (try clear hb)
       (try clear hb2)
       (try clear hk)
       (try clear hi)
       refine hK.out _ _ ⟨(blk_cell BK388.out 0).trans rfl, (blk_cell BK388.out 1).trans rfl⟩ (fun hHeld => ?_)
       clear hK K
       refine nO (some 18) ?_
       refine pO 6 (some 21) (bq [7, 3]) rfl rfl HT_ (fun K hK => ?_)
       refine gS_ Tryd.func127 #[.agg #[.string a0_0, .slice A0_1 l0_1.length c0_1], .int .i64 x12_1] rfl rfl ?_
       with_reducible refine (impl_Tuning_cents.calls k1 a0_0 _ _ l0_1 x12_1 t391 _ ?side1 ?side2 ?side3 A9.out).mono ?_
       (case side1 => exact tC (Kd.C_below HR0_1.out HB.out))
       (case side2 => exact HC0_1.out)
       (case side3 => exact tC (Kd.C_below HT.out HB.out))
       rintro e w13 ⟨rfl, hb⟩
       refine ⟨_, rfl, ?_⟩
       replace BK388 := tbB BK388 hb
       replace HB := Aside0.mk (below_step (tH1 HB GE388.out) hb)
       (try clear hb)
       (try clear hb2)
       (try clear hk)
       (try clear hi)
       refine hK.out _ _ ⟨(blk_cell BK388.out 0).trans rfl, (blk_cell BK388.out 1).trans rfl⟩ (fun hHeld => ?_)
       clear hK K
       refine nO (some 21) ?_
       refine pV 7 (some 22) [8, 2] rfl rfl HT_ ?_
       refine pV 8 (some 23) [9, 1] rfl rfl HT_ ?_
       refine pV 9 (some 8) [10] rfl rfl HT_ ?_
       refine done_ (done_of HT_.out (by kernel_rfl)) ?_
       try go_wp2
       go_roundg k1
       case measure => have := HK1.out; omega
       case rel => exact ⟨(x12_1), (wrap64 ((wrap64 (t390 - t391)) - 70196)), (wrap64 (x12_1 + 1)), tq, tq, tq, H', ⟨by have := HK1.out; omega⟩, ⟨tB BK388⟩, ⟨tH1 HB GE388.out⟩⟩
     rw [if_neg c10] at H
     have c10b0 : decide (x5_1 < 0) = false := decide_eq_false c10
     clear c10
     replace H := Option.bind_eq_some_iff.mp H
     obtain ⟨t392, A140, H⟩ := H
     replace H : ((impl_abs.f x6_1).bind fun t393 => (if t392 > t393 then (impl_WorstFifth.l0 k1 x12_1 (wrap64 ((wrap64 (t390 - t391)) - 70196)) (wrap64 (x12_1 + 1)) a0_0 l0_1) else (impl_WorstFifth.l0 k1 x5_1 x6_1 (wrap64 (x12_1 + 1)) a0_0 l0_1))) = some (r1, r2, r3) := H
     have A14 := Aside0.mk A140
     clear A140
     replace H := Option.bind_eq_some_iff.mp H
     obtain ⟨t393, A150, H⟩ := H
     replace H : (if t392 > t393 then (impl_WorstFifth.l0 k1 x12_1 (wrap64 ((wrap64 (t390 - t391)) - 70196)) (wrap64 (x12_1 + 1)) a0_0 l0_1) else (impl_WorstFifth.l0 k1 x5_1 x6_1 (wrap64 (x12_1 + 1)) a0_0 l0_1)) = some (r1, r2, r3) := H
     have A15 := Aside0.mk A150
     clear A150
     by_cases c16 : t392 > t393
     · rw [if_pos c16] at H
       have c16b0 : decide (t393 < t392) = true := decide_eq_true c16
       clear c16
       have H' := Aside0.mk H
       clear H
       try go_wp2
       replace BK388 := Aside0.mk (blk_drew BK388.out)
       replace HB := Aside0.mk (below_drew1 HB.out)
       refine start_ (n := 10) (S := fun w' => w'.cell? ⟨gb388, 0, none⟩ = some (.string a0_0) ∧ w'.cell? ⟨gb388, 1, none⟩ = some (.slice A0_1 l0_1.length c0_1)) (ds := []) (bq [0, 10]) (by kernel_rfl) rfl rfl ⟨(blk_cell BK388.out 0).trans rfl, (blk_cell BK388.out 1).trans rfl⟩ (fun hHeld => ?_); refine with_tabW impl_WorstFifth.tab7 impl_WorstFifth.bits7 (fun HT_ HW_ => ?_)
       generalize wr.drew = w17 at BK388 HB hHeld ⊢
       refine pV 1 (some 16) [0, 1, 1, 8] rfl rfl HT_ ?_
       refine pV 2 (some 17) [0, 1, 2, 7] rfl rfl HT_ ?_
       refine pV 5 (some 20) [0, 1, 2, 2, 1, 4] rfl rfl HT_ ?_
       refine pT 0 (some 15) (bq [3, 2, 1, 4]) rfl rfl HT_ HW_ hHeld ?_
       refine pT 4 (some 19) (bq [3, 1, 2, 4]) rfl rfl HT_ HW_ hHeld ?_
       refine pO 3 (some 18) (bq [6, 4]) rfl rfl HT_ (fun K hK => ?_)
       refine gS_ Tryd.func127 #[.agg #[.string a0_0, .slice A0_1 l0_1.length c0_1], .int .i64 (wrap64 (x12_1 + 7))] rfl rfl ?_
       with_reducible refine (impl_Tuning_cents.calls k1 a0_0 _ _ l0_1 (wrap64 (x12_1 + 7)) t390 _ ?side1 ?side2 ?side3 A8.out).mono ?_
       (case side1 => exact tC (Kd.C_below HR0_1.out HB.out))
       (case side2 => exact HC0_1.out)
       (case side3 => exact tC (Kd.C_below HT.out HB.out))
       rintro e w18 ⟨rfl, hb⟩
       refine ⟨_, rfl, ?_⟩
       replace BK388 := tbB BK388 hb
       replace HB := Aside0.mk (below_step (tH1 HB GE388.out) hb)
       (try clear hb)
       (try clear hb2)
       (try clear hk)
       (try clear hi)
       refine hK.out _ _ ⟨(blk_cell BK388.out 0).trans rfl, (blk_cell BK388.out 1).trans rfl⟩ (fun hHeld => ?_)
       clear hK K
       refine nO (some 18) ?_
       refine pO 6 (some 21) (bq [7, 3]) rfl rfl HT_ (fun K hK => ?_)
       refine gS_ Tryd.func127 #[.agg #[.string a0_0, .slice A0_1 l0_1.length c0_1], .int .i64 x12_1] rfl rfl ?_
       with_reducible refine (impl_Tuning_cents.calls k1 a0_0 _ _ l0_1 x12_1 t391 _ ?side1 ?side2 ?side3 A9.out).mono ?_
       (case side1 => exact tC (Kd.C_below HR0_1.out HB.out))
       (case side2 => exact HC0_1.out)
       (case side3 => exact tC (Kd.C_below HT.out HB.out))
       rintro e w19 ⟨rfl, hb⟩
       refine ⟨_, rfl, ?_⟩
       replace BK388 := tbB BK388 hb
       replace HB := Aside0.mk (below_step (tH1 HB GE388.out) hb)
       (try clear hb)
       (try clear hb2)
       (try clear hk)
       (try clear hi)
       refine hK.out _ _ ⟨(blk_cell BK388.out 0).trans rfl, (blk_cell BK388.out 1).trans rfl⟩ (fun hHeld => ?_)
       clear hK K
       refine nO (some 21) ?_
       refine pV 7 (some 22) [8, 2] rfl rfl HT_ ?_
       refine pV 8 (some 23) [9, 1] rfl rfl HT_ ?_
       refine pV 9 (some 8) [10] rfl rfl HT_ ?_
       refine done_ (done_of HT_.out (by kernel_rfl)) ?_
       try go_wp2_with (first | (go_at_call 116; (with_reducible refine (impl_abs.calls (wrap64 ((wrap64 (t390 - t391)) - 70196)) t392 _ A14.out).mono ?_); rintro e w20 ⟨rfl, hb⟩; replace BK388 := tbB BK388 hb; replace HB := Aside0.mk (below_step (tH1 HB GE388.out) hb); (try clear hb); (try clear hb2); (try clear hk); (try clear hi)) | (go_at_call 116; (with_reducible refine (impl_abs.calls x6_1 t393 _ A15.out).mono ?_); rintro e w21 ⟨rfl, hb⟩; replace BK388 := tbB BK388 hb; replace HB := Aside0.mk (below_step (tH1 HB GE388.out) hb); (try clear hb); (try clear hb2); (try clear hk); (try clear hi)))
       go_roundg k1
       case measure => have := HK1.out; omega
       case rel => exact ⟨(x12_1), (wrap64 ((wrap64 (t390 - t391)) - 70196)), (wrap64 (x12_1 + 1)), tq, tq, tq, H', ⟨by have := HK1.out; omega⟩, ⟨tB BK388⟩, ⟨tH1 HB GE388.out⟩⟩
     rw [if_neg c16] at H
     have c16b0 : decide (t393 < t392) = false := decide_eq_false c16
     clear c16
     have H' := Aside0.mk H
     clear H
     try go_wp2
     replace BK388 := Aside0.mk (blk_drew BK388.out)
     replace HB := Aside0.mk (below_drew1 HB.out)
     refine start_ (n := 10) (S := fun w' => w'.cell? ⟨gb388, 0, none⟩ = some (.string a0_0) ∧ w'.cell? ⟨gb388, 1, none⟩ = some (.slice A0_1 l0_1.length c0_1)) (ds := []) (bq [0, 10]) (by kernel_rfl) rfl rfl ⟨(blk_cell BK388.out 0).trans rfl, (blk_cell BK388.out 1).trans rfl⟩ (fun hHeld => ?_); refine with_tabW impl_WorstFifth.tab7 impl_WorstFifth.bits7 (fun HT_ HW_ => ?_)
     generalize wr.drew = w22 at BK388 HB hHeld ⊢
     refine pV 1 (some 16) [0, 1, 1, 8] rfl rfl HT_ ?_
     refine pV 2 (some 17) [0, 1, 2, 7] rfl rfl HT_ ?_
     refine pV 5 (some 20) [0, 1, 2, 2, 1, 4] rfl rfl HT_ ?_
     refine pT 0 (some 15) (bq [3, 2, 1, 4]) rfl rfl HT_ HW_ hHeld ?_
     refine pT 4 (some 19) (bq [3, 1, 2, 4]) rfl rfl HT_ HW_ hHeld ?_
     refine pO 3 (some 18) (bq [6, 4]) rfl rfl HT_ (fun K hK => ?_)
     refine gS_ Tryd.func127 #[.agg #[.string a0_0, .slice A0_1 l0_1.length c0_1], .int .i64 (wrap64 (x12_1 + 7))] rfl rfl ?_
     with_reducible refine (impl_Tuning_cents.calls k1 a0_0 _ _ l0_1 (wrap64 (x12_1 + 7)) t390 _ ?side1 ?side2 ?side3 A8.out).mono ?_
     (case side1 => exact tC (Kd.C_below HR0_1.out HB.out))
     (case side2 => exact HC0_1.out)
     (case side3 => exact tC (Kd.C_below HT.out HB.out))
     rintro e w23 ⟨rfl, hb⟩
     refine ⟨_, rfl, ?_⟩
     replace BK388 := tbB BK388 hb
     replace HB := Aside0.mk (below_step (tH1 HB GE388.out) hb)
     (try clear hb)
     (try clear hb2)
     (try clear hk)
     (try clear hi)
     refine hK.out _ _ ⟨(blk_cell BK388.out 0).trans rfl, (blk_cell BK388.out 1).trans rfl⟩ (fun hHeld => ?_)
     clear hK K
     refine nO (some 18) ?_
     refine pO 6 (some 21) (bq [7, 3]) rfl rfl HT_ (fun K hK => ?_)
     refine gS_ Tryd.func127 #[.agg #[.string a0_0, .slice A0_1 l0_1.length c0_1], .int .i64 x12_1] rfl rfl ?_
     with_reducible refine (impl_Tuning_cents.calls k1 a0_0 _ _ l0_1 x12_1 t391 _ ?side1 ?side2 ?side3 A9.out).mono ?_
     (case side1 => exact tC (Kd.C_below HR0_1.out HB.out))
     (case side2 => exact HC0_1.out)
     (case side3 => exact tC (Kd.C_below HT.out HB.out))
     rintro e w24 ⟨rfl, hb⟩
     refine ⟨_, rfl, ?_⟩
     replace BK388 := tbB BK388 hb
     replace HB := Aside0.mk (below_step (tH1 HB GE388.out) hb)
     (try clear hb)
     (try clear hb2)
     (try clear hk)
     (try clear hi)
     refine hK.out _ _ ⟨(blk_cell BK388.out 0).trans rfl, (blk_cell BK388.out 1).trans rfl⟩ (fun hHeld => ?_)
     clear hK K
     refine nO (some 21) ?_
     refine pV 7 (some 22) [8, 2] rfl rfl HT_ ?_
     refine pV 8 (some 23) [9, 1] rfl rfl HT_ ?_
     refine pV 9 (some 8) [10] rfl rfl HT_ ?_
     refine done_ (done_of HT_.out (by kernel_rfl)) ?_
     try go_wp2_with (first | (go_at_call 116; (with_reducible refine (impl_abs.calls (wrap64 ((wrap64 (t390 - t391)) - 70196)) t392 _ A14.out).mono ?_); rintro e w25 ⟨rfl, hb⟩; replace BK388 := tbB BK388 hb; replace HB := Aside0.mk (below_step (tH1 HB GE388.out) hb); (try clear hb); (try clear hb2); (try clear hk); (try clear hi)) | (go_at_call 116; (with_reducible refine (impl_abs.calls x6_1 t393 _ A15.out).mono ?_); rintro e w26 ⟨rfl, hb⟩; replace BK388 := tbB BK388 hb; replace HB := Aside0.mk (below_step (tH1 HB GE388.out) hb); (try clear hb); (try clear hb2); (try clear hk); (try clear hi)))
     go_roundg k1
     case measure => have := HK1.out; omega
     case rel => exact ⟨(x5_1), (x6_1), (wrap64 (x12_1 + 1)), tq, tq, tq, H', ⟨by have := HK1.out; omega⟩, ⟨tB BK388⟩, ⟨tH1 HB GE388.out⟩⟩
   rw [if_neg c7] at H
   have c7b0 : decide (x12_1 < 12) = false := decide_eq_false c7
   clear c7
   simp only [Option.some.injEq, Prod.mk.injEq] at H
   obtain ⟨rfl, rfl, rfl⟩ := H
   go_wp2
   go_ret3
   exact ⟨tE, tH1 HB GE388.out⟩
 replace c3 := Bool.eq_false_iff.mpr c3
 subst c3
 have H1 : (some (0, 0, 1)) = some (r1, r2, r3) := by rw [if_neg (show ¬ (false = true) by decide)] at H; exact H
 clear H
 have H := H1
 clear H1
 simp only [Option.some.injEq, Prod.mk.injEq] at H
 obtain ⟨rfl, rfl, rfl⟩ := H
 go_enter Tryd.func51, Tryd.ntmps51
 go_wp2_with (first | ((with_reducible refine gate_dst (N := 1) rfl ?_); refine box_event ?hg (N := 1) ?hd (cs := #[.string a0_0, .slice A0_1 l0_1.length c0_1]) (t := 71) ?hr ?_; (case hd => rfl); (case hg => rfl); (case hr => first | (go_simp; done) | (go_simp; rfl)); intro gb388 hg w27 hbox hb; have BK388 := Aside0.mk (hbox); have GW388 := Aside0.mk ((by rw [hg]; exact (below_size (tH HB)) : w.heap.size ≤ gb388)); have GE388 := Aside0.mk ((by rw [hg]; exact (below_size (tH HB)) : w.heap.size ≤ gb388)); replace HB := Aside0.mk (below_step (tH HB) hb); clear hb hbox hg; have hcz28_0 : w27.cell? ⟨gb388, 0, none⟩ = some (.string a0_0) := (blk_cell BK388.out 0).trans rfl; have hcz28_1 : w27.cell? ⟨gb388, 1, none⟩ = some (.slice A0_1 l0_1.length c0_1) := (blk_cell BK388.out 1).trans rfl; have hfz28_0 := blk_frozen BK388.out 0; have hfz28_1 := blk_frozen BK388.out 1) | ((with_reducible refine gate_callee (f := 126) rfl ?_); refine gL_ (some 10) rfl rfl Tryd.func126 #[.agg #[.string a0_0, .slice A0_1 l0_1.length c0_1]] rfl ?_; (with_reducible refine (impl_ValidTuning.calls k a0_0 _ _ l0_1 false _ ?side1 ?side2 A2.out).mono ?_); (case side1 => exact tC (Kd.C_below HR0_1.out HB.out)); (case side2 => exact HC0_1.out); rintro e w29 ⟨rfl, hb⟩; refine ⟨_, rfl, ?_⟩; replace BK388 := tbB BK388 hb; replace HB := Aside0.mk (below_step (tH1 HB GE388.out) hb); (try clear hb); (try clear hb2); (try clear hk); (try clear hi)))
 go_ret3
 exact ⟨tE, tH1 HB GE388.out⟩

end Go.Proofs.YtmeflmlejcmckaaDoor.PB
