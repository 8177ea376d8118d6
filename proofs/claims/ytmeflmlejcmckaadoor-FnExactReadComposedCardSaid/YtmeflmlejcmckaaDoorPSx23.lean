-- WRITTEN BY wip/gprint.py, a program of this session's over the kit's print, with contracts given by hand
import Derived.Test.YtmeflmlejcmckaaDoorPSx0
import Derived.Test.YtmeflmlejcmckaaDoorPSx9
import Derived.Test.YtmeflmlejcmckaaDoorPSx22
namespace Go.Proofs.YtmeflmlejcmckaaDoor.PS
open Go.RowKit Go.Proofs.YtmeflmlejcmckaaDoorW.PrintWords Go.Proofs.YtmeflmlejcmckaaDoorW.PrintLast Go.Proofs.YtmeflmlejcmckaaDoorW.PrintMore
attribute [local go_sem] max2_int min2_int max_two min_two max_three min_three max_four min_four   -- for this text's walks alone
set_option linter.unusedVariables false
set_option linter.unusedSimpArgs false

/-! ### impl_TalaText: function 25 -/
def impl_TalaText.l0 : Nat → ByteArray → List Int → Int → Int → ByteArray → List Int → List Int → Option (ByteArray)
 | 0, _, _, _, _, _, _, _ => none
 | k + 1, x3, x12, x13, x14, x300000, x300001, x300002 => if x14 < x13 then (if 0 ≤ x14 then (if x14 < (x12.length : Int) then ((impl_Decimal.f (rd x12 x14)).bind fun t302 => (if 1 + t302.size ≤ 9223372036854775807 then (if x14 < (x300002.length : Int) then ((impl_markText.f (rd x300002 x14)).bind fun t304 => (if ((⟨#[32]⟩ : ByteArray) ++ t302).size + t304.size ≤ 9223372036854775807 then (if x3.size + (((⟨#[32]⟩ : ByteArray) ++ t302) ++ t304).size ≤ 9223372036854775807 then (impl_TalaText.l0 k (x3 ++ (((⟨#[32]⟩ : ByteArray) ++ t302) ++ t304)) x12 x13 (wrap64 (x14 + 1)) x300000 x300001 x300002) else (none)) else (none))) else (none)) else (none))) else (none)) else (none)) else (some x3)
def impl_TalaText.f (k : Nat) (a0_0 : ByteArray) (l0_1 : List Int) (l0_2 : List Int) : Option (ByteArray) := (impl_ValidTala.f k a0_0 l0_1 l0_2).bind fun t300 => (if t300 = true then (impl_TalaText.l0 k a0_0 l0_1 (l0_1.length : Int) 0 a0_0 l0_1 l0_2) else (some (⟨#[]⟩ : ByteArray)))
theorem impl_TalaText.mono_l : ∀ k, (∀ y0 y1 y2 y3 y4 y5 y6, LeO (impl_TalaText.l0 k y0 y1 y2 y3 y4 y5 y6) (impl_TalaText.l0 (k + 1) y0 y1 y2 y3 y4 y5 y6))
 | 0 => fun _ _ _ _ _ _ _ r h => by simp [impl_TalaText.l0] at h
 | k + 1 => by
  have ih0 := impl_TalaText.mono_l k
  · intro y0 y1 y2 y3 y4 y5 y6
    unfold impl_TalaText.l0
    repeat' first
    | (with_reducible exact ih0 _ _ _ _ _ _ _)
    | (with_reducible exact impl_ValidTala.mono _ _ _ _)
    | (with_reducible exact LeO.refl _)
    | (with_reducible exact LeO.none _)
    | (with_reducible refine LeO.ite ?_ ?_)
    | (with_reducible refine LeO.bind ?_ (fun _ => ?_))
    | exact ih0 _ _ _ _ _ _ _
    | exact impl_ValidTala.mono _ _ _ _
    | exact LeO.none _
    | refine LeO.ite ?_ ?_
    | refine LeO.bind ?_ (fun _ => ?_)
theorem impl_TalaText.mono : ∀ a0 a1 a2 k, LeO (impl_TalaText.f k a0 a1 a2) (impl_TalaText.f (k + 1) a0 a1 a2) := by
 intro a0 a1 a2 k
 have ih0 := impl_TalaText.mono_l k
 unfold impl_TalaText.f
 repeat' first
  | (with_reducible exact ih0 _ _ _ _ _ _ _)
  | (with_reducible exact impl_ValidTala.mono _ _ _ _)
  | (with_reducible exact LeO.refl _)
  | (with_reducible exact LeO.none _)
  | (with_reducible refine LeO.ite ?_ ?_)
  | (with_reducible refine LeO.bind ?_ (fun _ => ?_))
  | exact ih0 _ _ _ _ _ _ _
  | exact impl_ValidTala.mono _ _ _ _
  | exact LeO.none _
  | refine LeO.ite ?_ ?_
  | refine LeO.bind ?_ (fun _ => ?_)
set_option maxHeartbeats 8000000 in
set_option maxRecDepth 100000 in
theorem impl_TalaText.calls (k : Nat) (a0_0 : ByteArray) (A0_1 : Option Addr) (c0_1 : Nat) (l0_1 : List Int) (A0_2 : Option Addr) (c0_2 : Nat) (l0_2 : List Int) (r : ByteArray) (w : World) (hr0_1 : Kd.C (Kd.int .i64) w A0_1 l0_1.length l0_1) (hc0_1 : l0_1.length ≤ c0_1) (hr0_2 : Kd.C (Kd.int .i64) w A0_2 l0_2.length l0_2) (hc0_2 : l0_2.length ≤ c0_2) (h : impl_TalaText.f k a0_0 l0_1 l0_2 = some r) :
 Calls Tryd.prog 25 #[.agg #[.string a0_0, .slice A0_1 l0_1.length c0_1, .slice A0_2 l0_2.length c0_2]] w fun e w' => e = .returned (.string r) ∧ Below w.heap.size w w' := by
 have hu39 := Tryd.underlying39
 have HR0_1 := Aside0.mk hr0_1
 have HC0_1 := Aside0.mk hc0_1
 clear hr0_1 hc0_1
 have HR0_2 := Aside0.mk hr0_2
 have HC0_2 := Aside0.mk hc0_2
 clear hr0_2 hc0_2
 have HB := Aside0.mk (Below.refl w.heap.size w)
 have H : ((impl_ValidTala.f k a0_0 l0_1 l0_2).bind fun t300 => (if t300 = true then (impl_TalaText.l0 k a0_0 l0_1 (l0_1.length : Int) 0 a0_0 l0_1 l0_2) else (some (⟨#[]⟩ : ByteArray)))) = some r := h
 clear h
 replace H := Option.bind_eq_some_iff.mp H
 obtain ⟨t300, A20, H⟩ := H
 replace H : (if t300 = true then (impl_TalaText.l0 k a0_0 l0_1 (l0_1.length : Int) 0 a0_0 l0_1 l0_2) else (some (⟨#[]⟩ : ByteArray))) = some r := H
 have A2 := Aside0.mk A20
 clear A20
 by_cases c3 : t300 = true
 · subst c3
   have H1 : (impl_TalaText.l0 k a0_0 l0_1 (l0_1.length : Int) 0 a0_0 l0_1 l0_2) = some r := by rw [if_pos rfl] at H; exact H
   clear H
   have H := H1
   clear H1
   have H' := Aside0.mk H
   clear H
   go_enter Tryd.func25, Tryd.ntmps25
   go_wp2_with (first | ((with_reducible refine gate_dst (N := 1) rfl ?_); refine box_event ?hg (N := 1) ?hd (cs := #[.string a0_0, .slice A0_1 l0_1.length c0_1, .slice A0_2 l0_2.length c0_2]) (t := 39) ?hr ?_; (case hd => rfl); (case hg => rfl); (case hr => first | (go_simp; done) | (go_simp; rfl)); intro gb299 hg w4 hbox hb; have BK299 := Aside0.mk (hbox); have GW299 := Aside0.mk ((by rw [hg]; exact (below_size (tH HB)) : w.heap.size ≤ gb299)); have GE299 := Aside0.mk ((by rw [hg]; exact (below_size (tH HB)) : w.heap.size ≤ gb299)); replace HB := Aside0.mk (below_step (tH HB) hb); clear hb hbox hg; have hcz5_0 : w4.cell? ⟨gb299, 0, none⟩ = some (.string a0_0) := (blk_cell BK299.out 0).trans rfl; have hcz5_1 : w4.cell? ⟨gb299, 1, none⟩ = some (.slice A0_1 l0_1.length c0_1) := (blk_cell BK299.out 1).trans rfl; have hcz5_2 : w4.cell? ⟨gb299, 2, none⟩ = some (.slice A0_2 l0_2.length c0_2) := (blk_cell BK299.out 2).trans rfl; have hfz5_0 := blk_frozen BK299.out 0; have hfz5_1 := blk_frozen BK299.out 1; have hfz5_2 := blk_frozen BK299.out 2) | (go_at_call 99; (with_reducible refine (impl_ValidTala.calls k a0_0 _ _ l0_1 _ _ l0_2 true _ ?side1 ?side2 ?side3 ?side4 A2.out).mono ?_); (case side1 => exact tC (Kd.C_below HR0_1.out HB.out)); (case side2 => exact HC0_1.out); (case side3 => exact tC (Kd.C_below HR0_2.out HB.out)); (case side4 => exact HC0_2.out); rintro e w6 ⟨rfl, hb⟩; replace BK299 := tbB BK299 hb; replace HB := Aside0.mk (below_step (tH1 HB GE299.out) hb); (try clear hb); (try clear hb2); (try clear hk); (try clear hi); have hcz7_0 : w6.cell? ⟨gb299, 0, none⟩ = some (.string a0_0) := (blk_cell BK299.out 0).trans rfl; have hcz7_1 : w6.cell? ⟨gb299, 1, none⟩ = some (.slice A0_1 l0_1.length c0_1) := (blk_cell BK299.out 1).trans rfl; have hcz7_2 : w6.cell? ⟨gb299, 2, none⟩ = some (.slice A0_2 l0_2.length c0_2) := (blk_cell BK299.out 2).trans rfl; have hfz7_0 := blk_frozen BK299.out 0; have hfz7_1 := blk_frozen BK299.out 1; have hfz7_2 := blk_frozen BK299.out 2))
   repeat (go_quiet (first | ((with_reducible refine gate_dst (N := 1) rfl ?_); refine box_event ?hg (N := 1) ?hd (cs := #[.string a0_0, .slice A0_1 l0_1.length c0_1, .slice A0_2 l0_2.length c0_2]) (t := 39) ?hr ?_; (case hd => rfl); (case hg => rfl); (case hr => first | (go_simp; done) | (go_simp; rfl)); intro gb299 hg w4 hbox hb; have BK299 := Aside0.mk (hbox); have GW299 := Aside0.mk ((by rw [hg]; exact (below_size (tH HB)) : w.heap.size ≤ gb299)); have GE299 := Aside0.mk ((by rw [hg]; exact (below_size (tH HB)) : w.heap.size ≤ gb299)); replace HB := Aside0.mk (below_step (tH HB) hb); clear hb hbox hg; have hcz5_0 : w4.cell? ⟨gb299, 0, none⟩ = some (.string a0_0) := (blk_cell BK299.out 0).trans rfl; have hcz5_1 : w4.cell? ⟨gb299, 1, none⟩ = some (.slice A0_1 l0_1.length c0_1) := (blk_cell BK299.out 1).trans rfl; have hcz5_2 : w4.cell? ⟨gb299, 2, none⟩ = some (.slice A0_2 l0_2.length c0_2) := (blk_cell BK299.out 2).trans rfl; have hfz5_0 := blk_frozen BK299.out 0; have hfz5_1 := blk_frozen BK299.out 1; have hfz5_2 := blk_frozen BK299.out 2) | (go_at_call 99; (with_reducible refine (impl_ValidTala.calls k a0_0 _ _ l0_1 _ _ l0_2 true _ ?side1 ?side2 ?side3 ?side4 A2.out).mono ?_); (case side1 => exact tC (Kd.C_below HR0_1.out HB.out)); (case side2 => exact HC0_1.out); (case side3 => exact tC (Kd.C_below HR0_2.out HB.out)); (case side4 => exact HC0_2.out); rintro e w6 ⟨rfl, hb⟩; replace BK299 := tbB BK299 hb; replace HB := Aside0.mk (below_step (tH1 HB GE299.out) hb); (try clear hb); (try clear hb2); (try clear hk); (try clear hi); have hcz7_0 : w6.cell? ⟨gb299, 0, none⟩ = some (.string a0_0) := (blk_cell BK299.out 0).trans rfl; have hcz7_1 : w6.cell? ⟨gb299, 1, none⟩ = some (.slice A0_1 l0_1.length c0_1) := (blk_cell BK299.out 1).trans rfl; have hcz7_2 : w6.cell? ⟨gb299, 2, none⟩ = some (.slice A0_2 l0_2.length c0_2) := (blk_cell BK299.out 2).trans rfl; have hfz7_0 := blk_frozen BK299.out 0; have hfz7_1 := blk_frozen BK299.out 1; have hfz7_2 := blk_frozen BK299.out 2)); try go_wp2_with (first | ((with_reducible refine gate_dst (N := 1) rfl ?_); refine box_event ?hg (N := 1) ?hd (cs := #[.string a0_0, .slice A0_1 l0_1.length c0_1, .slice A0_2 l0_2.length c0_2]) (t := 39) ?hr ?_; (case hd => rfl); (case hg => rfl); (case hr => first | (go_simp; done) | (go_simp; rfl)); intro gb299 hg w4 hbox hb; have BK299 := Aside0.mk (hbox); have GW299 := Aside0.mk ((by rw [hg]; exact (below_size (tH HB)) : w.heap.size ≤ gb299)); have GE299 := Aside0.mk ((by rw [hg]; exact (below_size (tH HB)) : w.heap.size ≤ gb299)); replace HB := Aside0.mk (below_step (tH HB) hb); clear hb hbox hg; have hcz5_0 : w4.cell? ⟨gb299, 0, none⟩ = some (.string a0_0) := (blk_cell BK299.out 0).trans rfl; have hcz5_1 : w4.cell? ⟨gb299, 1, none⟩ = some (.slice A0_1 l0_1.length c0_1) := (blk_cell BK299.out 1).trans rfl; have hcz5_2 : w4.cell? ⟨gb299, 2, none⟩ = some (.slice A0_2 l0_2.length c0_2) := (blk_cell BK299.out 2).trans rfl; have hfz5_0 := blk_frozen BK299.out 0; have hfz5_1 := blk_frozen BK299.out 1; have hfz5_2 := blk_frozen BK299.out 2) | (go_at_call 99; (with_reducible refine (impl_ValidTala.calls k a0_0 _ _ l0_1 _ _ l0_2 true _ ?side1 ?side2 ?side3 ?side4 A2.out).mono ?_); (case side1 => exact tC (Kd.C_below HR0_1.out HB.out)); (case side2 => exact HC0_1.out); (case side3 => exact tC (Kd.C_below HR0_2.out HB.out)); (case side4 => exact HC0_2.out); rintro e w6 ⟨rfl, hb⟩; replace BK299 := tbB BK299 hb; replace HB := Aside0.mk (below_step (tH1 HB GE299.out) hb); (try clear hb); (try clear hb2); (try clear hk); (try clear hi); have hcz7_0 : w6.cell? ⟨gb299, 0, none⟩ = some (.string a0_0) := (blk_cell BK299.out 0).trans rfl; have hcz7_1 : w6.cell? ⟨gb299, 1, none⟩ = some (.slice A0_1 l0_1.length c0_1) := (blk_cell BK299.out 1).trans rfl; have hcz7_2 : w6.cell? ⟨gb299, 2, none⟩ = some (.slice A0_2 l0_2.length c0_2) := (blk_cell BK299.out 2).trans rfl; have hfz7_0 := blk_frozen BK299.out 0; have hfz7_1 := blk_frozen BK299.out 1; have hfz7_2 := blk_frozen BK299.out 2)))
   go_loopg [3, 14] k (fun kq v3 v14 w' => ∃ (x3_1 : ByteArray) (x14_1 : Int), v3 = .string x3_1 ∧ v14 = .int .i64 x14_1 ∧ Aside0 (impl_TalaText.l0 kq x3_1 l0_1 (l0_1.length : Int) x14_1 a0_0 l0_1 l0_2 = some r) ∧ Aside0 (kq ≤ k) ∧ Aside0 (w'.heap[gb299]? = some (.cells #[.string a0_0, (.slice A0_1 l0_1.length c0_1), (.slice A0_2 l0_2.length c0_2)] 39 (0, 0))) ∧ Aside0 (Below w.heap.size w w'))
   case atStart => exact ⟨(a0_0), (0), tq, tq, H', ⟨Nat.le_refl _⟩, ⟨tB BK299⟩, ⟨tH1 HB GE299.out⟩⟩
   case round =>
   clear H'
   try clear c2
   try clear p2
   try clear c3
   try clear hcz5_0 hcz5_1 hcz5_2
   try clear hcz7_0 hcz7_1 hcz7_2
   try clear hfz5_0 hfz5_1 hfz5_2
   try clear hfz7_0 hfz7_1 hfz7_2
   obtain ⟨x3_1, x14_1, rfl, rfl, HA, HK1, BK299, HB⟩ := hrel
   cases gk with
   | zero => exact absurd HA.out (by simp [impl_TalaText.l0])
   | succ k1 =>
   have H := HA.out
   clear HA
   simp only [impl_TalaText.l0] at H
   by_cases c8 : x14_1 < (l0_1.length : Int)
   · rw [if_pos c8] at H
     have c8b0 : decide (x14_1 < (l0_1.length : Int)) = true := decide_eq_true c8
     clear c8
     by_cases c9 : 0 ≤ x14_1
     · rw [if_pos c9] at H
       have c9b0 : decide (0 ≤ x14_1) = true := decide_eq_true c9
       clear c9
       by_cases c10 : x14_1 < (l0_1.length : Int)
       · rw [if_pos c10] at H
         have c10b0 : decide (x14_1 < (l0_1.length : Int)) = true := decide_eq_true c10
         clear c10
         replace H := Option.bind_eq_some_iff.mp H
         obtain ⟨t302, A110, H⟩ := H
         replace H : (if 1 + t302.size ≤ 9223372036854775807 then (if x14_1 < (l0_2.length : Int) then ((impl_markText.f (rd l0_2 x14_1)).bind fun t304 => (if ((⟨#[32]⟩ : ByteArray) ++ t302).size + t304.size ≤ 9223372036854775807 then (if x3_1.size + (((⟨#[32]⟩ : ByteArray) ++ t302) ++ t304).size ≤ 9223372036854775807 then (impl_TalaText.l0 k1 (x3_1 ++ (((⟨#[32]⟩ : ByteArray) ++ t302) ++ t304)) l0_1 (l0_1.length : Int) (wrap64 (x14_1 + 1)) a0_0 l0_1 l0_2) else (none)) else (none))) else (none)) else (none)) = some r := H
         have A11 := Aside0.mk A110
         clear A110
         by_cases c12 : 1 + t302.size ≤ 9223372036854775807
         · rw [if_pos c12] at H
           have c12b0 := eq_true c12
           have c12b1 : decide (1 + t302.size ≤ 9223372036854775807) = true := decide_eq_true c12
           try have c12b2 : (9223372036854775807 < 1 + t302.size) = False := eq_false (Nat.not_lt.2 c12)
           by_cases c13 : x14_1 < (l0_2.length : Int)
           · rw [if_pos c13] at H
             have c13b0 : decide (x14_1 < (l0_2.length : Int)) = true := decide_eq_true c13
             clear c13
             replace H := Option.bind_eq_some_iff.mp H
             obtain ⟨t304, A140, H⟩ := H
             replace H : (if ((⟨#[32]⟩ : ByteArray) ++ t302).size + t304.size ≤ 9223372036854775807 then (if x3_1.size + (((⟨#[32]⟩ : ByteArray) ++ t302) ++ t304).size ≤ 9223372036854775807 then (impl_TalaText.l0 k1 (x3_1 ++ (((⟨#[32]⟩ : ByteArray) ++ t302) ++ t304)) l0_1 (l0_1.length : Int) (wrap64 (x14_1 + 1)) a0_0 l0_1 l0_2) else (none)) else (none)) = some r := H
             have A14 := Aside0.mk A140
             clear A140
             by_cases c15 : ((⟨#[32]⟩ : ByteArray) ++ t302).size + t304.size ≤ 9223372036854775807
             · rw [if_pos c15] at H
               have c15b0 := eq_true c15
               have c15b1 : decide (((⟨#[32]⟩ : ByteArray) ++ t302).size + t304.size ≤ 9223372036854775807) = true := decide_eq_true c15
               try have c15b2 : (9223372036854775807 < ((⟨#[32]⟩ : ByteArray) ++ t302).size + t304.size) = False := eq_false (Nat.not_lt.2 c15)
               (try (have c15b3 := decide_eq_false (Nat.not_lt.2 c15); simp only [ByteArray.size_append, ByteArray.size_extract, Nat.min_def, Int.toNat_le, if_true, show ∀ b : UInt8, (⟨#[b]⟩ : ByteArray).size = 1 from fun _ => rfl, *] at c15b3; have c15b4 := eq_false (of_decide_eq_false c15b3); clear c15b3))
               by_cases c16 : x3_1.size + (((⟨#[32]⟩ : ByteArray) ++ t302) ++ t304).size ≤ 9223372036854775807
               · rw [if_pos c16] at H
                 have c16b0 := eq_true c16
                 have c16b1 : decide (x3_1.size + (((⟨#[32]⟩ : ByteArray) ++ t302) ++ t304).size ≤ 9223372036854775807) = true := decide_eq_true c16
                 try have c16b2 : (9223372036854775807 < x3_1.size + (((⟨#[32]⟩ : ByteArray) ++ t302) ++ t304).size) = False := eq_false (Nat.not_lt.2 c16)
                 (try (have c16b3 := decide_eq_false (Nat.not_lt.2 c16); simp only [ByteArray.size_append, ByteArray.size_extract, Nat.min_def, Int.toNat_le, if_true, show ∀ b : UInt8, (⟨#[b]⟩ : ByteArray).size = 1 from fun _ => rfl, *] at c16b3; have c16b4 := eq_false (of_decide_eq_false c16b3); clear c16b3))
                 have H' := Aside0.mk H
                 clear H
                 have p301 : 0 ≤ (x14_1 : Int) := of_decide_eq_true tA
                 have q301 : x14_1 < (l0_1.length : Int) := of_decide_eq_true tA
                 obtain ⟨ad301, e301, hx301_0⟩ := Kd.at_int HR0_1.out x14_1 p301 q301
                 cases e301
                 replace hx301_0 := tW HB hx301_0
                 replace p301 := eq_true p301
                 replace q301 := eq_true q301
                 go_wp2_with (first | (go_at_call 82; (with_reducible refine (impl_Decimal.calls (rd l0_1 x14_1) t302 _ A11.out).mono ?_); rintro e w' ⟨rfl, ⟨nd, rfl⟩⟩; (try exact tD); have hcz17_0 : wr.cell? ⟨gb299, 0, none⟩ = some (.string a0_0) := (blk_cell BK299.out 0).trans rfl; have hcz17_1 : wr.cell? ⟨gb299, 1, none⟩ = some (.slice (some ad301) l0_1.length c0_1) := (blk_cell BK299.out 1).trans rfl; have hcz17_2 : wr.cell? ⟨gb299, 2, none⟩ = some (.slice A0_2 l0_2.length c0_2) := (blk_cell BK299.out 2).trans rfl; have hfz17_0 := blk_frozen BK299.out 0; have hfz17_1 := blk_frozen BK299.out 1; have hfz17_2 := blk_frozen BK299.out 2; have p303 : 0 ≤ (x14_1 : Int) := of_decide_eq_true tA; have q303 : x14_1 < (l0_2.length : Int) := of_decide_eq_true tA; obtain ⟨ad303, e303, hx303_0⟩ := Kd.at_int HR0_2.out x14_1 p303 q303; cases e303; replace hx303_0 := tW HB hx303_0; replace p303 := eq_true p303; replace q303 := eq_true q303) | (go_at_call 100; (with_reducible refine (impl_markText.calls (rd l0_2 x14_1) t304 _ A14.out).mono ?_); rintro e w' ⟨rfl, ⟨nd, rfl⟩⟩; (try exact tD)))
                 repeat (go_quiet (first | (go_at_call 82; (with_reducible refine (impl_Decimal.calls (rd l0_1 x14_1) t302 _ A11.out).mono ?_); rintro e w' ⟨rfl, ⟨nd, rfl⟩⟩; (try exact tD); have hcz17_0 : wr.cell? ⟨gb299, 0, none⟩ = some (.string a0_0) := (blk_cell BK299.out 0).trans rfl; have hcz17_1 : wr.cell? ⟨gb299, 1, none⟩ = some (.slice (some ad301) l0_1.length c0_1) := (blk_cell BK299.out 1).trans rfl; have hcz17_2 : wr.cell? ⟨gb299, 2, none⟩ = some (.slice A0_2 l0_2.length c0_2) := (blk_cell BK299.out 2).trans rfl; have hfz17_0 := blk_frozen BK299.out 0; have hfz17_1 := blk_frozen BK299.out 1; have hfz17_2 := blk_frozen BK299.out 2; have p303 : 0 ≤ (x14_1 : Int) := of_decide_eq_true tA; have q303 : x14_1 < (l0_2.length : Int) := of_decide_eq_true tA; obtain ⟨ad303, e303, hx303_0⟩ := Kd.at_int HR0_2.out x14_1 p303 q303; cases e303; replace hx303_0 := tW HB hx303_0; replace p303 := eq_true p303; replace q303 := eq_true q303) | (go_at_call 100; (with_reducible refine (impl_markText.calls (rd l0_2 x14_1) t304 _ A14.out).mono ?_); rintro e w' ⟨rfl, ⟨nd, rfl⟩⟩; (try exact tD))); try go_wp2_with (first | (go_at_call 82; (with_reducible refine (impl_Decimal.calls (rd l0_1 x14_1) t302 _ A11.out).mono ?_); rintro e w' ⟨rfl, ⟨nd, rfl⟩⟩; (try exact tD); have hcz17_0 : wr.cell? ⟨gb299, 0, none⟩ = some (.string a0_0) := (blk_cell BK299.out 0).trans rfl; have hcz17_1 : wr.cell? ⟨gb299, 1, none⟩ = some (.slice (some ad301) l0_1.length c0_1) := (blk_cell BK299.out 1).trans rfl; have hcz17_2 : wr.cell? ⟨gb299, 2, none⟩ = some (.slice A0_2 l0_2.length c0_2) := (blk_cell BK299.out 2).trans rfl; have hfz17_0 := blk_frozen BK299.out 0; have hfz17_1 := blk_frozen BK299.out 1; have hfz17_2 := blk_frozen BK299.out 2; have p303 : 0 ≤ (x14_1 : Int) := of_decide_eq_true tA; have q303 : x14_1 < (l0_2.length : Int) := of_decide_eq_true tA; obtain ⟨ad303, e303, hx303_0⟩ := Kd.at_int HR0_2.out x14_1 p303 q303; cases e303; replace hx303_0 := tW HB hx303_0; replace p303 := eq_true p303; replace q303 := eq_true q303) | (go_at_call 100; (with_reducible refine (impl_markText.calls (rd l0_2 x14_1) t304 _ A14.out).mono ?_); rintro e w' ⟨rfl, ⟨nd, rfl⟩⟩; (try exact tD))))
                 go_roundg k1
                 case measure => have := HK1.out; omega
                 case rel => exact ⟨(x3_1 ++ (((⟨#[32]⟩ : ByteArray) ++ t302) ++ t304)), (wrap64 (x14_1 + 1)), tq, tq, H', ⟨by have := HK1.out; omega⟩, ⟨tB BK299⟩, ⟨tH1 HB GE299.out⟩⟩
               rw [if_neg c16] at H
               exact absurd H (by simp)
             rw [if_neg c15] at H
             exact absurd H (by simp)
           rw [if_neg c13] at H
           exact absurd H (by simp)
         rw [if_neg c12] at H
         exact absurd H (by simp)
       rw [if_neg c10] at H
       exact absurd H (by simp)
     rw [if_neg c9] at H
     exact absurd H (by simp)
   rw [if_neg c8] at H
   have c8b0 : decide (x14_1 < (l0_1.length : Int)) = false := decide_eq_false c8
   clear c8
   obtain rfl := Option.some.inj H
   go_wp2
   repeat (go_quiet (fail); try go_wp2)
   go_ret
   exact ⟨tE, tH1 HB GE299.out⟩
 replace c3 := Bool.eq_false_iff.mpr c3
 subst c3
 have H1 : (some (⟨#[]⟩ : ByteArray)) = some r := by rw [if_neg (show ¬ (false = true) by decide)] at H; exact H
 clear H
 have H := H1
 clear H1
 obtain rfl := Option.some.inj H
 go_enter Tryd.func25, Tryd.ntmps25
 go_wp2_with (first | ((with_reducible refine gate_dst (N := 1) rfl ?_); refine box_event ?hg (N := 1) ?hd (cs := #[.string a0_0, .slice A0_1 l0_1.length c0_1, .slice A0_2 l0_2.length c0_2]) (t := 39) ?hr ?_; (case hd => rfl); (case hg => rfl); (case hr => first | (go_simp; done) | (go_simp; rfl)); intro gb299 hg w18 hbox hb; have BK299 := Aside0.mk (hbox); have GW299 := Aside0.mk ((by rw [hg]; exact (below_size (tH HB)) : w.heap.size ≤ gb299)); have GE299 := Aside0.mk ((by rw [hg]; exact (below_size (tH HB)) : w.heap.size ≤ gb299)); replace HB := Aside0.mk (below_step (tH HB) hb); clear hb hbox hg; have hcz19_0 : w18.cell? ⟨gb299, 0, none⟩ = some (.string a0_0) := (blk_cell BK299.out 0).trans rfl; have hcz19_1 : w18.cell? ⟨gb299, 1, none⟩ = some (.slice A0_1 l0_1.length c0_1) := (blk_cell BK299.out 1).trans rfl; have hcz19_2 : w18.cell? ⟨gb299, 2, none⟩ = some (.slice A0_2 l0_2.length c0_2) := (blk_cell BK299.out 2).trans rfl; have hfz19_0 := blk_frozen BK299.out 0; have hfz19_1 := blk_frozen BK299.out 1; have hfz19_2 := blk_frozen BK299.out 2) | (go_at_call 99; (with_reducible refine (impl_ValidTala.calls k a0_0 _ _ l0_1 _ _ l0_2 false _ ?side1 ?side2 ?side3 ?side4 A2.out).mono ?_); (case side1 => exact tC (Kd.C_below HR0_1.out HB.out)); (case side2 => exact HC0_1.out); (case side3 => exact tC (Kd.C_below HR0_2.out HB.out)); (case side4 => exact HC0_2.out); rintro e w20 ⟨rfl, hb⟩; replace BK299 := tbB BK299 hb; replace HB := Aside0.mk (below_step (tH1 HB GE299.out) hb); (try clear hb); (try clear hb2); (try clear hk); (try clear hi)))
 repeat (go_quiet (first | ((with_reducible refine gate_dst (N := 1) rfl ?_); refine box_event ?hg (N := 1) ?hd (cs := #[.string a0_0, .slice A0_1 l0_1.length c0_1, .slice A0_2 l0_2.length c0_2]) (t := 39) ?hr ?_; (case hd => rfl); (case hg => rfl); (case hr => first | (go_simp; done) | (go_simp; rfl)); intro gb299 hg w18 hbox hb; have BK299 := Aside0.mk (hbox); have GW299 := Aside0.mk ((by rw [hg]; exact (below_size (tH HB)) : w.heap.size ≤ gb299)); have GE299 := Aside0.mk ((by rw [hg]; exact (below_size (tH HB)) : w.heap.size ≤ gb299)); replace HB := Aside0.mk (below_step (tH HB) hb); clear hb hbox hg; have hcz19_0 : w18.cell? ⟨gb299, 0, none⟩ = some (.string a0_0) := (blk_cell BK299.out 0).trans rfl; have hcz19_1 : w18.cell? ⟨gb299, 1, none⟩ = some (.slice A0_1 l0_1.length c0_1) := (blk_cell BK299.out 1).trans rfl; have hcz19_2 : w18.cell? ⟨gb299, 2, none⟩ = some (.slice A0_2 l0_2.length c0_2) := (blk_cell BK299.out 2).trans rfl; have hfz19_0 := blk_frozen BK299.out 0; have hfz19_1 := blk_frozen BK299.out 1; have hfz19_2 := blk_frozen BK299.out 2) | (go_at_call 99; (with_reducible refine (impl_ValidTala.calls k a0_0 _ _ l0_1 _ _ l0_2 false _ ?side1 ?side2 ?side3 ?side4 A2.out).mono ?_); (case side1 => exact tC (Kd.C_below HR0_1.out HB.out)); (case side2 => exact HC0_1.out); (case side3 => exact tC (Kd.C_below HR0_2.out HB.out)); (case side4 => exact HC0_2.out); rintro e w20 ⟨rfl, hb⟩; replace BK299 := tbB BK299 hb; replace HB := Aside0.mk (below_step (tH1 HB GE299.out) hb); (try clear hb); (try clear hb2); (try clear hk); (try clear hi))); try go_wp2_with (first | ((with_reducible refine gate_dst (N := 1) rfl ?_); refine box_event ?hg (N := 1) ?hd (cs := #[.string a0_0, .slice A0_1 l0_1.length c0_1, .slice A0_2 l0_2.length c0_2]) (t := 39) ?hr ?_; (case hd => rfl); (case hg => rfl); (case hr => first | (go_simp; done) | (go_simp; rfl)); intro gb299 hg w18 hbox hb; have BK299 := Aside0.mk (hbox); have GW299 := Aside0.mk ((by rw [hg]; exact (below_size (tH HB)) : w.heap.size ≤ gb299)); have GE299 := Aside0.mk ((by rw [hg]; exact (below_size (tH HB)) : w.heap.size ≤ gb299)); replace HB := Aside0.mk (below_step (tH HB) hb); clear hb hbox hg; have hcz19_0 : w18.cell? ⟨gb299, 0, none⟩ = some (.string a0_0) := (blk_cell BK299.out 0).trans rfl; have hcz19_1 : w18.cell? ⟨gb299, 1, none⟩ = some (.slice A0_1 l0_1.length c0_1) := (blk_cell BK299.out 1).trans rfl; have hcz19_2 : w18.cell? ⟨gb299, 2, none⟩ = some (.slice A0_2 l0_2.length c0_2) := (blk_cell BK299.out 2).trans rfl; have hfz19_0 := blk_frozen BK299.out 0; have hfz19_1 := blk_frozen BK299.out 1; have hfz19_2 := blk_frozen BK299.out 2) | (go_at_call 99; (with_reducible refine (impl_ValidTala.calls k a0_0 _ _ l0_1 _ _ l0_2 false _ ?side1 ?side2 ?side3 ?side4 A2.out).mono ?_); (case side1 => exact tC (Kd.C_below HR0_1.out HB.out)); (case side2 => exact HC0_1.out); (case side3 => exact tC (Kd.C_below HR0_2.out HB.out)); (case side4 => exact HC0_2.out); rintro e w20 ⟨rfl, hb⟩; replace BK299 := tbB BK299 hb; replace HB := Aside0.mk (below_step (tH1 HB GE299.out) hb); (try clear hb); (try clear hb2); (try clear hk); (try clear hi))))
 go_ret
 exact ⟨tE, tH1 HB GE299.out⟩

/-! ### laws_eqInt64S: function 29 -/
def laws_eqInt64S.l0 : Nat → List Int → List Int → Int → Option (Bool)
 | 0, _, _, _ => none
 | k + 1, x0, x1, x5 => if x5 < (x0.length : Int) then (if 0 ≤ x5 then (if x5 < (x1.length : Int) then (if (rd x0 x5) = (rd x1 x5) then (laws_eqInt64S.l0 k x0 x1 (wrap64 (x5 + 1))) else (some false)) else (none)) else (none)) else (some true)
def laws_eqInt64S.f (k : Nat) (l0 : List Int) (l1 : List Int) : Option (Bool) := if (l0.length : Int) = (l1.length : Int) then (laws_eqInt64S.l0 k l0 l1 0) else (some false)
theorem laws_eqInt64S.mono_l : ∀ k, (∀ y0 y1 y2, LeO (laws_eqInt64S.l0 k y0 y1 y2) (laws_eqInt64S.l0 (k + 1) y0 y1 y2))
 | 0 => fun _ _ _ r h => by simp [laws_eqInt64S.l0] at h
 | k + 1 => by
  have ih0 := laws_eqInt64S.mono_l k
  · intro y0 y1 y2
    unfold laws_eqInt64S.l0
    repeat' first
    | (with_reducible exact ih0 _ _ _)
    | (with_reducible exact LeO.refl _)
    | (with_reducible exact LeO.none _)
    | (with_reducible refine LeO.ite ?_ ?_)
    | (with_reducible refine LeO.bind ?_ (fun _ => ?_))
    | exact ih0 _ _ _
    | exact LeO.none _
    | refine LeO.ite ?_ ?_
    | refine LeO.bind ?_ (fun _ => ?_)
theorem laws_eqInt64S.mono : ∀ a0 a1 k, LeO (laws_eqInt64S.f k a0 a1) (laws_eqInt64S.f (k + 1) a0 a1) := by
 intro a0 a1 k
 have ih0 := laws_eqInt64S.mono_l k
 unfold laws_eqInt64S.f
 repeat' first
  | (with_reducible exact ih0 _ _ _)
  | (with_reducible exact LeO.refl _)
  | (with_reducible exact LeO.none _)
  | (with_reducible refine LeO.ite ?_ ?_)
  | (with_reducible refine LeO.bind ?_ (fun _ => ?_))
  | exact ih0 _ _ _
  | exact LeO.none _
  | refine LeO.ite ?_ ?_
  | refine LeO.bind ?_ (fun _ => ?_)
set_option maxHeartbeats 8000000 in
set_option maxRecDepth 100000 in
theorem laws_eqInt64S.calls (k : Nat) (A0 : Option Addr) (c0 : Nat) (l0 : List Int) (A1 : Option Addr) (c1 : Nat) (l1 : List Int) (r : Bool) (w : World) (hr0 : Kd.C (Kd.int .i64) w A0 l0.length l0) (hc0 : l0.length ≤ c0) (hr1 : Kd.C (Kd.int .i64) w A1 l1.length l1) (hc1 : l1.length ≤ c1) (h : laws_eqInt64S.f k l0 l1 = some r) :
 Calls Tryd.prog 29 #[.slice A0 l0.length c0, .slice A1 l1.length c1] w fun e w' => e = .returned (.bool r) ∧ Drawn0 w w' := by
 have HR0 := Aside0.mk hr0
 have HC0 := Aside0.mk hc0
 clear hr0 hc0
 have HR1 := Aside0.mk hr1
 have HC1 := Aside0.mk hc1
 clear hr1 hc1
 have H : (if (l0.length : Int) = (l1.length : Int) then (laws_eqInt64S.l0 k l0 l1 0) else (some false)) = some r := h
 clear h
 by_cases c3 : (l0.length : Int) = (l1.length : Int)
 · rw [if_pos c3] at H
   have c3b0 : ((l0.length : Int) == (l1.length : Int)) = true := beq_iff_eq.mpr c3
   have c3b1 : ((l0.length : Int) != (l1.length : Int)) = false := bne_eq_false_iff_eq.mpr c3
   have c3b2 : (l0.length == l1.length) = true := by first | simpa using c3 | (simp at c3 ⊢; omega)
   clear c3
   have H' := Aside0.mk H
   clear H
   go_enter Tryd.func29, Tryd.ntmps29
   go_wp2
   repeat (go_quiet (fail); try go_wp2)
   go_loopg [5] k (fun kq v5 w' => ∃ (x5_1 : Int), v5 = .int .i64 x5_1 ∧ Aside0 (laws_eqInt64S.l0 kq l0 l1 x5_1 = some r) ∧ Aside0 (kq ≤ k) ∧ Drawn0 w w')
   case atStart => exact ⟨(0), tq, H', ⟨Nat.le_refl _⟩, tZ⟩
   case round =>
   clear H'
   try clear c1
   try clear c2
   try clear p2
   try clear c3
   try clear c3b0
   try clear c3b1
   try clear c3b2
   obtain ⟨x5_1, rfl, HA, HK1, ⟨m1, rfl⟩⟩ := hrel
   cases gk with
   | zero => exact absurd HA.out (by simp [laws_eqInt64S.l0])
   | succ k1 =>
   have H := HA.out
   clear HA
   simp only [laws_eqInt64S.l0] at H
   by_cases c4 : x5_1 < (l0.length : Int)
   · rw [if_pos c4] at H
     have c4b0 : decide (x5_1 < (l0.length : Int)) = true := decide_eq_true c4
     clear c4
     by_cases c5 : 0 ≤ x5_1
     · rw [if_pos c5] at H
       have c5b0 : decide (0 ≤ x5_1) = true := decide_eq_true c5
       clear c5
       by_cases c6 : x5_1 < (l1.length : Int)
       · rw [if_pos c6] at H
         have c6b0 : decide (x5_1 < (l1.length : Int)) = true := decide_eq_true c6
         clear c6
         by_cases c7 : (rd l0 x5_1) = (rd l1 x5_1)
         · rw [if_pos c7] at H
           have c7b0 : ((rd l0 x5_1) == (rd l1 x5_1)) = true := beq_iff_eq.mpr c7
           have c7b1 : ((rd l0 x5_1) != (rd l1 x5_1)) = false := bne_eq_false_iff_eq.mpr c7
           clear c7
           have H' := Aside0.mk H
           clear H
           have p305 : 0 ≤ (x5_1 : Int) := of_decide_eq_true tA
           have q305 : x5_1 < (l0.length : Int) := of_decide_eq_true tA
           obtain ⟨ad305, e305, hx305_0⟩ := Kd.at_int HR0.out x5_1 p305 q305
           cases e305
           replace p305 := eq_true p305
           replace q305 := eq_true q305
           have p306 : 0 ≤ (x5_1 : Int) := of_decide_eq_true tA
           have q306 : x5_1 < (l1.length : Int) := of_decide_eq_true tA
           obtain ⟨ad306, e306, hx306_0⟩ := Kd.at_int HR1.out x5_1 p306 q306
           cases e306
           replace p306 := eq_true p306
           replace q306 := eq_true q306
           go_wp2
           repeat (go_quiet (fail); try go_wp2)
           go_roundg k1
           case measure => have := HK1.out; omega
           case rel => exact ⟨(wrap64 (x5_1 + 1)), tq, H', ⟨by have := HK1.out; omega⟩, tZ⟩
         rw [if_neg c7] at H
         have c7b0 : ((rd l0 x5_1) == (rd l1 x5_1)) = false := beq_eq_false_iff_ne.mpr c7
         have c7b1 : ((rd l0 x5_1) != (rd l1 x5_1)) = true := bne_iff_ne.mpr c7
         obtain rfl := Option.some.inj H
         have p305 : 0 ≤ (x5_1 : Int) := of_decide_eq_true tA
         have q305 : x5_1 < (l0.length : Int) := of_decide_eq_true tA
         obtain ⟨ad305, e305, hx305_0⟩ := Kd.at_int HR0.out x5_1 p305 q305
         cases e305
         replace p305 := eq_true p305
         replace q305 := eq_true q305
         have p306 : 0 ≤ (x5_1 : Int) := of_decide_eq_true tA
         have q306 : x5_1 < (l1.length : Int) := of_decide_eq_true tA
         obtain ⟨ad306, e306, hx306_0⟩ := Kd.at_int HR1.out x5_1 p306 q306
         cases e306
         replace p306 := eq_true p306
         replace q306 := eq_true q306
         go_wp2
         repeat (go_quiet (fail); try go_wp2)
         go_ret
         exact ⟨by first | rfl | (simp; done) | (simp [*]; done), tZ⟩
       rw [if_neg c6] at H
       exact absurd H (by simp)
     rw [if_neg c5] at H
     exact absurd H (by simp)
   rw [if_neg c4] at H
   have c4b0 : decide (x5_1 < (l0.length : Int)) = false := decide_eq_false c4
   clear c4
   obtain rfl := Option.some.inj H
   go_wp2
   repeat (go_quiet (fail); try go_wp2)
   go_ret
   exact ⟨by first | rfl | (simp; done) | (simp [*]; done), tZ⟩
 rw [if_neg c3] at H
 have c3b0 : ((l0.length : Int) == (l1.length : Int)) = false := beq_eq_false_iff_ne.mpr c3
 have c3b1 : ((l0.length : Int) != (l1.length : Int)) = true := bne_iff_ne.mpr c3
 have c3b2 : (l0.length == l1.length) = false := by first | simpa using c3 | (simp at c3 ⊢; omega)
 obtain rfl := Option.some.inj H
 go_enter Tryd.func29, Tryd.ntmps29
 go_wp2
 repeat (go_quiet (fail); try go_wp2)
 go_ret
 exact ⟨by first | rfl | (simp; done) | (simp [*]; done), tZ⟩

end Go.Proofs.YtmeflmlejcmckaaDoor.PS
