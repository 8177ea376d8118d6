-- WRITTEN BY wip/gprint.py, a program of this session's over the kit's print, with contracts given by hand
import Derived.Test.YtmeflmlejcmckaaDoorPSx0
import Derived.Test.YtmeflmlejcmckaaDoorPSx10
import Derived.Test.YtmeflmlejcmckaaDoorPSx21
namespace Go.Proofs.YtmeflmlejcmckaaDoor.PS
open Go.RowKit Go.Proofs.YtmeflmlejcmckaaDoorW.PrintWords Go.Proofs.YtmeflmlejcmckaaDoorW.PrintLast Go.Proofs.YtmeflmlejcmckaaDoorW.PrintMore
attribute [local go_sem] max2_int min2_int max_two min_two max_three min_three max_four min_four   -- for this text's walks alone
set_option linter.unusedVariables false
set_option linter.unusedSimpArgs false

/-! ### impl_sumOf: function 202 -/
def impl_sumOf.l0 : Nat → Int → List Int → Int → Int → Option (Int)
 | 0, _, _, _, _ => none
 | k + 1, x3, x6, x7, x8 => if x8 < x7 then (if 0 ≤ x8 then (if x8 < (x6.length : Int) then (impl_sumOf.l0 k (wrap64 (x3 + (rd x6 x8))) x6 x7 (wrap64 (x8 + 1))) else (none)) else (none)) else (some x3)
def impl_sumOf.f (k : Nat) (l0 : List Int) : Option (Int) := impl_sumOf.l0 k 0 l0 (l0.length : Int) 0
theorem impl_sumOf.mono_l : ∀ k, (∀ y0 y1 y2 y3, LeO (impl_sumOf.l0 k y0 y1 y2 y3) (impl_sumOf.l0 (k + 1) y0 y1 y2 y3))
 | 0 => fun _ _ _ _ r h => by simp [impl_sumOf.l0] at h
 | k + 1 => by
  have ih0 := impl_sumOf.mono_l k
  · intro y0 y1 y2 y3
    unfold impl_sumOf.l0
    repeat' first
    | (with_reducible exact ih0 _ _ _ _)
    | (with_reducible exact LeO.refl _)
    | (with_reducible exact LeO.none _)
    | (with_reducible refine LeO.ite ?_ ?_)
    | (with_reducible refine LeO.bind ?_ (fun _ => ?_))
    | exact ih0 _ _ _ _
    | exact LeO.none _
    | refine LeO.ite ?_ ?_
    | refine LeO.bind ?_ (fun _ => ?_)
theorem impl_sumOf.mono : ∀ a0 k, LeO (impl_sumOf.f k a0) (impl_sumOf.f (k + 1) a0) := by
 intro a0 k
 have ih0 := impl_sumOf.mono_l k
 unfold impl_sumOf.f
 repeat' first
  | (with_reducible exact ih0 _ _ _ _)
  | (with_reducible exact LeO.refl _)
  | (with_reducible exact LeO.none _)
  | (with_reducible refine LeO.ite ?_ ?_)
  | (with_reducible refine LeO.bind ?_ (fun _ => ?_))
  | exact ih0 _ _ _ _
  | exact LeO.none _
  | refine LeO.ite ?_ ?_
  | refine LeO.bind ?_ (fun _ => ?_)
set_option maxHeartbeats 8000000 in
set_option maxRecDepth 100000 in
theorem impl_sumOf.calls (k : Nat) (A0 : Option Addr) (c0 : Nat) (l0 : List Int) (r : Int) (w : World) (hr0 : Kd.C (Kd.int .i64) w A0 l0.length l0) (hc0 : l0.length ≤ c0) (h : impl_sumOf.f k l0 = some r) :
 Calls Tryd.prog 202 #[.slice A0 l0.length c0] w fun e w' => e = .returned (.int .i64 r) ∧ Drawn0 w w' := by
 have HR0 := Aside0.mk hr0
 have HC0 := Aside0.mk hc0
 clear hr0 hc0
 have H : (impl_sumOf.l0 k 0 l0 (l0.length : Int) 0) = some r := h
 clear h
 have H' := Aside0.mk H
 clear H
 go_enter Tryd.func202, Tryd.ntmps202
 go_wp2
 go_loopg [3, 8] k (fun kq v3 v8 w' => ∃ (x3_1 : Int) (x8_1 : Int), v3 = .int .i64 x3_1 ∧ v8 = .int .i64 x8_1 ∧ Aside0 (impl_sumOf.l0 kq x3_1 l0 (l0.length : Int) x8_1 = some r) ∧ Aside0 (kq ≤ k) ∧ Drawn0 w w')
 case atStart => exact ⟨(0), (0), tq, tq, H', ⟨Nat.le_refl _⟩, tZ⟩
 case round =>
 clear H'
 obtain ⟨x3_1, x8_1, rfl, rfl, HA, HK1, ⟨m1, rfl⟩⟩ := hrel
 cases gk with
 | zero => exact absurd HA.out (by simp [impl_sumOf.l0])
 | succ k1 =>
 have H := HA.out
 clear HA
 simp only [impl_sumOf.l0] at H
 by_cases c2 : x8_1 < (l0.length : Int)
 · rw [if_pos c2] at H
   have c2b0 : decide (x8_1 < (l0.length : Int)) = true := decide_eq_true c2
   clear c2
   by_cases c3 : 0 ≤ x8_1
   · rw [if_pos c3] at H
     have c3b0 : decide (0 ≤ x8_1) = true := decide_eq_true c3
     clear c3
     by_cases c4 : x8_1 < (l0.length : Int)
     · rw [if_pos c4] at H
       have c4b0 : decide (x8_1 < (l0.length : Int)) = true := decide_eq_true c4
       clear c4
       have H' := Aside0.mk H
       clear H
       have p289 : 0 ≤ (x8_1 : Int) := of_decide_eq_true tA
       have q289 : x8_1 < (l0.length : Int) := of_decide_eq_true tA
       obtain ⟨ad289, e289, hx289_0⟩ := Kd.at_int HR0.out x8_1 p289 q289
       cases e289
       replace p289 := eq_true p289
       replace q289 := eq_true q289
       go_wp2
       go_roundg k1
       case measure => have := HK1.out; omega
       case rel => exact ⟨(wrap64 (x3_1 + (rd l0 x8_1))), (wrap64 (x8_1 + 1)), tq, tq, H', ⟨by have := HK1.out; omega⟩, tZ⟩
     rw [if_neg c4] at H
     exact absurd H (by simp)
   rw [if_neg c3] at H
   exact absurd H (by simp)
 rw [if_neg c2] at H
 have c2b0 : decide (x8_1 < (l0.length : Int)) = false := decide_eq_false c2
 clear c2
 obtain rfl := Option.some.inj H
 go_wp2
 go_ret
 exact ⟨by first | rfl | (simp; done) | (simp [*]; done), tZ⟩

/-! ### impl_Tala_beats: function 161 -/
def impl_Tala_beats.f (k : Nat) (a0_0 : ByteArray) (l0_1 : List Int) (l0_2 : List Int) : Option (Int) := (impl_sumOf.f k l0_1).bind fun t291 => (some t291)
theorem impl_Tala_beats.mono : ∀ a0 a1 a2 k, LeO (impl_Tala_beats.f k a0 a1 a2) (impl_Tala_beats.f (k + 1) a0 a1 a2) := by
 intro a0 a1 a2 k
 unfold impl_Tala_beats.f
 repeat' first
  | (with_reducible exact impl_sumOf.mono _ _)
  | (with_reducible exact LeO.refl _)
  | (with_reducible exact LeO.none _)
  | (with_reducible refine LeO.ite ?_ ?_)
  | (with_reducible refine LeO.bind ?_ (fun _ => ?_))
  | exact impl_sumOf.mono _ _
  | exact LeO.none _
  | refine LeO.ite ?_ ?_
  | refine LeO.bind ?_ (fun _ => ?_)
set_option maxHeartbeats 8000000 in
set_option maxRecDepth 100000 in
theorem impl_Tala_beats.calls (k : Nat) (a0_0 : ByteArray) (A0_1 : Option Addr) (c0_1 : Nat) (l0_1 : List Int) (A0_2 : Option Addr) (c0_2 : Nat) (l0_2 : List Int) (r : Int) (w : World) (hr0_1 : Kd.C (Kd.int .i64) w A0_1 l0_1.length l0_1) (hc0_1 : l0_1.length ≤ c0_1) (hr0_2 : Kd.C (Kd.int .i64) w A0_2 l0_2.length l0_2) (hc0_2 : l0_2.length ≤ c0_2) (h : impl_Tala_beats.f k a0_0 l0_1 l0_2 = some r) :
 Calls Tryd.prog 161 #[.agg #[.string a0_0, .slice A0_1 l0_1.length c0_1, .slice A0_2 l0_2.length c0_2]] w fun e w' => e = .returned (.int .i64 r) ∧ Below w.heap.size w w' := by
 have hu39 := Tryd.underlying39
 have HR0_1 := Aside0.mk hr0_1
 have HC0_1 := Aside0.mk hc0_1
 clear hr0_1 hc0_1
 have HR0_2 := Aside0.mk hr0_2
 have HC0_2 := Aside0.mk hc0_2
 clear hr0_2 hc0_2
 have HB := Aside0.mk (Below.refl w.heap.size w)
 have H : ((impl_sumOf.f k l0_1).bind fun t291 => (some t291)) = some r := h
 clear h
 replace H := Option.bind_eq_some_iff.mp H
 obtain ⟨t291, A20, H⟩ := H
 replace H : (some t291) = some r := H
 have A2 := Aside0.mk A20
 clear A20
 obtain rfl := Option.some.inj H
 go_enter Tryd.func161, Tryd.ntmps161
 go_wp2_with (first | ((with_reducible refine gate_dst (N := 1) rfl ?_); refine box_event ?hg (N := 1) ?hd (cs := #[.string a0_0, .slice A0_1 l0_1.length c0_1, .slice A0_2 l0_2.length c0_2]) (t := 39) ?hr ?_; (case hd => rfl); (case hg => rfl); (case hr => first | (go_simp; done) | (go_simp; rfl)); intro gb290 hg w3 hbox hb; have BK290 := Aside0.mk (hbox); have GW290 := Aside0.mk ((by rw [hg]; exact (below_size (tH HB)) : w.heap.size ≤ gb290)); have GE290 := Aside0.mk ((by rw [hg]; exact (below_size (tH HB)) : w.heap.size ≤ gb290)); replace HB := Aside0.mk (below_step (tH HB) hb); clear hb hbox hg; have hcz4_0 : w3.cell? ⟨gb290, 0, none⟩ = some (.string a0_0) := (blk_cell BK290.out 0).trans rfl; have hcz4_1 : w3.cell? ⟨gb290, 1, none⟩ = some (.slice A0_1 l0_1.length c0_1) := (blk_cell BK290.out 1).trans rfl; have hcz4_2 : w3.cell? ⟨gb290, 2, none⟩ = some (.slice A0_2 l0_2.length c0_2) := (blk_cell BK290.out 2).trans rfl; have hfz4_0 := blk_frozen BK290.out 0; have hfz4_1 := blk_frozen BK290.out 1; have hfz4_2 := blk_frozen BK290.out 2) | ((with_reducible refine gate_callee (f := 202) rfl ?_); refine gL_ (some 5) rfl rfl Tryd.func202 #[.slice A0_1 l0_1.length c0_1] rfl ?_; (with_reducible refine (impl_sumOf.calls k _ _ l0_1 t291 _ ?side1 ?side2 A2.out).mono ?_); (case side1 => exact tC (Kd.C_below HR0_1.out HB.out)); (case side2 => exact HC0_1.out); rintro e w' ⟨rfl, ⟨nd, rfl⟩⟩; refine ⟨_, rfl, ?_⟩))
 go_ret
 exact ⟨tE, tH1 HB GE290.out⟩

/-! ### impl_ValidTala: function 99 -/
def impl_ValidTala.f (k : Nat) (a0_0 : ByteArray) (l0_1 : List Int) (l0_2 : List Int) : Option (Bool) := (impl_IsName.f k a0_0).bind fun t293 => (if t293 = true then (if (l0_1.length : Int) < 1 then (some false) else (if (l0_1.length : Int) > 8 then (some false) else ((impl_allWithin.f l0_1 1 16).bind fun t294 => (if t294 = true then ((impl_Tala_beats.f k a0_0 l0_1 l0_2).bind fun t295 => (if t295 > 32 then (some false) else (if (l0_2.length : Int) = (l0_1.length : Int) then (if 0 < (l0_2.length : Int) then (if (rd l0_2 0) = 1 then (if 1 ≤ (l0_2.length : Int) then ((impl_allWithin.f (l0_2.drop 1) 2 3).bind fun t298 => (some t298)) else (none)) else (some false)) else (none)) else (some false)))) else (some false))))) else (some false))
theorem impl_ValidTala.mono : ∀ a0 a1 a2 k, LeO (impl_ValidTala.f k a0 a1 a2) (impl_ValidTala.f (k + 1) a0 a1 a2) := by
 intro a0 a1 a2 k
 unfold impl_ValidTala.f
 repeat' first
  | (with_reducible exact impl_IsName.mono _ _)
  | (with_reducible exact impl_Tala_beats.mono _ _ _ _)
  | (with_reducible exact LeO.refl _)
  | (with_reducible exact LeO.none _)
  | (with_reducible refine LeO.ite ?_ ?_)
  | (with_reducible refine LeO.bind ?_ (fun _ => ?_))
  | exact impl_IsName.mono _ _
  | exact impl_Tala_beats.mono _ _ _ _
  | exact LeO.none _
  | refine LeO.ite ?_ ?_
  | refine LeO.bind ?_ (fun _ => ?_)
set_option maxHeartbeats 8000000 in
set_option maxRecDepth 100000 in
theorem impl_ValidTala.calls (k : Nat) (a0_0 : ByteArray) (A0_1 : Option Addr) (c0_1 : Nat) (l0_1 : List Int) (A0_2 : Option Addr) (c0_2 : Nat) (l0_2 : List Int) (r : Bool) (w : World) (hr0_1 : Kd.C (Kd.int .i64) w A0_1 l0_1.length l0_1) (hc0_1 : l0_1.length ≤ c0_1) (hr0_2 : Kd.C (Kd.int .i64) w A0_2 l0_2.length l0_2) (hc0_2 : l0_2.length ≤ c0_2) (h : impl_ValidTala.f k a0_0 l0_1 l0_2 = some r) :
 Calls Tryd.prog 99 #[.agg #[.string a0_0, .slice A0_1 l0_1.length c0_1, .slice A0_2 l0_2.length c0_2]] w fun e w' => e = .returned (.bool r) ∧ Below w.heap.size w w' := by
 have hu39 := Tryd.underlying39
 have HR0_1 := Aside0.mk hr0_1
 have HC0_1 := Aside0.mk hc0_1
 clear hr0_1 hc0_1
 have HR0_2 := Aside0.mk hr0_2
 have HC0_2 := Aside0.mk hc0_2
 clear hr0_2 hc0_2
 have HB := Aside0.mk (Below.refl w.heap.size w)
 have H : ((impl_IsName.f k a0_0).bind fun t293 => (if t293 = true then (if (l0_1.length : Int) < 1 then (some false) else (if (l0_1.length : Int) > 8 then (some false) else ((impl_allWithin.f l0_1 1 16).bind fun t294 => (if t294 = true then ((impl_Tala_beats.f k a0_0 l0_1 l0_2).bind fun t295 => (if t295 > 32 then (some false) else (if (l0_2.length : Int) = (l0_1.length : Int) then (if 0 < (l0_2.length : Int) then (if (rd l0_2 0) = 1 then (if 1 ≤ (l0_2.length : Int) then ((impl_allWithin.f (l0_2.drop 1) 2 3).bind fun t298 => (some t298)) else (none)) else (some false)) else (none)) else (some false)))) else (some false))))) else (some false))) = some r := h
 clear h
 replace H := Option.bind_eq_some_iff.mp H
 obtain ⟨t293, A20, H⟩ := H
 replace H : (if t293 = true then (if (l0_1.length : Int) < 1 then (some false) else (if (l0_1.length : Int) > 8 then (some false) else ((impl_allWithin.f l0_1 1 16).bind fun t294 => (if t294 = true then ((impl_Tala_beats.f k a0_0 l0_1 l0_2).bind fun t295 => (if t295 > 32 then (some false) else (if (l0_2.length : Int) = (l0_1.length : Int) then (if 0 < (l0_2.length : Int) then (if (rd l0_2 0) = 1 then (if 1 ≤ (l0_2.length : Int) then ((impl_allWithin.f (l0_2.drop 1) 2 3).bind fun t298 => (some t298)) else (none)) else (some false)) else (none)) else (some false)))) else (some false))))) else (some false)) = some r := H
 have A2 := Aside0.mk A20
 clear A20
 by_cases c3 : t293 = true
 · subst c3
   have H1 : (if (l0_1.length : Int) < 1 then (some false) else (if (l0_1.length : Int) > 8 then (some false) else ((impl_allWithin.f l0_1 1 16).bind fun t294 => (if t294 = true then ((impl_Tala_beats.f k a0_0 l0_1 l0_2).bind fun t295 => (if t295 > 32 then (some false) else (if (l0_2.length : Int) = (l0_1.length : Int) then (if 0 < (l0_2.length : Int) then (if (rd l0_2 0) = 1 then (if 1 ≤ (l0_2.length : Int) then ((impl_allWithin.f (l0_2.drop 1) 2 3).bind fun t298 => (some t298)) else (none)) else (some false)) else (none)) else (some false)))) else (some false))))) = some r := by rw [if_pos rfl] at H; exact H
   clear H
   have H := H1
   clear H1
   by_cases c4 : (l0_1.length : Int) < 1
   · rw [if_pos c4] at H
     have c4b0 : decide ((l0_1.length : Int) < 1) = true := decide_eq_true c4
     have c4b1 : decide (l0_1.length < 1) = true := decide_eq_true (by omega)
     clear c4
     obtain rfl := Option.some.inj H
     go_enter Tryd.func99, Tryd.ntmps99
     go_wp2_with (first | ((with_reducible refine gate_dst (N := 1) rfl ?_); (try (refine gate_guard (by rfl) ?_; dsimp only)); refine box_event ?hg (N := 1) ?hd (cs := #[.string a0_0, .slice A0_1 l0_1.length c0_1, .slice A0_2 l0_2.length c0_2]) (t := 39) ?hr ?_; (case hd => rfl); (case hg => rfl); (case hr => first | (go_simp; done) | (go_simp; rfl)); intro gb292 hg w5 hbox hb; have BK292 := Aside0.mk (hbox); have GW292 := Aside0.mk ((by rw [hg]; exact (below_size (tH HB)) : w.heap.size ≤ gb292)); have GE292 := Aside0.mk ((by rw [hg]; exact (below_size (tH HB)) : w.heap.size ≤ gb292)); replace HB := Aside0.mk (below_step (tH HB) hb); clear hb hbox hg; have hcz6_0 : w5.cell? ⟨gb292, 0, none⟩ = some (.string a0_0) := (blk_cell BK292.out 0).trans rfl; have hcz6_1 : w5.cell? ⟨gb292, 1, none⟩ = some (.slice A0_1 l0_1.length c0_1) := (blk_cell BK292.out 1).trans rfl; have hcz6_2 : w5.cell? ⟨gb292, 2, none⟩ = some (.slice A0_2 l0_2.length c0_2) := (blk_cell BK292.out 2).trans rfl; have hfz6_0 := blk_frozen BK292.out 0; have hfz6_1 := blk_frozen BK292.out 1; have hfz6_2 := blk_frozen BK292.out 2) | ((with_reducible refine gate_callee (f := 159) rfl ?_); refine gL_ (some 5) rfl rfl Tryd.func159 #[.string a0_0] rfl ?_; (with_reducible refine (impl_IsName.calls k a0_0 true _ A2.out).mono ?_); rintro e w' ⟨rfl, ⟨nd, rfl⟩⟩; refine ⟨_, rfl, ?_⟩))
     go_ret
     exact ⟨tE, tH1 HB GE292.out⟩
   rw [if_neg c4] at H
   have c4b0 : decide ((l0_1.length : Int) < 1) = false := decide_eq_false c4
   have c4b1 : decide (l0_1.length < 1) = false := decide_eq_false (by omega)
   clear c4
   by_cases c7 : (l0_1.length : Int) > 8
   · rw [if_pos c7] at H
     have c7b0 : decide (8 < (l0_1.length : Int)) = true := decide_eq_true c7
     have c7b1 : decide (8 < l0_1.length) = true := decide_eq_true (by omega)
     clear c7
     obtain rfl := Option.some.inj H
     go_enter Tryd.func99, Tryd.ntmps99
     go_wp2_with (first | ((with_reducible refine gate_dst (N := 1) rfl ?_); (try (refine gate_guard (by rfl) ?_; dsimp only)); refine box_event ?hg (N := 1) ?hd (cs := #[.string a0_0, .slice A0_1 l0_1.length c0_1, .slice A0_2 l0_2.length c0_2]) (t := 39) ?hr ?_; (case hd => rfl); (case hg => rfl); (case hr => first | (go_simp; done) | (go_simp; rfl)); intro gb292 hg w8 hbox hb; have BK292 := Aside0.mk (hbox); have GW292 := Aside0.mk ((by rw [hg]; exact (below_size (tH HB)) : w.heap.size ≤ gb292)); have GE292 := Aside0.mk ((by rw [hg]; exact (below_size (tH HB)) : w.heap.size ≤ gb292)); replace HB := Aside0.mk (below_step (tH HB) hb); clear hb hbox hg; have hcz9_0 : w8.cell? ⟨gb292, 0, none⟩ = some (.string a0_0) := (blk_cell BK292.out 0).trans rfl; have hcz9_1 : w8.cell? ⟨gb292, 1, none⟩ = some (.slice A0_1 l0_1.length c0_1) := (blk_cell BK292.out 1).trans rfl; have hcz9_2 : w8.cell? ⟨gb292, 2, none⟩ = some (.slice A0_2 l0_2.length c0_2) := (blk_cell BK292.out 2).trans rfl; have hfz9_0 := blk_frozen BK292.out 0; have hfz9_1 := blk_frozen BK292.out 1; have hfz9_2 := blk_frozen BK292.out 2) | ((with_reducible refine gate_callee (f := 159) rfl ?_); refine gL_ (some 5) rfl rfl Tryd.func159 #[.string a0_0] rfl ?_; (with_reducible refine (impl_IsName.calls k a0_0 true _ A2.out).mono ?_); rintro e w' ⟨rfl, ⟨nd, rfl⟩⟩; refine ⟨_, rfl, ?_⟩))
     go_ret
     exact ⟨tE, tH1 HB GE292.out⟩
   rw [if_neg c7] at H
   have c7b0 : decide (8 < (l0_1.length : Int)) = false := decide_eq_false c7
   have c7b1 : decide (8 < l0_1.length) = false := decide_eq_false (by omega)
   clear c7
   replace H := Option.bind_eq_some_iff.mp H
   obtain ⟨t294, A100, H⟩ := H
   replace H : (if t294 = true then ((impl_Tala_beats.f k a0_0 l0_1 l0_2).bind fun t295 => (if t295 > 32 then (some false) else (if (l0_2.length : Int) = (l0_1.length : Int) then (if 0 < (l0_2.length : Int) then (if (rd l0_2 0) = 1 then (if 1 ≤ (l0_2.length : Int) then ((impl_allWithin.f (l0_2.drop 1) 2 3).bind fun t298 => (some t298)) else (none)) else (some false)) else (none)) else (some false)))) else (some false)) = some r := H
   have A10 := Aside0.mk A100
   clear A100
   by_cases c11 : t294 = true
   · subst c11
     have H1 : ((impl_Tala_beats.f k a0_0 l0_1 l0_2).bind fun t295 => (if t295 > 32 then (some false) else (if (l0_2.length : Int) = (l0_1.length : Int) then (if 0 < (l0_2.length : Int) then (if (rd l0_2 0) = 1 then (if 1 ≤ (l0_2.length : Int) then ((impl_allWithin.f (l0_2.drop 1) 2 3).bind fun t298 => (some t298)) else (none)) else (some false)) else (none)) else (some false)))) = some r := by rw [if_pos rfl] at H; exact H
     clear H
     have H := H1
     clear H1
     replace H := Option.bind_eq_some_iff.mp H
     obtain ⟨t295, A120, H⟩ := H
     replace H : (if t295 > 32 then (some false) else (if (l0_2.length : Int) = (l0_1.length : Int) then (if 0 < (l0_2.length : Int) then (if (rd l0_2 0) = 1 then (if 1 ≤ (l0_2.length : Int) then ((impl_allWithin.f (l0_2.drop 1) 2 3).bind fun t298 => (some t298)) else (none)) else (some false)) else (none)) else (some false))) = some r := H
     have A12 := Aside0.mk A120
     clear A120
     by_cases c13 : t295 > 32
     · rw [if_pos c13] at H
       have c13b0 : decide (32 < t295) = true := decide_eq_true c13
       clear c13
       obtain rfl := Option.some.inj H
       go_enter Tryd.func99, Tryd.ntmps99
       go_wp2_with (first | ((with_reducible refine gate_dst (N := 1) rfl ?_); (try (refine gate_guard (by rfl) ?_; dsimp only)); refine box_event ?hg (N := 1) ?hd (cs := #[.string a0_0, .slice A0_1 l0_1.length c0_1, .slice A0_2 l0_2.length c0_2]) (t := 39) ?hr ?_; (case hd => rfl); (case hg => rfl); (case hr => first | (go_simp; done) | (go_simp; rfl)); intro gb292 hg w14 hbox hb; have BK292 := Aside0.mk (hbox); have GW292 := Aside0.mk ((by rw [hg]; exact (below_size (tH HB)) : w.heap.size ≤ gb292)); have GE292 := Aside0.mk ((by rw [hg]; exact (below_size (tH HB)) : w.heap.size ≤ gb292)); replace HB := Aside0.mk (below_step (tH HB) hb); clear hb hbox hg; have hcz15_0 : w14.cell? ⟨gb292, 0, none⟩ = some (.string a0_0) := (blk_cell BK292.out 0).trans rfl; have hcz15_1 : w14.cell? ⟨gb292, 1, none⟩ = some (.slice A0_1 l0_1.length c0_1) := (blk_cell BK292.out 1).trans rfl; have hcz15_2 : w14.cell? ⟨gb292, 2, none⟩ = some (.slice A0_2 l0_2.length c0_2) := (blk_cell BK292.out 2).trans rfl; have hfz15_0 := blk_frozen BK292.out 0; have hfz15_1 := blk_frozen BK292.out 1; have hfz15_2 := blk_frozen BK292.out 2) | ((with_reducible refine gate_callee (f := 159) rfl ?_); refine gL_ (some 5) rfl rfl Tryd.func159 #[.string a0_0] rfl ?_; (with_reducible refine (impl_IsName.calls k a0_0 true _ A2.out).mono ?_); rintro e w' ⟨rfl, ⟨nd, rfl⟩⟩; refine ⟨_, rfl, ?_⟩) | (go_at_call 160; (with_reducible refine (impl_allWithin.calls _ _ l0_1 1 16 true _ ?side1 ?side2 A10.out).mono ?_); (case side1 => exact Kd.C_below HR0_1.out (tH1 HB GE292.out)); (case side2 => exact HC0_1.out); rintro e w16 ⟨rfl, hb⟩; replace BK292 := tbB BK292 hb; replace HB := Aside0.mk (below_step (tH1 HB GE292.out) hb); (try clear hb); (try clear hb2); (try clear hk); (try clear hi); have hcz17_0 : w16.cell? ⟨gb292, 0, none⟩ = some (.string a0_0) := (blk_cell BK292.out 0).trans rfl; have hcz17_1 : w16.cell? ⟨gb292, 1, none⟩ = some (.slice A0_1 l0_1.length c0_1) := (blk_cell BK292.out 1).trans rfl; have hcz17_2 : w16.cell? ⟨gb292, 2, none⟩ = some (.slice A0_2 l0_2.length c0_2) := (blk_cell BK292.out 2).trans rfl; have hfz17_0 := blk_frozen BK292.out 0; have hfz17_1 := blk_frozen BK292.out 1; have hfz17_2 := blk_frozen BK292.out 2) | (go_at_call 161; (with_reducible refine (impl_Tala_beats.calls k a0_0 _ _ l0_1 _ _ l0_2 t295 _ ?side1 ?side2 ?side3 ?side4 A12.out).mono ?_); (case side1 => exact tC (Kd.C_below HR0_1.out HB.out)); (case side2 => exact HC0_1.out); (case side3 => exact tC (Kd.C_below HR0_2.out HB.out)); (case side4 => exact HC0_2.out); rintro e w18 ⟨rfl, hb⟩; replace BK292 := tbB BK292 hb; replace HB := Aside0.mk (below_step (tH1 HB GE292.out) hb); (try clear hb); (try clear hb2); (try clear hk); (try clear hi)))
       go_ret
       exact ⟨tE, tH1 HB GE292.out⟩
     rw [if_neg c13] at H
     have c13b0 : decide (32 < t295) = false := decide_eq_false c13
     clear c13
     by_cases c19 : (l0_2.length : Int) = (l0_1.length : Int)
     · rw [if_pos c19] at H
       have c19b0 : ((l0_2.length : Int) == (l0_1.length : Int)) = true := beq_iff_eq.mpr c19
       have c19b1 : ((l0_2.length : Int) != (l0_1.length : Int)) = false := bne_eq_false_iff_eq.mpr c19
       have c19b2 : (l0_2.length == l0_1.length) = true := by first | simpa using c19 | (simp at c19 ⊢; omega)
       clear c19
       by_cases c20 : 0 < (l0_2.length : Int)
       · rw [if_pos c20] at H
         have c20b0 : decide (0 < (l0_2.length : Int)) = true := decide_eq_true c20
         have c20b1 : decide (0 < l0_2.length) = true := decide_eq_true (by omega)
         clear c20
         by_cases c21 : (rd l0_2 0) = 1
         · rw [if_pos c21] at H
           have c21b0 : ((rd l0_2 0) == 1) = true := beq_iff_eq.mpr c21
           have c21b1 : ((rd l0_2 0) != 1) = false := bne_eq_false_iff_eq.mpr c21
           clear c21
           by_cases c22 : 1 ≤ (l0_2.length : Int)
           · rw [if_pos c22] at H
             have c22b0 := eq_true c22
             have c22b1 : decide (1 ≤ (l0_2.length : Int)) = true := decide_eq_true c22
             clear c22
             replace H := Option.bind_eq_some_iff.mp H
             obtain ⟨t298, A230, H⟩ := H
             replace H : (some t298) = some r := H
             have A23 := Aside0.mk A230
             clear A230
             obtain rfl := Option.some.inj H
             go_enter Tryd.func99, Tryd.ntmps99
             go_wp2_with (first | ((with_reducible refine gate_dst (N := 1) rfl ?_); (try (refine gate_guard (by rfl) ?_; dsimp only)); refine box_event ?hg (N := 1) ?hd (cs := #[.string a0_0, .slice A0_1 l0_1.length c0_1, .slice A0_2 l0_2.length c0_2]) (t := 39) ?hr ?_; (case hd => rfl); (case hg => rfl); (case hr => first | (go_simp; done) | (go_simp; rfl)); intro gb292 hg w24 hbox hb; have BK292 := Aside0.mk (hbox); have GW292 := Aside0.mk ((by rw [hg]; exact (below_size (tH HB)) : w.heap.size ≤ gb292)); have GE292 := Aside0.mk ((by rw [hg]; exact (below_size (tH HB)) : w.heap.size ≤ gb292)); replace HB := Aside0.mk (below_step (tH HB) hb); clear hb hbox hg; have hcz25_0 : w24.cell? ⟨gb292, 0, none⟩ = some (.string a0_0) := (blk_cell BK292.out 0).trans rfl; have hcz25_1 : w24.cell? ⟨gb292, 1, none⟩ = some (.slice A0_1 l0_1.length c0_1) := (blk_cell BK292.out 1).trans rfl; have hcz25_2 : w24.cell? ⟨gb292, 2, none⟩ = some (.slice A0_2 l0_2.length c0_2) := (blk_cell BK292.out 2).trans rfl; have hfz25_0 := blk_frozen BK292.out 0; have hfz25_1 := blk_frozen BK292.out 1; have hfz25_2 := blk_frozen BK292.out 2) | ((with_reducible refine gate_callee (f := 159) rfl ?_); refine gL_ (some 5) rfl rfl Tryd.func159 #[.string a0_0] rfl ?_; (with_reducible refine (impl_IsName.calls k a0_0 true _ A2.out).mono ?_); rintro e w' ⟨rfl, ⟨nd, rfl⟩⟩; refine ⟨_, rfl, ?_⟩) | (go_at_call 160; (with_reducible refine (impl_allWithin.calls _ _ l0_1 1 16 true _ ?side1 ?side2 A10.out).mono ?_); (case side1 => exact Kd.C_below HR0_1.out (tH1 HB GE292.out)); (case side2 => exact HC0_1.out); rintro e w26 ⟨rfl, hb⟩; replace BK292 := tbB BK292 hb; replace HB := Aside0.mk (below_step (tH1 HB GE292.out) hb); (try clear hb); (try clear hb2); (try clear hk); (try clear hi); have hcz27_0 : w26.cell? ⟨gb292, 0, none⟩ = some (.string a0_0) := (blk_cell BK292.out 0).trans rfl; have hcz27_1 : w26.cell? ⟨gb292, 1, none⟩ = some (.slice A0_1 l0_1.length c0_1) := (blk_cell BK292.out 1).trans rfl; have hcz27_2 : w26.cell? ⟨gb292, 2, none⟩ = some (.slice A0_2 l0_2.length c0_2) := (blk_cell BK292.out 2).trans rfl; have hfz27_0 := blk_frozen BK292.out 0; have hfz27_1 := blk_frozen BK292.out 1; have hfz27_2 := blk_frozen BK292.out 2) | (go_at_call 161; (with_reducible refine (impl_Tala_beats.calls k a0_0 _ _ l0_1 _ _ l0_2 t295 _ ?side1 ?side2 ?side3 ?side4 A12.out).mono ?_); (case side1 => exact tC (Kd.C_below HR0_1.out HB.out)); (case side2 => exact HC0_1.out); (case side3 => exact tC (Kd.C_below HR0_2.out HB.out)); (case side4 => exact HC0_2.out); rintro e w28 ⟨rfl, hb⟩; replace BK292 := tbB BK292 hb; replace HB := Aside0.mk (below_step (tH1 HB GE292.out) hb); (try clear hb); (try clear hb2); (try clear hk); (try clear hi); have hcz29_0 : w28.cell? ⟨gb292, 0, none⟩ = some (.string a0_0) := (blk_cell BK292.out 0).trans rfl; have hcz29_1 : w28.cell? ⟨gb292, 1, none⟩ = some (.slice A0_1 l0_1.length c0_1) := (blk_cell BK292.out 1).trans rfl; have hcz29_2 : w28.cell? ⟨gb292, 2, none⟩ = some (.slice A0_2 l0_2.length c0_2) := (blk_cell BK292.out 2).trans rfl; have hfz29_0 := blk_frozen BK292.out 0; have hfz29_1 := blk_frozen BK292.out 1; have hfz29_2 := blk_frozen BK292.out 2; have p296 : 0 ≤ (0 : Int) := (by omega); have q296 : 0 < (l0_2.length : Int) := of_decide_eq_true tA; obtain ⟨ad296, e296, hx296_0⟩ := Kd.at_int HR0_2.out 0 p296 q296; cases e296; have qi296 : (0 < l0_2.length) = True := eq_true (by omega); (try rw [t0n] at hx296_0); (try rw [Addr.add_zero'] at hx296_0); replace hx296_0 := tW HB hx296_0; replace p296 := eq_true p296; replace q296 := eq_true q296; obtain ⟨i030, hi030, _, hsz30, _⟩ := info_parts info2; obtain ⟨A30, hcut30, hA30, hC30⟩ := print_drop_of (P := Tryd.prog) (Value.int .i64) 0 34 2 .i64 Tryd.underlying34 hi030 hsz30 (some ad296) c0_2 l0_2 1 (by omega) (of_decide_eq_true tA) HC0_2.out; have HR297 := Aside0.mk (Kd.C_of_reads (h1 := fun _ => rfl) (hA30 _ (Kd.reads_of_C HR0_2.out))); have HC297 := Aside0.mk hC30; clear hA30 hC30 hi030 hsz30) | (go_at_call 160; refine calls_of_args (args' := #[.slice A30 (l0_2.drop 1).length (c0_2 - 1), .int .i64 2, .int .i64 3]) (by first | rfl | rfl | (simp only [List.length_drop, List.length_take]; done) | (simp only [List.length_drop, List.length_take]; rfl)) ?_; (with_reducible refine (impl_allWithin.calls _ _ (l0_2.drop 1) 2 3 t298 _ ?side1 ?side2 A23.out).mono ?_); (case side1 => exact tC (Kd.C_below HR297.out HB.out)); (case side2 => exact HC297.out); rintro e w31 ⟨rfl, hb⟩; replace BK292 := tbB BK292 hb; replace HB := Aside0.mk (below_step (tH1 HB GE292.out) hb); (try clear hb); (try clear hb2); (try clear hk); (try clear hi)))
             go_ret
             exact ⟨tE, tH1 HB GE292.out⟩
           rw [if_neg c22] at H
           exact absurd H (by simp)
         rw [if_neg c21] at H
         have c21b0 : ((rd l0_2 0) == 1) = false := beq_eq_false_iff_ne.mpr c21
         have c21b1 : ((rd l0_2 0) != 1) = true := bne_iff_ne.mpr c21
         obtain rfl := Option.some.inj H
         go_enter Tryd.func99, Tryd.ntmps99
         go_wp2_with (first | ((with_reducible refine gate_dst (N := 1) rfl ?_); (try (refine gate_guard (by rfl) ?_; dsimp only)); refine box_event ?hg (N := 1) ?hd (cs := #[.string a0_0, .slice A0_1 l0_1.length c0_1, .slice A0_2 l0_2.length c0_2]) (t := 39) ?hr ?_; (case hd => rfl); (case hg => rfl); (case hr => first | (go_simp; done) | (go_simp; rfl)); intro gb292 hg w32 hbox hb; have BK292 := Aside0.mk (hbox); have GW292 := Aside0.mk ((by rw [hg]; exact (below_size (tH HB)) : w.heap.size ≤ gb292)); have GE292 := Aside0.mk ((by rw [hg]; exact (below_size (tH HB)) : w.heap.size ≤ gb292)); replace HB := Aside0.mk (below_step (tH HB) hb); clear hb hbox hg; have hcz33_0 : w32.cell? ⟨gb292, 0, none⟩ = some (.string a0_0) := (blk_cell BK292.out 0).trans rfl; have hcz33_1 : w32.cell? ⟨gb292, 1, none⟩ = some (.slice A0_1 l0_1.length c0_1) := (blk_cell BK292.out 1).trans rfl; have hcz33_2 : w32.cell? ⟨gb292, 2, none⟩ = some (.slice A0_2 l0_2.length c0_2) := (blk_cell BK292.out 2).trans rfl; have hfz33_0 := blk_frozen BK292.out 0; have hfz33_1 := blk_frozen BK292.out 1; have hfz33_2 := blk_frozen BK292.out 2) | ((with_reducible refine gate_callee (f := 159) rfl ?_); refine gL_ (some 5) rfl rfl Tryd.func159 #[.string a0_0] rfl ?_; (with_reducible refine (impl_IsName.calls k a0_0 true _ A2.out).mono ?_); rintro e w' ⟨rfl, ⟨nd, rfl⟩⟩; refine ⟨_, rfl, ?_⟩) | (go_at_call 160; (with_reducible refine (impl_allWithin.calls _ _ l0_1 1 16 true _ ?side1 ?side2 A10.out).mono ?_); (case side1 => exact Kd.C_below HR0_1.out (tH1 HB GE292.out)); (case side2 => exact HC0_1.out); rintro e w34 ⟨rfl, hb⟩; replace BK292 := tbB BK292 hb; replace HB := Aside0.mk (below_step (tH1 HB GE292.out) hb); (try clear hb); (try clear hb2); (try clear hk); (try clear hi); have hcz35_0 : w34.cell? ⟨gb292, 0, none⟩ = some (.string a0_0) := (blk_cell BK292.out 0).trans rfl; have hcz35_1 : w34.cell? ⟨gb292, 1, none⟩ = some (.slice A0_1 l0_1.length c0_1) := (blk_cell BK292.out 1).trans rfl; have hcz35_2 : w34.cell? ⟨gb292, 2, none⟩ = some (.slice A0_2 l0_2.length c0_2) := (blk_cell BK292.out 2).trans rfl; have hfz35_0 := blk_frozen BK292.out 0; have hfz35_1 := blk_frozen BK292.out 1; have hfz35_2 := blk_frozen BK292.out 2) | (go_at_call 161; (with_reducible refine (impl_Tala_beats.calls k a0_0 _ _ l0_1 _ _ l0_2 t295 _ ?side1 ?side2 ?side3 ?side4 A12.out).mono ?_); (case side1 => exact tC (Kd.C_below HR0_1.out HB.out)); (case side2 => exact HC0_1.out); (case side3 => exact tC (Kd.C_below HR0_2.out HB.out)); (case side4 => exact HC0_2.out); rintro e w36 ⟨rfl, hb⟩; replace BK292 := tbB BK292 hb; replace HB := Aside0.mk (below_step (tH1 HB GE292.out) hb); (try clear hb); (try clear hb2); (try clear hk); (try clear hi); have hcz37_0 : w36.cell? ⟨gb292, 0, none⟩ = some (.string a0_0) := (blk_cell BK292.out 0).trans rfl; have hcz37_1 : w36.cell? ⟨gb292, 1, none⟩ = some (.slice A0_1 l0_1.length c0_1) := (blk_cell BK292.out 1).trans rfl; have hcz37_2 : w36.cell? ⟨gb292, 2, none⟩ = some (.slice A0_2 l0_2.length c0_2) := (blk_cell BK292.out 2).trans rfl; have hfz37_0 := blk_frozen BK292.out 0; have hfz37_1 := blk_frozen BK292.out 1; have hfz37_2 := blk_frozen BK292.out 2; have p296 : 0 ≤ (0 : Int) := (by omega); have q296 : 0 < (l0_2.length : Int) := of_decide_eq_true tA; obtain ⟨ad296, e296, hx296_0⟩ := Kd.at_int HR0_2.out 0 p296 q296; cases e296; have qi296 : (0 < l0_2.length) = True := eq_true (by omega); (try rw [t0n] at hx296_0); (try rw [Addr.add_zero'] at hx296_0); replace hx296_0 := tW HB hx296_0; replace p296 := eq_true p296; replace q296 := eq_true q296))
         go_ret
         exact ⟨tE, tH1 HB GE292.out⟩
       rw [if_neg c20] at H
       exact absurd H (by simp)
     rw [if_neg c19] at H
     have c19b0 : ((l0_2.length : Int) == (l0_1.length : Int)) = false := beq_eq_false_iff_ne.mpr c19
     have c19b1 : ((l0_2.length : Int) != (l0_1.length : Int)) = true := bne_iff_ne.mpr c19
     have c19b2 : (l0_2.length == l0_1.length) = false := by first | simpa using c19 | (simp at c19 ⊢; omega)
     obtain rfl := Option.some.inj H
     go_enter Tryd.func99, Tryd.ntmps99
     go_wp2_with (first | ((with_reducible refine gate_dst (N := 1) rfl ?_); (try (refine gate_guard (by rfl) ?_; dsimp only)); refine box_event ?hg (N := 1) ?hd (cs := #[.string a0_0, .slice A0_1 l0_1.length c0_1, .slice A0_2 l0_2.length c0_2]) (t := 39) ?hr ?_; (case hd => rfl); (case hg => rfl); (case hr => first | (go_simp; done) | (go_simp; rfl)); intro gb292 hg w38 hbox hb; have BK292 := Aside0.mk (hbox); have GW292 := Aside0.mk ((by rw [hg]; exact (below_size (tH HB)) : w.heap.size ≤ gb292)); have GE292 := Aside0.mk ((by rw [hg]; exact (below_size (tH HB)) : w.heap.size ≤ gb292)); replace HB := Aside0.mk (below_step (tH HB) hb); clear hb hbox hg; have hcz39_0 : w38.cell? ⟨gb292, 0, none⟩ = some (.string a0_0) := (blk_cell BK292.out 0).trans rfl; have hcz39_1 : w38.cell? ⟨gb292, 1, none⟩ = some (.slice A0_1 l0_1.length c0_1) := (blk_cell BK292.out 1).trans rfl; have hcz39_2 : w38.cell? ⟨gb292, 2, none⟩ = some (.slice A0_2 l0_2.length c0_2) := (blk_cell BK292.out 2).trans rfl; have hfz39_0 := blk_frozen BK292.out 0; have hfz39_1 := blk_frozen BK292.out 1; have hfz39_2 := blk_frozen BK292.out 2) | ((with_reducible refine gate_callee (f := 159) rfl ?_); refine gL_ (some 5) rfl rfl Tryd.func159 #[.string a0_0] rfl ?_; (with_reducible refine (impl_IsName.calls k a0_0 true _ A2.out).mono ?_); rintro e w' ⟨rfl, ⟨nd, rfl⟩⟩; refine ⟨_, rfl, ?_⟩) | (go_at_call 160; (with_reducible refine (impl_allWithin.calls _ _ l0_1 1 16 true _ ?side1 ?side2 A10.out).mono ?_); (case side1 => exact Kd.C_below HR0_1.out (tH1 HB GE292.out)); (case side2 => exact HC0_1.out); rintro e w40 ⟨rfl, hb⟩; replace BK292 := tbB BK292 hb; replace HB := Aside0.mk (below_step (tH1 HB GE292.out) hb); (try clear hb); (try clear hb2); (try clear hk); (try clear hi); have hcz41_0 : w40.cell? ⟨gb292, 0, none⟩ = some (.string a0_0) := (blk_cell BK292.out 0).trans rfl; have hcz41_1 : w40.cell? ⟨gb292, 1, none⟩ = some (.slice A0_1 l0_1.length c0_1) := (blk_cell BK292.out 1).trans rfl; have hcz41_2 : w40.cell? ⟨gb292, 2, none⟩ = some (.slice A0_2 l0_2.length c0_2) := (blk_cell BK292.out 2).trans rfl; have hfz41_0 := blk_frozen BK292.out 0; have hfz41_1 := blk_frozen BK292.out 1; have hfz41_2 := blk_frozen BK292.out 2) | (go_at_call 161; (with_reducible refine (impl_Tala_beats.calls k a0_0 _ _ l0_1 _ _ l0_2 t295 _ ?side1 ?side2 ?side3 ?side4 A12.out).mono ?_); (case side1 => exact tC (Kd.C_below HR0_1.out HB.out)); (case side2 => exact HC0_1.out); (case side3 => exact tC (Kd.C_below HR0_2.out HB.out)); (case side4 => exact HC0_2.out); rintro e w42 ⟨rfl, hb⟩; replace BK292 := tbB BK292 hb; replace HB := Aside0.mk (below_step (tH1 HB GE292.out) hb); (try clear hb); (try clear hb2); (try clear hk); (try clear hi); have hcz43_0 : w42.cell? ⟨gb292, 0, none⟩ = some (.string a0_0) := (blk_cell BK292.out 0).trans rfl; have hcz43_1 : w42.cell? ⟨gb292, 1, none⟩ = some (.slice A0_1 l0_1.length c0_1) := (blk_cell BK292.out 1).trans rfl; have hcz43_2 : w42.cell? ⟨gb292, 2, none⟩ = some (.slice A0_2 l0_2.length c0_2) := (blk_cell BK292.out 2).trans rfl; have hfz43_0 := blk_frozen BK292.out 0; have hfz43_1 := blk_frozen BK292.out 1; have hfz43_2 := blk_frozen BK292.out 2))
     go_ret
     exact ⟨tE, tH1 HB GE292.out⟩
   replace c11 := Bool.eq_false_iff.mpr c11
   subst c11
   have H1 : (some false) = some r := by rw [if_neg (show ¬ (false = true) by decide)] at H; exact H
   clear H
   have H := H1
   clear H1
   obtain rfl := Option.some.inj H
   go_enter Tryd.func99, Tryd.ntmps99
   go_wp2_with (first | ((with_reducible refine gate_dst (N := 1) rfl ?_); (try (refine gate_guard (by rfl) ?_; dsimp only)); refine box_event ?hg (N := 1) ?hd (cs := #[.string a0_0, .slice A0_1 l0_1.length c0_1, .slice A0_2 l0_2.length c0_2]) (t := 39) ?hr ?_; (case hd => rfl); (case hg => rfl); (case hr => first | (go_simp; done) | (go_simp; rfl)); intro gb292 hg w44 hbox hb; have BK292 := Aside0.mk (hbox); have GW292 := Aside0.mk ((by rw [hg]; exact (below_size (tH HB)) : w.heap.size ≤ gb292)); have GE292 := Aside0.mk ((by rw [hg]; exact (below_size (tH HB)) : w.heap.size ≤ gb292)); replace HB := Aside0.mk (below_step (tH HB) hb); clear hb hbox hg; have hcz45_0 : w44.cell? ⟨gb292, 0, none⟩ = some (.string a0_0) := (blk_cell BK292.out 0).trans rfl; have hcz45_1 : w44.cell? ⟨gb292, 1, none⟩ = some (.slice A0_1 l0_1.length c0_1) := (blk_cell BK292.out 1).trans rfl; have hcz45_2 : w44.cell? ⟨gb292, 2, none⟩ = some (.slice A0_2 l0_2.length c0_2) := (blk_cell BK292.out 2).trans rfl; have hfz45_0 := blk_frozen BK292.out 0; have hfz45_1 := blk_frozen BK292.out 1; have hfz45_2 := blk_frozen BK292.out 2) | ((with_reducible refine gate_callee (f := 159) rfl ?_); refine gL_ (some 5) rfl rfl Tryd.func159 #[.string a0_0] rfl ?_; (with_reducible refine (impl_IsName.calls k a0_0 true _ A2.out).mono ?_); rintro e w' ⟨rfl, ⟨nd, rfl⟩⟩; refine ⟨_, rfl, ?_⟩) | (go_at_call 160; (with_reducible refine (impl_allWithin.calls _ _ l0_1 1 16 false _ ?side1 ?side2 A10.out).mono ?_); (case side1 => exact Kd.C_below HR0_1.out (tH1 HB GE292.out)); (case side2 => exact HC0_1.out); rintro e w46 ⟨rfl, hb⟩; replace BK292 := tbB BK292 hb; replace HB := Aside0.mk (below_step (tH1 HB GE292.out) hb); (try clear hb); (try clear hb2); (try clear hk); (try clear hi)))
   go_ret
   exact ⟨tE, tH1 HB GE292.out⟩
 replace c3 := Bool.eq_false_iff.mpr c3
 subst c3
 have H1 : (some false) = some r := by rw [if_neg (show ¬ (false = true) by decide)] at H; exact H
 clear H
 have H := H1
 clear H1
 obtain rfl := Option.some.inj H
 go_enter Tryd.func99, Tryd.ntmps99
 go_wp2_with (first | ((with_reducible refine gate_dst (N := 1) rfl ?_); (try (refine gate_guard (by rfl) ?_; dsimp only)); refine box_event ?hg (N := 1) ?hd (cs := #[.string a0_0, .slice A0_1 l0_1.length c0_1, .slice A0_2 l0_2.length c0_2]) (t := 39) ?hr ?_; (case hd => rfl); (case hg => rfl); (case hr => first | (go_simp; done) | (go_simp; rfl)); intro gb292 hg w47 hbox hb; have BK292 := Aside0.mk (hbox); have GW292 := Aside0.mk ((by rw [hg]; exact (below_size (tH HB)) : w.heap.size ≤ gb292)); have GE292 := Aside0.mk ((by rw [hg]; exact (below_size (tH HB)) : w.heap.size ≤ gb292)); replace HB := Aside0.mk (below_step (tH HB) hb); clear hb hbox hg; have hcz48_0 : w47.cell? ⟨gb292, 0, none⟩ = some (.string a0_0) := (blk_cell BK292.out 0).trans rfl; have hcz48_1 : w47.cell? ⟨gb292, 1, none⟩ = some (.slice A0_1 l0_1.length c0_1) := (blk_cell BK292.out 1).trans rfl; have hcz48_2 : w47.cell? ⟨gb292, 2, none⟩ = some (.slice A0_2 l0_2.length c0_2) := (blk_cell BK292.out 2).trans rfl; have hfz48_0 := blk_frozen BK292.out 0; have hfz48_1 := blk_frozen BK292.out 1; have hfz48_2 := blk_frozen BK292.out 2) | ((with_reducible refine gate_callee (f := 159) rfl ?_); refine gL_ (some 5) rfl rfl Tryd.func159 #[.string a0_0] rfl ?_; (with_reducible refine (impl_IsName.calls k a0_0 false _ A2.out).mono ?_); rintro e w' ⟨rfl, ⟨nd, rfl⟩⟩; refine ⟨_, rfl, ?_⟩))
 go_ret
 exact ⟨tE, tH1 HB GE292.out⟩

/-! ### impl_markText: function 100 (a contract given by hand) -/
theorem ix_marks : Tryd.prog.underlying 166 = some (.array 4 9) := by kernel_rfl
def impl_markText.f (a0 : Int) : Option (ByteArray) := if a0 = 1 then (some (⟨#[88]⟩ : ByteArray)) else (if a0 = 2 then (some (⟨#[43]⟩ : ByteArray)) else (if a0 = 3 then (some (⟨#[111]⟩ : ByteArray)) else none))
set_option maxHeartbeats 8000000 in
set_option maxRecDepth 100000 in
theorem impl_markText.calls (a0 : Int) (r : ByteArray) (w : World) (h : impl_markText.f a0 = some r) :
 Calls Tryd.prog 100 #[.int .i64 a0] w fun e w' => e = .returned (.string r) ∧ Drawn0 w w' := by
 have H : (if a0 = 1 then (some (⟨#[88]⟩ : ByteArray)) else (if a0 = 2 then (some (⟨#[43]⟩ : ByteArray)) else (if a0 = 3 then (some (⟨#[111]⟩ : ByteArray)) else none))) = some r := h
 clear h
 have i1 : ∀ w, (Instr.index 166 (.agg #[.string ⟨#[]⟩, .string ⟨#[88]⟩, .string ⟨#[43]⟩, .string ⟨#[111]⟩]) (.int .i64 1)).run Tryd.prog w = .ok (.string ⟨#[88]⟩) w := fun w => ix_arr ix_marks w (by kernel_rfl) (by kernel_rfl) _ _ _ _ (by decide) (by decide) rfl
 have i2 : ∀ w, (Instr.index 166 (.agg #[.string ⟨#[]⟩, .string ⟨#[88]⟩, .string ⟨#[43]⟩, .string ⟨#[111]⟩]) (.int .i64 2)).run Tryd.prog w = .ok (.string ⟨#[43]⟩) w := fun w => ix_arr ix_marks w (by kernel_rfl) (by kernel_rfl) _ _ _ _ (by decide) (by decide) rfl
 have i3 : ∀ w, (Instr.index 166 (.agg #[.string ⟨#[]⟩, .string ⟨#[88]⟩, .string ⟨#[43]⟩, .string ⟨#[111]⟩]) (.int .i64 3)).run Tryd.prog w = .ok (.string ⟨#[111]⟩) w := fun w => ix_arr ix_marks w (by kernel_rfl) (by kernel_rfl) _ _ _ _ (by decide) (by decide) rfl
 by_cases c1 : a0 = 1
 · subst c1
   rw [if_pos rfl] at H
   obtain rfl := Option.some.inj H
   go_enter Tryd.func100, Tryd.ntmps100
   go_wp2
   go_ret
   exact ⟨by first | rfl | (simp; done) | (simp [*]; done), tZ⟩
 rw [if_neg c1] at H
 by_cases c2 : a0 = 2
 · subst c2
   rw [if_pos rfl] at H
   obtain rfl := Option.some.inj H
   go_enter Tryd.func100, Tryd.ntmps100
   go_wp2
   go_ret
   exact ⟨by first | rfl | (simp; done) | (simp [*]; done), tZ⟩
 rw [if_neg c2] at H
 by_cases c3 : a0 = 3
 · subst c3
   rw [if_pos rfl] at H
   obtain rfl := Option.some.inj H
   go_enter Tryd.func100, Tryd.ntmps100
   go_wp2
   go_ret
   exact ⟨by first | rfl | (simp; done) | (simp [*]; done), tZ⟩
 rw [if_neg c3] at H
 cases H

end Go.Proofs.YtmeflmlejcmckaaDoor.PS
