-- WRITTEN BY wip/gprint.py, a program of this session's over the kit's print, with contracts given by hand
import Derived.Test.YtmeflmlejcmckaaDoorPCx0
import Derived.Test.YtmeflmlejcmckaaDoorPCx5
namespace Go.Proofs.YtmeflmlejcmckaaDoor.PC
open Go.RowKit Go.Proofs.YtmeflmlejcmckaaDoorW.PrintWords Go.Proofs.YtmeflmlejcmckaaDoorW.PrintLast Go.Proofs.YtmeflmlejcmckaaDoorW.PrintMore
attribute [local go_sem] max2_int min2_int max_two min_two max_three min_three max_four min_four   -- for this text's walks alone
set_option linter.unusedVariables false
set_option linter.unusedSimpArgs false

/-! ### impl_ValidRatio: function 108 -/
def impl_ValidRatio.f (k : Nat) (a0_0 : Int) (a0_1 : Int) : Option (Bool) := (impl_within.f a0_0 1 1000000).bind fun t188 => (if t188 = true then ((impl_within.f a0_1 1 1000000).bind fun t189 => (if t189 = true then ((impl_commonDivisor.f k a0_0 a0_1).bind fun t190 => (some (t190 == 1))) else (some false))) else (some false))
theorem impl_ValidRatio.mono : ∀ a0 a1 k, LeO (impl_ValidRatio.f k a0 a1) (impl_ValidRatio.f (k + 1) a0 a1) := by
 intro a0 a1 k
 unfold impl_ValidRatio.f
 repeat' first
  | (with_reducible exact impl_commonDivisor.mono _ _ _)
  | (with_reducible exact LeO.refl _)
  | (with_reducible exact LeO.none _)
  | (with_reducible refine LeO.ite ?_ ?_)
  | (with_reducible refine LeO.bind ?_ (fun _ => ?_))
  | exact impl_commonDivisor.mono _ _ _
  | exact LeO.none _
  | refine LeO.ite ?_ ?_
  | refine LeO.bind ?_ (fun _ => ?_)
set_option maxHeartbeats 8000000 in
set_option maxRecDepth 100000 in
theorem impl_ValidRatio.calls (k : Nat) (a0_0 : Int) (a0_1 : Int) (r : Bool) (w : World) (h : impl_ValidRatio.f k a0_0 a0_1 = some r) :
 Calls Tryd.prog 108 #[.agg #[.int .i64 a0_0, .int .i64 a0_1]] w fun e w' => e = .returned (.bool r) ∧ Below w.heap.size w w' := by
 have hu52 := Tryd.underlying52
 have HB := Aside0.mk (Below.refl w.heap.size w)
 have H : ((impl_within.f a0_0 1 1000000).bind fun t188 => (if t188 = true then ((impl_within.f a0_1 1 1000000).bind fun t189 => (if t189 = true then ((impl_commonDivisor.f k a0_0 a0_1).bind fun t190 => (some (t190 == 1))) else (some false))) else (some false))) = some r := h
 clear h
 replace H := Option.bind_eq_some_iff.mp H
 obtain ⟨t188, A20, H⟩ := H
 replace H : (if t188 = true then ((impl_within.f a0_1 1 1000000).bind fun t189 => (if t189 = true then ((impl_commonDivisor.f k a0_0 a0_1).bind fun t190 => (some (t190 == 1))) else (some false))) else (some false)) = some r := H
 have A2 := Aside0.mk A20
 clear A20
 by_cases c3 : t188 = true
 · subst c3
   have H1 : ((impl_within.f a0_1 1 1000000).bind fun t189 => (if t189 = true then ((impl_commonDivisor.f k a0_0 a0_1).bind fun t190 => (some (t190 == 1))) else (some false))) = some r := by rw [if_pos rfl] at H; exact H
   clear H
   have H := H1
   clear H1
   replace H := Option.bind_eq_some_iff.mp H
   obtain ⟨t189, A40, H⟩ := H
   replace H : (if t189 = true then ((impl_commonDivisor.f k a0_0 a0_1).bind fun t190 => (some (t190 == 1))) else (some false)) = some r := H
   have A4 := Aside0.mk A40
   clear A40
   by_cases c5 : t189 = true
   · subst c5
     have H1 : ((impl_commonDivisor.f k a0_0 a0_1).bind fun t190 => (some (t190 == 1))) = some r := by rw [if_pos rfl] at H; exact H
     clear H
     have H := H1
     clear H1
     replace H := Option.bind_eq_some_iff.mp H
     obtain ⟨t190, A60, H⟩ := H
     replace H : (some (t190 == 1)) = some r := H
     have A6 := Aside0.mk A60
     clear A60
     obtain rfl := Option.some.inj H
     go_enter Tryd.func108, Tryd.ntmps108
     go_wp2_with (first | ((with_reducible refine gate_dst (N := 1) rfl ?_); refine box_event ?hg (N := 1) ?hd (cs := #[.int .i64 a0_0, .int .i64 a0_1]) (t := 52) ?hr ?_; (case hd => rfl); (case hg => rfl); (case hr => first | (go_simp; done) | (go_simp; rfl)); intro gb187 hg w7 hbox hb; have BK187 := Aside0.mk (hbox); have GW187 := Aside0.mk ((by rw [hg]; exact (below_size (tH HB)) : w.heap.size ≤ gb187)); have GE187 := Aside0.mk ((by rw [hg]; exact (below_size (tH HB)) : w.heap.size ≤ gb187)); replace HB := Aside0.mk (below_step (tH HB) hb); clear hb hbox hg; have hcz8_0 : w7.cell? ⟨gb187, 0, none⟩ = some (.int .i64 a0_0) := (blk_cell BK187.out 0).trans rfl; have hcz8_1 : w7.cell? ⟨gb187, 1, none⟩ = some (.int .i64 a0_1) := (blk_cell BK187.out 1).trans rfl; have hfz8_0 := blk_frozen BK187.out 0; have hfz8_1 := blk_frozen BK187.out 1) | ((with_reducible refine gate_callee (f := 115) rfl ?_); refine gL_ (some 5) rfl rfl Tryd.func115 #[.int .i64 a0_0, .int .i64 1, .int .i64 1000000] rfl ?_; (with_reducible refine (impl_within.calls a0_0 1 1000000 true _ A2.out).mono ?_); rintro e w' ⟨rfl, ⟨nd, rfl⟩⟩; refine ⟨_, rfl, ?_⟩) | (go_at_call 115; (with_reducible refine (impl_within.calls a0_1 1 1000000 true _ A4.out).mono ?_); rintro e w' ⟨rfl, ⟨nd, rfl⟩⟩) | (go_at_call 167; (with_reducible refine (impl_commonDivisor.calls k a0_0 a0_1 t190 _ A6.out).mono ?_); rintro e w' ⟨rfl, ⟨nd, rfl⟩⟩))
     go_ret
     exact ⟨tE, tH1 HB GE187.out⟩
   replace c5 := Bool.eq_false_iff.mpr c5
   subst c5
   have H1 : (some false) = some r := by rw [if_neg (show ¬ (false = true) by decide)] at H; exact H
   clear H
   have H := H1
   clear H1
   obtain rfl := Option.some.inj H
   go_enter Tryd.func108, Tryd.ntmps108
   go_wp2_with (first | ((with_reducible refine gate_dst (N := 1) rfl ?_); refine box_event ?hg (N := 1) ?hd (cs := #[.int .i64 a0_0, .int .i64 a0_1]) (t := 52) ?hr ?_; (case hd => rfl); (case hg => rfl); (case hr => first | (go_simp; done) | (go_simp; rfl)); intro gb187 hg w9 hbox hb; have BK187 := Aside0.mk (hbox); have GW187 := Aside0.mk ((by rw [hg]; exact (below_size (tH HB)) : w.heap.size ≤ gb187)); have GE187 := Aside0.mk ((by rw [hg]; exact (below_size (tH HB)) : w.heap.size ≤ gb187)); replace HB := Aside0.mk (below_step (tH HB) hb); clear hb hbox hg; have hcz10_0 : w9.cell? ⟨gb187, 0, none⟩ = some (.int .i64 a0_0) := (blk_cell BK187.out 0).trans rfl; have hcz10_1 : w9.cell? ⟨gb187, 1, none⟩ = some (.int .i64 a0_1) := (blk_cell BK187.out 1).trans rfl; have hfz10_0 := blk_frozen BK187.out 0; have hfz10_1 := blk_frozen BK187.out 1) | ((with_reducible refine gate_callee (f := 115) rfl ?_); refine gL_ (some 5) rfl rfl Tryd.func115 #[.int .i64 a0_0, .int .i64 1, .int .i64 1000000] rfl ?_; (with_reducible refine (impl_within.calls a0_0 1 1000000 true _ A2.out).mono ?_); rintro e w' ⟨rfl, ⟨nd, rfl⟩⟩; refine ⟨_, rfl, ?_⟩) | (go_at_call 115; (with_reducible refine (impl_within.calls a0_1 1 1000000 false _ A4.out).mono ?_); rintro e w' ⟨rfl, ⟨nd, rfl⟩⟩))
   go_ret
   exact ⟨tE, tH1 HB GE187.out⟩
 replace c3 := Bool.eq_false_iff.mpr c3
 subst c3
 have H1 : (some false) = some r := by rw [if_neg (show ¬ (false = true) by decide)] at H; exact H
 clear H
 have H := H1
 clear H1
 obtain rfl := Option.some.inj H
 go_enter Tryd.func108, Tryd.ntmps108
 go_wp2_with (first | ((with_reducible refine gate_dst (N := 1) rfl ?_); refine box_event ?hg (N := 1) ?hd (cs := #[.int .i64 a0_0, .int .i64 a0_1]) (t := 52) ?hr ?_; (case hd => rfl); (case hg => rfl); (case hr => first | (go_simp; done) | (go_simp; rfl)); intro gb187 hg w11 hbox hb; have BK187 := Aside0.mk (hbox); have GW187 := Aside0.mk ((by rw [hg]; exact (below_size (tH HB)) : w.heap.size ≤ gb187)); have GE187 := Aside0.mk ((by rw [hg]; exact (below_size (tH HB)) : w.heap.size ≤ gb187)); replace HB := Aside0.mk (below_step (tH HB) hb); clear hb hbox hg; have hcz12_0 : w11.cell? ⟨gb187, 0, none⟩ = some (.int .i64 a0_0) := (blk_cell BK187.out 0).trans rfl; have hcz12_1 : w11.cell? ⟨gb187, 1, none⟩ = some (.int .i64 a0_1) := (blk_cell BK187.out 1).trans rfl; have hfz12_0 := blk_frozen BK187.out 0; have hfz12_1 := blk_frozen BK187.out 1) | ((with_reducible refine gate_callee (f := 115) rfl ?_); refine gL_ (some 5) rfl rfl Tryd.func115 #[.int .i64 a0_0, .int .i64 1, .int .i64 1000000] rfl ?_; (with_reducible refine (impl_within.calls a0_0 1 1000000 false _ A2.out).mono ?_); rintro e w' ⟨rfl, ⟨nd, rfl⟩⟩; refine ⟨_, rfl, ?_⟩))
 go_ret
 exact ⟨tE, tH1 HB GE187.out⟩

/-! ### impl_Ratio_octave: function 111 -/
mutual
def impl_Ratio_octave.l0 : Nat → Int → Int → Int → Option (Int × Int × Int)
 | 0, _, _, _ => none
 | k + 1, x5, x6, x7 => if x5 ≥ (wrap64 (2 * x6)) then (impl_Ratio_octave.l0 k x5 (wrap64 (x6 * 2)) (wrap64 (x7 + 1))) else (impl_Ratio_octave.l1 k x5 x6 x7)
def impl_Ratio_octave.l1 : Nat → Int → Int → Int → Option (Int × Int × Int)
 | 0, _, _, _ => none
 | k + 1, x5, x6, x7 => if x5 < x6 then (impl_Ratio_octave.l1 k (wrap64 (x5 * 2)) x6 (wrap64 (x7 - 1))) else (some (x5, x6, x7))
end
def impl_Ratio_octave.f (k : Nat) (a0_0 : Int) (a0_1 : Int) : Option (Int × Int × Int) := impl_Ratio_octave.l0 k a0_0 a0_1 0
theorem impl_Ratio_octave.mono_l : ∀ k, (∀ y0 y1 y2, LeO (impl_Ratio_octave.l0 k y0 y1 y2) (impl_Ratio_octave.l0 (k + 1) y0 y1 y2)) ∧ (∀ y0 y1 y2, LeO (impl_Ratio_octave.l1 k y0 y1 y2) (impl_Ratio_octave.l1 (k + 1) y0 y1 y2))
 | 0 => ⟨fun _ _ _ r h => by simp [impl_Ratio_octave.l0] at h, fun _ _ _ r h => by simp [impl_Ratio_octave.l1] at h⟩
 | k + 1 => by
  obtain ⟨ih0, ih1⟩ := impl_Ratio_octave.mono_l k
  refine ⟨?_, ?_⟩
  all_goals (intros; (first | unfold impl_Ratio_octave.l0 | unfold impl_Ratio_octave.l1); repeat' first
   | (with_reducible exact ih0 _ _ _)
   | (with_reducible exact ih1 _ _ _)
   | (with_reducible exact LeO.refl _)
   | (with_reducible exact LeO.none _)
   | (with_reducible refine LeO.ite ?_ ?_)
   | (with_reducible refine LeO.bind ?_ (fun _ => ?_))
   | exact ih0 _ _ _
   | exact ih1 _ _ _
   | exact LeO.none _
   | refine LeO.ite ?_ ?_
   | refine LeO.bind ?_ (fun _ => ?_))
theorem impl_Ratio_octave.mono : ∀ a0 a1 k, LeO (impl_Ratio_octave.f k a0 a1) (impl_Ratio_octave.f (k + 1) a0 a1) := by
 intro a0 a1 k
 obtain ⟨ih0, ih1⟩ := impl_Ratio_octave.mono_l k
 unfold impl_Ratio_octave.f
 repeat' first
  | (with_reducible exact ih0 _ _ _)
  | (with_reducible exact ih1 _ _ _)
  | (with_reducible exact LeO.refl _)
  | (with_reducible exact LeO.none _)
  | (with_reducible refine LeO.ite ?_ ?_)
  | (with_reducible refine LeO.bind ?_ (fun _ => ?_))
  | exact ih0 _ _ _
  | exact ih1 _ _ _
  | exact LeO.none _
  | refine LeO.ite ?_ ?_
  | refine LeO.bind ?_ (fun _ => ?_)
set_option maxHeartbeats 8000000 in
set_option maxRecDepth 100000 in
theorem impl_Ratio_octave.calls (k : Nat) (a0_0 : Int) (a0_1 : Int) (r1 : Int) (r2 : Int) (r3 : Int) (w : World) (h : impl_Ratio_octave.f k a0_0 a0_1 = some (r1, r2, r3)) :
 Calls Tryd.prog 111 #[.agg #[.int .i64 a0_0, .int .i64 a0_1]] w fun e w' => e = .returned (.tuple #[.int .i64 r1, .int .i64 r2, .int .i64 r3]) ∧ Below w.heap.size w w' := by
 have hu52 := Tryd.underlying52
 have HB := Aside0.mk (Below.refl w.heap.size w)
 have H : (impl_Ratio_octave.l0 k a0_0 a0_1 0) = some (r1, r2, r3) := h
 clear h
 have H' := Aside0.mk H
 clear H
 go_enter Tryd.func111, Tryd.ntmps111
 go_wp2_with (first | ((with_reducible refine gate_dst (N := 1) rfl ?_); refine box_event ?hg (N := 1) ?hd (cs := #[.int .i64 a0_0, .int .i64 a0_1]) (t := 52) ?hr ?_; (case hd => rfl); (case hg => rfl); (case hr => first | (go_simp; done) | (go_simp; rfl)); intro gb191 hg w2 hbox hb; have BK191 := Aside0.mk (hbox); have GW191 := Aside0.mk ((by rw [hg]; exact (below_size (tH HB)) : w.heap.size ≤ gb191)); have GE191 := Aside0.mk ((by rw [hg]; exact (below_size (tH HB)) : w.heap.size ≤ gb191)); replace HB := Aside0.mk (below_step (tH HB) hb); clear hb hbox hg; have hcz3_0 : w2.cell? ⟨gb191, 0, none⟩ = some (.int .i64 a0_0) := (blk_cell BK191.out 0).trans rfl; have hcz3_1 : w2.cell? ⟨gb191, 1, none⟩ = some (.int .i64 a0_1) := (blk_cell BK191.out 1).trans rfl; have hfz3_0 := blk_frozen BK191.out 0; have hfz3_1 := blk_frozen BK191.out 1))
 repeat (go_quiet (first | ((with_reducible refine gate_dst (N := 1) rfl ?_); refine box_event ?hg (N := 1) ?hd (cs := #[.int .i64 a0_0, .int .i64 a0_1]) (t := 52) ?hr ?_; (case hd => rfl); (case hg => rfl); (case hr => first | (go_simp; done) | (go_simp; rfl)); intro gb191 hg w2 hbox hb; have BK191 := Aside0.mk (hbox); have GW191 := Aside0.mk ((by rw [hg]; exact (below_size (tH HB)) : w.heap.size ≤ gb191)); have GE191 := Aside0.mk ((by rw [hg]; exact (below_size (tH HB)) : w.heap.size ≤ gb191)); replace HB := Aside0.mk (below_step (tH HB) hb); clear hb hbox hg; have hcz3_0 : w2.cell? ⟨gb191, 0, none⟩ = some (.int .i64 a0_0) := (blk_cell BK191.out 0).trans rfl; have hcz3_1 : w2.cell? ⟨gb191, 1, none⟩ = some (.int .i64 a0_1) := (blk_cell BK191.out 1).trans rfl; have hfz3_0 := blk_frozen BK191.out 0; have hfz3_1 := blk_frozen BK191.out 1)); try go_wp2_with (first | ((with_reducible refine gate_dst (N := 1) rfl ?_); refine box_event ?hg (N := 1) ?hd (cs := #[.int .i64 a0_0, .int .i64 a0_1]) (t := 52) ?hr ?_; (case hd => rfl); (case hg => rfl); (case hr => first | (go_simp; done) | (go_simp; rfl)); intro gb191 hg w2 hbox hb; have BK191 := Aside0.mk (hbox); have GW191 := Aside0.mk ((by rw [hg]; exact (below_size (tH HB)) : w.heap.size ≤ gb191)); have GE191 := Aside0.mk ((by rw [hg]; exact (below_size (tH HB)) : w.heap.size ≤ gb191)); replace HB := Aside0.mk (below_step (tH HB) hb); clear hb hbox hg; have hcz3_0 : w2.cell? ⟨gb191, 0, none⟩ = some (.int .i64 a0_0) := (blk_cell BK191.out 0).trans rfl; have hcz3_1 : w2.cell? ⟨gb191, 1, none⟩ = some (.int .i64 a0_1) := (blk_cell BK191.out 1).trans rfl; have hfz3_0 := blk_frozen BK191.out 0; have hfz3_1 := blk_frozen BK191.out 1)))
 go_loopg [6, 7] k (fun kq v6 v7 w' => ∃ (x6_1 : Int) (x7_1 : Int), v6 = .int .i64 x6_1 ∧ v7 = .int .i64 x7_1 ∧ Aside0 (impl_Ratio_octave.l0 kq a0_0 x6_1 x7_1 = some (r1, r2, r3)) ∧ Aside0 (kq ≤ k) ∧ Aside0 (w'.heap[gb191]? = some (.cells #[.int .i64 a0_0, .int .i64 a0_1] 52 (0, 0))) ∧ Aside0 (Below w.heap.size w w'))
 case atStart => exact ⟨(a0_1), (0), tq, tq, H', ⟨Nat.le_refl _⟩, ⟨tB BK191⟩, ⟨tH1 HB GE191.out⟩⟩
 case round =>
 clear H'
 try clear c1
 try clear p2
 try clear hcz3_0 hcz3_1
 try clear hfz3_0 hfz3_1
 obtain ⟨x6_1, x7_1, rfl, rfl, HA, HK1, BK191, HB⟩ := hrel
 cases gk with
 | zero => exact absurd HA.out (by simp [impl_Ratio_octave.l0])
 | succ k1 =>
 have H := HA.out
 clear HA
 simp only [impl_Ratio_octave.l0] at H
 by_cases c4 : a0_0 ≥ (wrap64 (2 * x6_1))
 · rw [if_pos c4] at H
   have c4b0 : decide ((wrap64 (2 * x6_1)) ≤ a0_0) = true := decide_eq_true c4
   clear c4
   have H' := Aside0.mk H
   clear H
   go_wp2
   repeat (go_quiet (fail); try go_wp2)
   go_roundg k1
   case measure => have := HK1.out; omega
   case rel => exact ⟨(wrap64 (x6_1 * 2)), (wrap64 (x7_1 + 1)), tq, tq, H', ⟨by have := HK1.out; omega⟩, ⟨tB BK191⟩, ⟨tH1 HB GE191.out⟩⟩
 rw [if_neg c4] at H
 have c4b0 : decide ((wrap64 (2 * x6_1)) ≤ a0_0) = false := decide_eq_false c4
 clear c4
 have H' := Aside0.mk H
 clear H
 go_wp2
 repeat (go_quiet (fail); try go_wp2)
 go_loopg [5, 7] k1 (fun kq v5 v7 w' => ∃ (x5_2 : Int) (x7_2 : Int), v5 = .int .i64 x5_2 ∧ v7 = .int .i64 x7_2 ∧ Aside0 (impl_Ratio_octave.l1 kq x5_2 x6_1 x7_2 = some (r1, r2, r3)) ∧ Aside0 (kq ≤ k1) ∧ Aside0 (w'.heap[gb191]? = some (.cells #[.int .i64 a0_0, .int .i64 a0_1] 52 (0, 0))) ∧ Aside0 (Below w.heap.size w w'))
 case atStart => exact ⟨(a0_0), (x7_1), tq, tq, H', ⟨Nat.le_refl _⟩, ⟨tB BK191⟩, ⟨tH1 HB GE191.out⟩⟩
 case round =>
 clear H'
 try clear c1
 try clear p2
 try clear c4
 try clear c4b0
 try clear hcz3_0 hcz3_1
 try clear hfz3_0 hfz3_1
 try clear p2
 obtain ⟨x5_2, x7_2, rfl, rfl, HA, HK2, BK191, HB⟩ := hrel
 cases gk with
 | zero => exact absurd HA.out (by simp [impl_Ratio_octave.l1])
 | succ k2 =>
 have H := HA.out
 clear HA
 simp only [impl_Ratio_octave.l1] at H
 by_cases c5 : x5_2 < x6_1
 · rw [if_pos c5] at H
   have c5b0 : decide (x5_2 < x6_1) = true := decide_eq_true c5
   clear c5
   have H' := Aside0.mk H
   clear H
   go_wp2
   repeat (go_quiet (fail); try go_wp2)
   go_roundg k2
   case measure => have := HK1.out; have := HK2.out; omega
   case rel => exact ⟨(wrap64 (x5_2 * 2)), (wrap64 (x7_2 - 1)), tq, tq, H', ⟨by have := HK1.out; have := HK2.out; omega⟩, ⟨tB BK191⟩, ⟨tH1 HB GE191.out⟩⟩
 rw [if_neg c5] at H
 have c5b0 : decide (x5_2 < x6_1) = false := decide_eq_false c5
 clear c5
 simp only [Option.some.injEq, Prod.mk.injEq] at H
 obtain ⟨rfl, rfl, rfl⟩ := H
 go_wp2
 repeat (go_quiet (fail); try go_wp2)
 go_ret3
 exact ⟨tE, tH1 HB GE191.out⟩

/-! ### impl_abs: function 116 -/
def impl_abs.f (a0 : Int) : Option (Int) := some (mx a0 (wrap64 (-a0)))
set_option maxHeartbeats 8000000 in
set_option maxRecDepth 100000 in
theorem impl_abs.calls (a0 : Int) (r : Int) (w : World) (h : impl_abs.f a0 = some r) :
 Calls Tryd.prog 116 #[.int .i64 a0] w fun e w' => e = .returned (.int .i64 r) ∧ Below w.heap.size w w' := by
 have HB := Aside0.mk (Below.refl w.heap.size w)
 have H : (some (mx a0 (wrap64 (-a0)))) = some r := h
 clear h
 obtain ⟨ji2, hji2⟩ : ∃ j_ : Int, (mx a0 (wrap64 (-a0))) = j_ := ⟨_, rfl⟩
 replace H : (some ji2) = some r := by first | (rw [hji2] at H; exact H) | (simp only [hji2] at H ⊢; exact H)
 have hji2_ : (if a0 < (wrap64 (-a0)) then (wrap64 (-a0)) else a0) = ji2 := hji2
 obtain rfl := Option.some.inj H
 go_enter Tryd.func116, Tryd.ntmps116
 go_wp2
 go_ret
 exact ⟨by first | rfl | (simp [errW_none, errW_some] <;> rfl) | (simp only [← hji2]; first | rfl | (simp [errW_none, errW_some] <;> rfl)) | (simp [*, errW_none, errW_some] <;> rfl), tH HB⟩

end Go.Proofs.YtmeflmlejcmckaaDoor.PC
