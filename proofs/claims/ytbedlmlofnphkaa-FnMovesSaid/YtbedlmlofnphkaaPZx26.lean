-- WRITTEN BY wip/gprint.py, a program of this session's over the kit's print, with contracts given by hand
import Derived.Test.YtbedlmlofnphkaaPZx0
import Derived.Test.YtbedlmlofnphkaaPZx1
import Derived.Test.YtbedlmlofnphkaaPZx4
import Derived.Test.YtbedlmlofnphkaaPZx8
import Derived.Test.YtbedlmlofnphkaaPZx14
namespace Go.Proofs.Ytbedlmlofnphkaa.PZ
open Go.RowKit Go.Proofs.YtbedlmlofnphkaaW.PrintWords Go.Proofs.YtbedlmlofnphkaaW.PrintLast Go.Proofs.YtbedlmlofnphkaaW.PrintMore
attribute [local go_sem] max2_int min2_int max_two min_two max_three min_three max_four min_four   -- for this text's walks alone
set_option linter.unusedVariables false
set_option linter.unusedSimpArgs false

/-! ### spec_l05Tones: function 191 -/
def spec_l05Tones.l0 : Nat → List (S27) → List Int → Int → Option (List Int)
 | 0, _, _, _ => none
 | k + 1, x0, x3, x4 => if x4 < 12 then ((spec_l05Tone.f k x0 x4).bind fun t441 => (if t441 = true then (if x3.length < 17592186044416 then (spec_l05Tones.l0 k x0 (x3 ++ [x4]) (wrap64 (x4 + 1))) else (none)) else (spec_l05Tones.l0 k x0 x3 (wrap64 (x4 + 1))))) else (some x3)
def spec_l05Tones.f (k : Nat) (l0 : List (S27)) : Option (List Int) := spec_l05Tones.l0 k l0 (([] : List Int)) 0
theorem spec_l05Tones.mono_l : ∀ k, (∀ y0 y1 y2, LeO (spec_l05Tones.l0 k y0 y1 y2) (spec_l05Tones.l0 (k + 1) y0 y1 y2))
 | 0 => fun _ _ _ r h => by simp [spec_l05Tones.l0] at h
 | k + 1 => by
  have ih0 := spec_l05Tones.mono_l k
  · intro y0 y1 y2
    unfold spec_l05Tones.l0
    repeat' first
    | (with_reducible exact ih0 _ _ _)
    | (with_reducible exact spec_l05Tone.mono _ _ _)
    | (with_reducible exact LeO.refl _)
    | (with_reducible exact LeO.none _)
    | (with_reducible refine LeO.ite ?_ ?_)
    | (with_reducible refine LeO.bind ?_ (fun _ => ?_))
    | exact ih0 _ _ _
    | exact spec_l05Tone.mono _ _ _
    | exact LeO.none _
    | refine LeO.ite ?_ ?_
    | refine LeO.bind ?_ (fun _ => ?_)
theorem spec_l05Tones.mono : ∀ a0 k, LeO (spec_l05Tones.f k a0) (spec_l05Tones.f (k + 1) a0) := by
 intro a0 k
 have ih0 := spec_l05Tones.mono_l k
 unfold spec_l05Tones.f
 repeat' first
  | (with_reducible exact ih0 _ _ _)
  | (with_reducible exact spec_l05Tone.mono _ _ _)
  | (with_reducible exact LeO.refl _)
  | (with_reducible exact LeO.none _)
  | (with_reducible refine LeO.ite ?_ ?_)
  | (with_reducible refine LeO.bind ?_ (fun _ => ?_))
  | exact ih0 _ _ _
  | exact spec_l05Tone.mono _ _ _
  | exact LeO.none _
  | refine LeO.ite ?_ ?_
  | refine LeO.bind ?_ (fun _ => ?_)
set_option maxHeartbeats 8000000 in
set_option maxRecDepth 100000 in
theorem spec_l05Tones.calls (k : Nat) (A0 : Option Addr) (l0 : List (S27)) (r : List Int) (w : World) (hr0 : Kd.C k27 w A0 l0.length l0) (hn0 : 0 < l0.length) (h : spec_l05Tones.f k l0 = some r) :
 Calls Try.prog 191 #[.pointer A0] w fun e w' => ∃ v0_ : Value, e = .returned (v0_) ∧ Kd.R (Kd.int .i64) 2 w' w.heap.size (fun _ => True) v0_ r ∧ Below w.heap.size w w' := by
 have HR0 := Aside0.mk hr0
 clear hr0
 have HN0 := Aside0.mk hn0
 have hn0b0 : decide ((0 : Int) < (l0.length : Int)) = true := decide_eq_true (Int.ofNat_lt.2 hn0)
 have hn0b1 : decide (0 < l0.length) = true := decide_eq_true hn0
 clear hn0
 have HB := Aside0.mk (Below.refl w.heap.size w)
 have H : (spec_l05Tones.l0 k l0 (([] : List Int)) 0) = some r := h
 clear h
 obtain ⟨y438, hy438⟩ : ∃ y_ : List Int, y_ = (([] : List Int)) := ⟨_, rfl⟩
 replace H : (spec_l05Tones.l0 k l0 y438 0) = some r := by first | (rw [hy438]; with_reducible exact H) | (have H2_ := (Option.bind_some _ _).symm.trans H; rw [hy438]; with_reducible exact H2_) | (have H2_ := (Option.bind_some _ _).symm.trans H; with_reducible exact H2_) | with_reducible exact H | (rw [hy438]; exact H) | exact H
 have Ny438 := Aside0.mk hy438
 clear hy438
 have H' := Aside0.mk H
 clear H
 go_enter Try.func191, Try.ntmps191
 go_wp2_with (first | ((with_reducible refine gate_dst (N := 5) rfl ?_); refine Kd.R_lit (Kd.int .i64) _ 2 ?hg (N := 5) ?hd (xs := ([] : List Int)) (inner := []) (ok := fun _ => True) (okp := fun _ => True) ?hr ?hp (fun _ hk => hk) trivial (Below.refl _ _) (Nat.le_refl _) (by simp) ?_; (case hd => rfl); (case hg => rfl); (case hr => first | (go_simp; done) | (go_simp; rfl)); (case hp => exact (Reps.none _ _)); intro v439 w2 ho3 hb hg_ hnew_; clear hg_ hnew_; (first | rw [← Ny438.out] at ho3 | (simp only [Int.reduceToNat] at ho3; rw [← Ny438.out] at ho3)); have HO440 := Aside0.mk (Kd.R_lower ho3 (below_size (tH HB))); replace HB := Aside0.mk (below_step (tH HB) hb); clear hb ho3))
 go_loopg [3, 4] k (fun kq v3 v4 w' => ∃ (x3_1 : List Int) (x4_1 : Int), v4 = .int .i64 x4_1 ∧ Aside0 (spec_l05Tones.l0 kq l0 x3_1 x4_1 = some r) ∧ Aside0 (kq ≤ k) ∧ Aside0 (Kd.R (Kd.int .i64) 2 w' w.heap.size (fun _ => True) v3 x3_1) ∧ Aside0 (Below w.heap.size w w'))
 case atStart => exact ⟨(y438), (0), tq, H', ⟨Nat.le_refl _⟩, ⟨tR HO440⟩, ⟨tH HB⟩⟩
 case round =>
 clear H'
 try clear c1
 try clear p2
 obtain ⟨x3_1, x4_1, rfl, HA, HK1, HO_3, HB⟩ := hrel
 cases gk with
 | zero => exact absurd HA.out (by simp [spec_l05Tones.l0])
 | succ k1 =>
 have H := HA.out
 clear HA
 simp only [spec_l05Tones.l0] at H
 by_cases c4 : x4_1 < 12
 · rw [if_pos c4] at H
   have c4b0 : decide (x4_1 < 12) = true := decide_eq_true c4
   clear c4
   replace H := Option.bind_eq_some_iff.mp H
   obtain ⟨t441, A50, H⟩ := H
   replace H : (if t441 = true then (if x3_1.length < 17592186044416 then (spec_l05Tones.l0 k1 l0 (x3_1 ++ [x4_1]) (wrap64 (x4_1 + 1))) else (none)) else (spec_l05Tones.l0 k1 l0 x3_1 (wrap64 (x4_1 + 1)))) = some r := H
   have A5 := Aside0.mk A50
   clear A50
   by_cases c6 : t441 = true
   · subst c6
     have H1 : (if x3_1.length < 17592186044416 then (spec_l05Tones.l0 k1 l0 (x3_1 ++ [x4_1]) (wrap64 (x4_1 + 1))) else (none)) = some r := by rw [if_pos rfl] at H; exact H
     clear H
     have H := H1
     clear H1
     by_cases c7 : x3_1.length < 17592186044416
     · rw [if_pos c7] at H
       have LMc7 := Aside0.mk c7
       clear c7
       obtain ⟨y442, hy442⟩ : ∃ y_ : List Int, y_ = (x3_1 ++ [x4_1]) := ⟨_, rfl⟩
       replace H : (spec_l05Tones.l0 k1 l0 y442 (wrap64 (x4_1 + 1))) = some r := by first | (rw [hy442]; with_reducible exact H) | (have H2_ := (Option.bind_some _ _).symm.trans H; rw [hy442]; with_reducible exact H2_) | (have H2_ := (Option.bind_some _ _).symm.trans H; with_reducible exact H2_) | with_reducible exact H | (rw [hy442]; exact H) | exact H
       have Ny442 := Aside0.mk hy442
       clear hy442
       have H' := Aside0.mk H
       clear H
       go_wp2_with (first | ((with_reducible refine gate_callee (f := 210) rfl ?_); refine gL_ (some 12) rfl rfl Try.func210 #[.pointer A0, .int .i64 x4_1] rfl ?_; (with_reducible refine (spec_l05Tone.calls k1 _ l0 x4_1 true _ ?side1 ?side2 A5.out).mono ?_); (case side1 => exact tC (Kd.C_below HR0.out HB.out)); (case side2 => exact HN0.out); rintro e w' ⟨rfl, ⟨nd, rfl⟩⟩; refine ⟨_, rfl, ?_⟩) | ((with_reducible refine gate_builtin (b := .append) (xs := #[.tmp 13, .tmp 15]) rfl ?_); at_builtin; refine Kd.R_append (Kd.int .i64) (w0 := w) w.heap.size rfl (.tmp 13) (.tmp 15) 24 2 (.int .i64 0) 8 rfl Try.underlying24 info2 rfl (by decide) (by omega) u3 x3_1 x4_1 [.int .i64 x4_1] (fun _ => True) (fun _ => False) rfl rfl ?aP (fun _ hk => hk.elim) ?aF ?aO ?aB ?aS ?aL ?_; (case aP => exact rfl); (case aB => exact (tH HB)); (case aF => exact (fun _ _ => trivial)); (case aO => exact (tR HO_3)); (case aS => exact (below_size (tH HB))); (case aL => have := LMc7.out; omega); intro v443 w8 ho hb hg hat; rw [← Ny442.out] at ho; replace HB := Aside0.mk (hb); have HO444 := Aside0.mk (ho); clear HO_3; clear ho hb hg hat))
       go_roundg k1
       case measure => have := HK1.out; omega
       case rel => exact ⟨(y442), (wrap64 (x4_1 + 1)), tq, H', ⟨by have := HK1.out; omega⟩, ⟨tR HO444⟩, ⟨tH HB⟩⟩
     rw [if_neg c7] at H
     exact absurd H (by simp)
   replace c6 := Bool.eq_false_iff.mpr c6
   subst c6
   have H1 : (spec_l05Tones.l0 k1 l0 x3_1 (wrap64 (x4_1 + 1))) = some r := by rw [if_neg (show ¬ (false = true) by decide)] at H; exact H
   clear H
   have H := H1
   clear H1
   have H' := Aside0.mk H
   clear H
   go_wp2_with (first | ((with_reducible refine gate_callee (f := 210) rfl ?_); refine gL_ (some 12) rfl rfl Try.func210 #[.pointer A0, .int .i64 x4_1] rfl ?_; (with_reducible refine (spec_l05Tone.calls k1 _ l0 x4_1 false _ ?side1 ?side2 A5.out).mono ?_); (case side1 => exact tC (Kd.C_below HR0.out HB.out)); (case side2 => exact HN0.out); rintro e w' ⟨rfl, ⟨nd, rfl⟩⟩; refine ⟨_, rfl, ?_⟩))
   go_roundg k1
   case measure => have := HK1.out; omega
   case rel => exact ⟨(x3_1), (wrap64 (x4_1 + 1)), tq, H', ⟨by have := HK1.out; omega⟩, ⟨tR HO_3⟩, ⟨tH HB⟩⟩
 rw [if_neg c4] at H
 have c4b0 : decide (x4_1 < 12) = false := decide_eq_false c4
 clear c4
 obtain rfl := Option.some.inj H
 go_wp2
 go_ret
 exact ⟨_, tE, tR HO_3, tH HB⟩

/-! ### spec_TonesOf: function 85 -/
def spec_TonesOf.f (k : Nat) (a0_0 : ByteArray) (l0_1 : List Int) (l0_2 : List Int) (a0_3 : Int) (a0_4 : Int) (l0_5 : List (List Int)) : Option (List Int × Int) := (spec_l05Ok.f k [(⟨a0_0, l0_1, l0_2, a0_3, a0_4, l0_5⟩ : S27)]).bind fun t446 => (if t446 = true then ((spec_l05Tones.f k [(⟨a0_0, l0_1, l0_2, a0_3, a0_4, l0_5⟩ : S27)]).bind fun t447 => (some (t447, 0))) else (some (([] : List Int), 1)))
theorem spec_TonesOf.mono : ∀ a0 a1 a2 a3 a4 a5 k, LeO (spec_TonesOf.f k a0 a1 a2 a3 a4 a5) (spec_TonesOf.f (k + 1) a0 a1 a2 a3 a4 a5) := by
 intro a0 a1 a2 a3 a4 a5 k
 unfold spec_TonesOf.f
 repeat' first
  | (with_reducible exact spec_l05Ok.mono _ _)
  | (with_reducible exact spec_l05Tones.mono _ _)
  | (with_reducible exact LeO.refl _)
  | (with_reducible exact LeO.none _)
  | (with_reducible refine LeO.ite ?_ ?_)
  | (with_reducible refine LeO.bind ?_ (fun _ => ?_))
  | exact spec_l05Ok.mono _ _
  | exact spec_l05Tones.mono _ _
  | exact LeO.none _
  | refine LeO.ite ?_ ?_
  | refine LeO.bind ?_ (fun _ => ?_)
set_option maxHeartbeats 8000000 in
set_option maxRecDepth 100000 in
theorem spec_TonesOf.calls (k : Nat) (a0_0 : ByteArray) (A0_1 : Option Addr) (c0_1 : Nat) (l0_1 : List Int) (A0_2 : Option Addr) (c0_2 : Nat) (l0_2 : List Int) (a0_3 : Int) (a0_4 : Int) (A0_5 : Option Addr) (c0_5 : Nat) (l0_5 : List (List Int)) (r1 : List Int) (r2 : Int) (w : World) (hr0_1 : Kd.C (Kd.int .i64) w A0_1 l0_1.length l0_1) (hc0_1 : l0_1.length ≤ c0_1) (hr0_2 : Kd.C (Kd.int .i64) w A0_2 l0_2.length l0_2) (hc0_2 : l0_2.length ≤ c0_2) (hr0_5 : Kd.C (Kd.slice 2 (Kd.int .i64)) w A0_5 l0_5.length l0_5) (hc0_5 : l0_5.length ≤ c0_5) (h : spec_TonesOf.f k a0_0 l0_1 l0_2 a0_3 a0_4 l0_5 = some (r1, r2)) :
 Calls Try.prog 85 #[.agg #[.string a0_0, .slice A0_1 l0_1.length c0_1, .slice A0_2 l0_2.length c0_2, .int .i64 a0_3, .int .i64 a0_4, .slice A0_5 l0_5.length c0_5]] w fun e w' => ∃ v0_ : Value, e = .returned (.tuple #[v0_, .int .i64 r2]) ∧ Kd.R (Kd.int .i64) 2 w' w.heap.size (fun _ => True) v0_ r1 ∧ Below w.heap.size w w' := by
 have hu27 := Try.underlying27
 have HR0_1 := Aside0.mk hr0_1
 have HC0_1 := Aside0.mk hc0_1
 clear hr0_1 hc0_1
 have HR0_2 := Aside0.mk hr0_2
 have HC0_2 := Aside0.mk hc0_2
 clear hr0_2 hc0_2
 have HR0_5 := Aside0.mk hr0_5
 have HC0_5 := Aside0.mk hc0_5
 clear hr0_5 hc0_5
 have HB := Aside0.mk (Below.refl w.heap.size w)
 have H : ((spec_l05Ok.f k [(⟨a0_0, l0_1, l0_2, a0_3, a0_4, l0_5⟩ : S27)]).bind fun t446 => (if t446 = true then ((spec_l05Tones.f k [(⟨a0_0, l0_1, l0_2, a0_3, a0_4, l0_5⟩ : S27)]).bind fun t447 => (some (t447, 0))) else (some (([] : List Int), 1)))) = some (r1, r2) := h
 clear h
 replace H := Option.bind_eq_some_iff.mp H
 obtain ⟨t446, A20, H⟩ := H
 replace H : (if t446 = true then ((spec_l05Tones.f k [(⟨a0_0, l0_1, l0_2, a0_3, a0_4, l0_5⟩ : S27)]).bind fun t447 => (some (t447, 0))) else (some (([] : List Int), 1))) = some (r1, r2) := H
 have A2 := Aside0.mk A20
 clear A20
 by_cases c3 : t446 = true
 · subst c3
   have H1 : ((spec_l05Tones.f k [(⟨a0_0, l0_1, l0_2, a0_3, a0_4, l0_5⟩ : S27)]).bind fun t447 => (some (t447, 0))) = some (r1, r2) := by rw [if_pos rfl] at H; exact H
   clear H
   have H := H1
   clear H1
   replace H := Option.bind_eq_some_iff.mp H
   obtain ⟨t447, A40, H⟩ := H
   replace H : (some (t447, 0)) = some (r1, r2) := H
   have A4 := Aside0.mk A40
   clear A40
   simp only [Option.some.injEq, Prod.mk.injEq] at H
   obtain ⟨rfl, rfl⟩ := H
   go_enter Try.func85, Try.ntmps85
   go_wp2_with (first | ((with_reducible refine gate_dst (N := 1) rfl ?_); refine box_event ?hg (N := 1) ?hd (cs := #[.string a0_0, .slice A0_1 l0_1.length c0_1, .slice A0_2 l0_2.length c0_2, .int .i64 a0_3, .int .i64 a0_4, .slice A0_5 l0_5.length c0_5]) (t := 27) ?hr ?_; (case hd => rfl); (case hg => rfl); (case hr => first | (go_simp; done) | (go_simp; rfl)); intro gb445 hg w5 hbox hb; have BK445 := Aside0.mk (hbox); have GW445 := Aside0.mk ((by rw [hg]; exact (below_size (tH HB)) : w.heap.size ≤ gb445)); have GE445 := Aside0.mk ((by rw [hg]; exact (below_size (tH HB)) : w.heap.size ≤ gb445)); replace HB := Aside0.mk (below_step (tH HB) hb); clear hb hbox hg) | ((with_reducible refine gate_callee (f := 109) rfl ?_); refine gL_ (some 4) rfl rfl Try.func109 #[.pointer (some ⟨gb445, 0, none⟩)] rfl ?_; (with_reducible refine (spec_l05Ok.calls k _ [(⟨a0_0, l0_1, l0_2, a0_3, a0_4, l0_5⟩ : S27)] true _ ?side1 ?side2 A2.out).mono ?_); (case side1 => exact Kd.C_box (k27_mk _ _ (by exact HC0_1.out) (tC (Kd.C_below HR0_1.out HB.out)) (by exact HC0_2.out) (tC (Kd.C_below HR0_2.out HB.out)) (by exact HC0_5.out) (tC (Kd.C_below HR0_5.out HB.out))) (tB BK445)); (case side2 => exact Nat.one_pos); rintro e w6 ⟨rfl, hb⟩; refine ⟨_, rfl, ?_⟩; replace BK445 := tbB BK445 hb; replace HB := Aside0.mk (below_step (tH1 HB GE445.out) hb); (try clear hb); (try clear hb2); (try clear hk); (try clear hi)) | ((with_reducible refine gate_callee (f := 191) rfl ?_); refine gL_ (some 6) rfl rfl Try.func191 #[.pointer (some ⟨gb445, 0, none⟩)] rfl ?_; (with_reducible refine (spec_l05Tones.calls k _ [(⟨a0_0, l0_1, l0_2, a0_3, a0_4, l0_5⟩ : S27)] t447 _ ?side1 ?side2 A4.out).mono ?_); (case side1 => exact Kd.C_box (k27_mk _ _ (by exact HC0_1.out) (tC (Kd.C_below HR0_1.out HB.out)) (by exact HC0_2.out) (tC (Kd.C_below HR0_2.out HB.out)) (by exact HC0_5.out) (tC (Kd.C_below HR0_5.out HB.out))) (tB BK445)); (case side2 => exact Nat.one_pos); rintro e w7 ⟨v448, rfl, ho0, hb⟩; refine ⟨_, rfl, ?_⟩; have HO449 := Aside0.mk (Kd.R_lower ho0 (below_size (tH1 HB GE445.out))); replace BK445 := tbB BK445 hb; replace HB := Aside0.mk (below_step (tH1 HB GE445.out) hb); (try clear hb); (try clear hb2); (try clear hk); (try clear hi); (try clear ho0)))
   go_ret2
   exact ⟨_, tE, tR HO449, tH1 HB GE445.out⟩
 replace c3 := Bool.eq_false_iff.mpr c3
 subst c3
 have H1 : (some (([] : List Int), 1)) = some (r1, r2) := by rw [if_neg (show ¬ (false = true) by decide)] at H; exact H
 clear H
 have H := H1
 clear H1
 simp only [Option.some.injEq, Prod.mk.injEq] at H
 obtain ⟨rfl, rfl⟩ := H
 go_enter Try.func85, Try.ntmps85
 go_wp2_with (first | ((with_reducible refine gate_dst (N := 1) rfl ?_); refine box_event ?hg (N := 1) ?hd (cs := #[.string a0_0, .slice A0_1 l0_1.length c0_1, .slice A0_2 l0_2.length c0_2, .int .i64 a0_3, .int .i64 a0_4, .slice A0_5 l0_5.length c0_5]) (t := 27) ?hr ?_; (case hd => rfl); (case hg => rfl); (case hr => first | (go_simp; done) | (go_simp; rfl)); intro gb445 hg w8 hbox hb; have BK445 := Aside0.mk (hbox); have GW445 := Aside0.mk ((by rw [hg]; exact (below_size (tH HB)) : w.heap.size ≤ gb445)); have GE445 := Aside0.mk ((by rw [hg]; exact (below_size (tH HB)) : w.heap.size ≤ gb445)); replace HB := Aside0.mk (below_step (tH HB) hb); clear hb hbox hg) | ((with_reducible refine gate_callee (f := 109) rfl ?_); refine gL_ (some 4) rfl rfl Try.func109 #[.pointer (some ⟨gb445, 0, none⟩)] rfl ?_; (with_reducible refine (spec_l05Ok.calls k _ [(⟨a0_0, l0_1, l0_2, a0_3, a0_4, l0_5⟩ : S27)] false _ ?side1 ?side2 A2.out).mono ?_); (case side1 => exact Kd.C_box (k27_mk _ _ (by exact HC0_1.out) (tC (Kd.C_below HR0_1.out HB.out)) (by exact HC0_2.out) (tC (Kd.C_below HR0_2.out HB.out)) (by exact HC0_5.out) (tC (Kd.C_below HR0_5.out HB.out))) (tB BK445)); (case side2 => exact Nat.one_pos); rintro e w9 ⟨rfl, hb⟩; refine ⟨_, rfl, ?_⟩; replace BK445 := tbB BK445 hb; replace HB := Aside0.mk (below_step (tH1 HB GE445.out) hb); (try clear hb); (try clear hb2); (try clear hk); (try clear hi)))
 go_ret2
 exact ⟨_, tE, by first | exact Kd.R_nil _ _ _ _ _ | exact Kd.N_nil _ _ _ _ _ | exact Kd.V_nil _ _ _ _ _ | exact Kd.Q_nil _ _ _ _ _ | exact Kd.S_nil _ _ _ _ _, tH1 HB GE445.out⟩

/-! ### spec_l03Pitch: function 126 -/
def spec_l03Pitch.f (a0 : Int) : Option (Bool) := (spec_l00In.f a0 (-12) 23).bind fun t450 => (some t450)
set_option maxHeartbeats 8000000 in
set_option maxRecDepth 100000 in
theorem spec_l03Pitch.calls (a0 : Int) (r : Bool) (w : World) (h : spec_l03Pitch.f a0 = some r) :
 Calls Try.prog 126 #[.int .i64 a0] w fun e w' => e = .returned (.bool r) ∧ Drawn0 w w' := by
 have H : ((spec_l00In.f a0 (-12) 23).bind fun t450 => (some t450)) = some r := h
 clear h
 replace H := Option.bind_eq_some_iff.mp H
 obtain ⟨t450, A20, H⟩ := H
 replace H : (some t450) = some r := H
 have A2 := Aside0.mk A20
 clear A20
 obtain rfl := Option.some.inj H
 go_enter Try.func126, Try.ntmps126
 go_wp2_with (first | ((with_reducible refine gate_callee (f := 216) rfl ?_); refine gL_ (some 4) rfl rfl Try.func216 #[.int .i64 a0, .int .i64 (-12), .int .i64 23] rfl ?_; (with_reducible refine (spec_l00In.calls a0 (-12) 23 t450 _ A2.out).mono ?_); rintro e w' ⟨rfl, ⟨nd, rfl⟩⟩; refine ⟨_, rfl, ?_⟩))
 go_ret
 exact ⟨by first | rfl | (simp; done) | (simp [*]; done), tZ⟩

/-! ### spec_ReasonOf: function 86 -/
def spec_ReasonOf.j0 : Nat → Int → Int → Bool → ByteArray → List Int → List Int → Int → Int → List (List Int) → Option (Int × Int)
 | 0, _, _, _, _, _, _, _, _, _ => none
 | k + 1, x1, x2, x18, x452000, x452001, x452002, x452003, x452004, x452005 => if x18 = true then (some (0, 2)) else ((spec_l05Reason.f k [(⟨x452000, x452001, x452002, x452003, x452004, x452005⟩ : S27)] x1 x2).bind fun t455 => (if t455 = 0 then (some (0, 3)) else (some (t455, 0))))
def spec_ReasonOf.f (k : Nat) (a0_0 : ByteArray) (l0_1 : List Int) (l0_2 : List Int) (a0_3 : Int) (a0_4 : Int) (l0_5 : List (List Int)) (a1 : Int) (a2 : Int) : Option (Int × Int) := (spec_l05Ok.f k [(⟨a0_0, l0_1, l0_2, a0_3, a0_4, l0_5⟩ : S27)]).bind fun t452 => (if t452 = true then ((spec_l03Pitch.f a1).bind fun t453 => (if t453 = true then ((spec_l03Pitch.f a2).bind fun t454 => (spec_ReasonOf.j0 k a1 a2 (!t454) a0_0 l0_1 l0_2 a0_3 a0_4 l0_5)) else (spec_ReasonOf.j0 k a1 a2 true a0_0 l0_1 l0_2 a0_3 a0_4 l0_5))) else (some (0, 1)))
theorem spec_ReasonOf.mono_l : ∀ k, (∀ y0 y1 y2 y3 y4 y5 y6 y7 y8, LeO (spec_ReasonOf.j0 k y0 y1 y2 y3 y4 y5 y6 y7 y8) (spec_ReasonOf.j0 (k + 1) y0 y1 y2 y3 y4 y5 y6 y7 y8))
 | 0 => fun _ _ _ _ _ _ _ _ _ r h => by simp [spec_ReasonOf.j0] at h
 | k + 1 => by
  have ih0 := spec_ReasonOf.mono_l k
  · intro y0 y1 y2 y3 y4 y5 y6 y7 y8
    unfold spec_ReasonOf.j0
    repeat' first
    | (with_reducible exact ih0 _ _ _ _ _ _ _ _ _)
    | (with_reducible exact spec_l05Ok.mono _ _)
    | (with_reducible exact spec_l05Reason.mono _ _ _ _)
    | (with_reducible exact LeO.refl _)
    | (with_reducible exact LeO.none _)
    | (with_reducible refine LeO.ite ?_ ?_)
    | (with_reducible refine LeO.bind ?_ (fun _ => ?_))
    | exact ih0 _ _ _ _ _ _ _ _ _
    | exact spec_l05Ok.mono _ _
    | exact spec_l05Reason.mono _ _ _ _
    | exact LeO.none _
    | refine LeO.ite ?_ ?_
    | refine LeO.bind ?_ (fun _ => ?_)
theorem spec_ReasonOf.mono : ∀ a0 a1 a2 a3 a4 a5 a6 a7 k, LeO (spec_ReasonOf.f k a0 a1 a2 a3 a4 a5 a6 a7) (spec_ReasonOf.f (k + 1) a0 a1 a2 a3 a4 a5 a6 a7) := by
 intro a0 a1 a2 a3 a4 a5 a6 a7 k
 have ih0 := spec_ReasonOf.mono_l k
 unfold spec_ReasonOf.f
 repeat' first
  | (with_reducible exact ih0 _ _ _ _ _ _ _ _ _)
  | (with_reducible exact spec_l05Ok.mono _ _)
  | (with_reducible exact spec_l05Reason.mono _ _ _ _)
  | (with_reducible exact LeO.refl _)
  | (with_reducible exact LeO.none _)
  | (with_reducible refine LeO.ite ?_ ?_)
  | (with_reducible refine LeO.bind ?_ (fun _ => ?_))
  | exact ih0 _ _ _ _ _ _ _ _ _
  | exact spec_l05Ok.mono _ _
  | exact spec_l05Reason.mono _ _ _ _
  | exact LeO.none _
  | refine LeO.ite ?_ ?_
  | refine LeO.bind ?_ (fun _ => ?_)
set_option maxHeartbeats 8000000 in
set_option maxRecDepth 100000 in
theorem spec_ReasonOf.calls (k : Nat) (a0_0 : ByteArray) (A0_1 : Option Addr) (c0_1 : Nat) (l0_1 : List Int) (A0_2 : Option Addr) (c0_2 : Nat) (l0_2 : List Int) (a0_3 : Int) (a0_4 : Int) (A0_5 : Option Addr) (c0_5 : Nat) (l0_5 : List (List Int)) (a1 : Int) (a2 : Int) (r1 : Int) (r2 : Int) (w : World) (hr0_1 : Kd.C (Kd.int .i64) w A0_1 l0_1.length l0_1) (hc0_1 : l0_1.length ≤ c0_1) (hr0_2 : Kd.C (Kd.int .i64) w A0_2 l0_2.length l0_2) (hc0_2 : l0_2.length ≤ c0_2) (hr0_5 : Kd.C (Kd.slice 2 (Kd.int .i64)) w A0_5 l0_5.length l0_5) (hc0_5 : l0_5.length ≤ c0_5) (h : spec_ReasonOf.f k a0_0 l0_1 l0_2 a0_3 a0_4 l0_5 a1 a2 = some (r1, r2)) :
 Calls Try.prog 86 #[.agg #[.string a0_0, .slice A0_1 l0_1.length c0_1, .slice A0_2 l0_2.length c0_2, .int .i64 a0_3, .int .i64 a0_4, .slice A0_5 l0_5.length c0_5], .int .i64 a1, .int .i64 a2] w fun e w' => e = .returned (.tuple #[.int .i64 r1, .int .i64 r2]) ∧ Below w.heap.size w w' := by
 have hu27 := Try.underlying27
 have HR0_1 := Aside0.mk hr0_1
 have HC0_1 := Aside0.mk hc0_1
 clear hr0_1 hc0_1
 have HR0_2 := Aside0.mk hr0_2
 have HC0_2 := Aside0.mk hc0_2
 clear hr0_2 hc0_2
 have HR0_5 := Aside0.mk hr0_5
 have HC0_5 := Aside0.mk hc0_5
 clear hr0_5 hc0_5
 have HB := Aside0.mk (Below.refl w.heap.size w)
 have H : ((spec_l05Ok.f k [(⟨a0_0, l0_1, l0_2, a0_3, a0_4, l0_5⟩ : S27)]).bind fun t452 => (if t452 = true then ((spec_l03Pitch.f a1).bind fun t453 => (if t453 = true then ((spec_l03Pitch.f a2).bind fun t454 => (spec_ReasonOf.j0 k a1 a2 (!t454) a0_0 l0_1 l0_2 a0_3 a0_4 l0_5)) else (spec_ReasonOf.j0 k a1 a2 true a0_0 l0_1 l0_2 a0_3 a0_4 l0_5))) else (some (0, 1)))) = some (r1, r2) := h
 clear h
 replace H := Option.bind_eq_some_iff.mp H
 obtain ⟨t452, A40, H⟩ := H
 replace H : (if t452 = true then ((spec_l03Pitch.f a1).bind fun t453 => (if t453 = true then ((spec_l03Pitch.f a2).bind fun t454 => (spec_ReasonOf.j0 k a1 a2 (!t454) a0_0 l0_1 l0_2 a0_3 a0_4 l0_5)) else (spec_ReasonOf.j0 k a1 a2 true a0_0 l0_1 l0_2 a0_3 a0_4 l0_5))) else (some (0, 1))) = some (r1, r2) := H
 have A4 := Aside0.mk A40
 clear A40
 by_cases c5 : t452 = true
 · subst c5
   have H1 : ((spec_l03Pitch.f a1).bind fun t453 => (if t453 = true then ((spec_l03Pitch.f a2).bind fun t454 => (spec_ReasonOf.j0 k a1 a2 (!t454) a0_0 l0_1 l0_2 a0_3 a0_4 l0_5)) else (spec_ReasonOf.j0 k a1 a2 true a0_0 l0_1 l0_2 a0_3 a0_4 l0_5))) = some (r1, r2) := by rw [if_pos rfl] at H; exact H
   clear H
   have H := H1
   clear H1
   have HC6 := Aside0.mk H
   clear H
   go_enter Try.func86, Try.ntmps86
   go_upto_region 3 with (first | ((with_reducible refine gate_dst (N := 3) rfl ?_); refine box_event ?hg (N := 3) ?hd (cs := #[.string a0_0, .slice A0_1 l0_1.length c0_1, .slice A0_2 l0_2.length c0_2, .int .i64 a0_3, .int .i64 a0_4, .slice A0_5 l0_5.length c0_5]) (t := 27) ?hr ?_; (case hd => rfl); (case hg => rfl); (case hr => first | (go_simp; done) | (go_simp; rfl)); intro gb451 hg w7 hbox hb; have BK451 := Aside0.mk (hbox); have GW451 := Aside0.mk ((by rw [hg]; exact (below_size (tH HB)) : w.heap.size ≤ gb451)); have GE451 := Aside0.mk ((by rw [hg]; exact (below_size (tH HB)) : w.heap.size ≤ gb451)); replace HB := Aside0.mk (below_step (tH HB) hb); clear hb hbox hg) | ((with_reducible refine gate_callee (f := 109) rfl ?_); refine gL_ (some 9) rfl rfl Try.func109 #[.pointer (some ⟨gb451, 0, none⟩)] rfl ?_; (with_reducible refine (spec_l05Ok.calls k _ [(⟨a0_0, l0_1, l0_2, a0_3, a0_4, l0_5⟩ : S27)] true _ ?side1 ?side2 A4.out).mono ?_); (case side1 => exact Kd.C_box (k27_mk _ _ (by exact HC0_1.out) (tC (Kd.C_below HR0_1.out HB.out)) (by exact HC0_2.out) (tC (Kd.C_below HR0_2.out HB.out)) (by exact HC0_5.out) (tC (Kd.C_below HR0_5.out HB.out))) (tB BK451)); (case side2 => exact Nat.one_pos); rintro e w8 ⟨rfl, hb⟩; refine ⟨_, rfl, ?_⟩; replace BK451 := tbB BK451 hb; replace HB := Aside0.mk (below_step (tH1 HB GE451.out) hb); (try clear hb); (try clear hb2); (try clear hk); (try clear hi)))
   (try simp only [Act.put, sx0, sx1, sx2])
   go_cut [18] (fun v18 wc => ∃ (kq : Nat) (x18_5 : Bool), v18 = .bool x18_5 ∧ Aside0 (spec_ReasonOf.j0 kq a1 a2 x18_5 a0_0 l0_1 l0_2 a0_3 a0_4 l0_5 = some (r1, r2)) ∧ Aside0 (kq ≤ k) ∧ Aside0 (wc.heap[gb451]? = some (.cells #[.string a0_0, (.slice A0_1 l0_1.length c0_1), (.slice A0_2 l0_2.length c0_2), .int .i64 a0_3, .int .i64 a0_4, (.slice A0_5 l0_5.length c0_5)] 27 (0, 0))) ∧ Aside0 (Below w.heap.size w wc))
   case first =>
    have H := HC6.out
    clear HC6
    replace H := Option.bind_eq_some_iff.mp H
    obtain ⟨t453, A90, H⟩ := H
    replace H : (if t453 = true then ((spec_l03Pitch.f a2).bind fun t454 => (spec_ReasonOf.j0 k a1 a2 (!t454) a0_0 l0_1 l0_2 a0_3 a0_4 l0_5)) else (spec_ReasonOf.j0 k a1 a2 true a0_0 l0_1 l0_2 a0_3 a0_4 l0_5)) = some (r1, r2) := H
    have A9 := Aside0.mk A90
    clear A90
    by_cases c10 : t453 = true
    · subst c10
      have H1 : ((spec_l03Pitch.f a2).bind fun t454 => (spec_ReasonOf.j0 k a1 a2 (!t454) a0_0 l0_1 l0_2 a0_3 a0_4 l0_5)) = some (r1, r2) := by rw [if_pos rfl] at H; exact H
      clear H
      have H := H1
      clear H1
      replace H := Option.bind_eq_some_iff.mp H
      obtain ⟨t454, A110, H⟩ := H
      replace H : (spec_ReasonOf.j0 k a1 a2 (!t454) a0_0 l0_1 l0_2 a0_3 a0_4 l0_5) = some (r1, r2) := H
      have A11 := Aside0.mk A110
      clear A110
      have H' := Aside0.mk H
      clear H
      go_wp2_with (first | ((with_reducible refine gate_callee (f := 126) rfl ?_); refine gL_ (some 12) rfl rfl Try.func126 #[.int .i64 a1] rfl ?_; (with_reducible refine (spec_l03Pitch.calls a1 true _ A9.out).mono ?_); rintro e w' ⟨rfl, ⟨nd, rfl⟩⟩; refine ⟨_, rfl, ?_⟩) | (go_at_call 126; (with_reducible refine (spec_l03Pitch.calls a2 t454 _ A11.out).mono ?_); rintro e w' ⟨rfl, ⟨nd, rfl⟩⟩))
      go_meet
      case rel => exact ⟨_, (!t454), tq, H', ⟨by first | omega | exact Nat.le_refl _⟩, ⟨tB BK451⟩, ⟨tH1 HB GE451.out⟩⟩
    replace c10 := Bool.eq_false_iff.mpr c10
    subst c10
    have H1 : (spec_ReasonOf.j0 k a1 a2 true a0_0 l0_1 l0_2 a0_3 a0_4 l0_5) = some (r1, r2) := by rw [if_neg (show ¬ (false = true) by decide)] at H; exact H
    clear H
    have H := H1
    clear H1
    have H' := Aside0.mk H
    clear H
    go_wp2_with (first | ((with_reducible refine gate_callee (f := 126) rfl ?_); refine gL_ (some 12) rfl rfl Try.func126 #[.int .i64 a1] rfl ?_; (with_reducible refine (spec_l03Pitch.calls a1 false _ A9.out).mono ?_); rintro e w' ⟨rfl, ⟨nd, rfl⟩⟩; refine ⟨_, rfl, ?_⟩))
    go_meet
    case rel => exact ⟨_, (true), tq, H', ⟨by first | omega | exact Nat.le_refl _⟩, ⟨tB BK451⟩, ⟨tH1 HB GE451.out⟩⟩
   case rest =>
   clear HC6
   try clear c1
   try clear p2
   try clear c5
   try clear c8
   try clear c10
   obtain ⟨kq, x18_5, rfl, HA, HJ5, BK451, HB⟩ := hcut
   cases kq with
   | zero => exact absurd HA.out (by simp [spec_ReasonOf.j0])
   | succ kj5 =>
   have H := HA.out
   clear HA
   simp only [spec_ReasonOf.j0] at H
   by_cases c12 : x18_5 = true
   · subst c12
     have H1 : (some (0, 2)) = some (r1, r2) := by rw [if_pos rfl] at H; exact H
     clear H
     have H := H1
     clear H1
     simp only [Option.some.injEq, Prod.mk.injEq] at H
     obtain ⟨rfl, rfl⟩ := H
     go_wp2
     go_ret2
     exact ⟨tE, tH1 HB GE451.out⟩
   replace c12 := Bool.eq_false_iff.mpr c12
   subst c12
   have H1 : ((spec_l05Reason.f kj5 [(⟨a0_0, l0_1, l0_2, a0_3, a0_4, l0_5⟩ : S27)] a1 a2).bind fun t455 => (if t455 = 0 then (some (0, 3)) else (some (t455, 0)))) = some (r1, r2) := by rw [if_neg (show ¬ (false = true) by decide)] at H; exact H
   clear H
   have H := H1
   clear H1
   replace H := Option.bind_eq_some_iff.mp H
   obtain ⟨t455, A130, H⟩ := H
   replace H : (if t455 = 0 then (some (0, 3)) else (some (t455, 0))) = some (r1, r2) := H
   have A13 := Aside0.mk A130
   clear A130
   by_cases c14 : t455 = 0
   · rw [if_pos c14] at H
     have c14b0 : (t455 == 0) = true := beq_iff_eq.mpr c14
     have c14b1 : (t455 != 0) = false := bne_eq_false_iff_eq.mpr c14
     clear c14
     simp only [Option.some.injEq, Prod.mk.injEq] at H
     obtain ⟨rfl, rfl⟩ := H
     go_wp2_with (first | ((with_reducible refine gate_callee (f := 192) rfl ?_); refine gL_ (some 21) rfl rfl Try.func192 #[.pointer (some ⟨gb451, 0, none⟩), .int .i64 a1, .int .i64 a2] rfl ?_; (with_reducible refine (spec_l05Reason.calls kj5 _ [(⟨a0_0, l0_1, l0_2, a0_3, a0_4, l0_5⟩ : S27)] a1 a2 t455 _ ?side1 ?side2 A13.out).mono ?_); (case side1 => exact Kd.C_box (k27_mk _ _ (by exact HC0_1.out) (tC (Kd.C_below HR0_1.out HB.out)) (by exact HC0_2.out) (tC (Kd.C_below HR0_2.out HB.out)) (by exact HC0_5.out) (tC (Kd.C_below HR0_5.out HB.out))) (tB BK451)); (case side2 => exact Nat.one_pos); rintro e w' ⟨rfl, ⟨nd, rfl⟩⟩; refine ⟨_, rfl, ?_⟩))
     go_ret2
     exact ⟨tE, tH1 HB GE451.out⟩
   rw [if_neg c14] at H
   have c14b0 : (t455 == 0) = false := beq_eq_false_iff_ne.mpr c14
   have c14b1 : (t455 != 0) = true := bne_iff_ne.mpr c14
   simp only [Option.some.injEq, Prod.mk.injEq] at H
   obtain ⟨rfl, rfl⟩ := H
   go_wp2_with (first | ((with_reducible refine gate_callee (f := 192) rfl ?_); refine gL_ (some 21) rfl rfl Try.func192 #[.pointer (some ⟨gb451, 0, none⟩), .int .i64 a1, .int .i64 a2] rfl ?_; (with_reducible refine (spec_l05Reason.calls kj5 _ [(⟨a0_0, l0_1, l0_2, a0_3, a0_4, l0_5⟩ : S27)] a1 a2 t455 _ ?side1 ?side2 A13.out).mono ?_); (case side1 => exact Kd.C_box (k27_mk _ _ (by exact HC0_1.out) (tC (Kd.C_below HR0_1.out HB.out)) (by exact HC0_2.out) (tC (Kd.C_below HR0_2.out HB.out)) (by exact HC0_5.out) (tC (Kd.C_below HR0_5.out HB.out))) (tB BK451)); (case side2 => exact Nat.one_pos); rintro e w' ⟨rfl, ⟨nd, rfl⟩⟩; refine ⟨_, rfl, ?_⟩))
   go_ret2
   exact ⟨tE, tH1 HB GE451.out⟩
 replace c5 := Bool.eq_false_iff.mpr c5
 subst c5
 have H1 : (some (0, 1)) = some (r1, r2) := by rw [if_neg (show ¬ (false = true) by decide)] at H; exact H
 clear H
 have H := H1
 clear H1
 simp only [Option.some.injEq, Prod.mk.injEq] at H
 obtain ⟨rfl, rfl⟩ := H
 go_enter Try.func86, Try.ntmps86
 go_wp2_with (first | ((with_reducible refine gate_dst (N := 3) rfl ?_); refine box_event ?hg (N := 3) ?hd (cs := #[.string a0_0, .slice A0_1 l0_1.length c0_1, .slice A0_2 l0_2.length c0_2, .int .i64 a0_3, .int .i64 a0_4, .slice A0_5 l0_5.length c0_5]) (t := 27) ?hr ?_; (case hd => rfl); (case hg => rfl); (case hr => first | (go_simp; done) | (go_simp; rfl)); intro gb451 hg w15 hbox hb; have BK451 := Aside0.mk (hbox); have GW451 := Aside0.mk ((by rw [hg]; exact (below_size (tH HB)) : w.heap.size ≤ gb451)); have GE451 := Aside0.mk ((by rw [hg]; exact (below_size (tH HB)) : w.heap.size ≤ gb451)); replace HB := Aside0.mk (below_step (tH HB) hb); clear hb hbox hg) | ((with_reducible refine gate_callee (f := 109) rfl ?_); refine gL_ (some 9) rfl rfl Try.func109 #[.pointer (some ⟨gb451, 0, none⟩)] rfl ?_; (with_reducible refine (spec_l05Ok.calls k _ [(⟨a0_0, l0_1, l0_2, a0_3, a0_4, l0_5⟩ : S27)] false _ ?side1 ?side2 A4.out).mono ?_); (case side1 => exact Kd.C_box (k27_mk _ _ (by exact HC0_1.out) (tC (Kd.C_below HR0_1.out HB.out)) (by exact HC0_2.out) (tC (Kd.C_below HR0_2.out HB.out)) (by exact HC0_5.out) (tC (Kd.C_below HR0_5.out HB.out))) (tB BK451)); (case side2 => exact Nat.one_pos); rintro e w16 ⟨rfl, hb⟩; refine ⟨_, rfl, ?_⟩; replace BK451 := tbB BK451 hb; replace HB := Aside0.mk (below_step (tH1 HB GE451.out) hb); (try clear hb); (try clear hb2); (try clear hk); (try clear hi)))
 go_ret2
 exact ⟨tE, tH1 HB GE451.out⟩

end Go.Proofs.Ytbedlmlofnphkaa.PZ
