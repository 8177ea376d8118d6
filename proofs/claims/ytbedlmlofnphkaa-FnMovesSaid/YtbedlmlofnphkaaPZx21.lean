-- WRITTEN BY wip/gprint.py, a program of this session's over the kit's print, with contracts given by hand
import Derived.Test.YtbedlmlofnphkaaPZx0
import Derived.Test.YtbedlmlofnphkaaPZx18
import Derived.Test.YtbedlmlofnphkaaPZx19
import Derived.Test.YtbedlmlofnphkaaPZx20
namespace Go.Proofs.Ytbedlmlofnphkaa.PZ
open Go.RowKit Go.Proofs.YtbedlmlofnphkaaW.PrintWords Go.Proofs.YtbedlmlofnphkaaW.PrintLast Go.Proofs.YtbedlmlofnphkaaW.PrintMore
attribute [local go_sem] max2_int min2_int max_two min_two max_three min_three max_four min_four   -- for this text's walks alone
set_option linter.unusedVariables false
set_option linter.unusedSimpArgs false

/-! ### impl_ValidRaga: function 189 -/
mutual
def impl_ValidRaga.j0 : Nat → Bool → ByteArray → List Int → List Int → Int → Int → List (List Int) → Option (Bool)
 | 0, _, _, _, _, _, _, _ => none
 | k + 1, x47, x391000, x391001, x391002, x391003, x391004, x391005 => if x47 = true then (some false) else (impl_ValidRaga.l0 k x391005 (x391005.length : Int) 0 x391000 x391001 x391002 x391003 x391004 x391005)
def impl_ValidRaga.l0 : Nat → List (List Int) → Int → Int → ByteArray → List Int → List Int → Int → Int → List (List Int) → Option (Bool)
 | 0, _, _, _, _, _, _, _, _, _ => none
 | k + 1, x49, x50, x51, x391000, x391001, x391002, x391003, x391004, x391005 => if x51 < x50 then (if 0 ≤ x51 then (if x51 < (x49.length : Int) then (if ((rd_L3 x49 x51).length : Int) = 2 then (if 0 < ((rd_L3 x49 x51).length : Int) then ((impl_toneOk.f (rd (rd_L3 x49 x51) 0)).bind fun t398 => (if t398 = true then (if 1 < ((rd_L3 x49 x51).length : Int) then ((impl_toneOk.f (rd (rd_L3 x49 x51) 1)).bind fun t400 => (if t400 = true then (if (rd (rd_L3 x49 x51) 0) = (rd (rd_L3 x49 x51) 1) then (some false) else (if x51 > 0 then (if 0 ≤ (wrap64 (x51 - 1)) then (if (wrap64 (x51 - 1)) < (x391005.length : Int) then ((slices_Compare_int64_int64.f k (rd_L3 x391005 (wrap64 (x51 - 1))) (rd_L3 x49 x51)).bind fun t404 => (if t404 ≥ 0 then (some false) else (impl_ValidRaga.l0 k x49 x50 (wrap64 (x51 + 1)) x391000 x391001 x391002 x391003 x391004 x391005))) else (none)) else (none)) else (impl_ValidRaga.l0 k x49 x50 (wrap64 (x51 + 1)) x391000 x391001 x391002 x391003 x391004 x391005))) else (some false))) else (none)) else (some false))) else (none)) else (some false)) else (none)) else (none)) else (some true)
end
def impl_ValidRaga.f (k : Nat) (a0_0 : ByteArray) (l0_1 : List Int) (l0_2 : List Int) (a0_3 : Int) (a0_4 : Int) (l0_5 : List (List Int)) : Option (Bool) := (impl_IsName.f k a0_0).bind fun t391 => (if t391 = true then ((impl_ValidScale.f k l0_1).bind fun t392 => (if t392 = true then ((impl_ValidScale.f k l0_2).bind fun t393 => (if t393 = true then (if a0_3 = a0_4 then (impl_ValidRaga.j0 k true a0_0 l0_1 l0_2 a0_3 a0_4 l0_5) else ((impl_Raga_hasTone.f k a0_0 l0_1 l0_2 a0_3 a0_4 l0_5 a0_3).bind fun t394 => (if t394 = true then ((impl_Raga_hasTone.f k a0_0 l0_1 l0_2 a0_3 a0_4 l0_5 a0_4).bind fun t395 => (if t395 = true then (impl_ValidRaga.j0 k (decide ((l0_5.length : Int) > 8)) a0_0 l0_1 l0_2 a0_3 a0_4 l0_5) else (impl_ValidRaga.j0 k true a0_0 l0_1 l0_2 a0_3 a0_4 l0_5))) else (impl_ValidRaga.j0 k true a0_0 l0_1 l0_2 a0_3 a0_4 l0_5)))) else (impl_ValidRaga.j0 k true a0_0 l0_1 l0_2 a0_3 a0_4 l0_5))) else (impl_ValidRaga.j0 k true a0_0 l0_1 l0_2 a0_3 a0_4 l0_5))) else (impl_ValidRaga.j0 k true a0_0 l0_1 l0_2 a0_3 a0_4 l0_5))
theorem impl_ValidRaga.mono_l : ∀ k, (∀ y0 y1 y2 y3 y4 y5 y6, LeO (impl_ValidRaga.j0 k y0 y1 y2 y3 y4 y5 y6) (impl_ValidRaga.j0 (k + 1) y0 y1 y2 y3 y4 y5 y6)) ∧ (∀ y0 y1 y2 y3 y4 y5 y6 y7 y8, LeO (impl_ValidRaga.l0 k y0 y1 y2 y3 y4 y5 y6 y7 y8) (impl_ValidRaga.l0 (k + 1) y0 y1 y2 y3 y4 y5 y6 y7 y8))
 | 0 => ⟨fun _ _ _ _ _ _ _ r h => by simp [impl_ValidRaga.j0] at h, fun _ _ _ _ _ _ _ _ _ r h => by simp [impl_ValidRaga.l0] at h⟩
 | k + 1 => by
  obtain ⟨ih0, ih1⟩ := impl_ValidRaga.mono_l k
  refine ⟨?_, ?_⟩
  all_goals (intros; (first | unfold impl_ValidRaga.j0 | unfold impl_ValidRaga.l0); repeat' first
   | (with_reducible exact ih0 _ _ _ _ _ _ _)
   | (with_reducible exact ih1 _ _ _ _ _ _ _ _ _)
   | (with_reducible exact impl_IsName.mono _ _)
   | (with_reducible exact impl_Raga_hasTone.mono _ _ _ _ _ _ _ _)
   | (with_reducible exact impl_ValidScale.mono _ _)
   | (with_reducible exact slices_Compare_int64_int64.mono _ _ _)
   | (with_reducible exact LeO.refl _)
   | (with_reducible exact LeO.none _)
   | (with_reducible refine LeO.ite ?_ ?_)
   | (with_reducible refine LeO.bind ?_ (fun _ => ?_))
   | exact ih0 _ _ _ _ _ _ _
   | exact ih1 _ _ _ _ _ _ _ _ _
   | exact impl_IsName.mono _ _
   | exact impl_Raga_hasTone.mono _ _ _ _ _ _ _ _
   | exact impl_ValidScale.mono _ _
   | exact slices_Compare_int64_int64.mono _ _ _
   | exact LeO.none _
   | refine LeO.ite ?_ ?_
   | refine LeO.bind ?_ (fun _ => ?_))
theorem impl_ValidRaga.mono : ∀ a0 a1 a2 a3 a4 a5 k, LeO (impl_ValidRaga.f k a0 a1 a2 a3 a4 a5) (impl_ValidRaga.f (k + 1) a0 a1 a2 a3 a4 a5) := by
 intro a0 a1 a2 a3 a4 a5 k
 obtain ⟨ih0, ih1⟩ := impl_ValidRaga.mono_l k
 unfold impl_ValidRaga.f
 repeat' first
  | (with_reducible exact ih0 _ _ _ _ _ _ _)
  | (with_reducible exact ih1 _ _ _ _ _ _ _ _ _)
  | (with_reducible exact impl_IsName.mono _ _)
  | (with_reducible exact impl_Raga_hasTone.mono _ _ _ _ _ _ _ _)
  | (with_reducible exact impl_ValidScale.mono _ _)
  | (with_reducible exact slices_Compare_int64_int64.mono _ _ _)
  | (with_reducible exact LeO.refl _)
  | (with_reducible exact LeO.none _)
  | (with_reducible refine LeO.ite ?_ ?_)
  | (with_reducible refine LeO.bind ?_ (fun _ => ?_))
  | exact ih0 _ _ _ _ _ _ _
  | exact ih1 _ _ _ _ _ _ _ _ _
  | exact impl_IsName.mono _ _
  | exact impl_Raga_hasTone.mono _ _ _ _ _ _ _ _
  | exact impl_ValidScale.mono _ _
  | exact slices_Compare_int64_int64.mono _ _ _
  | exact LeO.none _
  | refine LeO.ite ?_ ?_
  | refine LeO.bind ?_ (fun _ => ?_)
def impl_ValidRaga.T6 : Bool × List (List Nat × List Nat) := (true, [([], []), ([0], [0]), ([1], [1]), ([2], [2]), ([3], [3]), ([4, 3], [3, 4]), ([5, 3], [3, 5]), ([6, 3, 3], [3, 6]), ([7, 3], [3, 7]), ([3, 8], [3, 8]), ([9, 7], [9]), ([10], [10]), ([11, 10], [10, 11]), ([12, 10], [10, 12]), ([13, 10, 10], [10, 13]), ([14, 10], [10, 14]), ([10, 15], [10, 15]), ([16, 14], [16]), ([17], [17]), ([18, 17], [17, 18]), ([19, 17], [17, 19]), ([17], [17]), ([21, 17], [17, 21]), ([22, 17], [17, 22]), ([20, 23, 17], [17, 20, 23]), ([17, 24], [17, 24]), ([25, 17], [25]), ([26], [26]), ([27, 26], [26, 27]), ([28, 26, 26], [26, 28]), ([29], [29]), ([30, 29], [29, 30]), ([29], [29]), ([32, 29], [29, 32]), ([31, 33, 29], [29, 31, 33]), ([34, 29], [29, 34]), ([29], [29]), ([35, 36, 29, 29], [29, 35, 36]), ([37, 29], [29, 37]), ([29, 38, 26], [26, 29, 38]), ([26, 39], [26, 39])])
def impl_ValidRaga.B6 : List Nat := [0, 1, 3, 7, 15, 31, 63, 127, 255, 511, 1023, 2047, 4095, 8191, 16383, 32767, 65535, 131071, 262143, 524287, 1048575, 262143, 2359295, 6553599, 16777215, 33554431, 67108863, 134217727, 268435455, 536870911, 1073741823, 2147483647, 1073741823, 5368709119, 17179869183, 34359738367, 1073741823, 137438953471, 274877906943, 549755813887, 1099511627775]
theorem impl_ValidRaga.tab6 : rtab .any (opsOf Try.f189 6) = impl_ValidRaga.T6 := by kernel_rfl
theorem impl_ValidRaga.bits6 : waitsOk impl_ValidRaga.T6.2 impl_ValidRaga.B6 = true := by kernel_rfl
set_option maxHeartbeats 8000000 in
set_option maxRecDepth 100000 in
theorem impl_ValidRaga.calls (k : Nat) (a0_0 : ByteArray) (A0_1 : Option Addr) (c0_1 : Nat) (l0_1 : List Int) (A0_2 : Option Addr) (c0_2 : Nat) (l0_2 : List Int) (a0_3 : Int) (a0_4 : Int) (A0_5 : Option Addr) (c0_5 : Nat) (l0_5 : List (List Int)) (r : Bool) (w : World) (hr0_1 : Kd.C (Kd.int .i64) w A0_1 l0_1.length l0_1) (hc0_1 : l0_1.length ≤ c0_1) (hr0_2 : Kd.C (Kd.int .i64) w A0_2 l0_2.length l0_2) (hc0_2 : l0_2.length ≤ c0_2) (hr0_5 : Kd.C (Kd.slice 2 (Kd.int .i64)) w A0_5 l0_5.length l0_5) (hc0_5 : l0_5.length ≤ c0_5) (h : impl_ValidRaga.f k a0_0 l0_1 l0_2 a0_3 a0_4 l0_5 = some r) :
 Calls Try.prog 189 #[.agg #[.string a0_0, .slice A0_1 l0_1.length c0_1, .slice A0_2 l0_2.length c0_2, .int .i64 a0_3, .int .i64 a0_4, .slice A0_5 l0_5.length c0_5]] w fun e w' => e = .returned (.bool r) ∧ Below w.heap.size w w' := by
 have hu27 := Try.underlying27
 have HR0_1 := Aside0.mk hr0_1
 have HC0_1 := Aside0.mk hc0_1
 clear hr0_1 hc0_1
 have HR0_2 := Aside0.mk hr0_2
 have HC0_2 := Aside0.mk hc0_2
 clear hr0_2 hc0_2
 have HR0_5 := Aside0.mk hr0_5
 have HC0_5 := Aside0.mk hc0_5
 clear hr0_5 hc0_5
 have HB := Aside0.mk (Below.refl w.heap.size w)
 have H : ((impl_IsName.f k a0_0).bind fun t391 => (if t391 = true then ((impl_ValidScale.f k l0_1).bind fun t392 => (if t392 = true then ((impl_ValidScale.f k l0_2).bind fun t393 => (if t393 = true then (if a0_3 = a0_4 then (impl_ValidRaga.j0 k true a0_0 l0_1 l0_2 a0_3 a0_4 l0_5) else ((impl_Raga_hasTone.f k a0_0 l0_1 l0_2 a0_3 a0_4 l0_5 a0_3).bind fun t394 => (if t394 = true then ((impl_Raga_hasTone.f k a0_0 l0_1 l0_2 a0_3 a0_4 l0_5 a0_4).bind fun t395 => (if t395 = true then (impl_ValidRaga.j0 k (decide ((l0_5.length : Int) > 8)) a0_0 l0_1 l0_2 a0_3 a0_4 l0_5) else (impl_ValidRaga.j0 k true a0_0 l0_1 l0_2 a0_3 a0_4 l0_5))) else (impl_ValidRaga.j0 k true a0_0 l0_1 l0_2 a0_3 a0_4 l0_5)))) else (impl_ValidRaga.j0 k true a0_0 l0_1 l0_2 a0_3 a0_4 l0_5))) else (impl_ValidRaga.j0 k true a0_0 l0_1 l0_2 a0_3 a0_4 l0_5))) else (impl_ValidRaga.j0 k true a0_0 l0_1 l0_2 a0_3 a0_4 l0_5))) = some r := h
 clear h
 have HC2 := Aside0.mk H
 clear H
 go_enter Try.func189, Try.ntmps189
 go_upto_region 1 with (first | ((with_reducible refine gate_dst (N := 1) rfl ?_); (try (refine gate_guard (by rfl) ?_; dsimp only)); refine box_event ?hg (N := 1) ?hd (cs := #[.string a0_0, .slice A0_1 l0_1.length c0_1, .slice A0_2 l0_2.length c0_2, .int .i64 a0_3, .int .i64 a0_4, .slice A0_5 l0_5.length c0_5]) (t := 27) ?hr ?_; (case hd => rfl); (case hg => rfl); (case hr => first | (go_simp; done) | (go_simp; rfl)); intro gb390 hg w3 hbox hb; have BK390 := Aside0.mk (hbox); have GW390 := Aside0.mk ((by rw [hg]; exact (below_size (tH HB)) : w.heap.size ≤ gb390)); have GE390 := Aside0.mk ((by rw [hg]; exact (below_size (tH HB)) : w.heap.size ≤ gb390)); replace HB := Aside0.mk (below_step (tH HB) hb); clear hb hbox hg))
 (try simp only [Act.put, sx0, sx1, sx2])
 go_cut [47] (fun v47 wc => ∃ (kq : Nat) (x47_1 : Bool), v47 = .bool x47_1 ∧ Aside0 (impl_ValidRaga.j0 kq x47_1 a0_0 l0_1 l0_2 a0_3 a0_4 l0_5 = some r) ∧ Aside0 (kq ≤ k) ∧ Aside0 (wc.heap[gb390]? = some (.cells #[.string a0_0, (.slice A0_1 l0_1.length c0_1), (.slice A0_2 l0_2.length c0_2), .int .i64 a0_3, .int .i64 a0_4, (.slice A0_5 l0_5.length c0_5)] 27 (0, 0))) ∧ Aside0 (Below w.heap.size w wc))
 case first =>
  have H := HC2.out
  clear HC2
  replace H := Option.bind_eq_some_iff.mp H
  obtain ⟨t391, A40, H⟩ := H
  replace H : (if t391 = true then ((impl_ValidScale.f k l0_1).bind fun t392 => (if t392 = true then ((impl_ValidScale.f k l0_2).bind fun t393 => (if t393 = true then (if a0_3 = a0_4 then (impl_ValidRaga.j0 k true a0_0 l0_1 l0_2 a0_3 a0_4 l0_5) else ((impl_Raga_hasTone.f k a0_0 l0_1 l0_2 a0_3 a0_4 l0_5 a0_3).bind fun t394 => (if t394 = true then ((impl_Raga_hasTone.f k a0_0 l0_1 l0_2 a0_3 a0_4 l0_5 a0_4).bind fun t395 => (if t395 = true then (impl_ValidRaga.j0 k (decide ((l0_5.length : Int) > 8)) a0_0 l0_1 l0_2 a0_3 a0_4 l0_5) else (impl_ValidRaga.j0 k true a0_0 l0_1 l0_2 a0_3 a0_4 l0_5))) else (impl_ValidRaga.j0 k true a0_0 l0_1 l0_2 a0_3 a0_4 l0_5)))) else (impl_ValidRaga.j0 k true a0_0 l0_1 l0_2 a0_3 a0_4 l0_5))) else (impl_ValidRaga.j0 k true a0_0 l0_1 l0_2 a0_3 a0_4 l0_5))) else (impl_ValidRaga.j0 k true a0_0 l0_1 l0_2 a0_3 a0_4 l0_5)) = some r := H
  have A4 := Aside0.mk A40
  clear A40
  by_cases c5 : t391 = true
  · subst c5
    have H1 : ((impl_ValidScale.f k l0_1).bind fun t392 => (if t392 = true then ((impl_ValidScale.f k l0_2).bind fun t393 => (if t393 = true then (if a0_3 = a0_4 then (impl_ValidRaga.j0 k true a0_0 l0_1 l0_2 a0_3 a0_4 l0_5) else ((impl_Raga_hasTone.f k a0_0 l0_1 l0_2 a0_3 a0_4 l0_5 a0_3).bind fun t394 => (if t394 = true then ((impl_Raga_hasTone.f k a0_0 l0_1 l0_2 a0_3 a0_4 l0_5 a0_4).bind fun t395 => (if t395 = true then (impl_ValidRaga.j0 k (decide ((l0_5.length : Int) > 8)) a0_0 l0_1 l0_2 a0_3 a0_4 l0_5) else (impl_ValidRaga.j0 k true a0_0 l0_1 l0_2 a0_3 a0_4 l0_5))) else (impl_ValidRaga.j0 k true a0_0 l0_1 l0_2 a0_3 a0_4 l0_5)))) else (impl_ValidRaga.j0 k true a0_0 l0_1 l0_2 a0_3 a0_4 l0_5))) else (impl_ValidRaga.j0 k true a0_0 l0_1 l0_2 a0_3 a0_4 l0_5))) = some r := by rw [if_pos rfl] at H; exact H
    clear H
    have H := H1
    clear H1
    replace H := Option.bind_eq_some_iff.mp H
    obtain ⟨t392, A60, H⟩ := H
    replace H : (if t392 = true then ((impl_ValidScale.f k l0_2).bind fun t393 => (if t393 = true then (if a0_3 = a0_4 then (impl_ValidRaga.j0 k true a0_0 l0_1 l0_2 a0_3 a0_4 l0_5) else ((impl_Raga_hasTone.f k a0_0 l0_1 l0_2 a0_3 a0_4 l0_5 a0_3).bind fun t394 => (if t394 = true then ((impl_Raga_hasTone.f k a0_0 l0_1 l0_2 a0_3 a0_4 l0_5 a0_4).bind fun t395 => (if t395 = true then (impl_ValidRaga.j0 k (decide ((l0_5.length : Int) > 8)) a0_0 l0_1 l0_2 a0_3 a0_4 l0_5) else (impl_ValidRaga.j0 k true a0_0 l0_1 l0_2 a0_3 a0_4 l0_5))) else (impl_ValidRaga.j0 k true a0_0 l0_1 l0_2 a0_3 a0_4 l0_5)))) else (impl_ValidRaga.j0 k true a0_0 l0_1 l0_2 a0_3 a0_4 l0_5))) else (impl_ValidRaga.j0 k true a0_0 l0_1 l0_2 a0_3 a0_4 l0_5)) = some r := H
    have A6 := Aside0.mk A60
    clear A60
    by_cases c7 : t392 = true
    · subst c7
      have H1 : ((impl_ValidScale.f k l0_2).bind fun t393 => (if t393 = true then (if a0_3 = a0_4 then (impl_ValidRaga.j0 k true a0_0 l0_1 l0_2 a0_3 a0_4 l0_5) else ((impl_Raga_hasTone.f k a0_0 l0_1 l0_2 a0_3 a0_4 l0_5 a0_3).bind fun t394 => (if t394 = true then ((impl_Raga_hasTone.f k a0_0 l0_1 l0_2 a0_3 a0_4 l0_5 a0_4).bind fun t395 => (if t395 = true then (impl_ValidRaga.j0 k (decide ((l0_5.length : Int) > 8)) a0_0 l0_1 l0_2 a0_3 a0_4 l0_5) else (impl_ValidRaga.j0 k true a0_0 l0_1 l0_2 a0_3 a0_4 l0_5))) else (impl_ValidRaga.j0 k true a0_0 l0_1 l0_2 a0_3 a0_4 l0_5)))) else (impl_ValidRaga.j0 k true a0_0 l0_1 l0_2 a0_3 a0_4 l0_5))) = some r := by rw [if_pos rfl] at H; exact H
      clear H
      have H := H1
      clear H1
      replace H := Option.bind_eq_some_iff.mp H
      obtain ⟨t393, A80, H⟩ := H
      replace H : (if t393 = true then (if a0_3 = a0_4 then (impl_ValidRaga.j0 k true a0_0 l0_1 l0_2 a0_3 a0_4 l0_5) else ((impl_Raga_hasTone.f k a0_0 l0_1 l0_2 a0_3 a0_4 l0_5 a0_3).bind fun t394 => (if t394 = true then ((impl_Raga_hasTone.f k a0_0 l0_1 l0_2 a0_3 a0_4 l0_5 a0_4).bind fun t395 => (if t395 = true then (impl_ValidRaga.j0 k (decide ((l0_5.length : Int) > 8)) a0_0 l0_1 l0_2 a0_3 a0_4 l0_5) else (impl_ValidRaga.j0 k true a0_0 l0_1 l0_2 a0_3 a0_4 l0_5))) else (impl_ValidRaga.j0 k true a0_0 l0_1 l0_2 a0_3 a0_4 l0_5)))) else (impl_ValidRaga.j0 k true a0_0 l0_1 l0_2 a0_3 a0_4 l0_5)) = some r := H
      have A8 := Aside0.mk A80
      clear A80
      by_cases c9 : t393 = true
      · subst c9
        have H1 : (if a0_3 = a0_4 then (impl_ValidRaga.j0 k true a0_0 l0_1 l0_2 a0_3 a0_4 l0_5) else ((impl_Raga_hasTone.f k a0_0 l0_1 l0_2 a0_3 a0_4 l0_5 a0_3).bind fun t394 => (if t394 = true then ((impl_Raga_hasTone.f k a0_0 l0_1 l0_2 a0_3 a0_4 l0_5 a0_4).bind fun t395 => (if t395 = true then (impl_ValidRaga.j0 k (decide ((l0_5.length : Int) > 8)) a0_0 l0_1 l0_2 a0_3 a0_4 l0_5) else (impl_ValidRaga.j0 k true a0_0 l0_1 l0_2 a0_3 a0_4 l0_5))) else (impl_ValidRaga.j0 k true a0_0 l0_1 l0_2 a0_3 a0_4 l0_5)))) = some r := by rw [if_pos rfl] at H; exact H
        clear H
        have H := H1
        clear H1
        by_cases c10 : a0_3 = a0_4
        · rw [if_pos c10] at H
          have c10b0 : (a0_3 == a0_4) = true := beq_iff_eq.mpr c10
          have c10b1 : (a0_3 != a0_4) = false := bne_eq_false_iff_eq.mpr c10
          clear c10
          (first | rw [c10b0] | (simp only [i64_w, i32_w]; rw [c10b0]) | skip)
          have H' := Aside0.mk H
          clear H
          have hcz11_0 : w3.cell? ⟨gb390, 0, none⟩ = some (.string a0_0) := (blk_cell BK390.out 0).trans rfl
          have hcz11_1 : w3.cell? ⟨gb390, 1, none⟩ = some (.slice A0_1 l0_1.length c0_1) := (blk_cell BK390.out 1).trans rfl
          have hcz11_2 : w3.cell? ⟨gb390, 2, none⟩ = some (.slice A0_2 l0_2.length c0_2) := (blk_cell BK390.out 2).trans rfl
          have hcz11_3 : w3.cell? ⟨gb390, 3, none⟩ = some (.int .i64 a0_3) := (blk_cell BK390.out 3).trans rfl
          have hcz11_4 : w3.cell? ⟨gb390, 4, none⟩ = some (.int .i64 a0_4) := (blk_cell BK390.out 4).trans rfl
          have hcz11_5 : w3.cell? ⟨gb390, 5, none⟩ = some (.slice A0_5 l0_5.length c0_5) := (blk_cell BK390.out 5).trans rfl
          have hfz11_0 := blk_frozen BK390.out 0
          have hfz11_1 := blk_frozen BK390.out 1
          have hfz11_2 := blk_frozen BK390.out 2
          have hfz11_3 := blk_frozen BK390.out 3
          have hfz11_4 := blk_frozen BK390.out 4
          have hfz11_5 := blk_frozen BK390.out 5
          go_wp2_with (first | ((with_reducible refine gate_callee (f := 254) rfl ?_); refine gL_ (some 7) rfl rfl Try.func254 #[.string a0_0] rfl ?_; (with_reducible refine (impl_IsName.calls k a0_0 true _ A4.out).mono ?_); rintro e w' ⟨rfl, ⟨nd, rfl⟩⟩; refine ⟨_, rfl, ?_⟩) | (go_at_call 156; (with_reducible refine (impl_ValidScale.calls k _ _ l0_1 true _ ?side1 ?side2 A6.out).mono ?_); (case side1 => exact Kd.C_below HR0_1.out (tH1 HB GE390.out)); (case side2 => exact HC0_1.out); rintro e w' ⟨rfl, ⟨nd, rfl⟩⟩) | (go_at_call 156; (with_reducible refine (impl_ValidScale.calls k _ _ l0_2 true _ ?side1 ?side2 A8.out).mono ?_); (case side1 => exact Kd.C_below HR0_2.out (tH1 HB GE390.out)); (case side2 => exact HC0_2.out); rintro e w' ⟨rfl, ⟨nd, rfl⟩⟩))
          go_meet
          case rel => exact ⟨_, (true), tq, H', ⟨by first | omega | exact Nat.le_refl _⟩, ⟨tB BK390⟩, ⟨tH1 HB GE390.out⟩⟩
        rw [if_neg c10] at H
        have c10b0 : (a0_3 == a0_4) = false := beq_eq_false_iff_ne.mpr c10
        have c10b1 : (a0_3 != a0_4) = true := bne_iff_ne.mpr c10
        (first | rw [c10b0] | (simp only [i64_w, i32_w]; rw [c10b0]) | skip)
        replace H := Option.bind_eq_some_iff.mp H
        obtain ⟨t394, A120, H⟩ := H
        replace H : (if t394 = true then ((impl_Raga_hasTone.f k a0_0 l0_1 l0_2 a0_3 a0_4 l0_5 a0_4).bind fun t395 => (if t395 = true then (impl_ValidRaga.j0 k (decide ((l0_5.length : Int) > 8)) a0_0 l0_1 l0_2 a0_3 a0_4 l0_5) else (impl_ValidRaga.j0 k true a0_0 l0_1 l0_2 a0_3 a0_4 l0_5))) else (impl_ValidRaga.j0 k true a0_0 l0_1 l0_2 a0_3 a0_4 l0_5)) = some r := H
        have A12 := Aside0.mk A120
        clear A120
        by_cases c13 : t394 = true
        · subst c13
          have H1 : ((impl_Raga_hasTone.f k a0_0 l0_1 l0_2 a0_3 a0_4 l0_5 a0_4).bind fun t395 => (if t395 = true then (impl_ValidRaga.j0 k (decide ((l0_5.length : Int) > 8)) a0_0 l0_1 l0_2 a0_3 a0_4 l0_5) else (impl_ValidRaga.j0 k true a0_0 l0_1 l0_2 a0_3 a0_4 l0_5))) = some r := by rw [if_pos rfl] at H; exact H
          clear H
          have H := H1
          clear H1
          replace H := Option.bind_eq_some_iff.mp H
          obtain ⟨t395, A140, H⟩ := H
          replace H : (if t395 = true then (impl_ValidRaga.j0 k (decide ((l0_5.length : Int) > 8)) a0_0 l0_1 l0_2 a0_3 a0_4 l0_5) else (impl_ValidRaga.j0 k true a0_0 l0_1 l0_2 a0_3 a0_4 l0_5)) = some r := H
          have A14 := Aside0.mk A140
          clear A140
          by_cases c15 : t395 = true
          · subst c15
            have H1 : (impl_ValidRaga.j0 k (decide ((l0_5.length : Int) > 8)) a0_0 l0_1 l0_2 a0_3 a0_4 l0_5) = some r := by rw [if_pos rfl] at H; exact H
            clear H
            have H := H1
            clear H1
            have H' := Aside0.mk H
            clear H
            have hcz16_0 : w3.cell? ⟨gb390, 0, none⟩ = some (.string a0_0) := (blk_cell BK390.out 0).trans rfl
            have hcz16_1 : w3.cell? ⟨gb390, 1, none⟩ = some (.slice A0_1 l0_1.length c0_1) := (blk_cell BK390.out 1).trans rfl
            have hcz16_2 : w3.cell? ⟨gb390, 2, none⟩ = some (.slice A0_2 l0_2.length c0_2) := (blk_cell BK390.out 2).trans rfl
            have hcz16_3 : w3.cell? ⟨gb390, 3, none⟩ = some (.int .i64 a0_3) := (blk_cell BK390.out 3).trans rfl
            have hcz16_4 : w3.cell? ⟨gb390, 4, none⟩ = some (.int .i64 a0_4) := (blk_cell BK390.out 4).trans rfl
            have hcz16_5 : w3.cell? ⟨gb390, 5, none⟩ = some (.slice A0_5 l0_5.length c0_5) := (blk_cell BK390.out 5).trans rfl
            have hfz16_0 := blk_frozen BK390.out 0
            have hfz16_1 := blk_frozen BK390.out 1
            have hfz16_2 := blk_frozen BK390.out 2
            have hfz16_3 := blk_frozen BK390.out 3
            have hfz16_4 := blk_frozen BK390.out 4
            have hfz16_5 := blk_frozen BK390.out 5
            go_wp2_with (first | ((with_reducible refine gate_callee (f := 254) rfl ?_); refine gL_ (some 7) rfl rfl Try.func254 #[.string a0_0] rfl ?_; (with_reducible refine (impl_IsName.calls k a0_0 true _ A4.out).mono ?_); rintro e w' ⟨rfl, ⟨nd, rfl⟩⟩; refine ⟨_, rfl, ?_⟩) | (go_at_call 156; (with_reducible refine (impl_ValidScale.calls k _ _ l0_1 true _ ?side1 ?side2 A6.out).mono ?_); (case side1 => exact Kd.C_below HR0_1.out (tH1 HB GE390.out)); (case side2 => exact HC0_1.out); rintro e w' ⟨rfl, ⟨nd, rfl⟩⟩) | (go_at_call 156; (with_reducible refine (impl_ValidScale.calls k _ _ l0_2 true _ ?side1 ?side2 A8.out).mono ?_); (case side1 => exact Kd.C_below HR0_2.out (tH1 HB GE390.out)); (case side2 => exact HC0_2.out); rintro e w' ⟨rfl, ⟨nd, rfl⟩⟩) | (go_at_call 255; (with_reducible refine (impl_Raga_hasTone.calls k a0_0 _ _ l0_1 _ _ l0_2 a0_3 a0_4 _ _ l0_5 a0_3 true _ ?side1 ?side2 ?side3 ?side4 ?side5 ?side6 A12.out).mono ?_); (case side1 => exact Kd.C_below HR0_1.out (tH1 HB GE390.out)); (case side2 => exact HC0_1.out); (case side3 => exact Kd.C_below HR0_2.out (tH1 HB GE390.out)); (case side4 => exact HC0_2.out); (case side5 => exact Kd.C_below HR0_5.out (tH1 HB GE390.out)); (case side6 => exact HC0_5.out); rintro e w17 ⟨rfl, hb⟩; replace BK390 := tbB BK390 hb; replace HB := Aside0.mk (below_step (tH1 HB GE390.out) hb); (try clear hb); (try clear hb2); (try clear hk); (try clear hi); have hcz18_0 : w17.cell? ⟨gb390, 0, none⟩ = some (.string a0_0) := (blk_cell BK390.out 0).trans rfl; have hcz18_1 : w17.cell? ⟨gb390, 1, none⟩ = some (.slice A0_1 l0_1.length c0_1) := (blk_cell BK390.out 1).trans rfl; have hcz18_2 : w17.cell? ⟨gb390, 2, none⟩ = some (.slice A0_2 l0_2.length c0_2) := (blk_cell BK390.out 2).trans rfl; have hcz18_3 : w17.cell? ⟨gb390, 3, none⟩ = some (.int .i64 a0_3) := (blk_cell BK390.out 3).trans rfl; have hcz18_4 : w17.cell? ⟨gb390, 4, none⟩ = some (.int .i64 a0_4) := (blk_cell BK390.out 4).trans rfl; have hcz18_5 : w17.cell? ⟨gb390, 5, none⟩ = some (.slice A0_5 l0_5.length c0_5) := (blk_cell BK390.out 5).trans rfl; have hfz18_0 := blk_frozen BK390.out 0; have hfz18_1 := blk_frozen BK390.out 1; have hfz18_2 := blk_frozen BK390.out 2; have hfz18_3 := blk_frozen BK390.out 3; have hfz18_4 := blk_frozen BK390.out 4; have hfz18_5 := blk_frozen BK390.out 5) | (go_at_call 255; (with_reducible refine (impl_Raga_hasTone.calls k a0_0 _ _ l0_1 _ _ l0_2 a0_3 a0_4 _ _ l0_5 a0_4 true _ ?side1 ?side2 ?side3 ?side4 ?side5 ?side6 A14.out).mono ?_); (case side1 => exact tC (Kd.C_below HR0_1.out HB.out)); (case side2 => exact HC0_1.out); (case side3 => exact tC (Kd.C_below HR0_2.out HB.out)); (case side4 => exact HC0_2.out); (case side5 => exact tC (Kd.C_below HR0_5.out HB.out)); (case side6 => exact HC0_5.out); rintro e w19 ⟨rfl, hb⟩; replace BK390 := tbB BK390 hb; replace HB := Aside0.mk (below_step (tH1 HB GE390.out) hb); (try clear hb); (try clear hb2); (try clear hk); (try clear hi); have hcz20_0 : w19.cell? ⟨gb390, 0, none⟩ = some (.string a0_0) := (blk_cell BK390.out 0).trans rfl; have hcz20_1 : w19.cell? ⟨gb390, 1, none⟩ = some (.slice A0_1 l0_1.length c0_1) := (blk_cell BK390.out 1).trans rfl; have hcz20_2 : w19.cell? ⟨gb390, 2, none⟩ = some (.slice A0_2 l0_2.length c0_2) := (blk_cell BK390.out 2).trans rfl; have hcz20_3 : w19.cell? ⟨gb390, 3, none⟩ = some (.int .i64 a0_3) := (blk_cell BK390.out 3).trans rfl; have hcz20_4 : w19.cell? ⟨gb390, 4, none⟩ = some (.int .i64 a0_4) := (blk_cell BK390.out 4).trans rfl; have hcz20_5 : w19.cell? ⟨gb390, 5, none⟩ = some (.slice A0_5 l0_5.length c0_5) := (blk_cell BK390.out 5).trans rfl; have hfz20_0 := blk_frozen BK390.out 0; have hfz20_1 := blk_frozen BK390.out 1; have hfz20_2 := blk_frozen BK390.out 2; have hfz20_3 := blk_frozen BK390.out 3; have hfz20_4 := blk_frozen BK390.out 4; have hfz20_5 := blk_frozen BK390.out 5))
            go_meet
            case rel => exact ⟨_, (decide ((l0_5.length : Int) > 8)), tq, H', ⟨by first | omega | exact Nat.le_refl _⟩, ⟨tB BK390⟩, ⟨tH1 HB GE390.out⟩⟩
          replace c15 := Bool.eq_false_iff.mpr c15
          subst c15
          have H1 : (impl_ValidRaga.j0 k true a0_0 l0_1 l0_2 a0_3 a0_4 l0_5) = some r := by rw [if_neg (show ¬ (false = true) by decide)] at H; exact H
          clear H
          have H := H1
          clear H1
          have H' := Aside0.mk H
          clear H
          have hcz21_0 : w3.cell? ⟨gb390, 0, none⟩ = some (.string a0_0) := (blk_cell BK390.out 0).trans rfl
          have hcz21_1 : w3.cell? ⟨gb390, 1, none⟩ = some (.slice A0_1 l0_1.length c0_1) := (blk_cell BK390.out 1).trans rfl
          have hcz21_2 : w3.cell? ⟨gb390, 2, none⟩ = some (.slice A0_2 l0_2.length c0_2) := (blk_cell BK390.out 2).trans rfl
          have hcz21_3 : w3.cell? ⟨gb390, 3, none⟩ = some (.int .i64 a0_3) := (blk_cell BK390.out 3).trans rfl
          have hcz21_4 : w3.cell? ⟨gb390, 4, none⟩ = some (.int .i64 a0_4) := (blk_cell BK390.out 4).trans rfl
          have hcz21_5 : w3.cell? ⟨gb390, 5, none⟩ = some (.slice A0_5 l0_5.length c0_5) := (blk_cell BK390.out 5).trans rfl
          have hfz21_0 := blk_frozen BK390.out 0
          have hfz21_1 := blk_frozen BK390.out 1
          have hfz21_2 := blk_frozen BK390.out 2
          have hfz21_3 := blk_frozen BK390.out 3
          have hfz21_4 := blk_frozen BK390.out 4
          have hfz21_5 := blk_frozen BK390.out 5
          go_wp2_with (first | ((with_reducible refine gate_callee (f := 254) rfl ?_); refine gL_ (some 7) rfl rfl Try.func254 #[.string a0_0] rfl ?_; (with_reducible refine (impl_IsName.calls k a0_0 true _ A4.out).mono ?_); rintro e w' ⟨rfl, ⟨nd, rfl⟩⟩; refine ⟨_, rfl, ?_⟩) | (go_at_call 156; (with_reducible refine (impl_ValidScale.calls k _ _ l0_1 true _ ?side1 ?side2 A6.out).mono ?_); (case side1 => exact Kd.C_below HR0_1.out (tH1 HB GE390.out)); (case side2 => exact HC0_1.out); rintro e w' ⟨rfl, ⟨nd, rfl⟩⟩) | (go_at_call 156; (with_reducible refine (impl_ValidScale.calls k _ _ l0_2 true _ ?side1 ?side2 A8.out).mono ?_); (case side1 => exact Kd.C_below HR0_2.out (tH1 HB GE390.out)); (case side2 => exact HC0_2.out); rintro e w' ⟨rfl, ⟨nd, rfl⟩⟩) | (go_at_call 255; (with_reducible refine (impl_Raga_hasTone.calls k a0_0 _ _ l0_1 _ _ l0_2 a0_3 a0_4 _ _ l0_5 a0_3 true _ ?side1 ?side2 ?side3 ?side4 ?side5 ?side6 A12.out).mono ?_); (case side1 => exact Kd.C_below HR0_1.out (tH1 HB GE390.out)); (case side2 => exact HC0_1.out); (case side3 => exact Kd.C_below HR0_2.out (tH1 HB GE390.out)); (case side4 => exact HC0_2.out); (case side5 => exact Kd.C_below HR0_5.out (tH1 HB GE390.out)); (case side6 => exact HC0_5.out); rintro e w22 ⟨rfl, hb⟩; replace BK390 := tbB BK390 hb; replace HB := Aside0.mk (below_step (tH1 HB GE390.out) hb); (try clear hb); (try clear hb2); (try clear hk); (try clear hi); have hcz23_0 : w22.cell? ⟨gb390, 0, none⟩ = some (.string a0_0) := (blk_cell BK390.out 0).trans rfl; have hcz23_1 : w22.cell? ⟨gb390, 1, none⟩ = some (.slice A0_1 l0_1.length c0_1) := (blk_cell BK390.out 1).trans rfl; have hcz23_2 : w22.cell? ⟨gb390, 2, none⟩ = some (.slice A0_2 l0_2.length c0_2) := (blk_cell BK390.out 2).trans rfl; have hcz23_3 : w22.cell? ⟨gb390, 3, none⟩ = some (.int .i64 a0_3) := (blk_cell BK390.out 3).trans rfl; have hcz23_4 : w22.cell? ⟨gb390, 4, none⟩ = some (.int .i64 a0_4) := (blk_cell BK390.out 4).trans rfl; have hcz23_5 : w22.cell? ⟨gb390, 5, none⟩ = some (.slice A0_5 l0_5.length c0_5) := (blk_cell BK390.out 5).trans rfl; have hfz23_0 := blk_frozen BK390.out 0; have hfz23_1 := blk_frozen BK390.out 1; have hfz23_2 := blk_frozen BK390.out 2; have hfz23_3 := blk_frozen BK390.out 3; have hfz23_4 := blk_frozen BK390.out 4; have hfz23_5 := blk_frozen BK390.out 5) | (go_at_call 255; (with_reducible refine (impl_Raga_hasTone.calls k a0_0 _ _ l0_1 _ _ l0_2 a0_3 a0_4 _ _ l0_5 a0_4 false _ ?side1 ?side2 ?side3 ?side4 ?side5 ?side6 A14.out).mono ?_); (case side1 => exact tC (Kd.C_below HR0_1.out HB.out)); (case side2 => exact HC0_1.out); (case side3 => exact tC (Kd.C_below HR0_2.out HB.out)); (case side4 => exact HC0_2.out); (case side5 => exact tC (Kd.C_below HR0_5.out HB.out)); (case side6 => exact HC0_5.out); rintro e w24 ⟨rfl, hb⟩; replace BK390 := tbB BK390 hb; replace HB := Aside0.mk (below_step (tH1 HB GE390.out) hb); (try clear hb); (try clear hb2); (try clear hk); (try clear hi)))
          go_meet
          case rel => exact ⟨_, (true), tq, H', ⟨by first | omega | exact Nat.le_refl _⟩, ⟨tB BK390⟩, ⟨tH1 HB GE390.out⟩⟩
        replace c13 := Bool.eq_false_iff.mpr c13
        subst c13
        have H1 : (impl_ValidRaga.j0 k true a0_0 l0_1 l0_2 a0_3 a0_4 l0_5) = some r := by rw [if_neg (show ¬ (false = true) by decide)] at H; exact H
        clear H
        have H := H1
        clear H1
        have H' := Aside0.mk H
        clear H
        have hcz25_0 : w3.cell? ⟨gb390, 0, none⟩ = some (.string a0_0) := (blk_cell BK390.out 0).trans rfl
        have hcz25_1 : w3.cell? ⟨gb390, 1, none⟩ = some (.slice A0_1 l0_1.length c0_1) := (blk_cell BK390.out 1).trans rfl
        have hcz25_2 : w3.cell? ⟨gb390, 2, none⟩ = some (.slice A0_2 l0_2.length c0_2) := (blk_cell BK390.out 2).trans rfl
        have hcz25_3 : w3.cell? ⟨gb390, 3, none⟩ = some (.int .i64 a0_3) := (blk_cell BK390.out 3).trans rfl
        have hcz25_4 : w3.cell? ⟨gb390, 4, none⟩ = some (.int .i64 a0_4) := (blk_cell BK390.out 4).trans rfl
        have hcz25_5 : w3.cell? ⟨gb390, 5, none⟩ = some (.slice A0_5 l0_5.length c0_5) := (blk_cell BK390.out 5).trans rfl
        have hfz25_0 := blk_frozen BK390.out 0
        have hfz25_1 := blk_frozen BK390.out 1
        have hfz25_2 := blk_frozen BK390.out 2
        have hfz25_3 := blk_frozen BK390.out 3
        have hfz25_4 := blk_frozen BK390.out 4
        have hfz25_5 := blk_frozen BK390.out 5
        go_wp2_with (first | ((with_reducible refine gate_callee (f := 254) rfl ?_); refine gL_ (some 7) rfl rfl Try.func254 #[.string a0_0] rfl ?_; (with_reducible refine (impl_IsName.calls k a0_0 true _ A4.out).mono ?_); rintro e w' ⟨rfl, ⟨nd, rfl⟩⟩; refine ⟨_, rfl, ?_⟩) | (go_at_call 156; (with_reducible refine (impl_ValidScale.calls k _ _ l0_1 true _ ?side1 ?side2 A6.out).mono ?_); (case side1 => exact Kd.C_below HR0_1.out (tH1 HB GE390.out)); (case side2 => exact HC0_1.out); rintro e w' ⟨rfl, ⟨nd, rfl⟩⟩) | (go_at_call 156; (with_reducible refine (impl_ValidScale.calls k _ _ l0_2 true _ ?side1 ?side2 A8.out).mono ?_); (case side1 => exact Kd.C_below HR0_2.out (tH1 HB GE390.out)); (case side2 => exact HC0_2.out); rintro e w' ⟨rfl, ⟨nd, rfl⟩⟩) | (go_at_call 255; (with_reducible refine (impl_Raga_hasTone.calls k a0_0 _ _ l0_1 _ _ l0_2 a0_3 a0_4 _ _ l0_5 a0_3 false _ ?side1 ?side2 ?side3 ?side4 ?side5 ?side6 A12.out).mono ?_); (case side1 => exact Kd.C_below HR0_1.out (tH1 HB GE390.out)); (case side2 => exact HC0_1.out); (case side3 => exact Kd.C_below HR0_2.out (tH1 HB GE390.out)); (case side4 => exact HC0_2.out); (case side5 => exact Kd.C_below HR0_5.out (tH1 HB GE390.out)); (case side6 => exact HC0_5.out); rintro e w26 ⟨rfl, hb⟩; replace BK390 := tbB BK390 hb; replace HB := Aside0.mk (below_step (tH1 HB GE390.out) hb); (try clear hb); (try clear hb2); (try clear hk); (try clear hi)))
        go_meet
        case rel => exact ⟨_, (true), tq, H', ⟨by first | omega | exact Nat.le_refl _⟩, ⟨tB BK390⟩, ⟨tH1 HB GE390.out⟩⟩
      replace c9 := Bool.eq_false_iff.mpr c9
      subst c9
      have H1 : (impl_ValidRaga.j0 k true a0_0 l0_1 l0_2 a0_3 a0_4 l0_5) = some r := by rw [if_neg (show ¬ (false = true) by decide)] at H; exact H
      clear H
      have H := H1
      clear H1
      have H' := Aside0.mk H
      clear H
      have hcz27_0 : w3.cell? ⟨gb390, 0, none⟩ = some (.string a0_0) := (blk_cell BK390.out 0).trans rfl
      have hcz27_1 : w3.cell? ⟨gb390, 1, none⟩ = some (.slice A0_1 l0_1.length c0_1) := (blk_cell BK390.out 1).trans rfl
      have hcz27_2 : w3.cell? ⟨gb390, 2, none⟩ = some (.slice A0_2 l0_2.length c0_2) := (blk_cell BK390.out 2).trans rfl
      have hcz27_3 : w3.cell? ⟨gb390, 3, none⟩ = some (.int .i64 a0_3) := (blk_cell BK390.out 3).trans rfl
      have hcz27_4 : w3.cell? ⟨gb390, 4, none⟩ = some (.int .i64 a0_4) := (blk_cell BK390.out 4).trans rfl
      have hcz27_5 : w3.cell? ⟨gb390, 5, none⟩ = some (.slice A0_5 l0_5.length c0_5) := (blk_cell BK390.out 5).trans rfl
      have hfz27_0 := blk_frozen BK390.out 0
      have hfz27_1 := blk_frozen BK390.out 1
      have hfz27_2 := blk_frozen BK390.out 2
      have hfz27_3 := blk_frozen BK390.out 3
      have hfz27_4 := blk_frozen BK390.out 4
      have hfz27_5 := blk_frozen BK390.out 5
      go_wp2_with (first | ((with_reducible refine gate_callee (f := 254) rfl ?_); refine gL_ (some 7) rfl rfl Try.func254 #[.string a0_0] rfl ?_; (with_reducible refine (impl_IsName.calls k a0_0 true _ A4.out).mono ?_); rintro e w' ⟨rfl, ⟨nd, rfl⟩⟩; refine ⟨_, rfl, ?_⟩) | (go_at_call 156; (with_reducible refine (impl_ValidScale.calls k _ _ l0_1 true _ ?side1 ?side2 A6.out).mono ?_); (case side1 => exact Kd.C_below HR0_1.out (tH1 HB GE390.out)); (case side2 => exact HC0_1.out); rintro e w' ⟨rfl, ⟨nd, rfl⟩⟩) | (go_at_call 156; (with_reducible refine (impl_ValidScale.calls k _ _ l0_2 false _ ?side1 ?side2 A8.out).mono ?_); (case side1 => exact Kd.C_below HR0_2.out (tH1 HB GE390.out)); (case side2 => exact HC0_2.out); rintro e w' ⟨rfl, ⟨nd, rfl⟩⟩))
      go_meet
      case rel => exact ⟨_, (true), tq, H', ⟨by first | omega | exact Nat.le_refl _⟩, ⟨tB BK390⟩, ⟨tH1 HB GE390.out⟩⟩
    replace c7 := Bool.eq_false_iff.mpr c7
    subst c7
    have H1 : (impl_ValidRaga.j0 k true a0_0 l0_1 l0_2 a0_3 a0_4 l0_5) = some r := by rw [if_neg (show ¬ (false = true) by decide)] at H; exact H
    clear H
    have H := H1
    clear H1
    have H' := Aside0.mk H
    clear H
    have hcz28_0 : w3.cell? ⟨gb390, 0, none⟩ = some (.string a0_0) := (blk_cell BK390.out 0).trans rfl
    have hcz28_1 : w3.cell? ⟨gb390, 1, none⟩ = some (.slice A0_1 l0_1.length c0_1) := (blk_cell BK390.out 1).trans rfl
    have hcz28_2 : w3.cell? ⟨gb390, 2, none⟩ = some (.slice A0_2 l0_2.length c0_2) := (blk_cell BK390.out 2).trans rfl
    have hcz28_3 : w3.cell? ⟨gb390, 3, none⟩ = some (.int .i64 a0_3) := (blk_cell BK390.out 3).trans rfl
    have hcz28_4 : w3.cell? ⟨gb390, 4, none⟩ = some (.int .i64 a0_4) := (blk_cell BK390.out 4).trans rfl
    have hcz28_5 : w3.cell? ⟨gb390, 5, none⟩ = some (.slice A0_5 l0_5.length c0_5) := (blk_cell BK390.out 5).trans rfl
    have hfz28_0 := blk_frozen BK390.out 0
    have hfz28_1 := blk_frozen BK390.out 1
    have hfz28_2 := blk_frozen BK390.out 2
    have hfz28_3 := blk_frozen BK390.out 3
    have hfz28_4 := blk_frozen BK390.out 4
    have hfz28_5 := blk_frozen BK390.out 5
    go_wp2_with (first | ((with_reducible refine gate_callee (f := 254) rfl ?_); refine gL_ (some 7) rfl rfl Try.func254 #[.string a0_0] rfl ?_; (with_reducible refine (impl_IsName.calls k a0_0 true _ A4.out).mono ?_); rintro e w' ⟨rfl, ⟨nd, rfl⟩⟩; refine ⟨_, rfl, ?_⟩) | (go_at_call 156; (with_reducible refine (impl_ValidScale.calls k _ _ l0_1 false _ ?side1 ?side2 A6.out).mono ?_); (case side1 => exact Kd.C_below HR0_1.out (tH1 HB GE390.out)); (case side2 => exact HC0_1.out); rintro e w' ⟨rfl, ⟨nd, rfl⟩⟩))
    go_meet
    case rel => exact ⟨_, (true), tq, H', ⟨by first | omega | exact Nat.le_refl _⟩, ⟨tB BK390⟩, ⟨tH1 HB GE390.out⟩⟩
  replace c5 := Bool.eq_false_iff.mpr c5
  subst c5
  have H1 : (impl_ValidRaga.j0 k true a0_0 l0_1 l0_2 a0_3 a0_4 l0_5) = some r := by rw [if_neg (show ¬ (false = true) by decide)] at H; exact H
  clear H
  have H := H1
  clear H1
  have H' := Aside0.mk H
  clear H
  have hcz29_0 : w3.cell? ⟨gb390, 0, none⟩ = some (.string a0_0) := (blk_cell BK390.out 0).trans rfl
  have hcz29_1 : w3.cell? ⟨gb390, 1, none⟩ = some (.slice A0_1 l0_1.length c0_1) := (blk_cell BK390.out 1).trans rfl
  have hcz29_2 : w3.cell? ⟨gb390, 2, none⟩ = some (.slice A0_2 l0_2.length c0_2) := (blk_cell BK390.out 2).trans rfl
  have hcz29_3 : w3.cell? ⟨gb390, 3, none⟩ = some (.int .i64 a0_3) := (blk_cell BK390.out 3).trans rfl
  have hcz29_4 : w3.cell? ⟨gb390, 4, none⟩ = some (.int .i64 a0_4) := (blk_cell BK390.out 4).trans rfl
  have hcz29_5 : w3.cell? ⟨gb390, 5, none⟩ = some (.slice A0_5 l0_5.length c0_5) := (blk_cell BK390.out 5).trans rfl
  have hfz29_0 := blk_frozen BK390.out 0
  have hfz29_1 := blk_frozen BK390.out 1
  have hfz29_2 := blk_frozen BK390.out 2
  have hfz29_3 := blk_frozen BK390.out 3
  have hfz29_4 := blk_frozen BK390.out 4
  have hfz29_5 := blk_frozen BK390.out 5
  go_wp2_with (first | ((with_reducible refine gate_callee (f := 254) rfl ?_); refine gL_ (some 7) rfl rfl Try.func254 #[.string a0_0] rfl ?_; (with_reducible refine (impl_IsName.calls k a0_0 false _ A4.out).mono ?_); rintro e w' ⟨rfl, ⟨nd, rfl⟩⟩; refine ⟨_, rfl, ?_⟩))
  go_meet
  case rel => exact ⟨_, (true), tq, H', ⟨by first | omega | exact Nat.le_refl _⟩, ⟨tB BK390⟩, ⟨tH1 HB GE390.out⟩⟩
 case rest =>
 clear HC2
 try clear c1
 try clear c2
 try clear p2
 try clear c5
 try clear c7
 try clear c9
 try clear c10
 try clear c10b0
 try clear c10b1
 try clear c13
 try clear c15
 try clear c18
 try clear c25
 try clear hcz11_0 hcz11_1 hcz11_2 hcz11_3 hcz11_4 hcz11_5
 try clear hcz16_0 hcz16_1 hcz16_2 hcz16_3 hcz16_4 hcz16_5
 try clear hcz18_0 hcz18_1 hcz18_2 hcz18_3 hcz18_4 hcz18_5
 try clear hcz20_0 hcz20_1 hcz20_2 hcz20_3 hcz20_4 hcz20_5
 try clear hcz21_0 hcz21_1 hcz21_2 hcz21_3 hcz21_4 hcz21_5
 try clear hcz23_0 hcz23_1 hcz23_2 hcz23_3 hcz23_4 hcz23_5
 try clear hcz25_0 hcz25_1 hcz25_2 hcz25_3 hcz25_4 hcz25_5
 try clear hcz27_0 hcz27_1 hcz27_2 hcz27_3 hcz27_4 hcz27_5
 try clear hcz28_0 hcz28_1 hcz28_2 hcz28_3 hcz28_4 hcz28_5
 try clear hcz29_0 hcz29_1 hcz29_2 hcz29_3 hcz29_4 hcz29_5
 try clear hfz11_0 hfz11_1 hfz11_2 hfz11_3 hfz11_4 hfz11_5
 try clear hfz16_0 hfz16_1 hfz16_2 hfz16_3 hfz16_4 hfz16_5
 try clear hfz18_0 hfz18_1 hfz18_2 hfz18_3 hfz18_4 hfz18_5
 try clear hfz20_0 hfz20_1 hfz20_2 hfz20_3 hfz20_4 hfz20_5
 try clear hfz21_0 hfz21_1 hfz21_2 hfz21_3 hfz21_4 hfz21_5
 try clear hfz23_0 hfz23_1 hfz23_2 hfz23_3 hfz23_4 hfz23_5
 try clear hfz25_0 hfz25_1 hfz25_2 hfz25_3 hfz25_4 hfz25_5
 try clear hfz27_0 hfz27_1 hfz27_2 hfz27_3 hfz27_4 hfz27_5
 try clear hfz28_0 hfz28_1 hfz28_2 hfz28_3 hfz28_4 hfz28_5
 try clear hfz29_0 hfz29_1 hfz29_2 hfz29_3 hfz29_4 hfz29_5
 obtain ⟨kq, x47_1, rfl, HA, HJ1, BK390, HB⟩ := hcut
 cases kq with
 | zero => exact absurd HA.out (by simp [impl_ValidRaga.j0])
 | succ kj1 =>
 have H := HA.out
 clear HA
 simp only [impl_ValidRaga.j0] at H
 by_cases c30 : x47_1 = true
 · subst c30
   have H1 : (some false) = some r := by rw [if_pos rfl] at H; exact H
   clear H
   have H := H1
   clear H1
   obtain rfl := Option.some.inj H
   go_wp2
   go_ret
   exact ⟨tE, tH1 HB GE390.out⟩
 replace c30 := Bool.eq_false_iff.mpr c30
 subst c30
 have H1 : (impl_ValidRaga.l0 kj1 l0_5 (l0_5.length : Int) 0 a0_0 l0_1 l0_2 a0_3 a0_4 l0_5) = some r := by rw [if_neg (show ¬ (false = true) by decide)] at H; exact H
 clear H
 have H := H1
 clear H1
 have H' := Aside0.mk H
 clear H
 have hcz31_0 : wc.cell? ⟨gb390, 0, none⟩ = some (.string a0_0) := (blk_cell BK390.out 0).trans rfl
 have hcz31_1 : wc.cell? ⟨gb390, 1, none⟩ = some (.slice A0_1 l0_1.length c0_1) := (blk_cell BK390.out 1).trans rfl
 have hcz31_2 : wc.cell? ⟨gb390, 2, none⟩ = some (.slice A0_2 l0_2.length c0_2) := (blk_cell BK390.out 2).trans rfl
 have hcz31_3 : wc.cell? ⟨gb390, 3, none⟩ = some (.int .i64 a0_3) := (blk_cell BK390.out 3).trans rfl
 have hcz31_4 : wc.cell? ⟨gb390, 4, none⟩ = some (.int .i64 a0_4) := (blk_cell BK390.out 4).trans rfl
 have hcz31_5 : wc.cell? ⟨gb390, 5, none⟩ = some (.slice A0_5 l0_5.length c0_5) := (blk_cell BK390.out 5).trans rfl
 have hfz31_0 := blk_frozen BK390.out 0
 have hfz31_1 := blk_frozen BK390.out 1
 have hfz31_2 := blk_frozen BK390.out 2
 have hfz31_3 := blk_frozen BK390.out 3
 have hfz31_4 := blk_frozen BK390.out 4
 have hfz31_5 := blk_frozen BK390.out 5
 go_wp2
 go_loopg [51] kj1 (fun kq v51 w' => ∃ (x51_2 : Int), v51 = .int .i64 x51_2 ∧ Aside0 (impl_ValidRaga.l0 kq l0_5 (l0_5.length : Int) x51_2 a0_0 l0_1 l0_2 a0_3 a0_4 l0_5 = some r) ∧ Aside0 (kq ≤ kj1) ∧ Aside0 (w'.heap[gb390]? = some (.cells #[.string a0_0, (.slice A0_1 l0_1.length c0_1), (.slice A0_2 l0_2.length c0_2), .int .i64 a0_3, .int .i64 a0_4, (.slice A0_5 l0_5.length c0_5)] 27 (0, 0))) ∧ Aside0 (Below w.heap.size w w'))
 case atStart => exact ⟨(0), tq, H', ⟨Nat.le_refl _⟩, ⟨tB BK390⟩, ⟨tH1 HB GE390.out⟩⟩
 case round =>
 clear H'
 try clear c1
 try clear c2
 try clear p2
 try clear c3
 try clear c5
 try clear c7
 try clear c9
 try clear c10
 try clear c10b0
 try clear c10b1
 try clear c13
 try clear c15
 try clear c18
 try clear c25
 try clear c30
 try clear hcz11_0 hcz11_1 hcz11_2 hcz11_3 hcz11_4 hcz11_5
 try clear hcz16_0 hcz16_1 hcz16_2 hcz16_3 hcz16_4 hcz16_5
 try clear hcz18_0 hcz18_1 hcz18_2 hcz18_3 hcz18_4 hcz18_5
 try clear hcz20_0 hcz20_1 hcz20_2 hcz20_3 hcz20_4 hcz20_5
 try clear hcz21_0 hcz21_1 hcz21_2 hcz21_3 hcz21_4 hcz21_5
 try clear hcz23_0 hcz23_1 hcz23_2 hcz23_3 hcz23_4 hcz23_5
 try clear hcz25_0 hcz25_1 hcz25_2 hcz25_3 hcz25_4 hcz25_5
 try clear hcz27_0 hcz27_1 hcz27_2 hcz27_3 hcz27_4 hcz27_5
 try clear hcz28_0 hcz28_1 hcz28_2 hcz28_3 hcz28_4 hcz28_5
 try clear hcz29_0 hcz29_1 hcz29_2 hcz29_3 hcz29_4 hcz29_5
 try clear hcz31_0 hcz31_1 hcz31_2 hcz31_3 hcz31_4 hcz31_5
 try clear hfz11_0 hfz11_1 hfz11_2 hfz11_3 hfz11_4 hfz11_5
 try clear hfz16_0 hfz16_1 hfz16_2 hfz16_3 hfz16_4 hfz16_5
 try clear hfz18_0 hfz18_1 hfz18_2 hfz18_3 hfz18_4 hfz18_5
 try clear hfz20_0 hfz20_1 hfz20_2 hfz20_3 hfz20_4 hfz20_5
 try clear hfz21_0 hfz21_1 hfz21_2 hfz21_3 hfz21_4 hfz21_5
 try clear hfz23_0 hfz23_1 hfz23_2 hfz23_3 hfz23_4 hfz23_5
 try clear hfz25_0 hfz25_1 hfz25_2 hfz25_3 hfz25_4 hfz25_5
 try clear hfz27_0 hfz27_1 hfz27_2 hfz27_3 hfz27_4 hfz27_5
 try clear hfz28_0 hfz28_1 hfz28_2 hfz28_3 hfz28_4 hfz28_5
 try clear hfz29_0 hfz29_1 hfz29_2 hfz29_3 hfz29_4 hfz29_5
 try clear hfz31_0 hfz31_1 hfz31_2 hfz31_3 hfz31_4 hfz31_5
 try clear p2
 obtain ⟨x51_2, rfl, HA, HK2, BK390, HB⟩ := hrel
 cases gk with
 | zero => exact absurd HA.out (by simp [impl_ValidRaga.l0])
 | succ k2 =>
 have H := HA.out
 clear HA
 simp only [impl_ValidRaga.l0] at H
 by_cases c32 : x51_2 < (l0_5.length : Int)
 · rw [if_pos c32] at H
   have c32b0 : decide (x51_2 < (l0_5.length : Int)) = true := decide_eq_true c32
   clear c32
   by_cases c33 : 0 ≤ x51_2
   · rw [if_pos c33] at H
     have c33b0 : decide (0 ≤ x51_2) = true := decide_eq_true c33
     clear c33
     by_cases c34 : x51_2 < (l0_5.length : Int)
     · rw [if_pos c34] at H
       have c34b0 : decide (x51_2 < (l0_5.length : Int)) = true := decide_eq_true c34
       clear c34
       by_cases c35 : ((rd_L3 l0_5 x51_2).length : Int) = 2
       · rw [if_pos c35] at H
         have c35b0 : (((rd_L3 l0_5 x51_2).length : Int) == 2) = true := beq_iff_eq.mpr c35
         have c35b1 : (((rd_L3 l0_5 x51_2).length : Int) != 2) = false := bne_eq_false_iff_eq.mpr c35
         clear c35
         by_cases c36 : 0 < ((rd_L3 l0_5 x51_2).length : Int)
         · rw [if_pos c36] at H
           have c36b0 : decide (0 < ((rd_L3 l0_5 x51_2).length : Int)) = true := decide_eq_true c36
           have c36b1 : decide (0 < (rd_L3 l0_5 x51_2).length) = true := decide_eq_true (by omega)
           clear c36
           replace H := Option.bind_eq_some_iff.mp H
           obtain ⟨t398, A370, H⟩ := H
           replace H : (if t398 = true then (if 1 < ((rd_L3 l0_5 x51_2).length : Int) then ((impl_toneOk.f (rd (rd_L3 l0_5 x51_2) 1)).bind fun t400 => (if t400 = true then (if (rd (rd_L3 l0_5 x51_2) 0) = (rd (rd_L3 l0_5 x51_2) 1) then (some false) else (if x51_2 > 0 then (if 0 ≤ (wrap64 (x51_2 - 1)) then (if (wrap64 (x51_2 - 1)) < (l0_5.length : Int) then ((slices_Compare_int64_int64.f k2 (rd_L3 l0_5 (wrap64 (x51_2 - 1))) (rd_L3 l0_5 x51_2)).bind fun t404 => (if t404 ≥ 0 then (some false) else (impl_ValidRaga.l0 k2 l0_5 (l0_5.length : Int) (wrap64 (x51_2 + 1)) a0_0 l0_1 l0_2 a0_3 a0_4 l0_5))) else (none)) else (none)) else (impl_ValidRaga.l0 k2 l0_5 (l0_5.length : Int) (wrap64 (x51_2 + 1)) a0_0 l0_1 l0_2 a0_3 a0_4 l0_5))) else (some false))) else (none)) else (some false)) = some r := H
           have A37 := Aside0.mk A370
           clear A370
           by_cases c38 : t398 = true
           · subst c38
             have H1 : (if 1 < ((rd_L3 l0_5 x51_2).length : Int) then ((impl_toneOk.f (rd (rd_L3 l0_5 x51_2) 1)).bind fun t400 => (if t400 = true then (if (rd (rd_L3 l0_5 x51_2) 0) = (rd (rd_L3 l0_5 x51_2) 1) then (some false) else (if x51_2 > 0 then (if 0 ≤ (wrap64 (x51_2 - 1)) then (if (wrap64 (x51_2 - 1)) < (l0_5.length : Int) then ((slices_Compare_int64_int64.f k2 (rd_L3 l0_5 (wrap64 (x51_2 - 1))) (rd_L3 l0_5 x51_2)).bind fun t404 => (if t404 ≥ 0 then (some false) else (impl_ValidRaga.l0 k2 l0_5 (l0_5.length : Int) (wrap64 (x51_2 + 1)) a0_0 l0_1 l0_2 a0_3 a0_4 l0_5))) else (none)) else (none)) else (impl_ValidRaga.l0 k2 l0_5 (l0_5.length : Int) (wrap64 (x51_2 + 1)) a0_0 l0_1 l0_2 a0_3 a0_4 l0_5))) else (some false))) else (none)) = some r := by rw [if_pos rfl] at H; exact H
             clear H
             have H := H1
             clear H1
             by_cases c39 : 1 < ((rd_L3 l0_5 x51_2).length : Int)
             · rw [if_pos c39] at H
               have c39b0 : decide (1 < ((rd_L3 l0_5 x51_2).length : Int)) = true := decide_eq_true c39
               have c39b1 : decide (1 < (rd_L3 l0_5 x51_2).length) = true := decide_eq_true (by omega)
               clear c39
               replace H := Option.bind_eq_some_iff.mp H
               obtain ⟨t400, A400, H⟩ := H
               replace H : (if t400 = true then (if (rd (rd_L3 l0_5 x51_2) 0) = (rd (rd_L3 l0_5 x51_2) 1) then (some false) else (if x51_2 > 0 then (if 0 ≤ (wrap64 (x51_2 - 1)) then (if (wrap64 (x51_2 - 1)) < (l0_5.length : Int) then ((slices_Compare_int64_int64.f k2 (rd_L3 l0_5 (wrap64 (x51_2 - 1))) (rd_L3 l0_5 x51_2)).bind fun t404 => (if t404 ≥ 0 then (some false) else (impl_ValidRaga.l0 k2 l0_5 (l0_5.length : Int) (wrap64 (x51_2 + 1)) a0_0 l0_1 l0_2 a0_3 a0_4 l0_5))) else (none)) else (none)) else (impl_ValidRaga.l0 k2 l0_5 (l0_5.length : Int) (wrap64 (x51_2 + 1)) a0_0 l0_1 l0_2 a0_3 a0_4 l0_5))) else (some false)) = some r := H
               have A40 := Aside0.mk A400
               clear A400
               by_cases c41 : t400 = true
               · subst c41
                 have H1 : (if (rd (rd_L3 l0_5 x51_2) 0) = (rd (rd_L3 l0_5 x51_2) 1) then (some false) else (if x51_2 > 0 then (if 0 ≤ (wrap64 (x51_2 - 1)) then (if (wrap64 (x51_2 - 1)) < (l0_5.length : Int) then ((slices_Compare_int64_int64.f k2 (rd_L3 l0_5 (wrap64 (x51_2 - 1))) (rd_L3 l0_5 x51_2)).bind fun t404 => (if t404 ≥ 0 then (some false) else (impl_ValidRaga.l0 k2 l0_5 (l0_5.length : Int) (wrap64 (x51_2 + 1)) a0_0 l0_1 l0_2 a0_3 a0_4 l0_5))) else (none)) else (none)) else (impl_ValidRaga.l0 k2 l0_5 (l0_5.length : Int) (wrap64 (x51_2 + 1)) a0_0 l0_1 l0_2 a0_3 a0_4 l0_5))) = some r := by rw [if_pos rfl] at H; exact H
                 clear H
                 have H := H1
                 clear H1
                 by_cases c42 : (rd (rd_L3 l0_5 x51_2) 0) = (rd (rd_L3 l0_5 x51_2) 1)
                 · rw [if_pos c42] at H
                   have c42b0 : ((rd (rd_L3 l0_5 x51_2) 0) == (rd (rd_L3 l0_5 x51_2) 1)) = true := beq_iff_eq.mpr c42
                   have c42b1 : ((rd (rd_L3 l0_5 x51_2) 0) != (rd (rd_L3 l0_5 x51_2) 1)) = false := bne_eq_false_iff_eq.mpr c42
                   clear c42
                   obtain rfl := Option.some.inj H
                   have p396 : 0 ≤ (x51_2 : Int) := of_decide_eq_true tA
                   have q396 : x51_2 < (l0_5.length : Int) := of_decide_eq_true tA
                   obtain ⟨ad396, A396_0, c396_0, e396, hx396_0, hl396_0, hi396_0⟩ := at_L3 HR0_5.out x51_2 p396 q396
                   cases e396
                   replace hx396_0 := tW HB hx396_0
                   have HR396_0 := Aside0.mk hi396_0
                   have HC396_0 := Aside0.mk hl396_0
                   clear hi396_0 hl396_0
                   replace p396 := eq_true p396
                   replace q396 := eq_true q396
                   try go_wp2
                   replace BK390 := Aside0.mk (blk_drew BK390.out)
                   replace HB := Aside0.mk (below_drew1 HB.out)
                   have p397 : 0 ≤ (0 : Int) := (by omega)
                   have q397 : 0 < ((rd_L3 l0_5 x51_2).length : Int) := of_decide_eq_true tA
                   obtain ⟨ad397, e397, hx397_0⟩ := Kd.at_int HR396_0.out 0 p397 q397
                   have hw397_0 := hx397_0
                   (try rw [t0n] at hw397_0)
                   (try rw [show 0 * 1 = 0 from rfl] at hw397_0)
                   (try rw [Addr.add_zero'] at hw397_0)
                   cases e397
                   have qi397 : (0 < (rd_L3 l0_5 x51_2).length) = True := eq_true (by omega)
                   (try rw [t0n] at hx397_0)
                   (try rw [Addr.add_zero'] at hx397_0)
                   replace hx397_0 := tW HB hx397_0
                   replace p397 := eq_true p397
                   replace q397 := eq_true q397
                   have p399 : 0 ≤ (1 : Int) := (by omega)
                   have q399 : 1 < ((rd_L3 l0_5 x51_2).length : Int) := of_decide_eq_true tA
                   obtain ⟨ad399, e399, hx399_0⟩ := Kd.at_int HR396_0.out 1 p399 q399
                   have hw399_0 := hx399_0
                   (try rw [t1n] at hw399_0)
                   (try rw [show 1 * 1 = 1 from rfl] at hw399_0)
                   (try simp only [Nat.reduceMul, Nat.reduceEqDiff, Go.Addr.add, ↓reduceIte] at hw399_0)
                   obtain rfl : ad397 = ad399 := (by injection e399)
                   (try simp only [show (1 : Int).toNat = 1 from rfl, Nat.reduceMul, Nat.reduceEqDiff, Go.Addr.add, ↓reduceIte] at hx399_0)
                   have qi399 : (1 < (rd_L3 l0_5 x51_2).length) = True := eq_true (by omega)
                   (try rw [t1n] at hx399_0)
                   replace hx399_0 := tW HB hx399_0
                   replace p399 := eq_true p399
                   replace q399 := eq_true q399
                   have p401 : 0 ≤ (0 : Int) := (by omega)
                   have q401 : 0 < ((rd_L3 l0_5 x51_2).length : Int) := of_decide_eq_true tA
                   obtain ⟨ad401, e401, hx401_0⟩ := Kd.at_int HR396_0.out 0 p401 q401
                   have hw401_0 := hx401_0
                   (try rw [t0n] at hw401_0)
                   (try rw [show 0 * 1 = 0 from rfl] at hw401_0)
                   (try rw [Addr.add_zero'] at hw401_0)
                   obtain rfl : ad397 = ad401 := (by injection e401)
                   have qi401 : (0 < (rd_L3 l0_5 x51_2).length) = True := eq_true (by omega)
                   (try rw [t0n] at hx401_0)
                   (try rw [Addr.add_zero'] at hx401_0)
                   replace hx401_0 := tW HB hx401_0
                   replace p401 := eq_true p401
                   replace q401 := eq_true q401
                   have p402 : 0 ≤ (1 : Int) := (by omega)
                   have q402 : 1 < ((rd_L3 l0_5 x51_2).length : Int) := of_decide_eq_true tA
                   obtain ⟨ad402, e402, hx402_0⟩ := Kd.at_int HR396_0.out 1 p402 q402
                   have hw402_0 := hx402_0
                   (try rw [t1n] at hw402_0)
                   (try rw [show 1 * 1 = 1 from rfl] at hw402_0)
                   (try simp only [Nat.reduceMul, Nat.reduceEqDiff, Go.Addr.add, ↓reduceIte] at hw402_0)
                   obtain rfl : ad397 = ad402 := (by injection e402)
                   (try simp only [show (1 : Int).toNat = 1 from rfl, Nat.reduceMul, Nat.reduceEqDiff, Go.Addr.add, ↓reduceIte] at hx402_0)
                   have qi402 : (1 < (rd_L3 l0_5 x51_2).length) = True := eq_true (by omega)
                   (try rw [t1n] at hx402_0)
                   replace hx402_0 := tW HB hx402_0
                   replace p402 := eq_true p402
                   replace q402 := eq_true q402
                   refine start_ (n := 41) (S := fun w' => w'.cell? ad397 = some (.int .i64 (rd (rd_L3 l0_5 x51_2) 0)) ∧ w'.cell? ⟨ad397.block, ad397.off + 1, none⟩ = some (.int .i64 (rd (rd_L3 l0_5 x51_2) 1)) ∧ w'.cell? ad397 = some (.int .i64 (rd (rd_L3 l0_5 x51_2) 0)) ∧ w'.cell? ⟨ad397.block, ad397.off + 1, none⟩ = some (.int .i64 (rd (rd_L3 l0_5 x51_2) 1))) (ds := []) (bq [0, 41]) (by kernel_rfl) rfl rfl ⟨(tW HB hw397_0), (tW HB hw399_0), (tW HB hw401_0), (tW HB hw402_0)⟩ (fun hHeld => ?_); refine with_tabW impl_ValidRaga.tab6 impl_ValidRaga.bits6 (fun HT_ HW_ => ?_)
                   generalize wr.drew = w43 at BK390 HB hx397_0 hx399_0 hx401_0 hx402_0 hHeld ⊢
                   refine pV 0 (some 56) [1, 40] rfl rfl HT_ ?_
                   refine pV 1 (some 57) [2, 39] rfl rfl HT_ ?_
                   refine pV 2 (some 58) [3, 38] rfl rfl HT_ ?_
                   refine pV 3 (some 59) [4, 37] rfl rfl HT_ ?_
                   refine pV 4 (some 60) [5, 36] rfl rfl HT_ ?_
                   refine pV 5 (some 61) [6, 35] rfl rfl HT_ ?_
                   refine pT 6 (some 62) (bq [7, 34]) rfl rfl HT_ HW_ hHeld ?_
                   refine pO 7 (some 63) (bq [8, 33]) rfl rfl HT_ (fun K hK => ?_)
                   refine gS_ Try.func162 #[.int .i64 (rd (rd_L3 l0_5 x51_2) 0)] rfl rfl ?_
                   with_reducible refine (impl_toneOk.calls (rd (rd_L3 l0_5 x51_2) 0) true _ A37.out).mono ?_
                   rintro e w' ⟨rfl, ⟨nd, rfl⟩⟩
                   refine ⟨_, rfl, ?_⟩
                   refine hK.out _ _ ⟨(tW HB hw397_0), (tW HB hw399_0), (tW HB hw401_0), (tW HB hw402_0)⟩ (fun hHeld => ?_)
                   clear hK K
                   refine nO (some 63) ?_
                   refine pV 8 (some 64) [9, 32] rfl rfl HT_ ?_
                   refine pV 9 (some 65) [10, 31] rfl rfl HT_ ?_
                   refine pV 10 (some 66) [11, 30] rfl rfl HT_ ?_
                   refine pV 11 (some 67) [12, 29] rfl rfl HT_ ?_
                   refine pV 12 (some 68) [13, 28] rfl rfl HT_ ?_
                   refine pT 13 (some 69) (bq [14, 27]) rfl rfl HT_ HW_ hHeld ?_
                   refine pO 14 (some 70) (bq [15, 26]) rfl rfl HT_ (fun K hK => ?_)
                   refine gS_ Try.func162 #[.int .i64 (rd (rd_L3 l0_5 x51_2) 1)] rfl rfl ?_
                   with_reducible refine (impl_toneOk.calls (rd (rd_L3 l0_5 x51_2) 1) true _ A40.out).mono ?_
                   rintro e w' ⟨rfl, ⟨nd, rfl⟩⟩
                   refine ⟨_, rfl, ?_⟩
                   refine hK.out _ _ ⟨(tW HB hw397_0), (tW HB hw399_0), (tW HB hw401_0), (tW HB hw402_0)⟩ (fun hHeld => ?_)
                   clear hK K
                   refine nO (some 70) ?_
                   refine pV 15 (some 71) [16, 25] rfl rfl HT_ ?_
                   refine pV 16 (some 72) [17, 24] rfl rfl HT_ ?_
                   refine pV 17 (some 73) [18, 23] rfl rfl HT_ ?_
                   refine pV 18 (some 74) [19, 22] rfl rfl HT_ ?_
                   refine pV 19 (some 75) [20, 21] rfl rfl HT_ ?_
                   refine pV 21 (some 77) [20, 1, 1, 19] rfl rfl HT_ ?_
                   refine pV 22 (some 78) [20, 1, 2, 18] rfl rfl HT_ ?_
                   refine pT 20 (some 76) (bq [23, 18]) rfl rfl HT_ HW_ hHeld ?_
                   refine pT 23 (some 79) (bq [24, 17]) rfl rfl HT_ HW_ hHeld ?_
                   refine pV 24 (some 80) [25, 16] rfl rfl HT_ ?_
                   refine pV 25 (some 81) [26, 15] rfl rfl HT_ ?_
                   refine pV 26 (some 82) [27, 14] rfl rfl HT_ ?_
                   refine pU 27 (some 83) [28, 13] rfl rfl HT_ ?_
                   refine pU 28 (some 84) [29, 12] rfl rfl HT_ ?_
                   refine pU 29 (some 85) [30, 11] rfl rfl HT_ ?_
                   refine pU 30 (some 86) [31, 10] rfl rfl HT_ ?_
                   refine pU 31 (some 87) [32, 9] rfl rfl HT_ ?_
                   refine pU 32 (some 88) [33, 8] rfl rfl HT_ ?_
                   refine pU 33 (some 89) [34, 7] rfl rfl HT_ ?_
                   refine pU 34 (some 90) [35, 6] rfl rfl HT_ ?_
                   refine pU 35 (some 91) [36, 5] rfl rfl HT_ ?_
                   refine pU 36 (some 92) [37, 4] rfl rfl HT_ ?_
                   refine pU 37 (some 93) [38, 3] rfl rfl HT_ ?_
                   refine pU 38 (some 94) [39, 2] rfl rfl HT_ ?_
                   refine pU 39 (some 95) [40, 1] rfl rfl HT_ ?_
                   refine pV 40 (some 96) [41] rfl rfl HT_ ?_
                   refine done_ (done_of HT_.out (by kernel_rfl)) ?_
                   try go_wp2
                   go_ret
                   exact ⟨tE, tH1 HB GE390.out⟩
                 rw [if_neg c42] at H
                 have c42b0 : ((rd (rd_L3 l0_5 x51_2) 0) == (rd (rd_L3 l0_5 x51_2) 1)) = false := beq_eq_false_iff_ne.mpr c42
                 have c42b1 : ((rd (rd_L3 l0_5 x51_2) 0) != (rd (rd_L3 l0_5 x51_2) 1)) = true := bne_iff_ne.mpr c42
                 by_cases c44 : x51_2 > 0
                 · rw [if_pos c44] at H
                   have c44b0 : decide (0 < x51_2) = true := decide_eq_true c44
                   clear c44
                   obtain ⟨ji45, hji45⟩ : ∃ j_ : Int, (wrap64 (x51_2 - 1)) = j_ := ⟨_, rfl⟩
                   replace H : (if 0 ≤ (ji45) then (if (ji45) < (l0_5.length : Int) then ((slices_Compare_int64_int64.f k2 (rd_L3 l0_5 (ji45)) (rd_L3 l0_5 x51_2)).bind fun t404 => (if t404 ≥ 0 then (some false) else (impl_ValidRaga.l0 k2 l0_5 (l0_5.length : Int) (wrap64 (x51_2 + 1)) a0_0 l0_1 l0_2 a0_3 a0_4 l0_5))) else (none)) else (none)) = some r := by first | (rw [hji45] at H; exact H) | (simp only [hji45] at H ⊢; exact H)
                   (try rw [hji45] at A37)
                   (try rw [hji45] at A40)
                   have hji45w : (IntKind.i64.wrap (x51_2 - 1)) = ji45 := (i64_w _).trans hji45
                   by_cases c46 : 0 ≤ (ji45)
                   · rw [if_pos c46] at H
                     have c46b0 : decide (0 ≤ (ji45)) = true := decide_eq_true c46
                     clear c46
                     by_cases c47 : (ji45) < (l0_5.length : Int)
                     · rw [if_pos c47] at H
                       have c47b0 : decide ((ji45) < (l0_5.length : Int)) = true := decide_eq_true c47
                       clear c47
                       replace H := Option.bind_eq_some_iff.mp H
                       obtain ⟨t404, A480, H⟩ := H
                       replace H : (if t404 ≥ 0 then (some false) else (impl_ValidRaga.l0 k2 l0_5 (l0_5.length : Int) (wrap64 (x51_2 + 1)) a0_0 l0_1 l0_2 a0_3 a0_4 l0_5)) = some r := H
                       have A48 := Aside0.mk A480
                       clear A480
                       by_cases c49 : t404 ≥ 0
                       · rw [if_pos c49] at H
                         have c49b0 : decide (0 ≤ t404) = true := decide_eq_true c49
                         clear c49
                         obtain rfl := Option.some.inj H
                         have p396 : 0 ≤ (x51_2 : Int) := of_decide_eq_true tA
                         have q396 : x51_2 < (l0_5.length : Int) := of_decide_eq_true tA
                         obtain ⟨ad396, A396_0, c396_0, e396, hx396_0, hl396_0, hi396_0⟩ := at_L3 HR0_5.out x51_2 p396 q396
                         cases e396
                         replace hx396_0 := tW HB hx396_0
                         have HR396_0 := Aside0.mk hi396_0
                         have HC396_0 := Aside0.mk hl396_0
                         clear hi396_0 hl396_0
                         replace p396 := eq_true p396
                         replace q396 := eq_true q396
                         try go_wp2
                         replace BK390 := Aside0.mk (blk_drew BK390.out)
                         replace HB := Aside0.mk (below_drew1 HB.out)
                         have p397 : 0 ≤ (0 : Int) := (by omega)
                         have q397 : 0 < ((rd_L3 l0_5 x51_2).length : Int) := of_decide_eq_true tA
                         obtain ⟨ad397, e397, hx397_0⟩ := Kd.at_int HR396_0.out 0 p397 q397
                         have hw397_0 := hx397_0
                         (try rw [t0n] at hw397_0)
                         (try rw [show 0 * 1 = 0 from rfl] at hw397_0)
                         (try rw [Addr.add_zero'] at hw397_0)
                         cases e397
                         have qi397 : (0 < (rd_L3 l0_5 x51_2).length) = True := eq_true (by omega)
                         (try rw [t0n] at hx397_0)
                         (try rw [Addr.add_zero'] at hx397_0)
                         replace hx397_0 := tW HB hx397_0
                         replace p397 := eq_true p397
                         replace q397 := eq_true q397
                         have p399 : 0 ≤ (1 : Int) := (by omega)
                         have q399 : 1 < ((rd_L3 l0_5 x51_2).length : Int) := of_decide_eq_true tA
                         obtain ⟨ad399, e399, hx399_0⟩ := Kd.at_int HR396_0.out 1 p399 q399
                         have hw399_0 := hx399_0
                         (try rw [t1n] at hw399_0)
                         (try rw [show 1 * 1 = 1 from rfl] at hw399_0)
                         (try simp only [Nat.reduceMul, Nat.reduceEqDiff, Go.Addr.add, ↓reduceIte] at hw399_0)
                         obtain rfl : ad397 = ad399 := (by injection e399)
                         (try simp only [show (1 : Int).toNat = 1 from rfl, Nat.reduceMul, Nat.reduceEqDiff, Go.Addr.add, ↓reduceIte] at hx399_0)
                         have qi399 : (1 < (rd_L3 l0_5 x51_2).length) = True := eq_true (by omega)
                         (try rw [t1n] at hx399_0)
                         replace hx399_0 := tW HB hx399_0
                         replace p399 := eq_true p399
                         replace q399 := eq_true q399
                         have p401 : 0 ≤ (0 : Int) := (by omega)
                         have q401 : 0 < ((rd_L3 l0_5 x51_2).length : Int) := of_decide_eq_true tA
                         obtain ⟨ad401, e401, hx401_0⟩ := Kd.at_int HR396_0.out 0 p401 q401
                         have hw401_0 := hx401_0
                         (try rw [t0n] at hw401_0)
                         (try rw [show 0 * 1 = 0 from rfl] at hw401_0)
                         (try rw [Addr.add_zero'] at hw401_0)
                         obtain rfl : ad397 = ad401 := (by injection e401)
                         have qi401 : (0 < (rd_L3 l0_5 x51_2).length) = True := eq_true (by omega)
                         (try rw [t0n] at hx401_0)
                         (try rw [Addr.add_zero'] at hx401_0)
                         replace hx401_0 := tW HB hx401_0
                         replace p401 := eq_true p401
                         replace q401 := eq_true q401
                         have p402 : 0 ≤ (1 : Int) := (by omega)
                         have q402 : 1 < ((rd_L3 l0_5 x51_2).length : Int) := of_decide_eq_true tA
                         obtain ⟨ad402, e402, hx402_0⟩ := Kd.at_int HR396_0.out 1 p402 q402
                         have hw402_0 := hx402_0
                         (try rw [t1n] at hw402_0)
                         (try rw [show 1 * 1 = 1 from rfl] at hw402_0)
                         (try simp only [Nat.reduceMul, Nat.reduceEqDiff, Go.Addr.add, ↓reduceIte] at hw402_0)
                         obtain rfl : ad397 = ad402 := (by injection e402)
                         (try simp only [show (1 : Int).toNat = 1 from rfl, Nat.reduceMul, Nat.reduceEqDiff, Go.Addr.add, ↓reduceIte] at hx402_0)
                         have qi402 : (1 < (rd_L3 l0_5 x51_2).length) = True := eq_true (by omega)
                         (try rw [t1n] at hx402_0)
                         replace hx402_0 := tW HB hx402_0
                         replace p402 := eq_true p402
                         replace q402 := eq_true q402
                         have p403 : 0 ≤ ((ji45) : Int) := of_decide_eq_true tA
                         have q403 : (ji45) < (l0_5.length : Int) := of_decide_eq_true tA
                         obtain ⟨ad403, A403_0, c403_0, e403, hx403_0, hl403_0, hi403_0⟩ := at_L3 HR0_5.out (ji45) p403 q403
                         have hw403_0 := hx403_0
                         obtain rfl : ad396 = ad403 := (by injection e403)
                         replace hx403_0 := tW HB hx403_0
                         have HR403_0 := Aside0.mk hi403_0
                         have HC403_0 := Aside0.mk hl403_0
                         clear hi403_0 hl403_0
                         replace p403 := eq_true p403
                         replace q403 := eq_true q403
                         refine start_ (n := 41) (S := fun w' => w'.cell? ⟨gb390, 0, none⟩ = some (.string a0_0) ∧ w'.cell? ⟨gb390, 1, none⟩ = some (.slice A0_1 l0_1.length c0_1) ∧ w'.cell? ⟨gb390, 2, none⟩ = some (.slice A0_2 l0_2.length c0_2) ∧ w'.cell? ⟨gb390, 3, none⟩ = some (.int .i64 a0_3) ∧ w'.cell? ⟨gb390, 4, none⟩ = some (.int .i64 a0_4) ∧ w'.cell? ⟨gb390, 5, none⟩ = some (.slice (some ad396) l0_5.length c0_5) ∧ w'.cell? ad397 = some (.int .i64 (rd (rd_L3 l0_5 x51_2) 0)) ∧ w'.cell? ⟨ad397.block, ad397.off + 1, none⟩ = some (.int .i64 (rd (rd_L3 l0_5 x51_2) 1)) ∧ w'.cell? ad397 = some (.int .i64 (rd (rd_L3 l0_5 x51_2) 0)) ∧ w'.cell? ⟨ad397.block, ad397.off + 1, none⟩ = some (.int .i64 (rd (rd_L3 l0_5 x51_2) 1)) ∧ w'.cell? (ad396.add ((ji45)).toNat) = some (.slice A403_0 (rd_L3 l0_5 (ji45)).length c403_0)) (ds := []) (bq [0, 41]) (by kernel_rfl) rfl rfl ⟨(blk_cell BK390.out 0).trans rfl, (blk_cell BK390.out 1).trans rfl, (blk_cell BK390.out 2).trans rfl, (blk_cell BK390.out 3).trans rfl, (blk_cell BK390.out 4).trans rfl, (blk_cell BK390.out 5).trans rfl, (tW HB hw397_0), (tW HB hw399_0), (tW HB hw401_0), (tW HB hw402_0), (tW HB hw403_0)⟩ (fun hHeld => ?_); refine with_tabW impl_ValidRaga.tab6 impl_ValidRaga.bits6 (fun HT_ HW_ => ?_)
                         generalize wr.drew = w50 at BK390 HB HR403_0 hx397_0 hx399_0 hx401_0 hx402_0 hx403_0 hHeld ⊢
                         refine pV 0 (some 56) [1, 40] rfl rfl HT_ ?_
                         refine pV 1 (some 57) [2, 39] rfl rfl HT_ ?_
                         refine pV 2 (some 58) [3, 38] rfl rfl HT_ ?_
                         refine pV 3 (some 59) [4, 37] rfl rfl HT_ ?_
                         refine pV 4 (some 60) [5, 36] rfl rfl HT_ ?_
                         refine pV 5 (some 61) [6, 35] rfl rfl HT_ ?_
                         refine pT 6 (some 62) (bq [7, 34]) rfl rfl HT_ HW_ hHeld ?_
                         refine pO 7 (some 63) (bq [8, 33]) rfl rfl HT_ (fun K hK => ?_)
                         refine gS_ Try.func162 #[.int .i64 (rd (rd_L3 l0_5 x51_2) 0)] rfl rfl ?_
                         with_reducible refine (impl_toneOk.calls (rd (rd_L3 l0_5 x51_2) 0) true _ A37.out).mono ?_
                         rintro e w' ⟨rfl, ⟨nd, rfl⟩⟩
                         refine ⟨_, rfl, ?_⟩
                         refine hK.out _ _ ⟨(blk_cell BK390.out 0).trans rfl, (blk_cell BK390.out 1).trans rfl, (blk_cell BK390.out 2).trans rfl, (blk_cell BK390.out 3).trans rfl, (blk_cell BK390.out 4).trans rfl, (blk_cell BK390.out 5).trans rfl, (tW HB hw397_0), (tW HB hw399_0), (tW HB hw401_0), (tW HB hw402_0), (tW HB hw403_0)⟩ (fun hHeld => ?_)
                         clear hK K
                         refine nO (some 63) ?_
                         refine pV 8 (some 64) [9, 32] rfl rfl HT_ ?_
                         refine pV 9 (some 65) [10, 31] rfl rfl HT_ ?_
                         refine pV 10 (some 66) [11, 30] rfl rfl HT_ ?_
                         refine pV 11 (some 67) [12, 29] rfl rfl HT_ ?_
                         refine pV 12 (some 68) [13, 28] rfl rfl HT_ ?_
                         refine pT 13 (some 69) (bq [14, 27]) rfl rfl HT_ HW_ hHeld ?_
                         refine pO 14 (some 70) (bq [15, 26]) rfl rfl HT_ (fun K hK => ?_)
                         refine gS_ Try.func162 #[.int .i64 (rd (rd_L3 l0_5 x51_2) 1)] rfl rfl ?_
                         with_reducible refine (impl_toneOk.calls (rd (rd_L3 l0_5 x51_2) 1) true _ A40.out).mono ?_
                         rintro e w' ⟨rfl, ⟨nd, rfl⟩⟩
                         refine ⟨_, rfl, ?_⟩
                         refine hK.out _ _ ⟨(blk_cell BK390.out 0).trans rfl, (blk_cell BK390.out 1).trans rfl, (blk_cell BK390.out 2).trans rfl, (blk_cell BK390.out 3).trans rfl, (blk_cell BK390.out 4).trans rfl, (blk_cell BK390.out 5).trans rfl, (tW HB hw397_0), (tW HB hw399_0), (tW HB hw401_0), (tW HB hw402_0), (tW HB hw403_0)⟩ (fun hHeld => ?_)
                         clear hK K
                         refine nO (some 70) ?_
                         refine pV 15 (some 71) [16, 25] rfl rfl HT_ ?_
                         refine pV 16 (some 72) [17, 24] rfl rfl HT_ ?_
                         refine pV 17 (some 73) [18, 23] rfl rfl HT_ ?_
                         refine pV 18 (some 74) [19, 22] rfl rfl HT_ ?_
                         refine pV 19 (some 75) [20, 21] rfl rfl HT_ ?_
                         refine pV 21 (some 77) [20, 1, 1, 19] rfl rfl HT_ ?_
                         refine pV 22 (some 78) [20, 1, 2, 18] rfl rfl HT_ ?_
                         refine pT 20 (some 76) (bq [23, 18]) rfl rfl HT_ HW_ hHeld ?_
                         refine pT 23 (some 79) (bq [24, 17]) rfl rfl HT_ HW_ hHeld ?_
                         refine pV 24 (some 80) [25, 16] rfl rfl HT_ ?_
                         refine pV 25 (some 81) [26, 15] rfl rfl HT_ ?_
                         refine pV 26 (some 82) [27, 14] rfl rfl HT_ ?_
                         refine pV 27 (some 83) [28, 13] rfl rfl HT_ ?_
                         refine pV 28 (some 84) [29, 12] rfl rfl HT_ ?_
                         refine pV 29 (some 85) [30, 11] rfl rfl HT_ ?_
                         refine pV 30 (some 86) [31, 10] rfl rfl HT_ ?_
                         refine pV 32 (some 88) [31, 1, 1, 8] rfl rfl HT_ ?_
                         refine pV 33 (some 89) [31, 1, 2, 7] rfl rfl HT_ ?_
                         refine pV 36 (some 92) [31, 1, 2, 2, 1, 4] rfl rfl HT_ ?_
                         refine pT 31 (some 87) (bq [34, 2, 1, 4]) rfl rfl HT_ HW_ hHeld ?_
                         refine pV 34 (some 90) [35, 1, 1, 4] rfl rfl HT_ ?_
                         refine pT 35 (some 91) (bq [37, 4]) rfl rfl HT_ HW_ hHeld ?_
                         refine pO 37 (some 93) (bq [38, 3]) rfl rfl HT_ (fun K hK => ?_)
                         refine goes_ Try.func185 (by kernel_rfl) rfl #[.slice A403_0 (rd_L3 l0_5 (ji45)).length c403_0, .slice (some ad397) (rd_L3 l0_5 x51_2).length c396_0] (by rfl) rfl rfl (by (try simp only [List.map_toArray, List.map_cons, List.map_nil]); first | done | (simp only [hji45]; rfl) | rfl | (simp only [List.length_drop, List.length_take]; rfl)) ?_
                         with_reducible refine (slices_Compare_int64_int64.calls k2 _ _ (rd_L3 l0_5 (ji45)) _ _ (rd_L3 l0_5 x51_2) t404 _ ?side1 ?side2 ?side3 ?side4 A48.out).mono ?_
                         (case side1 => exact Kd.C_below HR403_0.out (tH1 HB GE390.out))
                         (case side2 => exact HC403_0.out)
                         (case side3 => exact Kd.C_below HR396_0.out (tH1 HB GE390.out))
                         (case side4 => exact HC396_0.out)
                         rintro e w' ⟨rfl, ⟨nd, rfl⟩⟩
                         refine ⟨_, rfl, ?_⟩
                         refine hK.out _ _ ⟨(blk_cell BK390.out 0).trans rfl, (blk_cell BK390.out 1).trans rfl, (blk_cell BK390.out 2).trans rfl, (blk_cell BK390.out 3).trans rfl, (blk_cell BK390.out 4).trans rfl, (blk_cell BK390.out 5).trans rfl, (tW HB hw397_0), (tW HB hw399_0), (tW HB hw401_0), (tW HB hw402_0), (tW HB hw403_0)⟩ (fun hHeld => ?_)
                         clear hK K
                         refine nO (some 93) ?_
                         refine pV 38 (some 94) [39, 2] rfl rfl HT_ ?_
                         refine pV 39 (some 95) [40, 1] rfl rfl HT_ ?_
                         refine pV 40 (some 96) [41] rfl rfl HT_ ?_
                         refine done_ (done_of HT_.out (by kernel_rfl)) ?_
                         try go_wp2
                         go_ret
                         exact ⟨by first | rfl | (simp [errW_none, errW_some] <;> rfl) | (simp only [← hji45]; first | rfl | (simp [errW_none, errW_some] <;> rfl)) | (simp [*, errW_none, errW_some] <;> rfl), tH1 HB GE390.out⟩
                       rw [if_neg c49] at H
                       have c49b0 : decide (0 ≤ t404) = false := decide_eq_false c49
                       clear c49
                       have H' := Aside0.mk H
                       clear H
                       have p396 : 0 ≤ (x51_2 : Int) := of_decide_eq_true tA
                       have q396 : x51_2 < (l0_5.length : Int) := of_decide_eq_true tA
                       obtain ⟨ad396, A396_0, c396_0, e396, hx396_0, hl396_0, hi396_0⟩ := at_L3 HR0_5.out x51_2 p396 q396
                       cases e396
                       replace hx396_0 := tW HB hx396_0
                       have HR396_0 := Aside0.mk hi396_0
                       have HC396_0 := Aside0.mk hl396_0
                       clear hi396_0 hl396_0
                       replace p396 := eq_true p396
                       replace q396 := eq_true q396
                       try go_wp2
                       replace BK390 := Aside0.mk (blk_drew BK390.out)
                       replace HB := Aside0.mk (below_drew1 HB.out)
                       have p397 : 0 ≤ (0 : Int) := (by omega)
                       have q397 : 0 < ((rd_L3 l0_5 x51_2).length : Int) := of_decide_eq_true tA
                       obtain ⟨ad397, e397, hx397_0⟩ := Kd.at_int HR396_0.out 0 p397 q397
                       have hw397_0 := hx397_0
                       (try rw [t0n] at hw397_0)
                       (try rw [show 0 * 1 = 0 from rfl] at hw397_0)
                       (try rw [Addr.add_zero'] at hw397_0)
                       cases e397
                       have qi397 : (0 < (rd_L3 l0_5 x51_2).length) = True := eq_true (by omega)
                       (try rw [t0n] at hx397_0)
                       (try rw [Addr.add_zero'] at hx397_0)
                       replace hx397_0 := tW HB hx397_0
                       replace p397 := eq_true p397
                       replace q397 := eq_true q397
                       have p399 : 0 ≤ (1 : Int) := (by omega)
                       have q399 : 1 < ((rd_L3 l0_5 x51_2).length : Int) := of_decide_eq_true tA
                       obtain ⟨ad399, e399, hx399_0⟩ := Kd.at_int HR396_0.out 1 p399 q399
                       have hw399_0 := hx399_0
                       (try rw [t1n] at hw399_0)
                       (try rw [show 1 * 1 = 1 from rfl] at hw399_0)
                       (try simp only [Nat.reduceMul, Nat.reduceEqDiff, Go.Addr.add, ↓reduceIte] at hw399_0)
                       obtain rfl : ad397 = ad399 := (by injection e399)
                       (try simp only [show (1 : Int).toNat = 1 from rfl, Nat.reduceMul, Nat.reduceEqDiff, Go.Addr.add, ↓reduceIte] at hx399_0)
                       have qi399 : (1 < (rd_L3 l0_5 x51_2).length) = True := eq_true (by omega)
                       (try rw [t1n] at hx399_0)
                       replace hx399_0 := tW HB hx399_0
                       replace p399 := eq_true p399
                       replace q399 := eq_true q399
                       have p401 : 0 ≤ (0 : Int) := (by omega)
                       have q401 : 0 < ((rd_L3 l0_5 x51_2).length : Int) := of_decide_eq_true tA
                       obtain ⟨ad401, e401, hx401_0⟩ := Kd.at_int HR396_0.out 0 p401 q401
                       have hw401_0 := hx401_0
                       (try rw [t0n] at hw401_0)
                       (try rw [show 0 * 1 = 0 from rfl] at hw401_0)
                       (try rw [Addr.add_zero'] at hw401_0)
                       obtain rfl : ad397 = ad401 := (by injection e401)
                       have qi401 : (0 < (rd_L3 l0_5 x51_2).length) = True := eq_true (by omega)
                       (try rw [t0n] at hx401_0)
                       (try rw [Addr.add_zero'] at hx401_0)
                       replace hx401_0 := tW HB hx401_0
                       replace p401 := eq_true p401
                       replace q401 := eq_true q401
                       have p402 : 0 ≤ (1 : Int) := (by omega)
                       have q402 : 1 < ((rd_L3 l0_5 x51_2).length : Int) := of_decide_eq_true tA
                       obtain ⟨ad402, e402, hx402_0⟩ := Kd.at_int HR396_0.out 1 p402 q402
                       have hw402_0 := hx402_0
                       (try rw [t1n] at hw402_0)
                       (try rw [show 1 * 1 = 1 from rfl] at hw402_0)
                       (try simp only [Nat.reduceMul, Nat.reduceEqDiff, Go.Addr.add, ↓reduceIte] at hw402_0)
                       obtain rfl : ad397 = ad402 := (by injection e402)
                       (try simp only [show (1 : Int).toNat = 1 from rfl, Nat.reduceMul, Nat.reduceEqDiff, Go.Addr.add, ↓reduceIte] at hx402_0)
                       have qi402 : (1 < (rd_L3 l0_5 x51_2).length) = True := eq_true (by omega)
                       (try rw [t1n] at hx402_0)
                       replace hx402_0 := tW HB hx402_0
                       replace p402 := eq_true p402
                       replace q402 := eq_true q402
                       have p403 : 0 ≤ ((ji45) : Int) := of_decide_eq_true tA
                       have q403 : (ji45) < (l0_5.length : Int) := of_decide_eq_true tA
                       obtain ⟨ad403, A403_0, c403_0, e403, hx403_0, hl403_0, hi403_0⟩ := at_L3 HR0_5.out (ji45) p403 q403
                       have hw403_0 := hx403_0
                       obtain rfl : ad396 = ad403 := (by injection e403)
                       replace hx403_0 := tW HB hx403_0
                       have HR403_0 := Aside0.mk hi403_0
                       have HC403_0 := Aside0.mk hl403_0
                       clear hi403_0 hl403_0
                       replace p403 := eq_true p403
                       replace q403 := eq_true q403
                       refine start_ (n := 41) (S := fun w' => w'.cell? ⟨gb390, 0, none⟩ = some (.string a0_0) ∧ w'.cell? ⟨gb390, 1, none⟩ = some (.slice A0_1 l0_1.length c0_1) ∧ w'.cell? ⟨gb390, 2, none⟩ = some (.slice A0_2 l0_2.length c0_2) ∧ w'.cell? ⟨gb390, 3, none⟩ = some (.int .i64 a0_3) ∧ w'.cell? ⟨gb390, 4, none⟩ = some (.int .i64 a0_4) ∧ w'.cell? ⟨gb390, 5, none⟩ = some (.slice (some ad396) l0_5.length c0_5) ∧ w'.cell? ad397 = some (.int .i64 (rd (rd_L3 l0_5 x51_2) 0)) ∧ w'.cell? ⟨ad397.block, ad397.off + 1, none⟩ = some (.int .i64 (rd (rd_L3 l0_5 x51_2) 1)) ∧ w'.cell? ad397 = some (.int .i64 (rd (rd_L3 l0_5 x51_2) 0)) ∧ w'.cell? ⟨ad397.block, ad397.off + 1, none⟩ = some (.int .i64 (rd (rd_L3 l0_5 x51_2) 1)) ∧ w'.cell? (ad396.add ((ji45)).toNat) = some (.slice A403_0 (rd_L3 l0_5 (ji45)).length c403_0)) (ds := []) (bq [0, 41]) (by kernel_rfl) rfl rfl ⟨(blk_cell BK390.out 0).trans rfl, (blk_cell BK390.out 1).trans rfl, (blk_cell BK390.out 2).trans rfl, (blk_cell BK390.out 3).trans rfl, (blk_cell BK390.out 4).trans rfl, (blk_cell BK390.out 5).trans rfl, (tW HB hw397_0), (tW HB hw399_0), (tW HB hw401_0), (tW HB hw402_0), (tW HB hw403_0)⟩ (fun hHeld => ?_); refine with_tabW impl_ValidRaga.tab6 impl_ValidRaga.bits6 (fun HT_ HW_ => ?_)
                       generalize wr.drew = w51 at BK390 HB HR403_0 hx397_0 hx399_0 hx401_0 hx402_0 hx403_0 hHeld ⊢
                       refine pV 0 (some 56) [1, 40] rfl rfl HT_ ?_
                       refine pV 1 (some 57) [2, 39] rfl rfl HT_ ?_
                       refine pV 2 (some 58) [3, 38] rfl rfl HT_ ?_
                       refine pV 3 (some 59) [4, 37] rfl rfl HT_ ?_
                       refine pV 4 (some 60) [5, 36] rfl rfl HT_ ?_
                       refine pV 5 (some 61) [6, 35] rfl rfl HT_ ?_
                       refine pT 6 (some 62) (bq [7, 34]) rfl rfl HT_ HW_ hHeld ?_
                       refine pO 7 (some 63) (bq [8, 33]) rfl rfl HT_ (fun K hK => ?_)
                       refine gS_ Try.func162 #[.int .i64 (rd (rd_L3 l0_5 x51_2) 0)] rfl rfl ?_
                       with_reducible refine (impl_toneOk.calls (rd (rd_L3 l0_5 x51_2) 0) true _ A37.out).mono ?_
                       rintro e w' ⟨rfl, ⟨nd, rfl⟩⟩
                       refine ⟨_, rfl, ?_⟩
                       refine hK.out _ _ ⟨(blk_cell BK390.out 0).trans rfl, (blk_cell BK390.out 1).trans rfl, (blk_cell BK390.out 2).trans rfl, (blk_cell BK390.out 3).trans rfl, (blk_cell BK390.out 4).trans rfl, (blk_cell BK390.out 5).trans rfl, (tW HB hw397_0), (tW HB hw399_0), (tW HB hw401_0), (tW HB hw402_0), (tW HB hw403_0)⟩ (fun hHeld => ?_)
                       clear hK K
                       refine nO (some 63) ?_
                       refine pV 8 (some 64) [9, 32] rfl rfl HT_ ?_
                       refine pV 9 (some 65) [10, 31] rfl rfl HT_ ?_
                       refine pV 10 (some 66) [11, 30] rfl rfl HT_ ?_
                       refine pV 11 (some 67) [12, 29] rfl rfl HT_ ?_
                       refine pV 12 (some 68) [13, 28] rfl rfl HT_ ?_
                       refine pT 13 (some 69) (bq [14, 27]) rfl rfl HT_ HW_ hHeld ?_
                       refine pO 14 (some 70) (bq [15, 26]) rfl rfl HT_ (fun K hK => ?_)
                       refine gS_ Try.func162 #[.int .i64 (rd (rd_L3 l0_5 x51_2) 1)] rfl rfl ?_
                       with_reducible refine (impl_toneOk.calls (rd (rd_L3 l0_5 x51_2) 1) true _ A40.out).mono ?_
                       rintro e w' ⟨rfl, ⟨nd, rfl⟩⟩
                       refine ⟨_, rfl, ?_⟩
                       refine hK.out _ _ ⟨(blk_cell BK390.out 0).trans rfl, (blk_cell BK390.out 1).trans rfl, (blk_cell BK390.out 2).trans rfl, (blk_cell BK390.out 3).trans rfl, (blk_cell BK390.out 4).trans rfl, (blk_cell BK390.out 5).trans rfl, (tW HB hw397_0), (tW HB hw399_0), (tW HB hw401_0), (tW HB hw402_0), (tW HB hw403_0)⟩ (fun hHeld => ?_)
                       clear hK K
                       refine nO (some 70) ?_
                       refine pV 15 (some 71) [16, 25] rfl rfl HT_ ?_
                       refine pV 16 (some 72) [17, 24] rfl rfl HT_ ?_
                       refine pV 17 (some 73) [18, 23] rfl rfl HT_ ?_
                       refine pV 18 (some 74) [19, 22] rfl rfl HT_ ?_
                       refine pV 19 (some 75) [20, 21] rfl rfl HT_ ?_
                       refine pV 21 (some 77) [20, 1, 1, 19] rfl rfl HT_ ?_
                       refine pV 22 (some 78) [20, 1, 2, 18] rfl rfl HT_ ?_
                       refine pT 20 (some 76) (bq [23, 18]) rfl rfl HT_ HW_ hHeld ?_
                       refine pT 23 (some 79) (bq [24, 17]) rfl rfl HT_ HW_ hHeld ?_
                       refine pV 24 (some 80) [25, 16] rfl rfl HT_ ?_
                       refine pV 25 (some 81) [26, 15] rfl rfl HT_ ?_
                       refine pV 26 (some 82) [27, 14] rfl rfl HT_ ?_
                       refine pV 27 (some 83) [28, 13] rfl rfl HT_ ?_
                       refine pV 28 (some 84) [29, 12] rfl rfl HT_ ?_
                       refine pV 29 (some 85) [30, 11] rfl rfl HT_ ?_
                       refine pV 30 (some 86) [31, 10] rfl rfl HT_ ?_
                       refine pV 32 (some 88) [31, 1, 1, 8] rfl rfl HT_ ?_
                       refine pV 33 (some 89) [31, 1, 2, 7] rfl rfl HT_ ?_
                       refine pV 36 (some 92) [31, 1, 2, 2, 1, 4] rfl rfl HT_ ?_
                       refine pT 31 (some 87) (bq [34, 2, 1, 4]) rfl rfl HT_ HW_ hHeld ?_
                       refine pV 34 (some 90) [35, 1, 1, 4] rfl rfl HT_ ?_
                       refine pT 35 (some 91) (bq [37, 4]) rfl rfl HT_ HW_ hHeld ?_
                       refine pO 37 (some 93) (bq [38, 3]) rfl rfl HT_ (fun K hK => ?_)
                       refine goes_ Try.func185 (by kernel_rfl) rfl #[.slice A403_0 (rd_L3 l0_5 (ji45)).length c403_0, .slice (some ad397) (rd_L3 l0_5 x51_2).length c396_0] (by rfl) rfl rfl (by (try simp only [List.map_toArray, List.map_cons, List.map_nil]); first | done | (simp only [hji45]; rfl) | rfl | (simp only [List.length_drop, List.length_take]; rfl)) ?_
                       with_reducible refine (slices_Compare_int64_int64.calls k2 _ _ (rd_L3 l0_5 (ji45)) _ _ (rd_L3 l0_5 x51_2) t404 _ ?side1 ?side2 ?side3 ?side4 A48.out).mono ?_
                       (case side1 => exact Kd.C_below HR403_0.out (tH1 HB GE390.out))
                       (case side2 => exact HC403_0.out)
                       (case side3 => exact Kd.C_below HR396_0.out (tH1 HB GE390.out))
                       (case side4 => exact HC396_0.out)
                       rintro e w' ⟨rfl, ⟨nd, rfl⟩⟩
                       refine ⟨_, rfl, ?_⟩
                       refine hK.out _ _ ⟨(blk_cell BK390.out 0).trans rfl, (blk_cell BK390.out 1).trans rfl, (blk_cell BK390.out 2).trans rfl, (blk_cell BK390.out 3).trans rfl, (blk_cell BK390.out 4).trans rfl, (blk_cell BK390.out 5).trans rfl, (tW HB hw397_0), (tW HB hw399_0), (tW HB hw401_0), (tW HB hw402_0), (tW HB hw403_0)⟩ (fun hHeld => ?_)
                       clear hK K
                       refine nO (some 93) ?_
                       refine pV 38 (some 94) [39, 2] rfl rfl HT_ ?_
                       refine pV 39 (some 95) [40, 1] rfl rfl HT_ ?_
                       refine pV 40 (some 96) [41] rfl rfl HT_ ?_
                       refine done_ (done_of HT_.out (by kernel_rfl)) ?_
                       try go_wp2
                       go_roundg k2
                       case measure => have := HJ1.out; have := HK2.out; omega
                       case rel => exact ⟨(wrap64 (x51_2 + 1)), tq, H', ⟨by have := HJ1.out; have := HK2.out; omega⟩, ⟨tB BK390⟩, ⟨tH1 HB GE390.out⟩⟩
                     rw [if_neg c47] at H
                     exact absurd H (by simp)
                   rw [if_neg c46] at H
                   exact absurd H (by simp)
                 rw [if_neg c44] at H
                 have c44b0 : decide (0 < x51_2) = false := decide_eq_false c44
                 clear c44
                 have H' := Aside0.mk H
                 clear H
                 have p396 : 0 ≤ (x51_2 : Int) := of_decide_eq_true tA
                 have q396 : x51_2 < (l0_5.length : Int) := of_decide_eq_true tA
                 obtain ⟨ad396, A396_0, c396_0, e396, hx396_0, hl396_0, hi396_0⟩ := at_L3 HR0_5.out x51_2 p396 q396
                 cases e396
                 replace hx396_0 := tW HB hx396_0
                 have HR396_0 := Aside0.mk hi396_0
                 have HC396_0 := Aside0.mk hl396_0
                 clear hi396_0 hl396_0
                 replace p396 := eq_true p396
                 replace q396 := eq_true q396
                 try go_wp2
                 replace BK390 := Aside0.mk (blk_drew BK390.out)
                 replace HB := Aside0.mk (below_drew1 HB.out)
                 have p397 : 0 ≤ (0 : Int) := (by omega)
                 have q397 : 0 < ((rd_L3 l0_5 x51_2).length : Int) := of_decide_eq_true tA
                 obtain ⟨ad397, e397, hx397_0⟩ := Kd.at_int HR396_0.out 0 p397 q397
                 have hw397_0 := hx397_0
                 (try rw [t0n] at hw397_0)
                 (try rw [show 0 * 1 = 0 from rfl] at hw397_0)
                 (try rw [Addr.add_zero'] at hw397_0)
                 cases e397
                 have qi397 : (0 < (rd_L3 l0_5 x51_2).length) = True := eq_true (by omega)
                 (try rw [t0n] at hx397_0)
                 (try rw [Addr.add_zero'] at hx397_0)
                 replace hx397_0 := tW HB hx397_0
                 replace p397 := eq_true p397
                 replace q397 := eq_true q397
                 have p399 : 0 ≤ (1 : Int) := (by omega)
                 have q399 : 1 < ((rd_L3 l0_5 x51_2).length : Int) := of_decide_eq_true tA
                 obtain ⟨ad399, e399, hx399_0⟩ := Kd.at_int HR396_0.out 1 p399 q399
                 have hw399_0 := hx399_0
                 (try rw [t1n] at hw399_0)
                 (try rw [show 1 * 1 = 1 from rfl] at hw399_0)
                 (try simp only [Nat.reduceMul, Nat.reduceEqDiff, Go.Addr.add, ↓reduceIte] at hw399_0)
                 obtain rfl : ad397 = ad399 := (by injection e399)
                 (try simp only [show (1 : Int).toNat = 1 from rfl, Nat.reduceMul, Nat.reduceEqDiff, Go.Addr.add, ↓reduceIte] at hx399_0)
                 have qi399 : (1 < (rd_L3 l0_5 x51_2).length) = True := eq_true (by omega)
                 (try rw [t1n] at hx399_0)
                 replace hx399_0 := tW HB hx399_0
                 replace p399 := eq_true p399
                 replace q399 := eq_true q399
                 have p401 : 0 ≤ (0 : Int) := (by omega)
                 have q401 : 0 < ((rd_L3 l0_5 x51_2).length : Int) := of_decide_eq_true tA
                 obtain ⟨ad401, e401, hx401_0⟩ := Kd.at_int HR396_0.out 0 p401 q401
                 have hw401_0 := hx401_0
                 (try rw [t0n] at hw401_0)
                 (try rw [show 0 * 1 = 0 from rfl] at hw401_0)
                 (try rw [Addr.add_zero'] at hw401_0)
                 obtain rfl : ad397 = ad401 := (by injection e401)
                 have qi401 : (0 < (rd_L3 l0_5 x51_2).length) = True := eq_true (by omega)
                 (try rw [t0n] at hx401_0)
                 (try rw [Addr.add_zero'] at hx401_0)
                 replace hx401_0 := tW HB hx401_0
                 replace p401 := eq_true p401
                 replace q401 := eq_true q401
                 have p402 : 0 ≤ (1 : Int) := (by omega)
                 have q402 : 1 < ((rd_L3 l0_5 x51_2).length : Int) := of_decide_eq_true tA
                 obtain ⟨ad402, e402, hx402_0⟩ := Kd.at_int HR396_0.out 1 p402 q402
                 have hw402_0 := hx402_0
                 (try rw [t1n] at hw402_0)
                 (try rw [show 1 * 1 = 1 from rfl] at hw402_0)
                 (try simp only [Nat.reduceMul, Nat.reduceEqDiff, Go.Addr.add, ↓reduceIte] at hw402_0)
                 obtain rfl : ad397 = ad402 := (by injection e402)
                 (try simp only [show (1 : Int).toNat = 1 from rfl, Nat.reduceMul, Nat.reduceEqDiff, Go.Addr.add, ↓reduceIte] at hx402_0)
                 have qi402 : (1 < (rd_L3 l0_5 x51_2).length) = True := eq_true (by omega)
                 (try rw [t1n] at hx402_0)
                 replace hx402_0 := tW HB hx402_0
                 replace p402 := eq_true p402
                 replace q402 := eq_true q402
                 refine start_ (n := 41) (S := fun w' => w'.cell? ad397 = some (.int .i64 (rd (rd_L3 l0_5 x51_2) 0)) ∧ w'.cell? ⟨ad397.block, ad397.off + 1, none⟩ = some (.int .i64 (rd (rd_L3 l0_5 x51_2) 1)) ∧ w'.cell? ad397 = some (.int .i64 (rd (rd_L3 l0_5 x51_2) 0)) ∧ w'.cell? ⟨ad397.block, ad397.off + 1, none⟩ = some (.int .i64 (rd (rd_L3 l0_5 x51_2) 1))) (ds := []) (bq [0, 41]) (by kernel_rfl) rfl rfl ⟨(tW HB hw397_0), (tW HB hw399_0), (tW HB hw401_0), (tW HB hw402_0)⟩ (fun hHeld => ?_); refine with_tabW impl_ValidRaga.tab6 impl_ValidRaga.bits6 (fun HT_ HW_ => ?_)
                 generalize wr.drew = w52 at BK390 HB hx397_0 hx399_0 hx401_0 hx402_0 hHeld ⊢
                 refine pV 0 (some 56) [1, 40] rfl rfl HT_ ?_
                 refine pV 1 (some 57) [2, 39] rfl rfl HT_ ?_
                 refine pV 2 (some 58) [3, 38] rfl rfl HT_ ?_
                 refine pV 3 (some 59) [4, 37] rfl rfl HT_ ?_
                 refine pV 4 (some 60) [5, 36] rfl rfl HT_ ?_
                 refine pV 5 (some 61) [6, 35] rfl rfl HT_ ?_
                 refine pT 6 (some 62) (bq [7, 34]) rfl rfl HT_ HW_ hHeld ?_
                 refine pO 7 (some 63) (bq [8, 33]) rfl rfl HT_ (fun K hK => ?_)
                 refine gS_ Try.func162 #[.int .i64 (rd (rd_L3 l0_5 x51_2) 0)] rfl rfl ?_
                 with_reducible refine (impl_toneOk.calls (rd (rd_L3 l0_5 x51_2) 0) true _ A37.out).mono ?_
                 rintro e w' ⟨rfl, ⟨nd, rfl⟩⟩
                 refine ⟨_, rfl, ?_⟩
                 refine hK.out _ _ ⟨(tW HB hw397_0), (tW HB hw399_0), (tW HB hw401_0), (tW HB hw402_0)⟩ (fun hHeld => ?_)
                 clear hK K
                 refine nO (some 63) ?_
                 refine pV 8 (some 64) [9, 32] rfl rfl HT_ ?_
                 refine pV 9 (some 65) [10, 31] rfl rfl HT_ ?_
                 refine pV 10 (some 66) [11, 30] rfl rfl HT_ ?_
                 refine pV 11 (some 67) [12, 29] rfl rfl HT_ ?_
                 refine pV 12 (some 68) [13, 28] rfl rfl HT_ ?_
                 refine pT 13 (some 69) (bq [14, 27]) rfl rfl HT_ HW_ hHeld ?_
                 refine pO 14 (some 70) (bq [15, 26]) rfl rfl HT_ (fun K hK => ?_)
                 refine gS_ Try.func162 #[.int .i64 (rd (rd_L3 l0_5 x51_2) 1)] rfl rfl ?_
                 with_reducible refine (impl_toneOk.calls (rd (rd_L3 l0_5 x51_2) 1) true _ A40.out).mono ?_
                 rintro e w' ⟨rfl, ⟨nd, rfl⟩⟩
                 refine ⟨_, rfl, ?_⟩
                 refine hK.out _ _ ⟨(tW HB hw397_0), (tW HB hw399_0), (tW HB hw401_0), (tW HB hw402_0)⟩ (fun hHeld => ?_)
                 clear hK K
                 refine nO (some 70) ?_
                 refine pV 15 (some 71) [16, 25] rfl rfl HT_ ?_
                 refine pV 16 (some 72) [17, 24] rfl rfl HT_ ?_
                 refine pV 17 (some 73) [18, 23] rfl rfl HT_ ?_
                 refine pV 18 (some 74) [19, 22] rfl rfl HT_ ?_
                 refine pV 19 (some 75) [20, 21] rfl rfl HT_ ?_
                 refine pV 21 (some 77) [20, 1, 1, 19] rfl rfl HT_ ?_
                 refine pV 22 (some 78) [20, 1, 2, 18] rfl rfl HT_ ?_
                 refine pT 20 (some 76) (bq [23, 18]) rfl rfl HT_ HW_ hHeld ?_
                 refine pT 23 (some 79) (bq [24, 17]) rfl rfl HT_ HW_ hHeld ?_
                 refine pV 24 (some 80) [25, 16] rfl rfl HT_ ?_
                 refine pV 25 (some 81) [26, 15] rfl rfl HT_ ?_
                 refine pV 26 (some 82) [27, 14] rfl rfl HT_ ?_
                 refine pV 27 (some 83) [28, 13] rfl rfl HT_ ?_
                 refine pV 28 (some 84) [29, 12] rfl rfl HT_ ?_
                 refine pV 29 (some 85) [30, 11] rfl rfl HT_ ?_
                 refine pU 30 (some 86) [31, 10] rfl rfl HT_ ?_
                 refine pU 31 (some 87) [32, 9] rfl rfl HT_ ?_
                 refine pU 32 (some 88) [33, 8] rfl rfl HT_ ?_
                 refine pU 33 (some 89) [34, 7] rfl rfl HT_ ?_
                 refine pU 34 (some 90) [35, 6] rfl rfl HT_ ?_
                 refine pU 35 (some 91) [36, 5] rfl rfl HT_ ?_
                 refine pU 36 (some 92) [37, 4] rfl rfl HT_ ?_
                 refine pU 37 (some 93) [38, 3] rfl rfl HT_ ?_
                 refine pU 38 (some 94) [39, 2] rfl rfl HT_ ?_
                 refine pV 39 (some 95) [40, 1] rfl rfl HT_ ?_
                 refine pV 40 (some 96) [41] rfl rfl HT_ ?_
                 refine done_ (done_of HT_.out (by kernel_rfl)) ?_
                 try go_wp2
                 go_roundg k2
                 case measure => have := HJ1.out; have := HK2.out; omega
                 case rel => exact ⟨(wrap64 (x51_2 + 1)), tq, H', ⟨by have := HJ1.out; have := HK2.out; omega⟩, ⟨tB BK390⟩, ⟨tH1 HB GE390.out⟩⟩
               replace c41 := Bool.eq_false_iff.mpr c41
               subst c41
               have H1 : (some false) = some r := by rw [if_neg (show ¬ (false = true) by decide)] at H; exact H
               clear H
               have H := H1
               clear H1
               obtain rfl := Option.some.inj H
               have p396 : 0 ≤ (x51_2 : Int) := of_decide_eq_true tA
               have q396 : x51_2 < (l0_5.length : Int) := of_decide_eq_true tA
               obtain ⟨ad396, A396_0, c396_0, e396, hx396_0, hl396_0, hi396_0⟩ := at_L3 HR0_5.out x51_2 p396 q396
               cases e396
               replace hx396_0 := tW HB hx396_0
               have HR396_0 := Aside0.mk hi396_0
               have HC396_0 := Aside0.mk hl396_0
               clear hi396_0 hl396_0
               replace p396 := eq_true p396
               replace q396 := eq_true q396
               try go_wp2
               replace BK390 := Aside0.mk (blk_drew BK390.out)
               replace HB := Aside0.mk (below_drew1 HB.out)
               have p397 : 0 ≤ (0 : Int) := (by omega)
               have q397 : 0 < ((rd_L3 l0_5 x51_2).length : Int) := of_decide_eq_true tA
               obtain ⟨ad397, e397, hx397_0⟩ := Kd.at_int HR396_0.out 0 p397 q397
               have hw397_0 := hx397_0
               (try rw [t0n] at hw397_0)
               (try rw [show 0 * 1 = 0 from rfl] at hw397_0)
               (try rw [Addr.add_zero'] at hw397_0)
               cases e397
               have qi397 : (0 < (rd_L3 l0_5 x51_2).length) = True := eq_true (by omega)
               (try rw [t0n] at hx397_0)
               (try rw [Addr.add_zero'] at hx397_0)
               replace hx397_0 := tW HB hx397_0
               replace p397 := eq_true p397
               replace q397 := eq_true q397
               have p399 : 0 ≤ (1 : Int) := (by omega)
               have q399 : 1 < ((rd_L3 l0_5 x51_2).length : Int) := of_decide_eq_true tA
               obtain ⟨ad399, e399, hx399_0⟩ := Kd.at_int HR396_0.out 1 p399 q399
               have hw399_0 := hx399_0
               (try rw [t1n] at hw399_0)
               (try rw [show 1 * 1 = 1 from rfl] at hw399_0)
               (try simp only [Nat.reduceMul, Nat.reduceEqDiff, Go.Addr.add, ↓reduceIte] at hw399_0)
               obtain rfl : ad397 = ad399 := (by injection e399)
               (try simp only [show (1 : Int).toNat = 1 from rfl, Nat.reduceMul, Nat.reduceEqDiff, Go.Addr.add, ↓reduceIte] at hx399_0)
               have qi399 : (1 < (rd_L3 l0_5 x51_2).length) = True := eq_true (by omega)
               (try rw [t1n] at hx399_0)
               replace hx399_0 := tW HB hx399_0
               replace p399 := eq_true p399
               replace q399 := eq_true q399
               refine start_ (n := 41) (S := fun w' => w'.cell? ad397 = some (.int .i64 (rd (rd_L3 l0_5 x51_2) 0)) ∧ w'.cell? ⟨ad397.block, ad397.off + 1, none⟩ = some (.int .i64 (rd (rd_L3 l0_5 x51_2) 1))) (ds := []) (bq [0, 41]) (by kernel_rfl) rfl rfl ⟨(tW HB hw397_0), (tW HB hw399_0)⟩ (fun hHeld => ?_); refine with_tabW impl_ValidRaga.tab6 impl_ValidRaga.bits6 (fun HT_ HW_ => ?_)
               generalize wr.drew = w53 at BK390 HB hx397_0 hx399_0 hHeld ⊢
               refine pV 0 (some 56) [1, 40] rfl rfl HT_ ?_
               refine pV 1 (some 57) [2, 39] rfl rfl HT_ ?_
               refine pV 2 (some 58) [3, 38] rfl rfl HT_ ?_
               refine pV 3 (some 59) [4, 37] rfl rfl HT_ ?_
               refine pV 4 (some 60) [5, 36] rfl rfl HT_ ?_
               refine pV 5 (some 61) [6, 35] rfl rfl HT_ ?_
               refine pT 6 (some 62) (bq [7, 34]) rfl rfl HT_ HW_ hHeld ?_
               refine pO 7 (some 63) (bq [8, 33]) rfl rfl HT_ (fun K hK => ?_)
               refine gS_ Try.func162 #[.int .i64 (rd (rd_L3 l0_5 x51_2) 0)] rfl rfl ?_
               with_reducible refine (impl_toneOk.calls (rd (rd_L3 l0_5 x51_2) 0) true _ A37.out).mono ?_
               rintro e w' ⟨rfl, ⟨nd, rfl⟩⟩
               refine ⟨_, rfl, ?_⟩
               refine hK.out _ _ ⟨(tW HB hw397_0), (tW HB hw399_0)⟩ (fun hHeld => ?_)
               clear hK K
               refine nO (some 63) ?_
               refine pV 8 (some 64) [9, 32] rfl rfl HT_ ?_
               refine pV 9 (some 65) [10, 31] rfl rfl HT_ ?_
               refine pV 10 (some 66) [11, 30] rfl rfl HT_ ?_
               refine pV 11 (some 67) [12, 29] rfl rfl HT_ ?_
               refine pV 12 (some 68) [13, 28] rfl rfl HT_ ?_
               refine pT 13 (some 69) (bq [14, 27]) rfl rfl HT_ HW_ hHeld ?_
               refine pO 14 (some 70) (bq [15, 26]) rfl rfl HT_ (fun K hK => ?_)
               refine gS_ Try.func162 #[.int .i64 (rd (rd_L3 l0_5 x51_2) 1)] rfl rfl ?_
               with_reducible refine (impl_toneOk.calls (rd (rd_L3 l0_5 x51_2) 1) false _ A40.out).mono ?_
               rintro e w' ⟨rfl, ⟨nd, rfl⟩⟩
               refine ⟨_, rfl, ?_⟩
               refine hK.out _ _ ⟨(tW HB hw397_0), (tW HB hw399_0)⟩ (fun hHeld => ?_)
               clear hK K
               refine nO (some 70) ?_
               refine pV 15 (some 71) [16, 25] rfl rfl HT_ ?_
               refine pV 16 (some 72) [17, 24] rfl rfl HT_ ?_
               refine pV 17 (some 73) [18, 23] rfl rfl HT_ ?_
               refine pU 18 (some 74) [19, 22] rfl rfl HT_ ?_
               refine pU 19 (some 75) [20, 21] rfl rfl HT_ ?_
               refine pU 20 (some 76) [21, 20] rfl rfl HT_ ?_
               refine pU 21 (some 77) [22, 19] rfl rfl HT_ ?_
               refine pU 22 (some 78) [23, 18] rfl rfl HT_ ?_
               refine pU 23 (some 79) [24, 17] rfl rfl HT_ ?_
               refine pU 24 (some 80) [25, 16] rfl rfl HT_ ?_
               refine pV 25 (some 81) [26, 15] rfl rfl HT_ ?_
               refine pV 26 (some 82) [27, 14] rfl rfl HT_ ?_
               refine pU 27 (some 83) [28, 13] rfl rfl HT_ ?_
               refine pU 28 (some 84) [29, 12] rfl rfl HT_ ?_
               refine pU 29 (some 85) [30, 11] rfl rfl HT_ ?_
               refine pU 30 (some 86) [31, 10] rfl rfl HT_ ?_
               refine pU 31 (some 87) [32, 9] rfl rfl HT_ ?_
               refine pU 32 (some 88) [33, 8] rfl rfl HT_ ?_
               refine pU 33 (some 89) [34, 7] rfl rfl HT_ ?_
               refine pU 34 (some 90) [35, 6] rfl rfl HT_ ?_
               refine pU 35 (some 91) [36, 5] rfl rfl HT_ ?_
               refine pU 36 (some 92) [37, 4] rfl rfl HT_ ?_
               refine pU 37 (some 93) [38, 3] rfl rfl HT_ ?_
               refine pU 38 (some 94) [39, 2] rfl rfl HT_ ?_
               refine pU 39 (some 95) [40, 1] rfl rfl HT_ ?_
               refine pV 40 (some 96) [41] rfl rfl HT_ ?_
               refine done_ (done_of HT_.out (by kernel_rfl)) ?_
               try go_wp2
               go_ret
               exact ⟨tE, tH1 HB GE390.out⟩
             rw [if_neg c39] at H
             exact absurd H (by simp)
           replace c38 := Bool.eq_false_iff.mpr c38
           subst c38
           have H1 : (some false) = some r := by rw [if_neg (show ¬ (false = true) by decide)] at H; exact H
           clear H
           have H := H1
           clear H1
           obtain rfl := Option.some.inj H
           have p396 : 0 ≤ (x51_2 : Int) := of_decide_eq_true tA
           have q396 : x51_2 < (l0_5.length : Int) := of_decide_eq_true tA
           obtain ⟨ad396, A396_0, c396_0, e396, hx396_0, hl396_0, hi396_0⟩ := at_L3 HR0_5.out x51_2 p396 q396
           cases e396
           replace hx396_0 := tW HB hx396_0
           have HR396_0 := Aside0.mk hi396_0
           have HC396_0 := Aside0.mk hl396_0
           clear hi396_0 hl396_0
           replace p396 := eq_true p396
           replace q396 := eq_true q396
           try go_wp2
           replace BK390 := Aside0.mk (blk_drew BK390.out)
           replace HB := Aside0.mk (below_drew1 HB.out)
           have p397 : 0 ≤ (0 : Int) := (by omega)
           have q397 : 0 < ((rd_L3 l0_5 x51_2).length : Int) := of_decide_eq_true tA
           obtain ⟨ad397, e397, hx397_0⟩ := Kd.at_int HR396_0.out 0 p397 q397
           have hw397_0 := hx397_0
           (try rw [t0n] at hw397_0)
           (try rw [show 0 * 1 = 0 from rfl] at hw397_0)
           (try rw [Addr.add_zero'] at hw397_0)
           cases e397
           have qi397 : (0 < (rd_L3 l0_5 x51_2).length) = True := eq_true (by omega)
           (try rw [t0n] at hx397_0)
           (try rw [Addr.add_zero'] at hx397_0)
           replace hx397_0 := tW HB hx397_0
           replace p397 := eq_true p397
           replace q397 := eq_true q397
           refine start_ (n := 41) (S := fun w' => w'.cell? ad397 = some (.int .i64 (rd (rd_L3 l0_5 x51_2) 0))) (ds := []) (bq [0, 41]) (by kernel_rfl) rfl rfl ((tW HB hw397_0)) (fun hHeld => ?_); refine with_tabW impl_ValidRaga.tab6 impl_ValidRaga.bits6 (fun HT_ HW_ => ?_)
           generalize wr.drew = w54 at BK390 HB hx397_0 hHeld ⊢
           refine pV 0 (some 56) [1, 40] rfl rfl HT_ ?_
           refine pV 1 (some 57) [2, 39] rfl rfl HT_ ?_
           refine pV 2 (some 58) [3, 38] rfl rfl HT_ ?_
           refine pV 3 (some 59) [4, 37] rfl rfl HT_ ?_
           refine pV 4 (some 60) [5, 36] rfl rfl HT_ ?_
           refine pV 5 (some 61) [6, 35] rfl rfl HT_ ?_
           refine pT 6 (some 62) (bq [7, 34]) rfl rfl HT_ HW_ hHeld ?_
           refine pO 7 (some 63) (bq [8, 33]) rfl rfl HT_ (fun K hK => ?_)
           refine gS_ Try.func162 #[.int .i64 (rd (rd_L3 l0_5 x51_2) 0)] rfl rfl ?_
           with_reducible refine (impl_toneOk.calls (rd (rd_L3 l0_5 x51_2) 0) false _ A37.out).mono ?_
           rintro e w' ⟨rfl, ⟨nd, rfl⟩⟩
           refine ⟨_, rfl, ?_⟩
           refine hK.out _ _ ((tW HB hw397_0)) (fun hHeld => ?_)
           clear hK K
           refine nO (some 63) ?_
           refine pV 8 (some 64) [9, 32] rfl rfl HT_ ?_
           refine pV 9 (some 65) [10, 31] rfl rfl HT_ ?_
           refine pV 10 (some 66) [11, 30] rfl rfl HT_ ?_
           refine pU 11 (some 67) [12, 29] rfl rfl HT_ ?_
           refine pU 12 (some 68) [13, 28] rfl rfl HT_ ?_
           refine pU 13 (some 69) [14, 27] rfl rfl HT_ ?_
           refine pU 14 (some 70) [15, 26] rfl rfl HT_ ?_
           refine pU 15 (some 71) [16, 25] rfl rfl HT_ ?_
           refine pV 16 (some 72) [17, 24] rfl rfl HT_ ?_
           refine pV 17 (some 73) [18, 23] rfl rfl HT_ ?_
           refine pU 18 (some 74) [19, 22] rfl rfl HT_ ?_
           refine pU 19 (some 75) [20, 21] rfl rfl HT_ ?_
           refine pU 20 (some 76) [21, 20] rfl rfl HT_ ?_
           refine pU 21 (some 77) [22, 19] rfl rfl HT_ ?_
           refine pU 22 (some 78) [23, 18] rfl rfl HT_ ?_
           refine pU 23 (some 79) [24, 17] rfl rfl HT_ ?_
           refine pU 24 (some 80) [25, 16] rfl rfl HT_ ?_
           refine pV 25 (some 81) [26, 15] rfl rfl HT_ ?_
           refine pV 26 (some 82) [27, 14] rfl rfl HT_ ?_
           refine pU 27 (some 83) [28, 13] rfl rfl HT_ ?_
           refine pU 28 (some 84) [29, 12] rfl rfl HT_ ?_
           refine pU 29 (some 85) [30, 11] rfl rfl HT_ ?_
           refine pU 30 (some 86) [31, 10] rfl rfl HT_ ?_
           refine pU 31 (some 87) [32, 9] rfl rfl HT_ ?_
           refine pU 32 (some 88) [33, 8] rfl rfl HT_ ?_
           refine pU 33 (some 89) [34, 7] rfl rfl HT_ ?_
           refine pU 34 (some 90) [35, 6] rfl rfl HT_ ?_
           refine pU 35 (some 91) [36, 5] rfl rfl HT_ ?_
           refine pU 36 (some 92) [37, 4] rfl rfl HT_ ?_
           refine pU 37 (some 93) [38, 3] rfl rfl HT_ ?_
           refine pU 38 (some 94) [39, 2] rfl rfl HT_ ?_
           refine pU 39 (some 95) [40, 1] rfl rfl HT_ ?_
           refine pV 40 (some 96) [41] rfl rfl HT_ ?_
           refine done_ (done_of HT_.out (by kernel_rfl)) ?_
           try go_wp2
           go_ret
           exact ⟨tE, tH1 HB GE390.out⟩
         rw [if_neg c36] at H
         exact absurd H (by simp)
       rw [if_neg c35] at H
       have c35b0 : (((rd_L3 l0_5 x51_2).length : Int) == 2) = false := beq_eq_false_iff_ne.mpr c35
       have c35b1 : (((rd_L3 l0_5 x51_2).length : Int) != 2) = true := bne_iff_ne.mpr c35
       obtain rfl := Option.some.inj H
       have p396 : 0 ≤ (x51_2 : Int) := of_decide_eq_true tA
       have q396 : x51_2 < (l0_5.length : Int) := of_decide_eq_true tA
       obtain ⟨ad396, A396_0, c396_0, e396, hx396_0, hl396_0, hi396_0⟩ := at_L3 HR0_5.out x51_2 p396 q396
       cases e396
       replace hx396_0 := tW HB hx396_0
       have HR396_0 := Aside0.mk hi396_0
       have HC396_0 := Aside0.mk hl396_0
       clear hi396_0 hl396_0
       replace p396 := eq_true p396
       replace q396 := eq_true q396
       try go_wp2
       replace BK390 := Aside0.mk (blk_drew BK390.out)
       replace HB := Aside0.mk (below_drew1 HB.out)
       refine start_ (n := 41) (S := fun w' => True) (ds := []) (bq [0, 41]) (by kernel_rfl) rfl rfl trivial (fun hHeld => ?_); refine with_tabW impl_ValidRaga.tab6 impl_ValidRaga.bits6 (fun HT_ HW_ => ?_)
       generalize wr.drew = w55 at BK390 HB hHeld ⊢
       refine pV 0 (some 56) [1, 40] rfl rfl HT_ ?_
       refine pV 1 (some 57) [2, 39] rfl rfl HT_ ?_
       refine pV 2 (some 58) [3, 38] rfl rfl HT_ ?_
       refine pV 3 (some 59) [4, 37] rfl rfl HT_ ?_
       refine pU 4 (some 60) [5, 36] rfl rfl HT_ ?_
       refine pU 5 (some 61) [6, 35] rfl rfl HT_ ?_
       refine pU 6 (some 62) [7, 34] rfl rfl HT_ ?_
       refine pU 7 (some 63) [8, 33] rfl rfl HT_ ?_
       refine pU 8 (some 64) [9, 32] rfl rfl HT_ ?_
       refine pV 9 (some 65) [10, 31] rfl rfl HT_ ?_
       refine pV 10 (some 66) [11, 30] rfl rfl HT_ ?_
       refine pU 11 (some 67) [12, 29] rfl rfl HT_ ?_
       refine pU 12 (some 68) [13, 28] rfl rfl HT_ ?_
       refine pU 13 (some 69) [14, 27] rfl rfl HT_ ?_
       refine pU 14 (some 70) [15, 26] rfl rfl HT_ ?_
       refine pU 15 (some 71) [16, 25] rfl rfl HT_ ?_
       refine pV 16 (some 72) [17, 24] rfl rfl HT_ ?_
       refine pV 17 (some 73) [18, 23] rfl rfl HT_ ?_
       refine pU 18 (some 74) [19, 22] rfl rfl HT_ ?_
       refine pU 19 (some 75) [20, 21] rfl rfl HT_ ?_
       refine pU 20 (some 76) [21, 20] rfl rfl HT_ ?_
       refine pU 21 (some 77) [22, 19] rfl rfl HT_ ?_
       refine pU 22 (some 78) [23, 18] rfl rfl HT_ ?_
       refine pU 23 (some 79) [24, 17] rfl rfl HT_ ?_
       refine pU 24 (some 80) [25, 16] rfl rfl HT_ ?_
       refine pV 25 (some 81) [26, 15] rfl rfl HT_ ?_
       refine pV 26 (some 82) [27, 14] rfl rfl HT_ ?_
       refine pU 27 (some 83) [28, 13] rfl rfl HT_ ?_
       refine pU 28 (some 84) [29, 12] rfl rfl HT_ ?_
       refine pU 29 (some 85) [30, 11] rfl rfl HT_ ?_
       refine pU 30 (some 86) [31, 10] rfl rfl HT_ ?_
       refine pU 31 (some 87) [32, 9] rfl rfl HT_ ?_
       refine pU 32 (some 88) [33, 8] rfl rfl HT_ ?_
       refine pU 33 (some 89) [34, 7] rfl rfl HT_ ?_
       refine pU 34 (some 90) [35, 6] rfl rfl HT_ ?_
       refine pU 35 (some 91) [36, 5] rfl rfl HT_ ?_
       refine pU 36 (some 92) [37, 4] rfl rfl HT_ ?_
       refine pU 37 (some 93) [38, 3] rfl rfl HT_ ?_
       refine pU 38 (some 94) [39, 2] rfl rfl HT_ ?_
       refine pU 39 (some 95) [40, 1] rfl rfl HT_ ?_
       refine pV 40 (some 96) [41] rfl rfl HT_ ?_
       refine done_ (done_of HT_.out (by kernel_rfl)) ?_
       try go_wp2
       go_ret
       exact ⟨tE, tH1 HB GE390.out⟩
     rw [if_neg c34] at H
     exact absurd H (by simp)
   rw [if_neg c33] at H
   exact absurd H (by simp)
 rw [if_neg c32] at H
 have c32b0 : decide (x51_2 < (l0_5.length : Int)) = false := decide_eq_false c32
 clear c32
 obtain rfl := Option.some.inj H
 go_wp2
 go_ret
 exact ⟨tE, tH1 HB GE390.out⟩

end Go.Proofs.Ytbedlmlofnphkaa.PZ
