-- WRITTEN BY wip/gprint.py, a program of this session's over the kit's print, with contracts given by hand
import Derived.Test.YtmeflmlejcmckaaDoorPSx0
import Derived.Test.YtmeflmlejcmckaaDoorPSx11
namespace Go.Proofs.YtmeflmlejcmckaaDoor.PS
open Go.RowKit Go.Proofs.YtmeflmlejcmckaaDoorW.PrintWords Go.Proofs.YtmeflmlejcmckaaDoorW.PrintLast Go.Proofs.YtmeflmlejcmckaaDoorW.PrintMore
attribute [local go_sem] max2_int min2_int max_two min_two max_three min_three max_four min_four   -- for this text's walks alone
set_option linter.unusedVariables false
set_option linter.unusedSimpArgs false

attribute [local go_sem high] leq_strs
attribute [local go_sem] isSome_setCell
/-! ### impl_ValidSyllables: function 91 -/
def impl_ValidSyllables.l0 : Nat → List (S118) → List (S118) → Int → Int → Option (Bool)
 | 0, _, _, _, _ => none
 | k + 1, x0, x8, x9, x10 => if x10 < x9 then (if 0 ≤ x10 then (if x10 < (x8.length : Int) then ((impl_ValidSyllable.f k ((rd_T118 x8 x10).f0) ((rd_T118 x8 x10).f1) ((rd_T118 x8 x10).f2)).bind fun t215 => (if t215 = true then (if x10 > 0 then (if 0 ≤ (wrap64 (x10 - 1)) then (if (wrap64 (x10 - 1)) < (x0.length : Int) then (if ((Op.bytesLess (((rd_T118 x0 (wrap64 (x10 - 1))).f0).toList) (((rd_T118 x8 x10).f0).toList)) = true) then (impl_ValidSyllables.l0 k x0 x8 x9 (wrap64 (x10 + 1))) else (some false)) else (none)) else (none)) else (impl_ValidSyllables.l0 k x0 x8 x9 (wrap64 (x10 + 1)))) else (some false))) else (none)) else (none)) else (some true)
def impl_ValidSyllables.f (k : Nat) (l0 : List (S118)) : Option (Bool) := if (l0.length : Int) > 16 then (some false) else (impl_ValidSyllables.l0 k l0 l0 (l0.length : Int) 0)
theorem impl_ValidSyllables.mono_l : ∀ k, (∀ y0 y1 y2 y3, LeO (impl_ValidSyllables.l0 k y0 y1 y2 y3) (impl_ValidSyllables.l0 (k + 1) y0 y1 y2 y3))
 | 0 => fun _ _ _ _ r h => by simp [impl_ValidSyllables.l0] at h
 | k + 1 => by
  have ih0 := impl_ValidSyllables.mono_l k
  · intro y0 y1 y2 y3
    unfold impl_ValidSyllables.l0
    repeat' first
    | (with_reducible exact ih0 _ _ _ _)
    | (with_reducible exact impl_ValidSyllable.mono _ _ _ _)
    | (with_reducible exact LeO.refl _)
    | (with_reducible exact LeO.none _)
    | (with_reducible refine LeO.ite ?_ ?_)
    | (with_reducible refine LeO.bind ?_ (fun _ => ?_))
    | exact ih0 _ _ _ _
    | exact impl_ValidSyllable.mono _ _ _ _
    | exact LeO.none _
    | refine LeO.ite ?_ ?_
    | refine LeO.bind ?_ (fun _ => ?_)
theorem impl_ValidSyllables.mono : ∀ a0 k, LeO (impl_ValidSyllables.f k a0) (impl_ValidSyllables.f (k + 1) a0) := by
 intro a0 k
 have ih0 := impl_ValidSyllables.mono_l k
 unfold impl_ValidSyllables.f
 repeat' first
  | (with_reducible exact ih0 _ _ _ _)
  | (with_reducible exact impl_ValidSyllable.mono _ _ _ _)
  | (with_reducible exact LeO.refl _)
  | (with_reducible exact LeO.none _)
  | (with_reducible refine LeO.ite ?_ ?_)
  | (with_reducible refine LeO.bind ?_ (fun _ => ?_))
  | exact ih0 _ _ _ _
  | exact impl_ValidSyllable.mono _ _ _ _
  | exact LeO.none _
  | refine LeO.ite ?_ ?_
  | refine LeO.bind ?_ (fun _ => ?_)
def impl_ValidSyllables.T6 : Bool × List (List Nat × List Nat) := (true, [([], []), ([0], [0]), ([1], [1]), ([2, 1], [2]), ([3], [3]), ([4, 3], [3, 4]), ([5, 3, 3], [3, 5]), ([6], [6]), ([7, 6], [6, 7]), ([6], [6]), ([6], [6]), ([10, 6], [6, 10]), ([9, 11, 6], [6, 9, 11]), ([12, 6], [6, 12]), ([13, 6], [6, 13]), ([8, 14, 6], [6, 8, 14]), ([6, 15, 3], [3, 6, 15]), ([3, 16], [3, 16])])
def impl_ValidSyllables.B6 : List Nat := [0, 1, 3, 7, 15, 31, 63, 127, 255, 127, 127, 1151, 3711, 7807, 15999, 32767, 65535, 131071]
theorem impl_ValidSyllables.tab6 : rtab .any (opsOf Tryd.f91 6) = impl_ValidSyllables.T6 := by kernel_rfl
theorem impl_ValidSyllables.bits6 : waitsOk impl_ValidSyllables.T6.2 impl_ValidSyllables.B6 = true := by kernel_rfl
set_option maxHeartbeats 8000000 in
set_option maxRecDepth 100000 in
theorem impl_ValidSyllables.calls (k : Nat) (A0 : Option Addr) (c0 : Nat) (l0 : List (S118)) (r : Bool) (w : World) (hr0 : Kd.C k118 w A0 l0.length l0) (hc0 : l0.length ≤ c0) (h : impl_ValidSyllables.f k l0 = some r) :
 Calls Tryd.prog 91 #[.slice A0 l0.length c0] w fun e w' => e = .returned (.bool r) ∧ Below w.heap.size w w' := by
 have hu118 := Tryd.underlying118
 have HR0 := Aside0.mk hr0
 have HC0 := Aside0.mk hc0
 clear hr0 hc0
 have HB := Aside0.mk (Below.refl w.heap.size w)
 have H : (if (l0.length : Int) > 16 then (some false) else (impl_ValidSyllables.l0 k l0 l0 (l0.length : Int) 0)) = some r := h
 clear h
 by_cases c2 : (l0.length : Int) > 16
 · rw [if_pos c2] at H
   have c2b0 : decide (16 < (l0.length : Int)) = true := decide_eq_true c2
   have c2b1 : decide (16 < l0.length) = true := decide_eq_true (by omega)
   clear c2
   obtain rfl := Option.some.inj H
   go_enter Tryd.func91, Tryd.ntmps91
   go_wp2
   go_ret
   exact ⟨tE, tH HB⟩
 rw [if_neg c2] at H
 have c2b0 : decide (16 < (l0.length : Int)) = false := decide_eq_false c2
 have c2b1 : decide (16 < l0.length) = false := decide_eq_false (by omega)
 clear c2
 have H' := Aside0.mk H
 clear H
 go_enter Tryd.func91, Tryd.ntmps91
 go_wp2
 go_loopg [10] k (fun kq v10 w' => ∃ (x10_1 : Int), v10 = .int .i64 x10_1 ∧ Aside0 (impl_ValidSyllables.l0 kq l0 l0 (l0.length : Int) x10_1 = some r) ∧ Aside0 (kq ≤ k) ∧ Aside0 (Below w.heap.size w w'))
 case atStart => exact ⟨(0), tq, H', ⟨Nat.le_refl _⟩, ⟨tH HB⟩⟩
 case round =>
 clear H'
 try clear c2
 try clear c2b0
 try clear c2b1
 try clear p2
 obtain ⟨x10_1, rfl, HA, HK1, HB⟩ := hrel
 cases gk with
 | zero => exact absurd HA.out (by simp [impl_ValidSyllables.l0])
 | succ k1 =>
 have H := HA.out
 clear HA
 simp only [impl_ValidSyllables.l0] at H
 by_cases c3 : x10_1 < (l0.length : Int)
 · rw [if_pos c3] at H
   have c3b0 : decide (x10_1 < (l0.length : Int)) = true := decide_eq_true c3
   clear c3
   by_cases c4 : 0 ≤ x10_1
   · rw [if_pos c4] at H
     have c4b0 : decide (0 ≤ x10_1) = true := decide_eq_true c4
     clear c4
     by_cases c5 : x10_1 < (l0.length : Int)
     · rw [if_pos c5] at H
       have c5b0 : decide (x10_1 < (l0.length : Int)) = true := decide_eq_true c5
       clear c5
       replace H := Option.bind_eq_some_iff.mp H
       obtain ⟨t215, A60, H⟩ := H
       replace H : (if t215 = true then (if x10_1 > 0 then (if 0 ≤ (wrap64 (x10_1 - 1)) then (if (wrap64 (x10_1 - 1)) < (l0.length : Int) then (if ((Op.bytesLess (((rd_T118 l0 (wrap64 (x10_1 - 1))).f0).toList) (((rd_T118 l0 x10_1).f0).toList)) = true) then (impl_ValidSyllables.l0 k1 l0 l0 (l0.length : Int) (wrap64 (x10_1 + 1))) else (some false)) else (none)) else (none)) else (impl_ValidSyllables.l0 k1 l0 l0 (l0.length : Int) (wrap64 (x10_1 + 1)))) else (some false)) = some r := H
       have A6 := Aside0.mk A60
       clear A60
       by_cases c7 : t215 = true
       · subst c7
         have H1 : (if x10_1 > 0 then (if 0 ≤ (wrap64 (x10_1 - 1)) then (if (wrap64 (x10_1 - 1)) < (l0.length : Int) then (if ((Op.bytesLess (((rd_T118 l0 (wrap64 (x10_1 - 1))).f0).toList) (((rd_T118 l0 x10_1).f0).toList)) = true) then (impl_ValidSyllables.l0 k1 l0 l0 (l0.length : Int) (wrap64 (x10_1 + 1))) else (some false)) else (none)) else (none)) else (impl_ValidSyllables.l0 k1 l0 l0 (l0.length : Int) (wrap64 (x10_1 + 1)))) = some r := by rw [if_pos rfl] at H; exact H
         clear H
         have H := H1
         clear H1
         by_cases c8 : x10_1 > 0
         · rw [if_pos c8] at H
           have c8b0 : decide (0 < x10_1) = true := decide_eq_true c8
           clear c8
           obtain ⟨ji9, hji9⟩ : ∃ j_ : Int, (wrap64 (x10_1 - 1)) = j_ := ⟨_, rfl⟩
           replace H : (if 0 ≤ (ji9) then (if (ji9) < (l0.length : Int) then (if ((Op.bytesLess (((rd_T118 l0 (ji9)).f0).toList) (((rd_T118 l0 x10_1).f0).toList)) = true) then (impl_ValidSyllables.l0 k1 l0 l0 (l0.length : Int) (wrap64 (x10_1 + 1))) else (some false)) else (none)) else (none)) = some r := by first | (rw [hji9] at H; exact H) | (simp only [hji9] at H ⊢; exact H)
           (try rw [hji9] at A6)
           have hji9w : (IntKind.i64.wrap (x10_1 - 1)) = ji9 := (i64_w _).trans hji9
           by_cases c10 : 0 ≤ (ji9)
           · rw [if_pos c10] at H
             have c10b0 : decide (0 ≤ (ji9)) = true := decide_eq_true c10
             clear c10
             by_cases c11 : (ji9) < (l0.length : Int)
             · rw [if_pos c11] at H
               have c11b0 : decide ((ji9) < (l0.length : Int)) = true := decide_eq_true c11
               clear c11
               by_cases c12 : ((Op.bytesLess (((rd_T118 l0 (ji9)).f0).toList) (((rd_T118 l0 x10_1).f0).toList)) = true)
               · rw [if_pos c12] at H
                 have c12b0 : (Op.bytesLess (((rd_T118 l0 (ji9)).f0).toList) (((rd_T118 l0 x10_1).f0).toList)) = true := c12
                 clear c12
                 have H' := Aside0.mk H
                 clear H
                 have p213 : 0 ≤ (x10_1 : Int) := of_decide_eq_true tA
                 have q213 : x10_1 < (l0.length : Int) := of_decide_eq_true tA
                 obtain ⟨ad213, e213, hx213_0, hx213_1, hx213_2⟩ := at_T118 HR0.out x10_1 p213 q213
                 cases e213
                 replace hx213_0 := tW HB hx213_0
                 replace hx213_1 := tW HB hx213_1
                 replace hx213_2 := tW HB hx213_2
                 replace p213 := eq_true p213
                 replace q213 := eq_true q213
                 try go_wp2_with (first | ((with_reducible refine gate_dst (N := 4) rfl ?_); refine box_event ?hg (N := 4) ?hd (cs := #[.string (⟨#[]⟩ : ByteArray), .int .i64 0, .int .i64 0]) (t := 118) ?hr ?_; (case hd => rfl); (case hg => rfl); (case hr => first | (go_simp; done) | (go_simp; rfl)); intro gb214 hg w13 hbox hb; have BK214 := Aside0.mk (hbox); have GW214 := Aside0.mk ((by rw [hg]; exact (below_size (tH HB)) : w.heap.size ≤ gb214)); have GE214 := Aside0.mk ((by rw [hg]; exact (below_size (tH HB)) : w.heap.size ≤ gb214)); replace HB := Aside0.mk (below_step (tH HB) hb); clear hb hbox hg; have hcz14_0 : w13.cell? ⟨gb214, 0, none⟩ = some (.string (⟨#[]⟩ : ByteArray)) := (blk_cell BK214.out 0).trans rfl; have hcz14_1 : w13.cell? ⟨gb214, 1, none⟩ = some (.int .i64 0) := (blk_cell BK214.out 1).trans rfl; have hcz14_2 : w13.cell? ⟨gb214, 2, none⟩ = some (.int .i64 0) := (blk_cell BK214.out 2).trans rfl; have hfz14_0 := blk_frozen BK214.out 0; have hfz14_1 := blk_frozen BK214.out 1; have hfz14_2 := blk_frozen BK214.out 2))
                 have n0_ : Aside0 ((((w13.setCell ⟨gb214, 0, none⟩ (.string ((rd_T118 l0 x10_1).f0))).setCell ⟨gb214, 1, none⟩ (.int .i64 ((rd_T118 l0 x10_1).f1))).setCell ⟨gb214, 2, none⟩ (.int .i64 ((rd_T118 l0 x10_1).f2))).heap[gb214]? = some (.cells #[.string ((rd_T118 l0 x10_1).f0), .int .i64 ((rd_T118 l0 x10_1).f1), .int .i64 ((rd_T118 l0 x10_1).f2)] 118 (0, 0))) := ⟨by (with_reducible repeat (first | refine blk_drewN ?_ _ | refine blk_drew ?_ | refine blk_alloc ?_ _)); refine blk_put (cs := #[.string ((rd_T118 l0 x10_1).f0), .int .i64 ((rd_T118 l0 x10_1).f1), .int .i64 0]) ?_ 2 _ rfl; (with_reducible repeat (first | refine blk_drewN ?_ _ | refine blk_drew ?_ | refine blk_alloc ?_ _)); refine blk_put (cs := #[.string ((rd_T118 l0 x10_1).f0), .int .i64 0, .int .i64 0]) ?_ 1 _ rfl; (with_reducible repeat (first | refine blk_drewN ?_ _ | refine blk_drew ?_ | refine blk_alloc ?_ _)); refine blk_put (cs := #[.string (⟨#[]⟩ : ByteArray), .int .i64 0, .int .i64 0]) ?_ 0 _ rfl; (with_reducible repeat (first | refine blk_drewN ?_ _ | refine blk_drew ?_ | refine blk_alloc ?_ _)); exact BK214.out⟩
                 have n1_ : Aside0 (Below w.heap.size w (((w13.setCell ⟨gb214, 0, none⟩ (.string ((rd_T118 l0 x10_1).f0))).setCell ⟨gb214, 1, none⟩ (.int .i64 ((rd_T118 l0 x10_1).f1))).setCell ⟨gb214, 2, none⟩ (.int .i64 ((rd_T118 l0 x10_1).f2)))) := ⟨tH1 HB GE214.out⟩
                 (try clear BK214)
                 (try clear HB)
                 generalize (((w13.setCell ⟨gb214, 0, none⟩ (.string ((rd_T118 l0 x10_1).f0))).setCell ⟨gb214, 1, none⟩ (.int .i64 ((rd_T118 l0 x10_1).f1))).setCell ⟨gb214, 2, none⟩ (.int .i64 ((rd_T118 l0 x10_1).f2))) = w15 at n0_ n1_ ⊢
                 have BK214 := n0_
                 have HB := n1_
                 clear n0_ n1_
                 replace BK214 := Aside0.mk (blk_drew BK214.out)
                 replace HB := Aside0.mk (below_drew1 HB.out)
                 have p216 : 0 ≤ ((ji9) : Int) := of_decide_eq_true tA
                 have q216 : (ji9) < (l0.length : Int) := of_decide_eq_true tA
                 obtain ⟨ad216, e216, hx216_0, hx216_1, hx216_2⟩ := at_T118 HR0.out (ji9) p216 q216
                 have hw216_2 := hx216_2
                 have hw216_1 := hx216_1
                 have hw216_0 := hx216_0
                 obtain rfl : ad213 = ad216 := (by injection e216)
                 replace hx216_0 := tW HB hx216_0
                 replace hx216_1 := tW HB hx216_1
                 replace hx216_2 := tW HB hx216_2
                 replace p216 := eq_true p216
                 replace q216 := eq_true q216
                 refine start_ (n := 18) (S := fun w' => w'.cell? ⟨gb214, 0, none⟩ = some (.string ((rd_T118 l0 x10_1).f0)) ∧ w'.cell? ⟨gb214, 1, none⟩ = some (.int .i64 ((rd_T118 l0 x10_1).f1)) ∧ w'.cell? ⟨gb214, 2, none⟩ = some (.int .i64 ((rd_T118 l0 x10_1).f2)) ∧ w'.cell? (ad213.add (((ji9)).toNat * 3)) = some (.string ((rd_T118 l0 (ji9)).f0)) ∧ w'.cell? ⟨(ad213.add (((ji9)).toNat * 3)).block, (ad213.add (((ji9)).toNat * 3)).off + 1, none⟩ = some (.int .i64 ((rd_T118 l0 (ji9)).f1)) ∧ w'.cell? ⟨(ad213.add (((ji9)).toNat * 3)).block, (ad213.add (((ji9)).toNat * 3)).off + 2, none⟩ = some (.int .i64 ((rd_T118 l0 (ji9)).f2))) (ds := []) (bq [0, 18]) (by kernel_rfl) rfl rfl ⟨(blk_cell BK214.out 0).trans rfl, (blk_cell BK214.out 1).trans rfl, (blk_cell BK214.out 2).trans rfl, (tW HB hw216_0), (tW HB hw216_1), (tW HB hw216_2)⟩ (fun hHeld => ?_); refine with_tabW impl_ValidSyllables.tab6 impl_ValidSyllables.bits6 (fun HT_ HW_ => ?_)
                 generalize w15.drew = w16 at BK214 HB hx216_0 hx216_1 hx216_2 hHeld ⊢
                 refine pT 0 (some 15) (bq [1, 17]) rfl rfl HT_ HW_ hHeld ?_
                 refine pO 1 (some 16) (bq [2, 16]) rfl rfl HT_ (fun K hK => ?_)
                 refine gS_ Tryd.func152 #[.agg #[.string ((rd_T118 l0 x10_1).f0), .int .i64 ((rd_T118 l0 x10_1).f1), .int .i64 ((rd_T118 l0 x10_1).f2)]] rfl rfl ?_
                 with_reducible refine (impl_ValidSyllable.calls k1 ((rd_T118 l0 x10_1).f0) ((rd_T118 l0 x10_1).f1) ((rd_T118 l0 x10_1).f2) true _ A6.out).mono ?_
                 rintro e w17 ⟨rfl, hb⟩
                 refine ⟨_, rfl, ?_⟩
                 replace BK214 := tbB BK214 hb
                 replace HB := Aside0.mk (below_step (tH1 HB GE214.out) hb)
                 (try clear hb)
                 (try clear hb2)
                 (try clear hk)
                 (try clear hi)
                 refine hK.out _ _ ⟨(blk_cell BK214.out 0).trans rfl, (blk_cell BK214.out 1).trans rfl, (blk_cell BK214.out 2).trans rfl, (tW HB hw216_0), (tW HB hw216_1), (tW HB hw216_2)⟩ (fun hHeld => ?_)
                 clear hK K
                 refine nO (some 16) ?_
                 refine pV 2 (some 17) [3, 15] rfl rfl HT_ ?_
                 refine pV 3 (some 18) [4, 14] rfl rfl HT_ ?_
                 refine pV 4 (some 19) [5, 13] rfl rfl HT_ ?_
                 refine pV 5 (some 20) [6, 12] rfl rfl HT_ ?_
                 refine pV 6 (some 21) [7, 11] rfl rfl HT_ ?_
                 refine pV 7 (some 22) [8, 10] rfl rfl HT_ ?_
                 refine pV 9 (some 24) [8, 1, 1, 8] rfl rfl HT_ ?_
                 refine pV 10 (some 25) [8, 1, 2, 7] rfl rfl HT_ ?_
                 refine pV 11 (some 26) [8, 1, 3, 6] rfl rfl HT_ ?_
                 refine pV 12 (some 27) [8, 1, 4, 5] rfl rfl HT_ ?_
                 refine pV 13 (some 28) [8, 1, 5, 4] rfl rfl HT_ ?_
                 refine pT 8 (some 23) (bq [14, 4]) rfl rfl HT_ HW_ hHeld ?_
                 refine pT 14 (some 29) (bq [15, 3]) rfl rfl HT_ HW_ hHeld ?_
                 refine pV 15 (some 30) [16, 2] rfl rfl HT_ ?_
                 refine pV 16 (some 31) [17, 1] rfl rfl HT_ ?_
                 refine pV 17 (some 32) [18] rfl rfl HT_ ?_
                 refine done_ (done_of HT_.out (by kernel_rfl)) ?_
                 try go_wp2
                 go_roundg k1
                 case measure => have := HK1.out; omega
                 case rel => exact ⟨(wrap64 (x10_1 + 1)), tq, H', ⟨by have := HK1.out; omega⟩, ⟨tH1 HB GE214.out⟩⟩
               rw [if_neg c12] at H
               have c12b0 : (Op.bytesLess (((rd_T118 l0 (ji9)).f0).toList) (((rd_T118 l0 x10_1).f0).toList)) = false := by simpa using c12
               clear c12
               obtain rfl := Option.some.inj H
               have p213 : 0 ≤ (x10_1 : Int) := of_decide_eq_true tA
               have q213 : x10_1 < (l0.length : Int) := of_decide_eq_true tA
               obtain ⟨ad213, e213, hx213_0, hx213_1, hx213_2⟩ := at_T118 HR0.out x10_1 p213 q213
               cases e213
               replace hx213_0 := tW HB hx213_0
               replace hx213_1 := tW HB hx213_1
               replace hx213_2 := tW HB hx213_2
               replace p213 := eq_true p213
               replace q213 := eq_true q213
               try go_wp2_with (first | ((with_reducible refine gate_dst (N := 4) rfl ?_); refine box_event ?hg (N := 4) ?hd (cs := #[.string (⟨#[]⟩ : ByteArray), .int .i64 0, .int .i64 0]) (t := 118) ?hr ?_; (case hd => rfl); (case hg => rfl); (case hr => first | (go_simp; done) | (go_simp; rfl)); intro gb214 hg w18 hbox hb; have BK214 := Aside0.mk (hbox); have GW214 := Aside0.mk ((by rw [hg]; exact (below_size (tH HB)) : w.heap.size ≤ gb214)); have GE214 := Aside0.mk ((by rw [hg]; exact (below_size (tH HB)) : w.heap.size ≤ gb214)); replace HB := Aside0.mk (below_step (tH HB) hb); clear hb hbox hg; have hcz19_0 : w18.cell? ⟨gb214, 0, none⟩ = some (.string (⟨#[]⟩ : ByteArray)) := (blk_cell BK214.out 0).trans rfl; have hcz19_1 : w18.cell? ⟨gb214, 1, none⟩ = some (.int .i64 0) := (blk_cell BK214.out 1).trans rfl; have hcz19_2 : w18.cell? ⟨gb214, 2, none⟩ = some (.int .i64 0) := (blk_cell BK214.out 2).trans rfl; have hfz19_0 := blk_frozen BK214.out 0; have hfz19_1 := blk_frozen BK214.out 1; have hfz19_2 := blk_frozen BK214.out 2))
               have n0_ : Aside0 ((((w18.setCell ⟨gb214, 0, none⟩ (.string ((rd_T118 l0 x10_1).f0))).setCell ⟨gb214, 1, none⟩ (.int .i64 ((rd_T118 l0 x10_1).f1))).setCell ⟨gb214, 2, none⟩ (.int .i64 ((rd_T118 l0 x10_1).f2))).heap[gb214]? = some (.cells #[.string ((rd_T118 l0 x10_1).f0), .int .i64 ((rd_T118 l0 x10_1).f1), .int .i64 ((rd_T118 l0 x10_1).f2)] 118 (0, 0))) := ⟨by (with_reducible repeat (first | refine blk_drewN ?_ _ | refine blk_drew ?_ | refine blk_alloc ?_ _)); refine blk_put (cs := #[.string ((rd_T118 l0 x10_1).f0), .int .i64 ((rd_T118 l0 x10_1).f1), .int .i64 0]) ?_ 2 _ rfl; (with_reducible repeat (first | refine blk_drewN ?_ _ | refine blk_drew ?_ | refine blk_alloc ?_ _)); refine blk_put (cs := #[.string ((rd_T118 l0 x10_1).f0), .int .i64 0, .int .i64 0]) ?_ 1 _ rfl; (with_reducible repeat (first | refine blk_drewN ?_ _ | refine blk_drew ?_ | refine blk_alloc ?_ _)); refine blk_put (cs := #[.string (⟨#[]⟩ : ByteArray), .int .i64 0, .int .i64 0]) ?_ 0 _ rfl; (with_reducible repeat (first | refine blk_drewN ?_ _ | refine blk_drew ?_ | refine blk_alloc ?_ _)); exact BK214.out⟩
               have n1_ : Aside0 (Below w.heap.size w (((w18.setCell ⟨gb214, 0, none⟩ (.string ((rd_T118 l0 x10_1).f0))).setCell ⟨gb214, 1, none⟩ (.int .i64 ((rd_T118 l0 x10_1).f1))).setCell ⟨gb214, 2, none⟩ (.int .i64 ((rd_T118 l0 x10_1).f2)))) := ⟨tH1 HB GE214.out⟩
               (try clear BK214)
               (try clear HB)
               generalize (((w18.setCell ⟨gb214, 0, none⟩ (.string ((rd_T118 l0 x10_1).f0))).setCell ⟨gb214, 1, none⟩ (.int .i64 ((rd_T118 l0 x10_1).f1))).setCell ⟨gb214, 2, none⟩ (.int .i64 ((rd_T118 l0 x10_1).f2))) = w20 at n0_ n1_ ⊢
               have BK214 := n0_
               have HB := n1_
               clear n0_ n1_
               replace BK214 := Aside0.mk (blk_drew BK214.out)
               replace HB := Aside0.mk (below_drew1 HB.out)
               have p216 : 0 ≤ ((ji9) : Int) := of_decide_eq_true tA
               have q216 : (ji9) < (l0.length : Int) := of_decide_eq_true tA
               obtain ⟨ad216, e216, hx216_0, hx216_1, hx216_2⟩ := at_T118 HR0.out (ji9) p216 q216
               have hw216_2 := hx216_2
               have hw216_1 := hx216_1
               have hw216_0 := hx216_0
               obtain rfl : ad213 = ad216 := (by injection e216)
               replace hx216_0 := tW HB hx216_0
               replace hx216_1 := tW HB hx216_1
               replace hx216_2 := tW HB hx216_2
               replace p216 := eq_true p216
               replace q216 := eq_true q216
               refine start_ (n := 18) (S := fun w' => w'.cell? ⟨gb214, 0, none⟩ = some (.string ((rd_T118 l0 x10_1).f0)) ∧ w'.cell? ⟨gb214, 1, none⟩ = some (.int .i64 ((rd_T118 l0 x10_1).f1)) ∧ w'.cell? ⟨gb214, 2, none⟩ = some (.int .i64 ((rd_T118 l0 x10_1).f2)) ∧ w'.cell? (ad213.add (((ji9)).toNat * 3)) = some (.string ((rd_T118 l0 (ji9)).f0)) ∧ w'.cell? ⟨(ad213.add (((ji9)).toNat * 3)).block, (ad213.add (((ji9)).toNat * 3)).off + 1, none⟩ = some (.int .i64 ((rd_T118 l0 (ji9)).f1)) ∧ w'.cell? ⟨(ad213.add (((ji9)).toNat * 3)).block, (ad213.add (((ji9)).toNat * 3)).off + 2, none⟩ = some (.int .i64 ((rd_T118 l0 (ji9)).f2))) (ds := []) (bq [0, 18]) (by kernel_rfl) rfl rfl ⟨(blk_cell BK214.out 0).trans rfl, (blk_cell BK214.out 1).trans rfl, (blk_cell BK214.out 2).trans rfl, (tW HB hw216_0), (tW HB hw216_1), (tW HB hw216_2)⟩ (fun hHeld => ?_); refine with_tabW impl_ValidSyllables.tab6 impl_ValidSyllables.bits6 (fun HT_ HW_ => ?_)
               generalize w20.drew = w21 at BK214 HB hx216_0 hx216_1 hx216_2 hHeld ⊢
               refine pT 0 (some 15) (bq [1, 17]) rfl rfl HT_ HW_ hHeld ?_
               refine pO 1 (some 16) (bq [2, 16]) rfl rfl HT_ (fun K hK => ?_)
               refine gS_ Tryd.func152 #[.agg #[.string ((rd_T118 l0 x10_1).f0), .int .i64 ((rd_T118 l0 x10_1).f1), .int .i64 ((rd_T118 l0 x10_1).f2)]] rfl rfl ?_
               with_reducible refine (impl_ValidSyllable.calls k1 ((rd_T118 l0 x10_1).f0) ((rd_T118 l0 x10_1).f1) ((rd_T118 l0 x10_1).f2) true _ A6.out).mono ?_
               rintro e w22 ⟨rfl, hb⟩
               refine ⟨_, rfl, ?_⟩
               replace BK214 := tbB BK214 hb
               replace HB := Aside0.mk (below_step (tH1 HB GE214.out) hb)
               (try clear hb)
               (try clear hb2)
               (try clear hk)
               (try clear hi)
               refine hK.out _ _ ⟨(blk_cell BK214.out 0).trans rfl, (blk_cell BK214.out 1).trans rfl, (blk_cell BK214.out 2).trans rfl, (tW HB hw216_0), (tW HB hw216_1), (tW HB hw216_2)⟩ (fun hHeld => ?_)
               clear hK K
               refine nO (some 16) ?_
               refine pV 2 (some 17) [3, 15] rfl rfl HT_ ?_
               refine pV 3 (some 18) [4, 14] rfl rfl HT_ ?_
               refine pV 4 (some 19) [5, 13] rfl rfl HT_ ?_
               refine pV 5 (some 20) [6, 12] rfl rfl HT_ ?_
               refine pV 6 (some 21) [7, 11] rfl rfl HT_ ?_
               refine pV 7 (some 22) [8, 10] rfl rfl HT_ ?_
               refine pV 9 (some 24) [8, 1, 1, 8] rfl rfl HT_ ?_
               refine pV 10 (some 25) [8, 1, 2, 7] rfl rfl HT_ ?_
               refine pV 11 (some 26) [8, 1, 3, 6] rfl rfl HT_ ?_
               refine pV 12 (some 27) [8, 1, 4, 5] rfl rfl HT_ ?_
               refine pV 13 (some 28) [8, 1, 5, 4] rfl rfl HT_ ?_
               refine pT 8 (some 23) (bq [14, 4]) rfl rfl HT_ HW_ hHeld ?_
               refine pT 14 (some 29) (bq [15, 3]) rfl rfl HT_ HW_ hHeld ?_
               refine pV 15 (some 30) [16, 2] rfl rfl HT_ ?_
               refine pV 16 (some 31) [17, 1] rfl rfl HT_ ?_
               refine pV 17 (some 32) [18] rfl rfl HT_ ?_
               refine done_ (done_of HT_.out (by kernel_rfl)) ?_
               try go_wp2
               go_ret
               exact ⟨by first | rfl | (simp [errW_none, errW_some] <;> rfl) | (simp only [← hji9]; first | rfl | (simp [errW_none, errW_some] <;> rfl)) | (simp [*, errW_none, errW_some] <;> rfl), tH1 HB GE214.out⟩
             rw [if_neg c11] at H
             exact absurd H (by simp)
           rw [if_neg c10] at H
           exact absurd H (by simp)
         rw [if_neg c8] at H
         have c8b0 : decide (0 < x10_1) = false := decide_eq_false c8
         clear c8
         have H' := Aside0.mk H
         clear H
         have p213 : 0 ≤ (x10_1 : Int) := of_decide_eq_true tA
         have q213 : x10_1 < (l0.length : Int) := of_decide_eq_true tA
         obtain ⟨ad213, e213, hx213_0, hx213_1, hx213_2⟩ := at_T118 HR0.out x10_1 p213 q213
         cases e213
         replace hx213_0 := tW HB hx213_0
         replace hx213_1 := tW HB hx213_1
         replace hx213_2 := tW HB hx213_2
         replace p213 := eq_true p213
         replace q213 := eq_true q213
         try go_wp2_with (first | ((with_reducible refine gate_dst (N := 4) rfl ?_); refine box_event ?hg (N := 4) ?hd (cs := #[.string (⟨#[]⟩ : ByteArray), .int .i64 0, .int .i64 0]) (t := 118) ?hr ?_; (case hd => rfl); (case hg => rfl); (case hr => first | (go_simp; done) | (go_simp; rfl)); intro gb214 hg w23 hbox hb; have BK214 := Aside0.mk (hbox); have GW214 := Aside0.mk ((by rw [hg]; exact (below_size (tH HB)) : w.heap.size ≤ gb214)); have GE214 := Aside0.mk ((by rw [hg]; exact (below_size (tH HB)) : w.heap.size ≤ gb214)); replace HB := Aside0.mk (below_step (tH HB) hb); clear hb hbox hg; have hcz24_0 : w23.cell? ⟨gb214, 0, none⟩ = some (.string (⟨#[]⟩ : ByteArray)) := (blk_cell BK214.out 0).trans rfl; have hcz24_1 : w23.cell? ⟨gb214, 1, none⟩ = some (.int .i64 0) := (blk_cell BK214.out 1).trans rfl; have hcz24_2 : w23.cell? ⟨gb214, 2, none⟩ = some (.int .i64 0) := (blk_cell BK214.out 2).trans rfl; have hfz24_0 := blk_frozen BK214.out 0; have hfz24_1 := blk_frozen BK214.out 1; have hfz24_2 := blk_frozen BK214.out 2))
         have n0_ : Aside0 ((((w23.setCell ⟨gb214, 0, none⟩ (.string ((rd_T118 l0 x10_1).f0))).setCell ⟨gb214, 1, none⟩ (.int .i64 ((rd_T118 l0 x10_1).f1))).setCell ⟨gb214, 2, none⟩ (.int .i64 ((rd_T118 l0 x10_1).f2))).heap[gb214]? = some (.cells #[.string ((rd_T118 l0 x10_1).f0), .int .i64 ((rd_T118 l0 x10_1).f1), .int .i64 ((rd_T118 l0 x10_1).f2)] 118 (0, 0))) := ⟨by (with_reducible repeat (first | refine blk_drewN ?_ _ | refine blk_drew ?_ | refine blk_alloc ?_ _)); refine blk_put (cs := #[.string ((rd_T118 l0 x10_1).f0), .int .i64 ((rd_T118 l0 x10_1).f1), .int .i64 0]) ?_ 2 _ rfl; (with_reducible repeat (first | refine blk_drewN ?_ _ | refine blk_drew ?_ | refine blk_alloc ?_ _)); refine blk_put (cs := #[.string ((rd_T118 l0 x10_1).f0), .int .i64 0, .int .i64 0]) ?_ 1 _ rfl; (with_reducible repeat (first | refine blk_drewN ?_ _ | refine blk_drew ?_ | refine blk_alloc ?_ _)); refine blk_put (cs := #[.string (⟨#[]⟩ : ByteArray), .int .i64 0, .int .i64 0]) ?_ 0 _ rfl; (with_reducible repeat (first | refine blk_drewN ?_ _ | refine blk_drew ?_ | refine blk_alloc ?_ _)); exact BK214.out⟩
         have n1_ : Aside0 (Below w.heap.size w (((w23.setCell ⟨gb214, 0, none⟩ (.string ((rd_T118 l0 x10_1).f0))).setCell ⟨gb214, 1, none⟩ (.int .i64 ((rd_T118 l0 x10_1).f1))).setCell ⟨gb214, 2, none⟩ (.int .i64 ((rd_T118 l0 x10_1).f2)))) := ⟨tH1 HB GE214.out⟩
         (try clear BK214)
         (try clear HB)
         generalize (((w23.setCell ⟨gb214, 0, none⟩ (.string ((rd_T118 l0 x10_1).f0))).setCell ⟨gb214, 1, none⟩ (.int .i64 ((rd_T118 l0 x10_1).f1))).setCell ⟨gb214, 2, none⟩ (.int .i64 ((rd_T118 l0 x10_1).f2))) = w25 at n0_ n1_ ⊢
         have BK214 := n0_
         have HB := n1_
         clear n0_ n1_
         replace BK214 := Aside0.mk (blk_drew BK214.out)
         replace HB := Aside0.mk (below_drew1 HB.out)
         refine start_ (n := 18) (S := fun w' => w'.cell? ⟨gb214, 0, none⟩ = some (.string ((rd_T118 l0 x10_1).f0)) ∧ w'.cell? ⟨gb214, 1, none⟩ = some (.int .i64 ((rd_T118 l0 x10_1).f1)) ∧ w'.cell? ⟨gb214, 2, none⟩ = some (.int .i64 ((rd_T118 l0 x10_1).f2))) (ds := []) (bq [0, 18]) (by kernel_rfl) rfl rfl ⟨(blk_cell BK214.out 0).trans rfl, (blk_cell BK214.out 1).trans rfl, (blk_cell BK214.out 2).trans rfl⟩ (fun hHeld => ?_); refine with_tabW impl_ValidSyllables.tab6 impl_ValidSyllables.bits6 (fun HT_ HW_ => ?_)
         generalize w25.drew = w26 at BK214 HB hHeld ⊢
         refine pT 0 (some 15) (bq [1, 17]) rfl rfl HT_ HW_ hHeld ?_
         refine pO 1 (some 16) (bq [2, 16]) rfl rfl HT_ (fun K hK => ?_)
         refine gS_ Tryd.func152 #[.agg #[.string ((rd_T118 l0 x10_1).f0), .int .i64 ((rd_T118 l0 x10_1).f1), .int .i64 ((rd_T118 l0 x10_1).f2)]] rfl rfl ?_
         with_reducible refine (impl_ValidSyllable.calls k1 ((rd_T118 l0 x10_1).f0) ((rd_T118 l0 x10_1).f1) ((rd_T118 l0 x10_1).f2) true _ A6.out).mono ?_
         rintro e w27 ⟨rfl, hb⟩
         refine ⟨_, rfl, ?_⟩
         replace BK214 := tbB BK214 hb
         replace HB := Aside0.mk (below_step (tH1 HB GE214.out) hb)
         (try clear hb)
         (try clear hb2)
         (try clear hk)
         (try clear hi)
         refine hK.out _ _ ⟨(blk_cell BK214.out 0).trans rfl, (blk_cell BK214.out 1).trans rfl, (blk_cell BK214.out 2).trans rfl⟩ (fun hHeld => ?_)
         clear hK K
         refine nO (some 16) ?_
         refine pV 2 (some 17) [3, 15] rfl rfl HT_ ?_
         refine pV 3 (some 18) [4, 14] rfl rfl HT_ ?_
         refine pV 4 (some 19) [5, 13] rfl rfl HT_ ?_
         refine pV 5 (some 20) [6, 12] rfl rfl HT_ ?_
         refine pV 6 (some 21) [7, 11] rfl rfl HT_ ?_
         refine pU 7 (some 22) [8, 10] rfl rfl HT_ ?_
         refine pU 8 (some 23) [9, 9] rfl rfl HT_ ?_
         refine pU 9 (some 24) [10, 8] rfl rfl HT_ ?_
         refine pU 10 (some 25) [11, 7] rfl rfl HT_ ?_
         refine pU 11 (some 26) [12, 6] rfl rfl HT_ ?_
         refine pU 12 (some 27) [13, 5] rfl rfl HT_ ?_
         refine pU 13 (some 28) [14, 4] rfl rfl HT_ ?_
         refine pU 14 (some 29) [15, 3] rfl rfl HT_ ?_
         refine pU 15 (some 30) [16, 2] rfl rfl HT_ ?_
         refine pV 16 (some 31) [17, 1] rfl rfl HT_ ?_
         refine pV 17 (some 32) [18] rfl rfl HT_ ?_
         refine done_ (done_of HT_.out (by kernel_rfl)) ?_
         try go_wp2
         go_roundg k1
         case measure => have := HK1.out; omega
         case rel => exact ⟨(wrap64 (x10_1 + 1)), tq, H', ⟨by have := HK1.out; omega⟩, ⟨tH1 HB GE214.out⟩⟩
       replace c7 := Bool.eq_false_iff.mpr c7
       subst c7
       have H1 : (some false) = some r := by rw [if_neg (show ¬ (false = true) by decide)] at H; exact H
       clear H
       have H := H1
       clear H1
       obtain rfl := Option.some.inj H
       have p213 : 0 ≤ (x10_1 : Int) := of_decide_eq_true tA
       have q213 : x10_1 < (l0.length : Int) := of_decide_eq_true tA
       obtain ⟨ad213, e213, hx213_0, hx213_1, hx213_2⟩ := at_T118 HR0.out x10_1 p213 q213
       cases e213
       replace hx213_0 := tW HB hx213_0
       replace hx213_1 := tW HB hx213_1
       replace hx213_2 := tW HB hx213_2
       replace p213 := eq_true p213
       replace q213 := eq_true q213
       try go_wp2_with (first | ((with_reducible refine gate_dst (N := 4) rfl ?_); refine box_event ?hg (N := 4) ?hd (cs := #[.string (⟨#[]⟩ : ByteArray), .int .i64 0, .int .i64 0]) (t := 118) ?hr ?_; (case hd => rfl); (case hg => rfl); (case hr => first | (go_simp; done) | (go_simp; rfl)); intro gb214 hg w28 hbox hb; have BK214 := Aside0.mk (hbox); have GW214 := Aside0.mk ((by rw [hg]; exact (below_size (tH HB)) : w.heap.size ≤ gb214)); have GE214 := Aside0.mk ((by rw [hg]; exact (below_size (tH HB)) : w.heap.size ≤ gb214)); replace HB := Aside0.mk (below_step (tH HB) hb); clear hb hbox hg; have hcz29_0 : w28.cell? ⟨gb214, 0, none⟩ = some (.string (⟨#[]⟩ : ByteArray)) := (blk_cell BK214.out 0).trans rfl; have hcz29_1 : w28.cell? ⟨gb214, 1, none⟩ = some (.int .i64 0) := (blk_cell BK214.out 1).trans rfl; have hcz29_2 : w28.cell? ⟨gb214, 2, none⟩ = some (.int .i64 0) := (blk_cell BK214.out 2).trans rfl; have hfz29_0 := blk_frozen BK214.out 0; have hfz29_1 := blk_frozen BK214.out 1; have hfz29_2 := blk_frozen BK214.out 2))
       have n0_ : Aside0 ((((w28.setCell ⟨gb214, 0, none⟩ (.string ((rd_T118 l0 x10_1).f0))).setCell ⟨gb214, 1, none⟩ (.int .i64 ((rd_T118 l0 x10_1).f1))).setCell ⟨gb214, 2, none⟩ (.int .i64 ((rd_T118 l0 x10_1).f2))).heap[gb214]? = some (.cells #[.string ((rd_T118 l0 x10_1).f0), .int .i64 ((rd_T118 l0 x10_1).f1), .int .i64 ((rd_T118 l0 x10_1).f2)] 118 (0, 0))) := ⟨by (with_reducible repeat (first | refine blk_drewN ?_ _ | refine blk_drew ?_ | refine blk_alloc ?_ _)); refine blk_put (cs := #[.string ((rd_T118 l0 x10_1).f0), .int .i64 ((rd_T118 l0 x10_1).f1), .int .i64 0]) ?_ 2 _ rfl; (with_reducible repeat (first | refine blk_drewN ?_ _ | refine blk_drew ?_ | refine blk_alloc ?_ _)); refine blk_put (cs := #[.string ((rd_T118 l0 x10_1).f0), .int .i64 0, .int .i64 0]) ?_ 1 _ rfl; (with_reducible repeat (first | refine blk_drewN ?_ _ | refine blk_drew ?_ | refine blk_alloc ?_ _)); refine blk_put (cs := #[.string (⟨#[]⟩ : ByteArray), .int .i64 0, .int .i64 0]) ?_ 0 _ rfl; (with_reducible repeat (first | refine blk_drewN ?_ _ | refine blk_drew ?_ | refine blk_alloc ?_ _)); exact BK214.out⟩
       have n1_ : Aside0 (Below w.heap.size w (((w28.setCell ⟨gb214, 0, none⟩ (.string ((rd_T118 l0 x10_1).f0))).setCell ⟨gb214, 1, none⟩ (.int .i64 ((rd_T118 l0 x10_1).f1))).setCell ⟨gb214, 2, none⟩ (.int .i64 ((rd_T118 l0 x10_1).f2)))) := ⟨tH1 HB GE214.out⟩
       (try clear BK214)
       (try clear HB)
       generalize (((w28.setCell ⟨gb214, 0, none⟩ (.string ((rd_T118 l0 x10_1).f0))).setCell ⟨gb214, 1, none⟩ (.int .i64 ((rd_T118 l0 x10_1).f1))).setCell ⟨gb214, 2, none⟩ (.int .i64 ((rd_T118 l0 x10_1).f2))) = w30 at n0_ n1_ ⊢
       have BK214 := n0_
       have HB := n1_
       clear n0_ n1_
       replace BK214 := Aside0.mk (blk_drew BK214.out)
       replace HB := Aside0.mk (below_drew1 HB.out)
       refine start_ (n := 18) (S := fun w' => w'.cell? ⟨gb214, 0, none⟩ = some (.string ((rd_T118 l0 x10_1).f0)) ∧ w'.cell? ⟨gb214, 1, none⟩ = some (.int .i64 ((rd_T118 l0 x10_1).f1)) ∧ w'.cell? ⟨gb214, 2, none⟩ = some (.int .i64 ((rd_T118 l0 x10_1).f2))) (ds := []) (bq [0, 18]) (by kernel_rfl) rfl rfl ⟨(blk_cell BK214.out 0).trans rfl, (blk_cell BK214.out 1).trans rfl, (blk_cell BK214.out 2).trans rfl⟩ (fun hHeld => ?_); refine with_tabW impl_ValidSyllables.tab6 impl_ValidSyllables.bits6 (fun HT_ HW_ => ?_)
       generalize w30.drew = w31 at BK214 HB hHeld ⊢
       refine pT 0 (some 15) (bq [1, 17]) rfl rfl HT_ HW_ hHeld ?_
       refine pO 1 (some 16) (bq [2, 16]) rfl rfl HT_ (fun K hK => ?_)
       refine gS_ Tryd.func152 #[.agg #[.string ((rd_T118 l0 x10_1).f0), .int .i64 ((rd_T118 l0 x10_1).f1), .int .i64 ((rd_T118 l0 x10_1).f2)]] rfl rfl ?_
       with_reducible refine (impl_ValidSyllable.calls k1 ((rd_T118 l0 x10_1).f0) ((rd_T118 l0 x10_1).f1) ((rd_T118 l0 x10_1).f2) false _ A6.out).mono ?_
       rintro e w32 ⟨rfl, hb⟩
       refine ⟨_, rfl, ?_⟩
       replace BK214 := tbB BK214 hb
       replace HB := Aside0.mk (below_step (tH1 HB GE214.out) hb)
       (try clear hb)
       (try clear hb2)
       (try clear hk)
       (try clear hi)
       refine hK.out _ _ ⟨(blk_cell BK214.out 0).trans rfl, (blk_cell BK214.out 1).trans rfl, (blk_cell BK214.out 2).trans rfl⟩ (fun hHeld => ?_)
       clear hK K
       refine nO (some 16) ?_
       refine pV 2 (some 17) [3, 15] rfl rfl HT_ ?_
       refine pV 3 (some 18) [4, 14] rfl rfl HT_ ?_
       refine pU 4 (some 19) [5, 13] rfl rfl HT_ ?_
       refine pU 5 (some 20) [6, 12] rfl rfl HT_ ?_
       refine pU 6 (some 21) [7, 11] rfl rfl HT_ ?_
       refine pU 7 (some 22) [8, 10] rfl rfl HT_ ?_
       refine pU 8 (some 23) [9, 9] rfl rfl HT_ ?_
       refine pU 9 (some 24) [10, 8] rfl rfl HT_ ?_
       refine pU 10 (some 25) [11, 7] rfl rfl HT_ ?_
       refine pU 11 (some 26) [12, 6] rfl rfl HT_ ?_
       refine pU 12 (some 27) [13, 5] rfl rfl HT_ ?_
       refine pU 13 (some 28) [14, 4] rfl rfl HT_ ?_
       refine pU 14 (some 29) [15, 3] rfl rfl HT_ ?_
       refine pU 15 (some 30) [16, 2] rfl rfl HT_ ?_
       refine pU 16 (some 31) [17, 1] rfl rfl HT_ ?_
       refine pV 17 (some 32) [18] rfl rfl HT_ ?_
       refine done_ (done_of HT_.out (by kernel_rfl)) ?_
       try go_wp2
       go_ret
       exact ⟨tE, tH1 HB GE214.out⟩
     rw [if_neg c5] at H
     exact absurd H (by simp)
   rw [if_neg c4] at H
   exact absurd H (by simp)
 rw [if_neg c3] at H
 have c3b0 : decide (x10_1 < (l0.length : Int)) = false := decide_eq_false c3
 clear c3
 obtain rfl := Option.some.inj H
 go_wp2
 go_ret
 exact ⟨tE, tH HB⟩

end Go.Proofs.YtmeflmlejcmckaaDoor.PS
