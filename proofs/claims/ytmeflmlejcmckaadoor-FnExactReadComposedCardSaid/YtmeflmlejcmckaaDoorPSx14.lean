-- WRITTEN BY wip/gprint.py, a program of this session's over the kit's print, with contracts given by hand
import Derived.Test.YtmeflmlejcmckaaDoorPSx0
import Derived.Test.YtmeflmlejcmckaaDoorPSx9
import Derived.Test.YtmeflmlejcmckaaDoorPSx12
import Derived.Test.YtmeflmlejcmckaaDoorPSx13
namespace Go.Proofs.YtmeflmlejcmckaaDoor.PS
open Go.RowKit Go.Proofs.YtmeflmlejcmckaaDoorW.PrintWords Go.Proofs.YtmeflmlejcmckaaDoorW.PrintLast Go.Proofs.YtmeflmlejcmckaaDoorW.PrintMore
attribute [local go_sem] max2_int min2_int max_two min_two max_three min_three max_four min_four   -- for this text's walks alone
set_option linter.unusedVariables false
set_option linter.unusedSimpArgs false

attribute [local go_sem] isSome_setCell
/-! ### impl_SyllablesText: function 20 -/
def impl_SyllablesText.l0 : Nat → List ByteArray → List (S118) → Int → Int → Option (ByteArray)
 | 0, _, _, _, _ => none
 | k + 1, x3, x9, x10, x11 => if x11 < x10 then (if 0 ≤ x11 then (if x11 < (x9.length : Int) then (if ((rd_T118 x9 x11).f0).size + 1 ≤ 9223372036854775807 then ((impl_handText.f ((rd_T118 x9 x11).f1)).bind fun t220 => (if (((rd_T118 x9 x11).f0) ++ (⟨#[58]⟩ : ByteArray)).size + t220.size ≤ 9223372036854775807 then ((impl_Decimal.f ((rd_T118 x9 x11).f2)).bind fun t221 => (if ((((rd_T118 x9 x11).f0) ++ (⟨#[58]⟩ : ByteArray)) ++ t220).size + t221.size ≤ 9223372036854775807 then (if x3.length < 8796093022208 then (impl_SyllablesText.l0 k (x3 ++ [((((rd_T118 x9 x11).f0) ++ (⟨#[58]⟩ : ByteArray)) ++ t220) ++ t221]) x9 x10 (wrap64 (x11 + 1))) else (none)) else (none))) else (none))) else (none)) else (none)) else (none)) else ((strings_Join.f x3 (⟨#[32]⟩ : ByteArray)).bind fun t225 => (some t225))
def impl_SyllablesText.f (k : Nat) (l0 : List (S118)) : Option (ByteArray) := (impl_ValidSyllables.f k l0).bind fun t217 => (if t217 = true then (impl_SyllablesText.l0 k ([] : List ByteArray) l0 (l0.length : Int) 0) else (some (⟨#[]⟩ : ByteArray)))
theorem impl_SyllablesText.mono_l : ∀ k, (∀ y0 y1 y2 y3, LeO (impl_SyllablesText.l0 k y0 y1 y2 y3) (impl_SyllablesText.l0 (k + 1) y0 y1 y2 y3))
 | 0 => fun _ _ _ _ r h => by simp [impl_SyllablesText.l0] at h
 | k + 1 => by
  have ih0 := impl_SyllablesText.mono_l k
  · intro y0 y1 y2 y3
    unfold impl_SyllablesText.l0
    repeat' first
    | (with_reducible exact ih0 _ _ _ _)
    | (with_reducible exact impl_ValidSyllables.mono _ _)
    | (with_reducible exact LeO.refl _)
    | (with_reducible exact LeO.none _)
    | (with_reducible refine LeO.ite ?_ ?_)
    | (with_reducible refine LeO.bind ?_ (fun _ => ?_))
    | exact ih0 _ _ _ _
    | exact impl_ValidSyllables.mono _ _
    | exact LeO.none _
    | refine LeO.ite ?_ ?_
    | refine LeO.bind ?_ (fun _ => ?_)
theorem impl_SyllablesText.mono : ∀ a0 k, LeO (impl_SyllablesText.f k a0) (impl_SyllablesText.f (k + 1) a0) := by
 intro a0 k
 have ih0 := impl_SyllablesText.mono_l k
 unfold impl_SyllablesText.f
 repeat' first
  | (with_reducible exact ih0 _ _ _ _)
  | (with_reducible exact impl_ValidSyllables.mono _ _)
  | (with_reducible exact LeO.refl _)
  | (with_reducible exact LeO.none _)
  | (with_reducible refine LeO.ite ?_ ?_)
  | (with_reducible refine LeO.bind ?_ (fun _ => ?_))
  | exact ih0 _ _ _ _
  | exact impl_ValidSyllables.mono _ _
  | exact LeO.none _
  | refine LeO.ite ?_ ?_
  | refine LeO.bind ?_ (fun _ => ?_)
def impl_SyllablesText.T7 : Bool × List (List Nat × List Nat) := (true, [([], []), ([], []), ([1], [1]), ([2], [2]), ([], []), ([4], [4]), ([5], [5]), ([3, 6], [3, 6]), ([], []), ([8], [8]), ([9, 6], [9]), ([7, 10], [7, 10]), ([11], [11]), ([0, 12, 10], [0, 12]), ([13, 13, 0, 1, 2, 3, 4, 5, 6, 7, 8, 9, 10, 11, 12, 13], [0, 13])])
def impl_SyllablesText.B7 : List Nat := [0, 0, 2, 6, 0, 16, 48, 126, 0, 256, 880, 2046, 4094, 8191, 16383]
theorem impl_SyllablesText.tab7 : rtab .any (opsOf Tryd.f20 7) = impl_SyllablesText.T7 := by kernel_rfl
theorem impl_SyllablesText.bits7 : waitsOk impl_SyllablesText.T7.2 impl_SyllablesText.B7 = true := by kernel_rfl
set_option maxHeartbeats 8000000 in
set_option maxRecDepth 100000 in
theorem impl_SyllablesText.calls (k : Nat) (A0 : Option Addr) (c0 : Nat) (l0 : List (S118)) (r : ByteArray) (w : World) (hr0 : Kd.C k118 w A0 l0.length l0) (hc0 : l0.length ≤ c0) (h : impl_SyllablesText.f k l0 = some r) :
 Calls Tryd.prog 20 #[.slice A0 l0.length c0] w fun e w' => e = .returned (.string r) ∧ Below w.heap.size w w' := by
 have hu118 := Tryd.underlying118
 have HR0 := Aside0.mk hr0
 have HC0 := Aside0.mk hc0
 clear hr0 hc0
 have HB := Aside0.mk (Below.refl w.heap.size w)
 have H : ((impl_ValidSyllables.f k l0).bind fun t217 => (if t217 = true then (impl_SyllablesText.l0 k ([] : List ByteArray) l0 (l0.length : Int) 0) else (some (⟨#[]⟩ : ByteArray)))) = some r := h
 clear h
 replace H := Option.bind_eq_some_iff.mp H
 obtain ⟨t217, A20, H⟩ := H
 replace H : (if t217 = true then (impl_SyllablesText.l0 k ([] : List ByteArray) l0 (l0.length : Int) 0) else (some (⟨#[]⟩ : ByteArray))) = some r := H
 have A2 := Aside0.mk A20
 clear A20
 by_cases c3 : t217 = true
 · subst c3
   have H1 : (impl_SyllablesText.l0 k ([] : List ByteArray) l0 (l0.length : Int) 0) = some r := by rw [if_pos rfl] at H; exact H
   clear H
   have H := H1
   clear H1
   have H' := Aside0.mk H
   clear H
   go_enter Tryd.func20, Tryd.ntmps20
   go_wp2_with (first | ((with_reducible refine gate_callee (f := 91) rfl ?_); refine gL_ (some 7) rfl rfl Tryd.func91 #[.slice A0 l0.length c0] rfl ?_; (with_reducible refine (impl_ValidSyllables.calls k _ _ l0 true _ ?side1 ?side2 A2.out).mono ?_); (case side1 => exact tC HR0.out); (case side2 => exact HC0.out); rintro e w4 ⟨rfl, hb⟩; refine ⟨_, rfl, ?_⟩; replace HB := Aside0.mk (below_step (tH HB) hb); (try clear hb); (try clear hb2); (try clear hk); (try clear hi)))
   go_loopg [3, 11] k (fun kq v3 v11 w' => ∃ (x3_1 : List ByteArray) (x11_1 : Int), v11 = .int .i64 x11_1 ∧ Aside0 (impl_SyllablesText.l0 kq x3_1 l0 (l0.length : Int) x11_1 = some r) ∧ Aside0 (kq ≤ k) ∧ Aside0 (Kd.R Kd.string 9 w' w.heap.size (fun _ => True) v3 x3_1) ∧ Aside0 (Below w.heap.size w w'))
   case atStart => exact ⟨(([] : List ByteArray)), (0), tq, H', ⟨Nat.le_refl _⟩, ⟨by first | exact Kd.R_nil _ _ _ _ _ | exact Kd.N_nil _ _ _ _ _ | exact Kd.V_nil _ _ _ _ _ | exact Kd.Q_nil _ _ _ _ _ | exact Kd.S_nil _ _ _ _ _⟩, ⟨tH HB⟩⟩
   case round =>
   clear H'
   try clear c2
   try clear p2
   try clear c3
   obtain ⟨x3_1, x11_1, rfl, HA, HK1, HO_3, HB⟩ := hrel
   cases gk with
   | zero => exact absurd HA.out (by simp [impl_SyllablesText.l0])
   | succ k1 =>
   have H := HA.out
   clear HA
   simp only [impl_SyllablesText.l0] at H
   by_cases c5 : x11_1 < (l0.length : Int)
   · rw [if_pos c5] at H
     have c5b0 : decide (x11_1 < (l0.length : Int)) = true := decide_eq_true c5
     clear c5
     by_cases c6 : 0 ≤ x11_1
     · rw [if_pos c6] at H
       have c6b0 : decide (0 ≤ x11_1) = true := decide_eq_true c6
       clear c6
       by_cases c7 : x11_1 < (l0.length : Int)
       · rw [if_pos c7] at H
         have c7b0 : decide (x11_1 < (l0.length : Int)) = true := decide_eq_true c7
         clear c7
         by_cases c8 : ((rd_T118 l0 x11_1).f0).size + 1 ≤ 9223372036854775807
         · rw [if_pos c8] at H
           have c8b0 := eq_true c8
           have c8b1 : decide (((rd_T118 l0 x11_1).f0).size + 1 ≤ 9223372036854775807) = true := decide_eq_true c8
           try have c8b2 : (9223372036854775807 < ((rd_T118 l0 x11_1).f0).size + 1) = False := eq_false (Nat.not_lt.2 c8)
           replace H := Option.bind_eq_some_iff.mp H
           obtain ⟨t220, A90, H⟩ := H
           replace H : (if (((rd_T118 l0 x11_1).f0) ++ (⟨#[58]⟩ : ByteArray)).size + t220.size ≤ 9223372036854775807 then ((impl_Decimal.f ((rd_T118 l0 x11_1).f2)).bind fun t221 => (if ((((rd_T118 l0 x11_1).f0) ++ (⟨#[58]⟩ : ByteArray)) ++ t220).size + t221.size ≤ 9223372036854775807 then (if x3_1.length < 8796093022208 then (impl_SyllablesText.l0 k1 (x3_1 ++ [((((rd_T118 l0 x11_1).f0) ++ (⟨#[58]⟩ : ByteArray)) ++ t220) ++ t221]) l0 (l0.length : Int) (wrap64 (x11_1 + 1))) else (none)) else (none))) else (none)) = some r := H
           have A9 := Aside0.mk A90
           clear A90
           by_cases c10 : (((rd_T118 l0 x11_1).f0) ++ (⟨#[58]⟩ : ByteArray)).size + t220.size ≤ 9223372036854775807
           · rw [if_pos c10] at H
             have c10b0 := eq_true c10
             have c10b1 : decide ((((rd_T118 l0 x11_1).f0) ++ (⟨#[58]⟩ : ByteArray)).size + t220.size ≤ 9223372036854775807) = true := decide_eq_true c10
             try have c10b2 : (9223372036854775807 < (((rd_T118 l0 x11_1).f0) ++ (⟨#[58]⟩ : ByteArray)).size + t220.size) = False := eq_false (Nat.not_lt.2 c10)
             (try (have c10b3 := decide_eq_false (Nat.not_lt.2 c10); simp only [ByteArray.size_append, ByteArray.size_extract, Nat.min_def, Int.toNat_le, if_true, show ∀ b : UInt8, (⟨#[b]⟩ : ByteArray).size = 1 from fun _ => rfl, *] at c10b3; have c10b4 := eq_false (of_decide_eq_false c10b3); clear c10b3))
             replace H := Option.bind_eq_some_iff.mp H
             obtain ⟨t221, A110, H⟩ := H
             replace H : (if ((((rd_T118 l0 x11_1).f0) ++ (⟨#[58]⟩ : ByteArray)) ++ t220).size + t221.size ≤ 9223372036854775807 then (if x3_1.length < 8796093022208 then (impl_SyllablesText.l0 k1 (x3_1 ++ [((((rd_T118 l0 x11_1).f0) ++ (⟨#[58]⟩ : ByteArray)) ++ t220) ++ t221]) l0 (l0.length : Int) (wrap64 (x11_1 + 1))) else (none)) else (none)) = some r := H
             have A11 := Aside0.mk A110
             clear A110
             by_cases c12 : ((((rd_T118 l0 x11_1).f0) ++ (⟨#[58]⟩ : ByteArray)) ++ t220).size + t221.size ≤ 9223372036854775807
             · rw [if_pos c12] at H
               have c12b0 := eq_true c12
               have c12b1 : decide (((((rd_T118 l0 x11_1).f0) ++ (⟨#[58]⟩ : ByteArray)) ++ t220).size + t221.size ≤ 9223372036854775807) = true := decide_eq_true c12
               try have c12b2 : (9223372036854775807 < ((((rd_T118 l0 x11_1).f0) ++ (⟨#[58]⟩ : ByteArray)) ++ t220).size + t221.size) = False := eq_false (Nat.not_lt.2 c12)
               (try (have c12b3 := decide_eq_false (Nat.not_lt.2 c12); simp only [ByteArray.size_append, ByteArray.size_extract, Nat.min_def, Int.toNat_le, if_true, show ∀ b : UInt8, (⟨#[b]⟩ : ByteArray).size = 1 from fun _ => rfl, *] at c12b3; have c12b4 := eq_false (of_decide_eq_false c12b3); clear c12b3))
               by_cases c13 : x3_1.length < 8796093022208
               · rw [if_pos c13] at H
                 have LMc13 := Aside0.mk c13
                 clear c13
                 obtain ⟨y222, hy222⟩ : ∃ y_ : List ByteArray, y_ = (x3_1 ++ [((((rd_T118 l0 x11_1).f0) ++ (⟨#[58]⟩ : ByteArray)) ++ t220) ++ t221]) := ⟨_, rfl⟩
                 replace H : (impl_SyllablesText.l0 k1 y222 l0 (l0.length : Int) (wrap64 (x11_1 + 1))) = some r := by first | (rw [hy222]; with_reducible exact H) | (have H2_ := (Option.bind_some _ _).symm.trans H; rw [hy222]; with_reducible exact H2_) | (have H2_ := (Option.bind_some _ _).symm.trans H; with_reducible exact H2_) | with_reducible exact H | (rw [hy222]; exact H) | exact H
                 have Ny222 := Aside0.mk hy222
                 clear hy222
                 have H' := Aside0.mk H
                 clear H
                 have p218 : 0 ≤ (x11_1 : Int) := of_decide_eq_true tA
                 have q218 : x11_1 < (l0.length : Int) := of_decide_eq_true tA
                 obtain ⟨ad218, e218, hx218_0, hx218_1, hx218_2⟩ := at_T118 HR0.out x11_1 p218 q218
                 cases e218
                 replace hx218_0 := tW HB hx218_0
                 replace hx218_1 := tW HB hx218_1
                 replace hx218_2 := tW HB hx218_2
                 replace p218 := eq_true p218
                 replace q218 := eq_true q218
                 try go_wp2_with (first | ((with_reducible refine gate_dst (N := 5) rfl ?_); refine box_event ?hg (N := 5) ?hd (cs := #[.string (⟨#[]⟩ : ByteArray), .int .i64 0, .int .i64 0]) (t := 118) ?hr ?_; (case hd => rfl); (case hg => rfl); (case hr => first | (go_simp; done) | (go_simp; rfl)); intro gb219 hg w14 hbox hb; replace HO_3 := Aside0.mk (Kd.R_below (tR HO_3) hb); have BK219 := Aside0.mk (hbox); have GW219 := Aside0.mk ((by rw [hg]; exact (below_size (tH HB)) : w.heap.size ≤ gb219)); have GE219 := Aside0.mk ((by rw [hg]; exact (below_size (tH HB)) : w.heap.size ≤ gb219)); replace HB := Aside0.mk (below_step (tH HB) hb); clear hb hbox hg; have hcz15_0 : w14.cell? ⟨gb219, 0, none⟩ = some (.string (⟨#[]⟩ : ByteArray)) := (blk_cell BK219.out 0).trans rfl; have hcz15_1 : w14.cell? ⟨gb219, 1, none⟩ = some (.int .i64 0) := (blk_cell BK219.out 1).trans rfl; have hcz15_2 : w14.cell? ⟨gb219, 2, none⟩ = some (.int .i64 0) := (blk_cell BK219.out 2).trans rfl; have hfz15_0 := blk_frozen BK219.out 0; have hfz15_1 := blk_frozen BK219.out 1; have hfz15_2 := blk_frozen BK219.out 2))
                 have n0_ : Aside0 (Kd.R Kd.string 9 (((w14.setCell ⟨gb219, 0, none⟩ (.string ((rd_T118 l0 x11_1).f0))).setCell ⟨gb219, 1, none⟩ (.int .i64 ((rd_T118 l0 x11_1).f1))).setCell ⟨gb219, 2, none⟩ (.int .i64 ((rd_T118 l0 x11_1).f2))) w.heap.size (fun _ => True) u3 x3_1) := ⟨by (with_reducible repeat (first | apply qra | apply qrn | apply qrd)); exact Kd.R_mono (Kd.R_far (p := ⟨gb219, 2, none⟩) (Kd.R_far (p := ⟨gb219, 1, none⟩) (Kd.R_far (p := ⟨gb219, 0, none⟩) (Kd.R_types HO_3.out BK219.out (by decide)) (fun _ hk => hk.2) (.string ((rd_T118 l0 x11_1).f0))) (fun _ hk => hk.2) (.int .i64 ((rd_T118 l0 x11_1).f1))) (fun _ hk => hk.2) (.int .i64 ((rd_T118 l0 x11_1).f2))) (fun _ hk => trivial)⟩
                 have n1_ : Aside0 ((((w14.setCell ⟨gb219, 0, none⟩ (.string ((rd_T118 l0 x11_1).f0))).setCell ⟨gb219, 1, none⟩ (.int .i64 ((rd_T118 l0 x11_1).f1))).setCell ⟨gb219, 2, none⟩ (.int .i64 ((rd_T118 l0 x11_1).f2))).heap[gb219]? = some (.cells #[.string ((rd_T118 l0 x11_1).f0), .int .i64 ((rd_T118 l0 x11_1).f1), .int .i64 ((rd_T118 l0 x11_1).f2)] 118 (0, 0))) := ⟨by (with_reducible repeat (first | refine blk_drewN ?_ _ | refine blk_drew ?_ | refine blk_alloc ?_ _)); refine blk_put (cs := #[.string ((rd_T118 l0 x11_1).f0), .int .i64 ((rd_T118 l0 x11_1).f1), .int .i64 0]) ?_ 2 _ rfl; (with_reducible repeat (first | refine blk_drewN ?_ _ | refine blk_drew ?_ | refine blk_alloc ?_ _)); refine blk_put (cs := #[.string ((rd_T118 l0 x11_1).f0), .int .i64 0, .int .i64 0]) ?_ 1 _ rfl; (with_reducible repeat (first | refine blk_drewN ?_ _ | refine blk_drew ?_ | refine blk_alloc ?_ _)); refine blk_put (cs := #[.string (⟨#[]⟩ : ByteArray), .int .i64 0, .int .i64 0]) ?_ 0 _ rfl; (with_reducible repeat (first | refine blk_drewN ?_ _ | refine blk_drew ?_ | refine blk_alloc ?_ _)); exact BK219.out⟩
                 have n2_ : Aside0 (Below w.heap.size w (((w14.setCell ⟨gb219, 0, none⟩ (.string ((rd_T118 l0 x11_1).f0))).setCell ⟨gb219, 1, none⟩ (.int .i64 ((rd_T118 l0 x11_1).f1))).setCell ⟨gb219, 2, none⟩ (.int .i64 ((rd_T118 l0 x11_1).f2)))) := ⟨tH1 HB GE219.out⟩
                 (try clear HO_3)
                 (try clear BK219)
                 (try clear HB)
                 generalize (((w14.setCell ⟨gb219, 0, none⟩ (.string ((rd_T118 l0 x11_1).f0))).setCell ⟨gb219, 1, none⟩ (.int .i64 ((rd_T118 l0 x11_1).f1))).setCell ⟨gb219, 2, none⟩ (.int .i64 ((rd_T118 l0 x11_1).f2))) = w16 at n0_ n1_ n2_ ⊢
                 have HO_3 := n0_
                 have BK219 := n1_
                 have HB := n2_
                 clear n0_ n1_ n2_
                 replace HO_3 := Aside0.mk (Kd.R_drew HO_3.out)
                 replace BK219 := Aside0.mk (blk_drew BK219.out)
                 replace HB := Aside0.mk (below_drew1 HB.out)
                 refine start_ (n := 15) (S := fun w' => w'.cell? ⟨gb219, 0, none⟩ = some (.string ((rd_T118 l0 x11_1).f0)) ∧ w'.cell? ⟨gb219, 1, none⟩ = some (.int .i64 ((rd_T118 l0 x11_1).f1)) ∧ w'.cell? ⟨gb219, 2, none⟩ = some (.int .i64 ((rd_T118 l0 x11_1).f2))) (ds := []) (bq [0, 15]) (by kernel_rfl) rfl rfl ⟨(blk_cell BK219.out 0).trans rfl, (blk_cell BK219.out 1).trans rfl, (blk_cell BK219.out 2).trans rfl⟩ (fun hHeld => ?_); refine with_tabW impl_SyllablesText.tab7 impl_SyllablesText.bits7 (fun HT_ HW_ => ?_)
                 generalize w16.drew = w17 at HO_3 BK219 HB hHeld ⊢
                 refine pV 0 (some 15) [1, 14] rfl rfl HT_ ?_
                 refine pV 1 (some 16) [2, 13] rfl rfl HT_ ?_
                 refine pV 4 (some 19) [2, 2, 1, 10] rfl rfl HT_ ?_
                 refine pV 8 (some 23) [2, 2, 1, 3, 1, 6] rfl rfl HT_ ?_
                 refine pT 2 (some 17) (bq [3, 1, 1, 3, 1, 6]) rfl rfl HT_ HW_ hHeld ?_
                 refine pV 3 (some 18) [5, 3, 1, 6] rfl rfl HT_ ?_
                 refine pT 5 (some 20) (bq [6, 2, 1, 6]) rfl rfl HT_ HW_ hHeld ?_
                 refine pT 9 (some 24) (bq [6, 2, 2, 5]) rfl rfl HT_ HW_ hHeld ?_
                 refine pO 6 (some 21) (bq [7, 1, 2, 5]) rfl rfl HT_ (fun K hK => ?_)
                 refine gS_ Tryd.func92 #[.int .i64 ((rd_T118 l0 x11_1).f1)] rfl rfl ?_
                 with_reducible refine (impl_handText.calls ((rd_T118 l0 x11_1).f1) t220 _ A9.out).mono ?_
                 rintro e w' ⟨rfl, ⟨nd, rfl⟩⟩
                 refine ⟨_, rfl, ?_⟩
                 refine hK.out _ _ ⟨(blk_cell BK219.out 0).trans rfl, (blk_cell BK219.out 1).trans rfl, (blk_cell BK219.out 2).trans rfl⟩ (fun hHeld => ?_)
                 clear hK K
                 refine nO (some 21) ?_
                 refine pV 7 (some 22) [10, 5] rfl rfl HT_ ?_
                 refine pO 10 (some 25) (bq [11, 4]) rfl rfl HT_ (fun K hK => ?_)
                 refine gS_ Tryd.func82 #[.int .i64 ((rd_T118 l0 x11_1).f2)] rfl rfl ?_
                 with_reducible refine (impl_Decimal.calls ((rd_T118 l0 x11_1).f2) t221 _ A11.out).mono ?_
                 rintro e w' ⟨rfl, ⟨nd, rfl⟩⟩
                 refine ⟨_, rfl, ?_⟩
                 refine hK.out _ _ ⟨(blk_cell BK219.out 0).trans rfl, (blk_cell BK219.out 1).trans rfl, (blk_cell BK219.out 2).trans rfl⟩ (fun hHeld => ?_)
                 clear hK K
                 refine nO (some 25) ?_
                 refine pV 11 (some 26) [12, 3] rfl rfl HT_ ?_
                 refine pO 12 (some 27) (bq [13, 2]) rfl rfl HT_ (fun K hK => ?_)
                 refine value_ (w1 := ?_) (v := ?_) (by rfl) rfl ?_ ?_
                 rotate_left 2
                 · go_simp
                   constructor
                   · rfl
                   rfl
                 refine hK.out _ _ ⟨(blk_cell (blk_alloc BK219.out _) 0).trans rfl, (blk_cell (blk_alloc BK219.out _) 1).trans rfl, (blk_cell (blk_alloc BK219.out _) 2).trans rfl⟩ (fun hHeld => ?_)
                 clear hK K
                 refine nO (some 27) ?_
                 refine pO 13 (some 28) (bq [14, 1]) rfl rfl HT_ (fun K hK => ?_)
                 refine Kd.R_append_step Kd.string (w0 := w) w.heap.size (by rfl) (.tmp 15) (.tmp 27) 22 9 (.string ⟨#[]⟩) 16 rfl Tryd.underlying22 info9 rfl (by decide) (by omega) u3 x3_1 (((((rd_T118 l0 x11_1).f0) ++ (⟨#[58]⟩ : ByteArray)) ++ t220) ++ t221) [.string (((((rd_T118 l0 x11_1).f0) ++ (⟨#[58]⟩ : ByteArray)) ++ t220) ++ t221)] (fun _ => True) (fun _ => False) rfl rfl ?aP (fun _ hk => hk.elim) ?aF ?aO ?aB ?aS ?aL ?_
                 (case aP => exact rfl)
                 (case aB => exact (tH1 HB GE219.out))
                 (case aF => exact (fun _ _ => trivial))
                 (case aO => exact (tR HO_3))
                 (case aS => exact (below_size (tH1 HB GE219.out)))
                 (case aL => have := LMc13.out; omega)
                 intro v223 w18 ho hb hg hat
                 rw [← Ny222.out] at ho
                 replace BK219 := Aside0.mk (blk_grown (g := gb219) (o := .cells #[.string ((rd_T118 l0 x11_1).f0), .int .i64 ((rd_T118 l0 x11_1).f1), .int .i64 ((rd_T118 l0 x11_1).f2)] 118 (0, 0)) (tB BK219) hg (Kd.R_ne HO_3.out BK219.out (by decide)))
                 replace HB := Aside0.mk (hb)
                 have HO224 := Aside0.mk (ho)
                 clear HO_3
                 clear ho hb hg hat
                 refine hK.out _ _ ⟨(blk_cell BK219.out 0).trans rfl, (blk_cell BK219.out 1).trans rfl, (blk_cell BK219.out 2).trans rfl⟩ (fun hHeld => ?_)
                 clear hK K
                 refine nO (some 28) ?_
                 refine pV 14 (some 3) [15] rfl rfl HT_ ?_
                 refine done_ (done_of HT_.out (by kernel_rfl)) ?_
                 try go_wp2
                 go_roundg k1
                 case measure => have := HK1.out; omega
                 case rel => exact ⟨(y222), (wrap64 (x11_1 + 1)), tq, H', ⟨by have := HK1.out; omega⟩, ⟨tR HO224⟩, ⟨tH1 HB GE219.out⟩⟩
               rw [if_neg c13] at H
               exact absurd H (by simp)
             rw [if_neg c12] at H
             exact absurd H (by simp)
           rw [if_neg c10] at H
           exact absurd H (by simp)
         rw [if_neg c8] at H
         exact absurd H (by simp)
       rw [if_neg c7] at H
       exact absurd H (by simp)
     rw [if_neg c6] at H
     exact absurd H (by simp)
   rw [if_neg c5] at H
   have c5b0 : decide (x11_1 < (l0.length : Int)) = false := decide_eq_false c5
   clear c5
   replace H := Option.bind_eq_some_iff.mp H
   obtain ⟨t225, A190, H⟩ := H
   replace H : (some t225) = some r := H
   have A19 := Aside0.mk A190
   clear A190
   obtain rfl := Option.some.inj H
   obtain ⟨Ao20, co20, eo20⟩ := Kd.R_slice HO_3.out
   subst eo20
   go_wp2_with (first | ((with_reducible refine gate_callee (f := 93) rfl ?_); refine gL_ (some 31) rfl rfl Tryd.func93 #[.slice Ao20 x3_1.length co20, .string (⟨#[32]⟩ : ByteArray)] rfl ?_; (with_reducible refine (strings_Join.calls _ _ x3_1 (⟨#[32]⟩ : ByteArray) t225 _ ?side1 ?side2 A19.out).mono ?_); (case side1 => exact tC (Kd.R_reads' HO_3.out).2.2); (case side2 => exact (Kd.R_reads' HO_3.out).2.1); rintro e w21 ⟨rfl, hb⟩; refine ⟨_, rfl, ?_⟩; replace HO_3 := Aside0.mk (Kd.R_below (tR HO_3) hb); replace HB := Aside0.mk (below_step (tH HB) hb); (try clear hb); (try clear hb2); (try clear hk); (try clear hi)))
   go_ret
   exact ⟨tE, tH HB⟩
 replace c3 := Bool.eq_false_iff.mpr c3
 subst c3
 have H1 : (some (⟨#[]⟩ : ByteArray)) = some r := by rw [if_neg (show ¬ (false = true) by decide)] at H; exact H
 clear H
 have H := H1
 clear H1
 obtain rfl := Option.some.inj H
 go_enter Tryd.func20, Tryd.ntmps20
 go_wp2_with (first | ((with_reducible refine gate_callee (f := 91) rfl ?_); refine gL_ (some 7) rfl rfl Tryd.func91 #[.slice A0 l0.length c0] rfl ?_; (with_reducible refine (impl_ValidSyllables.calls k _ _ l0 false _ ?side1 ?side2 A2.out).mono ?_); (case side1 => exact tC HR0.out); (case side2 => exact HC0.out); rintro e w22 ⟨rfl, hb⟩; refine ⟨_, rfl, ?_⟩; replace HB := Aside0.mk (below_step (tH HB) hb); (try clear hb); (try clear hb2); (try clear hk); (try clear hi)))
 go_ret
 exact ⟨tE, tH HB⟩

end Go.Proofs.YtmeflmlejcmckaaDoor.PS
