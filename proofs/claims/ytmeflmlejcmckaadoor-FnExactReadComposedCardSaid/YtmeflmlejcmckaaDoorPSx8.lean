-- WRITTEN BY wip/gprint.py, a program of this session's over the kit's print, with contracts given by hand
import Derived.Test.YtmeflmlejcmckaaDoorPSx0
import Derived.Test.YtmeflmlejcmckaaDoorPSx6
import Derived.Test.YtmeflmlejcmckaaDoorPSx7
namespace Go.Proofs.YtmeflmlejcmckaaDoor.PS
open Go.RowKit Go.Proofs.YtmeflmlejcmckaaDoorW.PrintWords Go.Proofs.YtmeflmlejcmckaaDoorW.PrintLast Go.Proofs.YtmeflmlejcmckaaDoorW.PrintMore
attribute [local go_sem] max2_int min2_int max_two min_two max_three min_three max_four min_four   -- for this text's walks alone
set_option linter.unusedVariables false
set_option linter.unusedSimpArgs false

/-! ### spec_l18Text: function 89 -/
def spec_l18Text.l0 : Nat → List (S118) → ByteArray → Int → Option (ByteArray)
 | 0, _, _, _ => none
 | k + 1, x0, x3, x4 => if x4 < (x0.length : Int) then (if x4 > 0 then (if x3.size + 1 ≤ 9223372036854775807 then (if 0 ≤ x4 then (if ((rd_T118 x0 x4).f0).size + 1 ≤ 9223372036854775807 then ((spec_l18Letter.f ((rd_T118 x0 x4).f1)).bind fun t187 => (if (((rd_T118 x0 x4).f0) ++ (⟨#[58]⟩ : ByteArray)).size + t187.size ≤ 9223372036854775807 then ((spec_l01Dec.f k ((rd_T118 x0 x4).f2)).bind fun t189 => (if ((((rd_T118 x0 x4).f0) ++ (⟨#[58]⟩ : ByteArray)) ++ t187).size + t189.size ≤ 9223372036854775807 then (if (x3 ++ (⟨#[32]⟩ : ByteArray)).size + (((((rd_T118 x0 x4).f0) ++ (⟨#[58]⟩ : ByteArray)) ++ t187) ++ t189).size ≤ 9223372036854775807 then (spec_l18Text.l0 k x0 ((x3 ++ (⟨#[32]⟩ : ByteArray)) ++ (((((rd_T118 x0 x4).f0) ++ (⟨#[58]⟩ : ByteArray)) ++ t187) ++ t189)) (wrap64 (x4 + 1))) else (none)) else (none))) else (none))) else (none)) else (none)) else (none)) else (if 0 ≤ x4 then (if ((rd_T118 x0 x4).f0).size + 1 ≤ 9223372036854775807 then ((spec_l18Letter.f ((rd_T118 x0 x4).f1)).bind fun t192 => (if (((rd_T118 x0 x4).f0) ++ (⟨#[58]⟩ : ByteArray)).size + t192.size ≤ 9223372036854775807 then ((spec_l01Dec.f k ((rd_T118 x0 x4).f2)).bind fun t194 => (if ((((rd_T118 x0 x4).f0) ++ (⟨#[58]⟩ : ByteArray)) ++ t192).size + t194.size ≤ 9223372036854775807 then (if x3.size + (((((rd_T118 x0 x4).f0) ++ (⟨#[58]⟩ : ByteArray)) ++ t192) ++ t194).size ≤ 9223372036854775807 then (spec_l18Text.l0 k x0 (x3 ++ (((((rd_T118 x0 x4).f0) ++ (⟨#[58]⟩ : ByteArray)) ++ t192) ++ t194)) (wrap64 (x4 + 1))) else (none)) else (none))) else (none))) else (none)) else (none))) else (some x3)
def spec_l18Text.f (k : Nat) (l0 : List (S118)) : Option (ByteArray) := spec_l18Text.l0 k l0 (⟨#[]⟩ : ByteArray) 0
theorem spec_l18Text.mono_l : ∀ k, (∀ y0 y1 y2, LeO (spec_l18Text.l0 k y0 y1 y2) (spec_l18Text.l0 (k + 1) y0 y1 y2))
 | 0 => fun _ _ _ r h => by simp [spec_l18Text.l0] at h
 | k + 1 => by
  have ih0 := spec_l18Text.mono_l k
  · intro y0 y1 y2
    unfold spec_l18Text.l0
    repeat' first
    | (with_reducible exact ih0 _ _ _)
    | (with_reducible exact spec_l01Dec.mono _ _)
    | (with_reducible exact LeO.refl _)
    | (with_reducible exact LeO.none _)
    | (with_reducible refine LeO.ite ?_ ?_)
    | (with_reducible refine LeO.bind ?_ (fun _ => ?_))
    | exact ih0 _ _ _
    | exact spec_l01Dec.mono _ _
    | exact LeO.none _
    | refine LeO.ite ?_ ?_
    | refine LeO.bind ?_ (fun _ => ?_)
theorem spec_l18Text.mono : ∀ a0 k, LeO (spec_l18Text.f k a0) (spec_l18Text.f (k + 1) a0) := by
 intro a0 k
 have ih0 := spec_l18Text.mono_l k
 unfold spec_l18Text.f
 repeat' first
  | (with_reducible exact ih0 _ _ _)
  | (with_reducible exact spec_l01Dec.mono _ _)
  | (with_reducible exact LeO.refl _)
  | (with_reducible exact LeO.none _)
  | (with_reducible refine LeO.ite ?_ ?_)
  | (with_reducible refine LeO.bind ?_ (fun _ => ?_))
  | exact ih0 _ _ _
  | exact spec_l01Dec.mono _ _
  | exact LeO.none _
  | refine LeO.ite ?_ ?_
  | refine LeO.bind ?_ (fun _ => ?_)
def spec_l18Text.T7 : Bool × List (List Nat × List Nat) := (true, [([], []), ([], []), ([], []), ([1, 2], [1, 2]), ([3], [3]), ([4], [4]), ([5], [5]), ([], []), ([], []), ([7, 8], [7, 8]), ([9], [9]), ([10], [10]), ([11], [11]), ([6, 12], [6, 12]), ([], []), ([], []), ([14, 15], [14, 15]), ([16], [16]), ([17], [17]), ([18, 12], [18]), ([13, 19], [13, 19]), ([0, 20], [0, 20]), ([21, 19, 0, 1, 2, 3, 4, 5, 6, 7, 8, 9, 10, 11, 12, 13, 14, 15, 16, 17, 18, 19, 20, 21], [0, 21])])
def spec_l18Text.B7 : List Nat := [0, 0, 0, 6, 14, 30, 62, 0, 0, 384, 896, 1920, 3968, 8190, 0, 0, 49152, 114688, 245760, 515968, 1048574, 2097151, 4194303]
theorem spec_l18Text.tab7 : rtab .any (opsOf Tryd.f89 7) = spec_l18Text.T7 := by kernel_rfl
theorem spec_l18Text.bits7 : waitsOk spec_l18Text.T7.2 spec_l18Text.B7 = true := by kernel_rfl
set_option maxHeartbeats 8000000 in
set_option maxRecDepth 100000 in
theorem spec_l18Text.calls (k : Nat) (A0 : Option Addr) (c0 : Nat) (l0 : List (S118)) (r : ByteArray) (w : World) (hr0 : Kd.C k118 w A0 l0.length l0) (hc0 : l0.length ≤ c0) (h : spec_l18Text.f k l0 = some r) :
 Calls Tryd.prog 89 #[.slice A0 l0.length c0] w fun e w' => e = .returned (.string r) ∧ Below w.heap.size w w' := by
 have HR0 := Aside0.mk hr0
 have HC0 := Aside0.mk hc0
 clear hr0 hc0
 have HB := Aside0.mk (Below.refl w.heap.size w)
 have H : (spec_l18Text.l0 k l0 (⟨#[]⟩ : ByteArray) 0) = some r := h
 clear h
 have H' := Aside0.mk H
 clear H
 go_enter Tryd.func89, Tryd.ntmps89
 go_wp2
 go_loopg [3, 4] k (fun kq v3 v4 w' => ∃ (x3_1 : ByteArray) (x4_1 : Int), v3 = .string x3_1 ∧ v4 = .int .i64 x4_1 ∧ Aside0 (spec_l18Text.l0 kq l0 x3_1 x4_1 = some r) ∧ Aside0 (kq ≤ k) ∧ Aside0 (Below w.heap.size w w'))
 case atStart => exact ⟨((⟨#[]⟩ : ByteArray)), (0), tq, tq, H', ⟨Nat.le_refl _⟩, ⟨tH HB⟩⟩
 case round =>
 clear H'
 obtain ⟨x3_1, x4_1, rfl, rfl, HA, HK1, HB⟩ := hrel
 cases gk with
 | zero => exact absurd HA.out (by simp [spec_l18Text.l0])
 | succ k1 =>
 have H := HA.out
 clear HA
 simp only [spec_l18Text.l0] at H
 by_cases c2 : x4_1 < (l0.length : Int)
 · rw [if_pos c2] at H
   have c2b0 : decide (x4_1 < (l0.length : Int)) = true := decide_eq_true c2
   clear c2
   by_cases c3 : x4_1 > 0
   · rw [if_pos c3] at H
     have c3b0 : decide (0 < x4_1) = true := decide_eq_true c3
     clear c3
     by_cases c4 : x3_1.size + 1 ≤ 9223372036854775807
     · rw [if_pos c4] at H
       have c4b0 := eq_true c4
       have c4b1 : decide (x3_1.size + 1 ≤ 9223372036854775807) = true := decide_eq_true c4
       try have c4b2 : (9223372036854775807 < x3_1.size + 1) = False := eq_false (Nat.not_lt.2 c4)
       by_cases c5 : 0 ≤ x4_1
       · rw [if_pos c5] at H
         have c5b0 : decide (0 ≤ x4_1) = true := decide_eq_true c5
         clear c5
         by_cases c6 : ((rd_T118 l0 x4_1).f0).size + 1 ≤ 9223372036854775807
         · rw [if_pos c6] at H
           have c6b0 := eq_true c6
           have c6b1 : decide (((rd_T118 l0 x4_1).f0).size + 1 ≤ 9223372036854775807) = true := decide_eq_true c6
           try have c6b2 : (9223372036854775807 < ((rd_T118 l0 x4_1).f0).size + 1) = False := eq_false (Nat.not_lt.2 c6)
           replace H := Option.bind_eq_some_iff.mp H
           obtain ⟨t187, A70, H⟩ := H
           replace H : (if (((rd_T118 l0 x4_1).f0) ++ (⟨#[58]⟩ : ByteArray)).size + t187.size ≤ 9223372036854775807 then ((spec_l01Dec.f k1 ((rd_T118 l0 x4_1).f2)).bind fun t189 => (if ((((rd_T118 l0 x4_1).f0) ++ (⟨#[58]⟩ : ByteArray)) ++ t187).size + t189.size ≤ 9223372036854775807 then (if (x3_1 ++ (⟨#[32]⟩ : ByteArray)).size + (((((rd_T118 l0 x4_1).f0) ++ (⟨#[58]⟩ : ByteArray)) ++ t187) ++ t189).size ≤ 9223372036854775807 then (spec_l18Text.l0 k1 l0 ((x3_1 ++ (⟨#[32]⟩ : ByteArray)) ++ (((((rd_T118 l0 x4_1).f0) ++ (⟨#[58]⟩ : ByteArray)) ++ t187) ++ t189)) (wrap64 (x4_1 + 1))) else (none)) else (none))) else (none)) = some r := H
           have A7 := Aside0.mk A70
           clear A70
           by_cases c8 : (((rd_T118 l0 x4_1).f0) ++ (⟨#[58]⟩ : ByteArray)).size + t187.size ≤ 9223372036854775807
           · rw [if_pos c8] at H
             have c8b0 := eq_true c8
             have c8b1 : decide ((((rd_T118 l0 x4_1).f0) ++ (⟨#[58]⟩ : ByteArray)).size + t187.size ≤ 9223372036854775807) = true := decide_eq_true c8
             try have c8b2 : (9223372036854775807 < (((rd_T118 l0 x4_1).f0) ++ (⟨#[58]⟩ : ByteArray)).size + t187.size) = False := eq_false (Nat.not_lt.2 c8)
             (try (have c8b3 := decide_eq_false (Nat.not_lt.2 c8); simp only [ByteArray.size_append, ByteArray.size_extract, Nat.min_def, Int.toNat_le, if_true, show ∀ b : UInt8, (⟨#[b]⟩ : ByteArray).size = 1 from fun _ => rfl, *] at c8b3; have c8b4 := eq_false (of_decide_eq_false c8b3); clear c8b3))
             replace H := Option.bind_eq_some_iff.mp H
             obtain ⟨t189, A90, H⟩ := H
             replace H : (if ((((rd_T118 l0 x4_1).f0) ++ (⟨#[58]⟩ : ByteArray)) ++ t187).size + t189.size ≤ 9223372036854775807 then (if (x3_1 ++ (⟨#[32]⟩ : ByteArray)).size + (((((rd_T118 l0 x4_1).f0) ++ (⟨#[58]⟩ : ByteArray)) ++ t187) ++ t189).size ≤ 9223372036854775807 then (spec_l18Text.l0 k1 l0 ((x3_1 ++ (⟨#[32]⟩ : ByteArray)) ++ (((((rd_T118 l0 x4_1).f0) ++ (⟨#[58]⟩ : ByteArray)) ++ t187) ++ t189)) (wrap64 (x4_1 + 1))) else (none)) else (none)) = some r := H
             have A9 := Aside0.mk A90
             clear A90
             by_cases c10 : ((((rd_T118 l0 x4_1).f0) ++ (⟨#[58]⟩ : ByteArray)) ++ t187).size + t189.size ≤ 9223372036854775807
             · rw [if_pos c10] at H
               have c10b0 := eq_true c10
               have c10b1 : decide (((((rd_T118 l0 x4_1).f0) ++ (⟨#[58]⟩ : ByteArray)) ++ t187).size + t189.size ≤ 9223372036854775807) = true := decide_eq_true c10
               try have c10b2 : (9223372036854775807 < ((((rd_T118 l0 x4_1).f0) ++ (⟨#[58]⟩ : ByteArray)) ++ t187).size + t189.size) = False := eq_false (Nat.not_lt.2 c10)
               (try (have c10b3 := decide_eq_false (Nat.not_lt.2 c10); simp only [ByteArray.size_append, ByteArray.size_extract, Nat.min_def, Int.toNat_le, if_true, show ∀ b : UInt8, (⟨#[b]⟩ : ByteArray).size = 1 from fun _ => rfl, *] at c10b3; have c10b4 := eq_false (of_decide_eq_false c10b3); clear c10b3))
               by_cases c11 : (x3_1 ++ (⟨#[32]⟩ : ByteArray)).size + (((((rd_T118 l0 x4_1).f0) ++ (⟨#[58]⟩ : ByteArray)) ++ t187) ++ t189).size ≤ 9223372036854775807
               · rw [if_pos c11] at H
                 have c11b0 := eq_true c11
                 have c11b1 : decide ((x3_1 ++ (⟨#[32]⟩ : ByteArray)).size + (((((rd_T118 l0 x4_1).f0) ++ (⟨#[58]⟩ : ByteArray)) ++ t187) ++ t189).size ≤ 9223372036854775807) = true := decide_eq_true c11
                 try have c11b2 : (9223372036854775807 < (x3_1 ++ (⟨#[32]⟩ : ByteArray)).size + (((((rd_T118 l0 x4_1).f0) ++ (⟨#[58]⟩ : ByteArray)) ++ t187) ++ t189).size) = False := eq_false (Nat.not_lt.2 c11)
                 (try (have c11b3 := decide_eq_false (Nat.not_lt.2 c11); simp only [ByteArray.size_append, ByteArray.size_extract, Nat.min_def, Int.toNat_le, if_true, show ∀ b : UInt8, (⟨#[b]⟩ : ByteArray).size = 1 from fun _ => rfl, *] at c11b3; have c11b4 := eq_false (of_decide_eq_false c11b3); clear c11b3))
                 have H' := Aside0.mk H
                 clear H
                 try go_wp2
                 replace HB := Aside0.mk (below_drew1 HB.out)
                 have p185 : 0 ≤ (x4_1 : Int) := of_decide_eq_true tA
                 have q185 : x4_1 < (l0.length : Int) := of_decide_eq_true tA
                 obtain ⟨ad185, e185, hx185_0, hx185_1, hx185_2⟩ := at_T118 HR0.out x4_1 p185 q185
                 have hw185_2 := hx185_2
                 have hw185_1 := hx185_1
                 have hw185_0 := hx185_0
                 cases e185
                 replace hx185_0 := tW HB hx185_0
                 replace hx185_1 := tW HB hx185_1
                 replace hx185_2 := tW HB hx185_2
                 replace p185 := eq_true p185
                 replace q185 := eq_true q185
                 have p186 : 0 ≤ (x4_1 : Int) := of_decide_eq_true tA
                 have q186 : x4_1 < (l0.length : Int) := of_decide_eq_true tA
                 obtain ⟨ad186, e186, hx186_0, hx186_1, hx186_2⟩ := at_T118 HR0.out x4_1 p186 q186
                 have hw186_2 := hx186_2
                 have hw186_1 := hx186_1
                 have hw186_0 := hx186_0
                 obtain rfl : ad185 = ad186 := (by injection e186)
                 replace hx186_0 := tW HB hx186_0
                 replace hx186_1 := tW HB hx186_1
                 replace hx186_2 := tW HB hx186_2
                 replace p186 := eq_true p186
                 replace q186 := eq_true q186
                 have p188 : 0 ≤ (x4_1 : Int) := of_decide_eq_true tA
                 have q188 : x4_1 < (l0.length : Int) := of_decide_eq_true tA
                 obtain ⟨ad188, e188, hx188_0, hx188_1, hx188_2⟩ := at_T118 HR0.out x4_1 p188 q188
                 have hw188_2 := hx188_2
                 have hw188_1 := hx188_1
                 have hw188_0 := hx188_0
                 obtain rfl : ad185 = ad188 := (by injection e188)
                 replace hx188_0 := tW HB hx188_0
                 replace hx188_1 := tW HB hx188_1
                 replace hx188_2 := tW HB hx188_2
                 replace p188 := eq_true p188
                 replace q188 := eq_true q188
                 refine start_ (n := 23) (S := fun w' => w'.cell? (ad185.add ((x4_1).toNat * 3)) = some (.string ((rd_T118 l0 x4_1).f0)) ∧ w'.cell? ⟨(ad185.add ((x4_1).toNat * 3)).block, (ad185.add ((x4_1).toNat * 3)).off + 1, none⟩ = some (.int .i64 ((rd_T118 l0 x4_1).f1)) ∧ w'.cell? ⟨(ad185.add ((x4_1).toNat * 3)).block, (ad185.add ((x4_1).toNat * 3)).off + 2, none⟩ = some (.int .i64 ((rd_T118 l0 x4_1).f2)) ∧ w'.cell? (ad185.add ((x4_1).toNat * 3)) = some (.string ((rd_T118 l0 x4_1).f0)) ∧ w'.cell? ⟨(ad185.add ((x4_1).toNat * 3)).block, (ad185.add ((x4_1).toNat * 3)).off + 1, none⟩ = some (.int .i64 ((rd_T118 l0 x4_1).f1)) ∧ w'.cell? ⟨(ad185.add ((x4_1).toNat * 3)).block, (ad185.add ((x4_1).toNat * 3)).off + 2, none⟩ = some (.int .i64 ((rd_T118 l0 x4_1).f2)) ∧ w'.cell? (ad185.add ((x4_1).toNat * 3)) = some (.string ((rd_T118 l0 x4_1).f0)) ∧ w'.cell? ⟨(ad185.add ((x4_1).toNat * 3)).block, (ad185.add ((x4_1).toNat * 3)).off + 1, none⟩ = some (.int .i64 ((rd_T118 l0 x4_1).f1)) ∧ w'.cell? ⟨(ad185.add ((x4_1).toNat * 3)).block, (ad185.add ((x4_1).toNat * 3)).off + 2, none⟩ = some (.int .i64 ((rd_T118 l0 x4_1).f2))) (ds := []) (bq [0, 23]) (by kernel_rfl) rfl rfl ⟨(tW HB hw185_0), (tW HB hw185_1), (tW HB hw185_2), (tW HB hw186_0), (tW HB hw186_1), (tW HB hw186_2), (tW HB hw188_0), (tW HB hw188_1), (tW HB hw188_2)⟩ (fun hHeld => ?_); refine with_tabW spec_l18Text.tab7 spec_l18Text.bits7 (fun HT_ HW_ => ?_)
                 generalize wr.drew = w12 at HB hx185_0 hx185_1 hx185_2 hx186_0 hx186_1 hx186_2 hx188_0 hx188_1 hx188_2 hHeld ⊢
                 refine pV 0 (some 15) [1, 22] rfl rfl HT_ ?_
                 refine pV 1 (some 16) [2, 21] rfl rfl HT_ ?_
                 refine pV 2 (some 17) [3, 20] rfl rfl HT_ ?_
                 refine pV 3 (some 18) [4, 19] rfl rfl HT_ ?_
                 refine pV 4 (some 19) [5, 18] rfl rfl HT_ ?_
                 refine pV 7 (some 22) [5, 2, 1, 15] rfl rfl HT_ ?_
                 refine pV 8 (some 23) [5, 2, 2, 14] rfl rfl HT_ ?_
                 refine pV 9 (some 24) [5, 2, 3, 13] rfl rfl HT_ ?_
                 refine pV 10 (some 25) [5, 2, 4, 12] rfl rfl HT_ ?_
                 refine pV 14 (some 29) [5, 2, 4, 3, 1, 8] rfl rfl HT_ ?_
                 refine pV 15 (some 30) [5, 2, 4, 3, 2, 7] rfl rfl HT_ ?_
                 refine pV 16 (some 31) [5, 2, 4, 3, 3, 6] rfl rfl HT_ ?_
                 refine pV 17 (some 32) [5, 2, 4, 3, 4, 5] rfl rfl HT_ ?_
                 refine pT 5 (some 20) (bq [6, 1, 4, 3, 4, 5]) rfl rfl HT_ HW_ hHeld ?_
                 refine pV 6 (some 21) [11, 3, 4, 5] rfl rfl HT_ ?_
                 refine pT 11 (some 26) (bq [12, 2, 4, 5]) rfl rfl HT_ HW_ hHeld ?_
                 refine pT 18 (some 33) (bq [12, 2, 5, 4]) rfl rfl HT_ HW_ hHeld ?_
                 refine pO 12 (some 27) (bq [13, 1, 5, 4]) rfl rfl HT_ (fun K hK => ?_)
                 refine gS_ Tryd.func150 #[.int .i64 ((rd_T118 l0 x4_1).f1)] rfl rfl ?_
                 with_reducible refine (spec_l18Letter.calls ((rd_T118 l0 x4_1).f1) t187 _ A7.out).mono ?_
                 rintro e w' ⟨rfl, ⟨nd, rfl⟩⟩
                 refine ⟨_, rfl, ?_⟩
                 refine hK.out _ _ ⟨(tW HB hw185_0), (tW HB hw185_1), (tW HB hw185_2), (tW HB hw186_0), (tW HB hw186_1), (tW HB hw186_2), (tW HB hw188_0), (tW HB hw188_1), (tW HB hw188_2)⟩ (fun hHeld => ?_)
                 clear hK K
                 refine nO (some 27) ?_
                 refine pV 13 (some 28) [19, 4] rfl rfl HT_ ?_
                 refine pO 19 (some 34) (bq [20, 3]) rfl rfl HT_ (fun K hK => ?_)
                 refine gS_ Tryd.func151 #[.int .i64 ((rd_T118 l0 x4_1).f2)] rfl rfl ?_
                 with_reducible refine (spec_l01Dec.calls k1 ((rd_T118 l0 x4_1).f2) t189 _ A9.out).mono ?_
                 rintro e w13 ⟨rfl, hb⟩
                 refine ⟨_, rfl, ?_⟩
                 replace HB := Aside0.mk (below_step (tH HB) hb)
                 (try clear hb)
                 (try clear hb2)
                 (try clear hk)
                 (try clear hi)
                 refine hK.out _ _ ⟨(tW HB hw185_0), (tW HB hw185_1), (tW HB hw185_2), (tW HB hw186_0), (tW HB hw186_1), (tW HB hw186_2), (tW HB hw188_0), (tW HB hw188_1), (tW HB hw188_2)⟩ (fun hHeld => ?_)
                 clear hK K
                 refine nO (some 34) ?_
                 refine pV 20 (some 35) [21, 2] rfl rfl HT_ ?_
                 refine pV 21 (some 36) [22, 1] rfl rfl HT_ ?_
                 refine pV 22 (some 3) [23] rfl rfl HT_ ?_
                 refine done_ (done_of HT_.out (by kernel_rfl)) ?_
                 try go_wp2
                 go_roundg k1
                 case measure => have := HK1.out; omega
                 case rel => exact ⟨((x3_1 ++ (⟨#[32]⟩ : ByteArray)) ++ (((((rd_T118 l0 x4_1).f0) ++ (⟨#[58]⟩ : ByteArray)) ++ t187) ++ t189)), (wrap64 (x4_1 + 1)), tq, tq, H', ⟨by have := HK1.out; omega⟩, ⟨tH HB⟩⟩
               rw [if_neg c11] at H
               exact absurd H (by simp)
             rw [if_neg c10] at H
             exact absurd H (by simp)
           rw [if_neg c8] at H
           exact absurd H (by simp)
         rw [if_neg c6] at H
         exact absurd H (by simp)
       rw [if_neg c5] at H
       exact absurd H (by simp)
     rw [if_neg c4] at H
     exact absurd H (by simp)
   rw [if_neg c3] at H
   have c3b0 : decide (0 < x4_1) = false := decide_eq_false c3
   clear c3
   by_cases c14 : 0 ≤ x4_1
   · rw [if_pos c14] at H
     have c14b0 : decide (0 ≤ x4_1) = true := decide_eq_true c14
     clear c14
     by_cases c15 : ((rd_T118 l0 x4_1).f0).size + 1 ≤ 9223372036854775807
     · rw [if_pos c15] at H
       have c15b0 := eq_true c15
       have c15b1 : decide (((rd_T118 l0 x4_1).f0).size + 1 ≤ 9223372036854775807) = true := decide_eq_true c15
       try have c15b2 : (9223372036854775807 < ((rd_T118 l0 x4_1).f0).size + 1) = False := eq_false (Nat.not_lt.2 c15)
       replace H := Option.bind_eq_some_iff.mp H
       obtain ⟨t192, A160, H⟩ := H
       replace H : (if (((rd_T118 l0 x4_1).f0) ++ (⟨#[58]⟩ : ByteArray)).size + t192.size ≤ 9223372036854775807 then ((spec_l01Dec.f k1 ((rd_T118 l0 x4_1).f2)).bind fun t194 => (if ((((rd_T118 l0 x4_1).f0) ++ (⟨#[58]⟩ : ByteArray)) ++ t192).size + t194.size ≤ 9223372036854775807 then (if x3_1.size + (((((rd_T118 l0 x4_1).f0) ++ (⟨#[58]⟩ : ByteArray)) ++ t192) ++ t194).size ≤ 9223372036854775807 then (spec_l18Text.l0 k1 l0 (x3_1 ++ (((((rd_T118 l0 x4_1).f0) ++ (⟨#[58]⟩ : ByteArray)) ++ t192) ++ t194)) (wrap64 (x4_1 + 1))) else (none)) else (none))) else (none)) = some r := H
       have A16 := Aside0.mk A160
       clear A160
       by_cases c17 : (((rd_T118 l0 x4_1).f0) ++ (⟨#[58]⟩ : ByteArray)).size + t192.size ≤ 9223372036854775807
       · rw [if_pos c17] at H
         have c17b0 := eq_true c17
         have c17b1 : decide ((((rd_T118 l0 x4_1).f0) ++ (⟨#[58]⟩ : ByteArray)).size + t192.size ≤ 9223372036854775807) = true := decide_eq_true c17
         try have c17b2 : (9223372036854775807 < (((rd_T118 l0 x4_1).f0) ++ (⟨#[58]⟩ : ByteArray)).size + t192.size) = False := eq_false (Nat.not_lt.2 c17)
         (try (have c17b3 := decide_eq_false (Nat.not_lt.2 c17); simp only [ByteArray.size_append, ByteArray.size_extract, Nat.min_def, Int.toNat_le, if_true, show ∀ b : UInt8, (⟨#[b]⟩ : ByteArray).size = 1 from fun _ => rfl, *] at c17b3; have c17b4 := eq_false (of_decide_eq_false c17b3); clear c17b3))
         replace H := Option.bind_eq_some_iff.mp H
         obtain ⟨t194, A180, H⟩ := H
         replace H : (if ((((rd_T118 l0 x4_1).f0) ++ (⟨#[58]⟩ : ByteArray)) ++ t192).size + t194.size ≤ 9223372036854775807 then (if x3_1.size + (((((rd_T118 l0 x4_1).f0) ++ (⟨#[58]⟩ : ByteArray)) ++ t192) ++ t194).size ≤ 9223372036854775807 then (spec_l18Text.l0 k1 l0 (x3_1 ++ (((((rd_T118 l0 x4_1).f0) ++ (⟨#[58]⟩ : ByteArray)) ++ t192) ++ t194)) (wrap64 (x4_1 + 1))) else (none)) else (none)) = some r := H
         have A18 := Aside0.mk A180
         clear A180
         by_cases c19 : ((((rd_T118 l0 x4_1).f0) ++ (⟨#[58]⟩ : ByteArray)) ++ t192).size + t194.size ≤ 9223372036854775807
         · rw [if_pos c19] at H
           have c19b0 := eq_true c19
           have c19b1 : decide (((((rd_T118 l0 x4_1).f0) ++ (⟨#[58]⟩ : ByteArray)) ++ t192).size + t194.size ≤ 9223372036854775807) = true := decide_eq_true c19
           try have c19b2 : (9223372036854775807 < ((((rd_T118 l0 x4_1).f0) ++ (⟨#[58]⟩ : ByteArray)) ++ t192).size + t194.size) = False := eq_false (Nat.not_lt.2 c19)
           (try (have c19b3 := decide_eq_false (Nat.not_lt.2 c19); simp only [ByteArray.size_append, ByteArray.size_extract, Nat.min_def, Int.toNat_le, if_true, show ∀ b : UInt8, (⟨#[b]⟩ : ByteArray).size = 1 from fun _ => rfl, *] at c19b3; have c19b4 := eq_false (of_decide_eq_false c19b3); clear c19b3))
           by_cases c20 : x3_1.size + (((((rd_T118 l0 x4_1).f0) ++ (⟨#[58]⟩ : ByteArray)) ++ t192) ++ t194).size ≤ 9223372036854775807
           · rw [if_pos c20] at H
             have c20b0 := eq_true c20
             have c20b1 : decide (x3_1.size + (((((rd_T118 l0 x4_1).f0) ++ (⟨#[58]⟩ : ByteArray)) ++ t192) ++ t194).size ≤ 9223372036854775807) = true := decide_eq_true c20
             try have c20b2 : (9223372036854775807 < x3_1.size + (((((rd_T118 l0 x4_1).f0) ++ (⟨#[58]⟩ : ByteArray)) ++ t192) ++ t194).size) = False := eq_false (Nat.not_lt.2 c20)
             (try (have c20b3 := decide_eq_false (Nat.not_lt.2 c20); simp only [ByteArray.size_append, ByteArray.size_extract, Nat.min_def, Int.toNat_le, if_true, show ∀ b : UInt8, (⟨#[b]⟩ : ByteArray).size = 1 from fun _ => rfl, *] at c20b3; have c20b4 := eq_false (of_decide_eq_false c20b3); clear c20b3))
             have H' := Aside0.mk H
             clear H
             try go_wp2
             replace HB := Aside0.mk (below_drew1 HB.out)
             have p190 : 0 ≤ (x4_1 : Int) := of_decide_eq_true tA
             have q190 : x4_1 < (l0.length : Int) := of_decide_eq_true tA
             obtain ⟨ad190, e190, hx190_0, hx190_1, hx190_2⟩ := at_T118 HR0.out x4_1 p190 q190
             have hw190_2 := hx190_2
             have hw190_1 := hx190_1
             have hw190_0 := hx190_0
             cases e190
             replace hx190_0 := tW HB hx190_0
             replace hx190_1 := tW HB hx190_1
             replace hx190_2 := tW HB hx190_2
             replace p190 := eq_true p190
             replace q190 := eq_true q190
             have p191 : 0 ≤ (x4_1 : Int) := of_decide_eq_true tA
             have q191 : x4_1 < (l0.length : Int) := of_decide_eq_true tA
             obtain ⟨ad191, e191, hx191_0, hx191_1, hx191_2⟩ := at_T118 HR0.out x4_1 p191 q191
             have hw191_2 := hx191_2
             have hw191_1 := hx191_1
             have hw191_0 := hx191_0
             obtain rfl : ad190 = ad191 := (by injection e191)
             replace hx191_0 := tW HB hx191_0
             replace hx191_1 := tW HB hx191_1
             replace hx191_2 := tW HB hx191_2
             replace p191 := eq_true p191
             replace q191 := eq_true q191
             have p193 : 0 ≤ (x4_1 : Int) := of_decide_eq_true tA
             have q193 : x4_1 < (l0.length : Int) := of_decide_eq_true tA
             obtain ⟨ad193, e193, hx193_0, hx193_1, hx193_2⟩ := at_T118 HR0.out x4_1 p193 q193
             have hw193_2 := hx193_2
             have hw193_1 := hx193_1
             have hw193_0 := hx193_0
             obtain rfl : ad190 = ad193 := (by injection e193)
             replace hx193_0 := tW HB hx193_0
             replace hx193_1 := tW HB hx193_1
             replace hx193_2 := tW HB hx193_2
             replace p193 := eq_true p193
             replace q193 := eq_true q193
             refine start_ (n := 23) (S := fun w' => w'.cell? (ad190.add ((x4_1).toNat * 3)) = some (.string ((rd_T118 l0 x4_1).f0)) ∧ w'.cell? ⟨(ad190.add ((x4_1).toNat * 3)).block, (ad190.add ((x4_1).toNat * 3)).off + 1, none⟩ = some (.int .i64 ((rd_T118 l0 x4_1).f1)) ∧ w'.cell? ⟨(ad190.add ((x4_1).toNat * 3)).block, (ad190.add ((x4_1).toNat * 3)).off + 2, none⟩ = some (.int .i64 ((rd_T118 l0 x4_1).f2)) ∧ w'.cell? (ad190.add ((x4_1).toNat * 3)) = some (.string ((rd_T118 l0 x4_1).f0)) ∧ w'.cell? ⟨(ad190.add ((x4_1).toNat * 3)).block, (ad190.add ((x4_1).toNat * 3)).off + 1, none⟩ = some (.int .i64 ((rd_T118 l0 x4_1).f1)) ∧ w'.cell? ⟨(ad190.add ((x4_1).toNat * 3)).block, (ad190.add ((x4_1).toNat * 3)).off + 2, none⟩ = some (.int .i64 ((rd_T118 l0 x4_1).f2)) ∧ w'.cell? (ad190.add ((x4_1).toNat * 3)) = some (.string ((rd_T118 l0 x4_1).f0)) ∧ w'.cell? ⟨(ad190.add ((x4_1).toNat * 3)).block, (ad190.add ((x4_1).toNat * 3)).off + 1, none⟩ = some (.int .i64 ((rd_T118 l0 x4_1).f1)) ∧ w'.cell? ⟨(ad190.add ((x4_1).toNat * 3)).block, (ad190.add ((x4_1).toNat * 3)).off + 2, none⟩ = some (.int .i64 ((rd_T118 l0 x4_1).f2))) (ds := []) (bq [0, 23]) (by kernel_rfl) rfl rfl ⟨(tW HB hw190_0), (tW HB hw190_1), (tW HB hw190_2), (tW HB hw191_0), (tW HB hw191_1), (tW HB hw191_2), (tW HB hw193_0), (tW HB hw193_1), (tW HB hw193_2)⟩ (fun hHeld => ?_); refine with_tabW spec_l18Text.tab7 spec_l18Text.bits7 (fun HT_ HW_ => ?_)
             generalize wr.drew = w21 at HB hx190_0 hx190_1 hx190_2 hx191_0 hx191_1 hx191_2 hx193_0 hx193_1 hx193_2 hHeld ⊢
             refine pV 0 (some 15) [1, 22] rfl rfl HT_ ?_
             refine pV 1 (some 16) [2, 21] rfl rfl HT_ ?_
             refine pV 2 (some 17) [3, 20] rfl rfl HT_ ?_
             refine pV 3 (some 18) [4, 19] rfl rfl HT_ ?_
             refine pV 4 (some 19) [5, 18] rfl rfl HT_ ?_
             refine pV 7 (some 22) [5, 2, 1, 15] rfl rfl HT_ ?_
             refine pV 8 (some 23) [5, 2, 2, 14] rfl rfl HT_ ?_
             refine pV 9 (some 24) [5, 2, 3, 13] rfl rfl HT_ ?_
             refine pV 10 (some 25) [5, 2, 4, 12] rfl rfl HT_ ?_
             refine pV 14 (some 29) [5, 2, 4, 3, 1, 8] rfl rfl HT_ ?_
             refine pV 15 (some 30) [5, 2, 4, 3, 2, 7] rfl rfl HT_ ?_
             refine pV 16 (some 31) [5, 2, 4, 3, 3, 6] rfl rfl HT_ ?_
             refine pV 17 (some 32) [5, 2, 4, 3, 4, 5] rfl rfl HT_ ?_
             refine pT 5 (some 20) (bq [6, 1, 4, 3, 4, 5]) rfl rfl HT_ HW_ hHeld ?_
             refine pV 6 (some 21) [11, 3, 4, 5] rfl rfl HT_ ?_
             refine pT 11 (some 26) (bq [12, 2, 4, 5]) rfl rfl HT_ HW_ hHeld ?_
             refine pT 18 (some 33) (bq [12, 2, 5, 4]) rfl rfl HT_ HW_ hHeld ?_
             refine pO 12 (some 27) (bq [13, 1, 5, 4]) rfl rfl HT_ (fun K hK => ?_)
             refine gS_ Tryd.func150 #[.int .i64 ((rd_T118 l0 x4_1).f1)] rfl rfl ?_
             with_reducible refine (spec_l18Letter.calls ((rd_T118 l0 x4_1).f1) t192 _ A16.out).mono ?_
             rintro e w' ⟨rfl, ⟨nd, rfl⟩⟩
             refine ⟨_, rfl, ?_⟩
             refine hK.out _ _ ⟨(tW HB hw190_0), (tW HB hw190_1), (tW HB hw190_2), (tW HB hw191_0), (tW HB hw191_1), (tW HB hw191_2), (tW HB hw193_0), (tW HB hw193_1), (tW HB hw193_2)⟩ (fun hHeld => ?_)
             clear hK K
             refine nO (some 27) ?_
             refine pV 13 (some 28) [19, 4] rfl rfl HT_ ?_
             refine pO 19 (some 34) (bq [20, 3]) rfl rfl HT_ (fun K hK => ?_)
             refine gS_ Tryd.func151 #[.int .i64 ((rd_T118 l0 x4_1).f2)] rfl rfl ?_
             with_reducible refine (spec_l01Dec.calls k1 ((rd_T118 l0 x4_1).f2) t194 _ A18.out).mono ?_
             rintro e w22 ⟨rfl, hb⟩
             refine ⟨_, rfl, ?_⟩
             replace HB := Aside0.mk (below_step (tH HB) hb)
             (try clear hb)
             (try clear hb2)
             (try clear hk)
             (try clear hi)
             refine hK.out _ _ ⟨(tW HB hw190_0), (tW HB hw190_1), (tW HB hw190_2), (tW HB hw191_0), (tW HB hw191_1), (tW HB hw191_2), (tW HB hw193_0), (tW HB hw193_1), (tW HB hw193_2)⟩ (fun hHeld => ?_)
             clear hK K
             refine nO (some 34) ?_
             refine pV 20 (some 35) [21, 2] rfl rfl HT_ ?_
             refine pV 21 (some 36) [22, 1] rfl rfl HT_ ?_
             refine pV 22 (some 3) [23] rfl rfl HT_ ?_
             refine done_ (done_of HT_.out (by kernel_rfl)) ?_
             try go_wp2
             go_roundg k1
             case measure => have := HK1.out; omega
             case rel => exact ⟨(x3_1 ++ (((((rd_T118 l0 x4_1).f0) ++ (⟨#[58]⟩ : ByteArray)) ++ t192) ++ t194)), (wrap64 (x4_1 + 1)), tq, tq, H', ⟨by have := HK1.out; omega⟩, ⟨tH HB⟩⟩
           rw [if_neg c20] at H
           exact absurd H (by simp)
         rw [if_neg c19] at H
         exact absurd H (by simp)
       rw [if_neg c17] at H
       exact absurd H (by simp)
     rw [if_neg c15] at H
     exact absurd H (by simp)
   rw [if_neg c14] at H
   exact absurd H (by simp)
 rw [if_neg c2] at H
 have c2b0 : decide (x4_1 < (l0.length : Int)) = false := decide_eq_false c2
 clear c2
 obtain rfl := Option.some.inj H
 go_wp2
 go_ret
 exact ⟨tE, tH HB⟩

end Go.Proofs.YtmeflmlejcmckaaDoor.PS
