-- WRITTEN BY wip/gprint.py, a program of this session's over the kit's print, with contracts given by hand
import Derived.Test.YtmeflmlejcmckaaDoorPSx0
namespace Go.Proofs.YtmeflmlejcmckaaDoor.PS
open Go.RowKit Go.Proofs.YtmeflmlejcmckaaDoorW.PrintWords Go.Proofs.YtmeflmlejcmckaaDoorW.PrintLast Go.Proofs.YtmeflmlejcmckaaDoorW.PrintMore
attribute [local go_sem] max2_int min2_int max_two min_two max_three min_three max_four min_four   -- for this text's walks alone
set_option linter.unusedVariables false
set_option linter.unusedSimpArgs false

/-! ### spec_l01Split: function 84 -/
def spec_l01Split.l0 : Nat → ByteArray → Int → List ByteArray → Int → Int → Option (List ByteArray)
 | 0, _, _, _, _, _ => none
 | k + 1, x0, x1, x5, x6, x7 => if x7 < (x0.size : Int) then (if 0 ≤ x7 then (if (bt x0 x7) = x1 then (if 0 ≤ x6 then (if x6 ≤ x7 then (if x7 ≤ (x0.size : Int) then (if x5.length < 8796093022208 then (spec_l01Split.l0 k x0 x1 (x5 ++ [x0.extract (x6 : Int).toNat (x7 : Int).toNat]) (wrap64 (x7 + 1)) (wrap64 (x7 + 1))) else (none)) else (none)) else (none)) else (none)) else (spec_l01Split.l0 k x0 x1 x5 x6 (wrap64 (x7 + 1)))) else (none)) else (if 0 ≤ x6 then (if x6 ≤ (x0.size : Int) then (if x5.length < 8796093022208 then (some (x5 ++ [x0.extract (x6 : Int).toNat x0.size])) else (none)) else (none)) else (none))
def spec_l01Split.f (k : Nat) (a0 : ByteArray) (a1 : Int) : Option (List ByteArray) := spec_l01Split.l0 k a0 a1 (([] : List ByteArray)) 0 0
theorem spec_l01Split.mono_l : ∀ k, (∀ y0 y1 y2 y3 y4, LeO (spec_l01Split.l0 k y0 y1 y2 y3 y4) (spec_l01Split.l0 (k + 1) y0 y1 y2 y3 y4))
 | 0 => fun _ _ _ _ _ r h => by simp [spec_l01Split.l0] at h
 | k + 1 => by
  have ih0 := spec_l01Split.mono_l k
  · intro y0 y1 y2 y3 y4
    unfold spec_l01Split.l0
    repeat' first
    | (with_reducible exact ih0 _ _ _ _ _)
    | (with_reducible exact LeO.refl _)
    | (with_reducible exact LeO.none _)
    | (with_reducible refine LeO.ite ?_ ?_)
    | (with_reducible refine LeO.bind ?_ (fun _ => ?_))
    | exact ih0 _ _ _ _ _
    | exact LeO.none _
    | refine LeO.ite ?_ ?_
    | refine LeO.bind ?_ (fun _ => ?_)
theorem spec_l01Split.mono : ∀ a0 a1 k, LeO (spec_l01Split.f k a0 a1) (spec_l01Split.f (k + 1) a0 a1) := by
 intro a0 a1 k
 have ih0 := spec_l01Split.mono_l k
 unfold spec_l01Split.f
 repeat' first
  | (with_reducible exact ih0 _ _ _ _ _)
  | (with_reducible exact LeO.refl _)
  | (with_reducible exact LeO.none _)
  | (with_reducible refine LeO.ite ?_ ?_)
  | (with_reducible refine LeO.bind ?_ (fun _ => ?_))
  | exact ih0 _ _ _ _ _
  | exact LeO.none _
  | refine LeO.ite ?_ ?_
  | refine LeO.bind ?_ (fun _ => ?_)
set_option maxHeartbeats 8000000 in
set_option maxRecDepth 100000 in
theorem spec_l01Split.calls (k : Nat) (a0 : ByteArray) (a1 : Int) (r : List ByteArray) (w : World) (h : spec_l01Split.f k a0 a1 = some r) :
 Calls Tryd.prog 84 #[.string a0, .int .u8 a1] w fun e w' => ∃ v0_ : Value, e = .returned (v0_) ∧ Kd.R Kd.string 9 w' w.heap.size (fun _ => True) v0_ r ∧ Below w.heap.size w w' := by
 have HB := Aside0.mk (Below.refl w.heap.size w)
 have H : (spec_l01Split.l0 k a0 a1 (([] : List ByteArray)) 0 0) = some r := h
 clear h
 obtain ⟨y101, hy101⟩ : ∃ y_ : List ByteArray, y_ = (([] : List ByteArray)) := ⟨_, rfl⟩
 replace H : (spec_l01Split.l0 k a0 a1 y101 0 0) = some r := by first | (rw [hy101]; with_reducible exact H) | (have H2_ := (Option.bind_some _ _).symm.trans H; rw [hy101]; with_reducible exact H2_) | (have H2_ := (Option.bind_some _ _).symm.trans H; with_reducible exact H2_) | with_reducible exact H | (rw [hy101]; exact H) | exact H
 have Ny101 := Aside0.mk hy101
 clear hy101
 have H' := Aside0.mk H
 clear H
 go_enter Tryd.func84, Tryd.ntmps84
 go_wp2_with (first | ((with_reducible refine gate_dst (N := 8) rfl ?_); refine Kd.R_lit Kd.string _ 9 ?hg (N := 8) ?hd (xs := ([] : List ByteArray)) (inner := []) (ok := fun _ => True) (okp := fun _ => True) ?hr ?hp (fun _ hk => hk) trivial (Below.refl _ _) (Nat.le_refl _) (by simp) ?_; (case hd => rfl); (case hg => rfl); (case hr => first | (go_simp; done) | (go_simp; rfl)); (case hp => exact (Reps.none _ _)); intro v102 w3 ho4 hb hg_ hnew_; clear hg_ hnew_; (first | rw [← Ny101.out] at ho4 | (simp only [Int.reduceToNat] at ho4; rw [← Ny101.out] at ho4)); have HO103 := Aside0.mk (Kd.R_lower ho4 (below_size (tH HB))); replace HB := Aside0.mk (below_step (tH HB) hb); clear hb ho4))
 go_loopg [5, 6, 7] k (fun kq v5 v6 v7 w' => ∃ (x5_1 : List ByteArray) (x6_1 : Int) (x7_1 : Int), v6 = .int .i64 x6_1 ∧ v7 = .int .i64 x7_1 ∧ Aside0 (spec_l01Split.l0 kq a0 a1 x5_1 x6_1 x7_1 = some r) ∧ Aside0 (kq ≤ k) ∧ Aside0 (Kd.R Kd.string 9 w' w.heap.size (fun _ => True) v5 x5_1) ∧ Aside0 (Below w.heap.size w w'))
 case atStart => exact ⟨(y101), (0), (0), tq, tq, H', ⟨Nat.le_refl _⟩, ⟨tR HO103⟩, ⟨tH HB⟩⟩
 case round =>
 clear H'
 try clear p2
 obtain ⟨x5_1, x6_1, x7_1, rfl, rfl, HA, HK1, HO_5, HB⟩ := hrel
 cases gk with
 | zero => exact absurd HA.out (by simp [spec_l01Split.l0])
 | succ k1 =>
 have H := HA.out
 clear HA
 simp only [spec_l01Split.l0] at H
 by_cases c5 : x7_1 < (a0.size : Int)
 · rw [if_pos c5] at H
   have c5b0 : decide (x7_1 < (a0.size : Int)) = true := decide_eq_true c5
   clear c5
   by_cases c6 : 0 ≤ x7_1
   · rw [if_pos c6] at H
     have c6b0 : decide (0 ≤ x7_1) = true := decide_eq_true c6
     clear c6
     by_cases c8 : (bt a0 x7_1) = a1
     · rw [if_pos c8] at H
       have c8b0 : ((bt a0 x7_1) == a1) = true := beq_iff_eq.mpr c8
       have c8b1 : ((bt a0 x7_1) != a1) = false := bne_eq_false_iff_eq.mpr c8
       clear c8
       by_cases c9 : 0 ≤ x6_1
       · rw [if_pos c9] at H
         have c9b0 := eq_true c9
         have c9b1 : decide (0 ≤ x6_1) = true := decide_eq_true c9
         clear c9
         by_cases c10 : x6_1 ≤ x7_1
         · rw [if_pos c10] at H
           have c10b0 := eq_true c10
           have c10b1 : decide (x6_1 ≤ x7_1) = true := decide_eq_true c10
           clear c10
           by_cases c11 : x7_1 ≤ (a0.size : Int)
           · rw [if_pos c11] at H
             have c11b0 := eq_true c11
             have c11b1 : decide (x7_1 ≤ (a0.size : Int)) = true := decide_eq_true c11
             clear c11
             by_cases c12 : x5_1.length < 8796093022208
             · rw [if_pos c12] at H
               have LMc12 := Aside0.mk c12
               clear c12
               obtain ⟨y104, hy104⟩ : ∃ y_ : List ByteArray, y_ = (x5_1 ++ [a0.extract (x6_1 : Int).toNat (x7_1 : Int).toNat]) := ⟨_, rfl⟩
               replace H : (spec_l01Split.l0 k1 a0 a1 y104 (wrap64 (x7_1 + 1)) (wrap64 (x7_1 + 1))) = some r := by first | (rw [hy104]; with_reducible exact H) | (have H2_ := (Option.bind_some _ _).symm.trans H; rw [hy104]; with_reducible exact H2_) | (have H2_ := (Option.bind_some _ _).symm.trans H; with_reducible exact H2_) | with_reducible exact H | (rw [hy104]; exact H) | exact H
               have Ny104 := Aside0.mk hy104
               clear hy104
               have H' := Aside0.mk H
               clear H
               have p7 : 0 ≤ (x7_1 : Int) := of_decide_eq_true tA
               have q7 : x7_1 < (a0.size : Int) := of_decide_eq_true tA
               have hx7 := bt_at a0 x7_1
               replace p7 := eq_true p7
               replace q7 := eq_true q7
               go_wp2_with (first | ((with_reducible refine gate_builtin (b := .append) (xs := #[.tmp 20, .tmp 25]) rfl ?_); at_builtin; refine Kd.R_append Kd.string (w0 := w) w.heap.size rfl (.tmp 20) (.tmp 25) 22 9 (.string ⟨#[]⟩) 16 rfl Tryd.underlying22 info9 rfl (by decide) (by omega) u5 x5_1 (a0.extract (x6_1 : Int).toNat (x7_1 : Int).toNat) [.string (a0.extract (x6_1 : Int).toNat (x7_1 : Int).toNat)] (fun _ => True) (fun _ => False) rfl rfl ?aP (fun _ hk => hk.elim) ?aF ?aO ?aB ?aS ?aL ?_; (case aP => exact rfl); (case aB => exact (tH HB)); (case aF => exact (fun _ _ => trivial)); (case aO => exact (tR HO_5)); (case aS => exact (below_size (tH HB))); (case aL => have := LMc12.out; omega); intro v105 w13 ho hb hg hat; rw [← Ny104.out] at ho; replace HB := Aside0.mk (hb); have HO106 := Aside0.mk (ho); clear HO_5; clear ho hb hg hat))
               go_roundg k1
               case measure => have := HK1.out; omega
               case rel => exact ⟨(y104), (wrap64 (x7_1 + 1)), (wrap64 (x7_1 + 1)), tq, tq, H', ⟨by have := HK1.out; omega⟩, ⟨tR HO106⟩, ⟨tH HB⟩⟩
             rw [if_neg c12] at H
             exact absurd H (by simp)
           rw [if_neg c11] at H
           exact absurd H (by simp)
         rw [if_neg c10] at H
         exact absurd H (by simp)
       rw [if_neg c9] at H
       exact absurd H (by simp)
     rw [if_neg c8] at H
     have c8b0 : ((bt a0 x7_1) == a1) = false := beq_eq_false_iff_ne.mpr c8
     have c8b1 : ((bt a0 x7_1) != a1) = true := bne_iff_ne.mpr c8
     have H' := Aside0.mk H
     clear H
     have p7 : 0 ≤ (x7_1 : Int) := of_decide_eq_true tA
     have q7 : x7_1 < (a0.size : Int) := of_decide_eq_true tA
     have hx7 := bt_at a0 x7_1
     replace p7 := eq_true p7
     replace q7 := eq_true q7
     go_wp2
     go_roundg k1
     case measure => have := HK1.out; omega
     case rel => exact ⟨(x5_1), (x6_1), (wrap64 (x7_1 + 1)), tq, tq, H', ⟨by have := HK1.out; omega⟩, ⟨tR HO_5⟩, ⟨tH HB⟩⟩
   rw [if_neg c6] at H
   exact absurd H (by simp)
 rw [if_neg c5] at H
 have c5b0 : decide (x7_1 < (a0.size : Int)) = false := decide_eq_false c5
 clear c5
 by_cases c14 : 0 ≤ x6_1
 · rw [if_pos c14] at H
   have c14b0 := eq_true c14
   have c14b1 : decide (0 ≤ x6_1) = true := decide_eq_true c14
   clear c14
   by_cases c15 : x6_1 ≤ (a0.size : Int)
   · rw [if_pos c15] at H
     have c15b0 := eq_true c15
     have c15b1 : decide (x6_1 ≤ (a0.size : Int)) = true := decide_eq_true c15
     clear c15
     by_cases c16 : x5_1.length < 8796093022208
     · rw [if_pos c16] at H
       have LMc16 := Aside0.mk c16
       clear c16
       obtain ⟨y107, hy107⟩ : ∃ y_ : List ByteArray, y_ = (x5_1 ++ [a0.extract (x6_1 : Int).toNat a0.size]) := ⟨_, rfl⟩
       replace H : (some y107) = some r := by first | (rw [hy107]; with_reducible exact H) | (have H2_ := (Option.bind_some _ _).symm.trans H; rw [hy107]; with_reducible exact H2_) | (have H2_ := (Option.bind_some _ _).symm.trans H; with_reducible exact H2_) | with_reducible exact H | (rw [hy107]; exact H) | exact H
       have Ny107 := Aside0.mk hy107
       clear hy107
       obtain rfl := Option.some.inj H
       go_wp2_with (first | ((with_reducible refine gate_builtin (b := .append) (xs := #[.tmp 29, .tmp 33]) rfl ?_); at_builtin; refine Kd.R_append Kd.string (w0 := w) w.heap.size rfl (.tmp 29) (.tmp 33) 22 9 (.string ⟨#[]⟩) 16 rfl Tryd.underlying22 info9 rfl (by decide) (by omega) u5 x5_1 (a0.extract (x6_1 : Int).toNat a0.size) [.string (a0.extract (x6_1 : Int).toNat a0.size)] (fun _ => True) (fun _ => False) rfl rfl ?aP (fun _ hk => hk.elim) ?aF ?aO ?aB ?aS ?aL ?_; (case aP => exact rfl); (case aB => exact (tH HB)); (case aF => exact (fun _ _ => trivial)); (case aO => exact (tR HO_5)); (case aS => exact (below_size (tH HB))); (case aL => have := LMc16.out; omega); intro v108 w17 ho hb hg hat; rw [← Ny107.out] at ho; replace HB := Aside0.mk (hb); have HO109 := Aside0.mk (ho); clear HO_5; clear ho hb hg hat))
       go_ret
       exact ⟨_, tE, tR HO109, tH HB⟩
     rw [if_neg c16] at H
     exact absurd H (by simp)
   rw [if_neg c15] at H
   exact absurd H (by simp)
 rw [if_neg c14] at H
 exact absurd H (by simp)

/-! ### spec_SplitWords: function 12 -/
def spec_SplitWords.l0 : Nat → List ByteArray → List ByteArray → Int → Option (List ByteArray)
 | 0, _, _, _ => none
 | k + 1, x3, x4, x5 => if x5 < (x3.length : Int) then (if 0 ≤ x5 then (if (rdOf ByteArray.empty x3 x5).toList = ([] : List UInt8) then (spec_SplitWords.l0 k x3 x4 (wrap64 (x5 + 1))) else (if x4.length < 8796093022208 then (spec_SplitWords.l0 k x3 (x4 ++ [rdOf ByteArray.empty x3 x5]) (wrap64 (x5 + 1))) else (none))) else (none)) else (some x4)
def spec_SplitWords.f (k : Nat) (a0 : ByteArray) : Option (List ByteArray) := (spec_l01Split.f k a0 32).bind fun t110 => (spec_SplitWords.l0 k t110 (([] : List ByteArray)) 0)
theorem spec_SplitWords.mono_l : ∀ k, (∀ y0 y1 y2, LeO (spec_SplitWords.l0 k y0 y1 y2) (spec_SplitWords.l0 (k + 1) y0 y1 y2))
 | 0 => fun _ _ _ r h => by simp [spec_SplitWords.l0] at h
 | k + 1 => by
  have ih0 := spec_SplitWords.mono_l k
  · intro y0 y1 y2
    unfold spec_SplitWords.l0
    repeat' first
    | (with_reducible exact ih0 _ _ _)
    | (with_reducible exact spec_l01Split.mono _ _ _)
    | (with_reducible exact LeO.refl _)
    | (with_reducible exact LeO.none _)
    | (with_reducible refine LeO.ite ?_ ?_)
    | (with_reducible refine LeO.bind ?_ (fun _ => ?_))
    | exact ih0 _ _ _
    | exact spec_l01Split.mono _ _ _
    | exact LeO.none _
    | refine LeO.ite ?_ ?_
    | refine LeO.bind ?_ (fun _ => ?_)
theorem spec_SplitWords.mono : ∀ a0 k, LeO (spec_SplitWords.f k a0) (spec_SplitWords.f (k + 1) a0) := by
 intro a0 k
 have ih0 := spec_SplitWords.mono_l k
 unfold spec_SplitWords.f
 repeat' first
  | (with_reducible exact ih0 _ _ _)
  | (with_reducible exact spec_l01Split.mono _ _ _)
  | (with_reducible exact LeO.refl _)
  | (with_reducible exact LeO.none _)
  | (with_reducible refine LeO.ite ?_ ?_)
  | (with_reducible refine LeO.bind ?_ (fun _ => ?_))
  | exact ih0 _ _ _
  | exact spec_l01Split.mono _ _ _
  | exact LeO.none _
  | refine LeO.ite ?_ ?_
  | refine LeO.bind ?_ (fun _ => ?_)
set_option maxHeartbeats 8000000 in
set_option maxRecDepth 100000 in
theorem spec_SplitWords.calls (k : Nat) (a0 : ByteArray) (r : List ByteArray) (w : World) (h : spec_SplitWords.f k a0 = some r) :
 Calls Tryd.prog 12 #[.string a0] w fun e w' => ∃ v0_ : Value, e = .returned (v0_) ∧ Kd.R Kd.string 9 w' w.heap.size (fun _ => True) v0_ r ∧ Below w.heap.size w w' := by
 have HB := Aside0.mk (Below.refl w.heap.size w)
 have H : ((spec_l01Split.f k a0 32).bind fun t110 => (spec_SplitWords.l0 k t110 (([] : List ByteArray)) 0)) = some r := h
 clear h
 replace H := Option.bind_eq_some_iff.mp H
 obtain ⟨t110, A20, H⟩ := H
 replace H : (spec_SplitWords.l0 k t110 (([] : List ByteArray)) 0) = some r := H
 have A2 := Aside0.mk A20
 clear A20
 obtain ⟨y113, hy113⟩ : ∃ y_ : List ByteArray, y_ = (([] : List ByteArray)) := ⟨_, rfl⟩
 replace H : (spec_SplitWords.l0 k t110 y113 0) = some r := by first | (rw [hy113]; with_reducible exact H) | (have H2_ := (Option.bind_some _ _).symm.trans H; rw [hy113]; with_reducible exact H2_) | (have H2_ := (Option.bind_some _ _).symm.trans H; with_reducible exact H2_) | with_reducible exact H | (rw [hy113]; exact H) | exact H
 have Ny113 := Aside0.mk hy113
 clear hy113
 have H' := Aside0.mk H
 clear H
 go_enter Tryd.func12, Tryd.ntmps12
 go_wp2_with (first | ((with_reducible refine gate_callee (f := 84) rfl ?_); refine gL_ (some 7) rfl rfl Tryd.func84 #[.string a0, .int .u8 32] rfl ?_; (with_reducible refine (spec_l01Split.calls k a0 32 t110 _ A2.out).mono ?_); rintro e w3 ⟨v111, rfl, ho0, hb⟩; refine ⟨_, rfl, ?_⟩; have HO112 := Aside0.mk (Kd.R_lower ho0 (below_size (tH HB))); replace HB := Aside0.mk (below_step (tH HB) hb); (try clear hb); (try clear hb2); (try clear hk); (try clear hi); (try clear ho0)) | ((with_reducible refine gate_dst (N := 8) rfl ?_); refine Kd.R_lit Kd.string _ 9 ?hg (N := 8) ?hd (xs := ([] : List ByteArray)) (inner := []) (ok := fun _ => True) (okp := fun _ => True) ?hr ?hp (fun _ hk => hk) trivial (Below.refl _ _) (Nat.le_refl _) (by simp) ?_; (case hd => rfl); (case hg => rfl); (case hr => first | (go_simp; done) | (go_simp; rfl)); (case hp => exact (Reps.none _ _)); intro v114 w4 ho5 hb hg_ hnew_; clear hg_ hnew_; (first | rw [← Ny113.out] at ho5 | (simp only [Int.reduceToNat] at ho5; rw [← Ny113.out] at ho5)); have HO115 := Aside0.mk (Kd.R_lower (Kd.R_new' ho5 (Kd.R_lt (tR HO112))) (below_size (tH HB))); replace HO112 := Aside0.mk (Kd.R_elder' (tR HO112) (Kd.R_base ho5) hb); replace HB := Aside0.mk (below_step (tH HB) hb); clear hb ho5))
 go_loopg [4, 5] k (fun kq v4 v5 w' => ∃ (x4_1 : List ByteArray) (x5_1 : Int), v5 = .int .i64 x5_1 ∧ Aside0 (spec_SplitWords.l0 kq t110 x4_1 x5_1 = some r) ∧ Aside0 (kq ≤ k) ∧ Aside0 (Kd.R Kd.string 9 w' w.heap.size (fun k_ => some k_ ≠ (v4 : Value).ownBlock) v111 t110) ∧ Aside0 (Kd.R Kd.string 9 w' w.heap.size (fun k_ => some k_ ≠ (v111 : Value).ownBlock) v4 x4_1) ∧ Aside0 (Below w.heap.size w w'))
 case atStart => exact ⟨(y113), (0), tq, H', ⟨Nat.le_refl _⟩, ⟨by (with_reducible repeat (first | apply qra | apply qrn | apply qrd)); exact Kd.R_mono HO112.out (fun _ hk => hk.2)⟩, ⟨by (with_reducible repeat (first | apply qra | apply qrn | apply qrd)); exact Kd.R_mono HO115.out (fun _ hk => hk.2)⟩, ⟨tH HB⟩⟩
 case round =>
 clear H'
 try clear c1
 try clear p2
 obtain ⟨x4_1, x5_1, rfl, HA, HK1, HO_3, HO_4, HB⟩ := hrel
 cases gk with
 | zero => exact absurd HA.out (by simp [spec_SplitWords.l0])
 | succ k1 =>
 have H := HA.out
 clear HA
 simp only [spec_SplitWords.l0] at H
 by_cases c6 : x5_1 < (t110.length : Int)
 · rw [if_pos c6] at H
   have c6b0 : decide (x5_1 < (t110.length : Int)) = true := decide_eq_true c6
   clear c6
   by_cases c7 : 0 ≤ x5_1
   · rw [if_pos c7] at H
     have c7b0 : decide (0 ≤ x5_1) = true := decide_eq_true c7
     clear c7
     by_cases c8 : (rdOf ByteArray.empty t110 x5_1).toList = ([] : List UInt8)
     · rw [if_pos c8] at H
       have c8b0 : ((rdOf ByteArray.empty t110 x5_1).toList == ([] : List UInt8)) = true := beq_iff_eq.mpr c8
       have c8b1 : ((rdOf ByteArray.empty t110 x5_1).toList != ([] : List UInt8)) = false := bne_eq_false_iff_eq.mpr c8
       clear c8
       have H' := Aside0.mk H
       clear H
       obtain ⟨Ao9, co9, eo9⟩ := Kd.R_slice HO_3.out
       subst eo9
       have p116 : 0 ≤ (x5_1 : Int) := of_decide_eq_true tA
       have q116 : x5_1 < (t110.length : Int) := of_decide_eq_true tA
       obtain ⟨ad116, e116, hx116_0⟩ := Kd.at_string (Kd.R_reads' HO_3.out).2.2 x5_1 p116 q116
       cases e116
       replace p116 := eq_true p116
       replace q116 := eq_true q116
       go_wp2
       go_roundg k1
       case measure => have := HK1.out; omega
       case rel => exact ⟨(x4_1), (wrap64 (x5_1 + 1)), tq, H', ⟨by have := HK1.out; omega⟩, ⟨tR HO_3⟩, ⟨tR HO_4⟩, ⟨tH HB⟩⟩
     rw [if_neg c8] at H
     have c8b0 : ((rdOf ByteArray.empty t110 x5_1).toList == ([] : List UInt8)) = false := beq_eq_false_iff_ne.mpr c8
     have c8b1 : ((rdOf ByteArray.empty t110 x5_1).toList != ([] : List UInt8)) = true := bne_iff_ne.mpr c8
     by_cases c10 : x4_1.length < 8796093022208
     · rw [if_pos c10] at H
       have LMc10 := Aside0.mk c10
       clear c10
       obtain ⟨y118, hy118⟩ : ∃ y_ : List ByteArray, y_ = (x4_1 ++ [rdOf ByteArray.empty t110 x5_1]) := ⟨_, rfl⟩
       replace H : (spec_SplitWords.l0 k1 t110 y118 (wrap64 (x5_1 + 1))) = some r := by first | (rw [hy118]; with_reducible exact H) | (have H2_ := (Option.bind_some _ _).symm.trans H; rw [hy118]; with_reducible exact H2_) | (have H2_ := (Option.bind_some _ _).symm.trans H; with_reducible exact H2_) | with_reducible exact H | (rw [hy118]; exact H) | exact H
       have Ny118 := Aside0.mk hy118
       clear hy118
       have H' := Aside0.mk H
       clear H
       obtain ⟨Ao11, co11, eo11⟩ := Kd.R_slice HO_3.out
       subst eo11
       have p116 : 0 ≤ (x5_1 : Int) := of_decide_eq_true tA
       have q116 : x5_1 < (t110.length : Int) := of_decide_eq_true tA
       obtain ⟨ad116, e116, hx116_0⟩ := Kd.at_string (Kd.R_reads' HO_3.out).2.2 x5_1 p116 q116
       cases e116
       replace p116 := eq_true p116
       replace q116 := eq_true q116
       have p117 : 0 ≤ (x5_1 : Int) := of_decide_eq_true tA
       have q117 : x5_1 < (t110.length : Int) := of_decide_eq_true tA
       obtain ⟨ad117, e117, hx117_0⟩ := Kd.at_string (Kd.R_reads' HO_3.out).2.2 x5_1 p117 q117
       obtain rfl : ad116 = ad117 := (by injection e117)
       replace p117 := eq_true p117
       replace q117 := eq_true q117
       go_wp2_with (first | ((with_reducible refine gate_builtin (b := .append) (xs := #[.tmp 20, .tmp 25]) rfl ?_); at_builtin; refine Kd.R_append Kd.string (w0 := w) w.heap.size rfl (.tmp 20) (.tmp 25) 22 9 (.string ⟨#[]⟩) 16 rfl Tryd.underlying22 info9 rfl (by decide) (by omega) u4 x4_1 (rdOf ByteArray.empty t110 x5_1) [.string (rdOf ByteArray.empty t110 x5_1)] (fun k_ => some k_ ≠ (.slice (some ad116) t110.length co11 : Value).ownBlock) (fun _ => False) rfl rfl ?aP (fun _ hk => hk.elim) ?aF ?aO ?aB ?aS ?aL ?_; (case aP => exact rfl); (case aB => exact (tH HB)); (case aF => exact (fun k_ hk => Kd.fresh' (Kd.R_lt (tR HO_3)) k_ hk)); (case aO => exact (tR HO_4)); (case aS => exact (below_size (tH HB))); (case aL => have := LMc10.out; omega); intro v119 w12 ho hb hg hat; rw [← Ny118.out] at ho; replace HO_3 := Aside0.mk (Kd.R_after (ok := (fun _ => True)) (by (with_reducible repeat (first | apply qra | apply qrn | apply qrd)); exact Kd.R_mono HO_3.out (fun _ hk => ⟨trivial, hk⟩)) hg hat); replace HB := Aside0.mk (hb); have HO120 := Aside0.mk (ho); clear HO_4; clear ho hb hg hat))
       go_roundg k1
       case measure => have := HK1.out; omega
       case rel => exact ⟨(y118), (wrap64 (x5_1 + 1)), tq, H', ⟨by have := HK1.out; omega⟩, ⟨by (with_reducible repeat (first | apply qra | apply qrn | apply qrd)); exact Kd.R_mono HO_3.out (fun _ hk => hk.2)⟩, ⟨tR HO120⟩, ⟨tH HB⟩⟩
     rw [if_neg c10] at H
     exact absurd H (by simp)
   rw [if_neg c7] at H
   exact absurd H (by simp)
 rw [if_neg c6] at H
 have c6b0 : decide (x5_1 < (t110.length : Int)) = false := decide_eq_false c6
 clear c6
 obtain rfl := Option.some.inj H
 obtain ⟨Ao13, co13, eo13⟩ := Kd.R_slice HO_3.out
 subst eo13
 go_wp2
 go_ret
 exact ⟨_, tE, by (with_reducible repeat (first | apply qra | apply qrn | apply qrd)); exact Kd.R_mono HO_4.out (fun _ hk => trivial), tH HB⟩

/-! ### strings_Split: function 85 (a contract given by hand) -/
def lays221_ren : Go.Shelf.Ren := ⟨fun | 221 => 148 | 268 => 193 | 138 => 194 | 143 => 183 | 195 => 224 | 197 => 225 | 218 => 226 | 219 => 207 | 260 => 249 | 217 => 231 | 225 => 232 | 224 => 233 | 267 => 234 | 266 => 250 | 314 => 251 | n => n, fun | 9 => 9 | 3 => 3 | 31 => 22 | 4 => 4 | 0 => 0 | 105 => 216 | 21 => 21 | 5 => 5 | 46 => 190 | 119 => 244 | 139 => 247 | 138 => 246 | 146 => 238 | 51 => 235 | n => n, fun | 1 => 1 | 3 => 5 | 4 => 6 | n => n⟩
theorem lays221 : Lays.n221 Tryd.prog lays221_ren := { mixed := by kernel_rfl, f138 := Tryd.func194.trans (congrArg some (by kernel_rfl)), f143 := Tryd.func183.trans (congrArg some (by kernel_rfl)), f195 := Tryd.func224.trans (congrArg some (by kernel_rfl)), f197 := Tryd.func225.trans (congrArg some (by kernel_rfl)), f217 := Tryd.func231.trans (congrArg some (by kernel_rfl)), f218 := Tryd.func226.trans (congrArg some (by kernel_rfl)), f219 := Tryd.func207.trans (congrArg some (by kernel_rfl)), f221 := Tryd.func148.trans (congrArg some (by kernel_rfl)), f224 := Tryd.func233.trans (congrArg some (by kernel_rfl)), f225 := Tryd.func232.trans (congrArg some (by kernel_rfl)), f260 := Tryd.func249.trans (congrArg some (by kernel_rfl)), f266 := Tryd.func250.trans (congrArg some (by kernel_rfl)), f267 := Tryd.func234.trans (congrArg some (by kernel_rfl)), f268 := Tryd.func193.trans (congrArg some (by kernel_rfl)), f314 := Tryd.func251.trans (congrArg some (by kernel_rfl)), t0 := Tryd.underlying0, a0 := Tryd.isAgg0, z0 := Tryd.sizeOf0, v0 := Tryd.zeroValue0, t3 := Tryd.underlying3, a3 := Tryd.isAgg3, z3 := Tryd.sizeOf3, v3 := Tryd.zeroValue3, t4 := Tryd.underlying4, a4 := Tryd.isAgg4, z4 := Tryd.sizeOf4, v4 := Tryd.zeroValue4, t5 := Tryd.underlying5, a5 := Tryd.isAgg5, z5 := Tryd.sizeOf5, v5 := Tryd.zeroValue5, t9 := Tryd.underlying9, a9 := Tryd.isAgg9, z9 := Tryd.sizeOf9, v9 := Tryd.zeroValue9, t21 := Tryd.underlying21, a21 := Tryd.isAgg21, z21 := Tryd.sizeOf21, v21 := Tryd.zeroValue21, t31 := Tryd.underlying22, a31 := Tryd.isAgg22, z31 := Tryd.sizeOf22, v31 := Tryd.zeroValue22, t46 := Tryd.underlying190, a46 := Tryd.isAgg190, z46 := Tryd.sizeOf190, v46 := Tryd.zeroValue190, t51 := Tryd.underlying235, a51 := Tryd.isAgg235, z51 := Tryd.sizeOf235, v51 := Tryd.zeroValue235, t105 := Tryd.underlying216, a105 := Tryd.isAgg216, z105 := Tryd.sizeOf216, v105 := Tryd.zeroValue216, t119 := Tryd.underlying244, a119 := Tryd.isAgg244, z119 := Tryd.sizeOf244, t138 := Tryd.underlying246, a138 := Tryd.isAgg246, z138 := Tryd.sizeOf246, v138 := Tryd.zeroValue246, t139 := Tryd.underlying247, a139 := Tryd.isAgg247, z139 := Tryd.sizeOf247, v139 := Tryd.zeroValue247, t146 := Tryd.underlying238, a146 := Tryd.isAgg238, z146 := Tryd.sizeOf238, v146 := Tryd.zeroValue238, g1 := by kernel_rfl, g3 := by kernel_rfl, g4 := by kernel_rfl }
theorem genSplit_one (s : ByteArray) (c : UInt8) (n : Int) (N : Nat) (w : World) (hs : s.size < 4294967281) (hn0 : n ≠ 0) (hn63 : n ≤ 9223372036854775807)
 (hN : (N : Int) = min (if n < 0 then (Go.Lib.countB s ⟨#[c]⟩ : Int) + 1 else n) ((s.size : Int) + 1)) :
 Calls Tryd.prog 148 #[.string s, .string ⟨#[c]⟩, .int .i64 0, .int .i64 n] w fun e w' =>
  e = .returned (.slice (some ⟨w.heap.size, 0, none⟩) (Go.Lib.splitB ⟨#[c]⟩ 0 (N - 1) s).length N) ∧ w' = w.alloc (.cells (Go.Lib.cellsOf (Go.Lib.splitB ⟨#[c]⟩ 0 (N - 1) s) N) 9) :=
 Any.strings_genSplit_core lays221 (by kernel_rfl) s ⟨#[c]⟩ 0 n N w hs (Nat.le_refl 1) (Nat.zero_le _)
  (fun x cc hx => (Any.strings_Index_one { lays221 with } x c _).mono fun e w' ⟨he, hw⟩ => ⟨by rw [he, ← Go.Lib.index_one]; try rfl, hw⟩)
  ((Any.strings_Count_one { lays221 with } s c w).mono fun e w' ⟨he, hw⟩ => ⟨by rw [he]; show Ending.returned (Value.int .i64 ((Go.Lib.countByte s.data.toList c : Nat) : Int)) = Ending.returned (Value.int .i64 ((Go.Lib.count s.data.toList [c] : Nat) : Int)); rw [Go.Lib.count_one]; try rfl, hw⟩) hn0 hn63 hN
theorem splitR (L : List ByteArray) (N : Nat) (w : World) (hl : L.length ≤ N) (hN : N ≤ 9223372036854775807) :
 Kd.R Kd.string 9 (w.alloc (.cells (Go.Lib.cellsOf L N) 9)) w.heap.size (fun _ => True) (.slice (some ⟨w.heap.size, 0, none⟩) L.length N) L :=
 Kd.R_of_own (enc := Value.string) ⟨by simp [encs], .inr ⟨w.heap.size, N, Go.Lib.cellsOf L N, rfl, Nat.le_refl _, heap_alloc_new w _, hl, by unfold maxLen; omega, by rw [Go.Lib.cellsOf_size hl, Nat.mul_one], by
  unfold Go.Lib.cellsOf encs
  rw [Nat.mul_one]
  simp⟩⟩ (fun _ _ => trivial)
theorem splitB_length (sep : ByteArray) (save : Nat) : ∀ (k : Nat) (s : ByteArray), (Go.Lib.splitB sep save k s).length ≤ k + 1
 | 0, _ => Nat.le_refl _
 | k + 1, s => by
  unfold Go.Lib.splitB
  split
  · simp
  · rw [List.length_cons]; have := splitB_length sep save k (s.extract ((Go.Lib.indexB s sep).toNat + sep.size) s.size); omega
theorem one_sep (x : ByteArray) (h : x.size = 1) : x = ⟨#[x[0]'(by omega)]⟩ := by
 cases x with
 | mk d =>
  have hd : d.size = 1 := h
  obtain ⟨l⟩ := d
  match l, hd with
  | [c], _ => rfl
def strings_Split.f (a0 : ByteArray) (a1 : ByteArray) : Option (List ByteArray) := if a0.size < 4294967281 ∧ a1.size = 1 then some (Go.Lib.splitB a1 0 (Go.Lib.countB a0 a1) a0) else none
set_option maxHeartbeats 8000000 in
set_option maxRecDepth 100000 in
theorem strings_Split.calls (a0 : ByteArray) (a1 : ByteArray) (r : List ByteArray) (w : World) (h : strings_Split.f a0 a1 = some r) :
 Calls Tryd.prog 85 #[.string a0, .string a1] w fun e w' => ∃ v0_ : Value, e = .returned (v0_) ∧ Kd.R Kd.string 9 w' w.heap.size (fun _ => True) v0_ r ∧ Below w.heap.size w w' := by
 unfold strings_Split.f at h
 split at h
 · rename_i hlim
   injection h with h
   subst h
   obtain ⟨hs, h1⟩ := hlim
   rw [one_sep a1 h1]
   generalize a1[0]'(by omega) = c
   clear h1 a1
   have hle := Go.Lib.countB_le ⟨#[c]⟩ (Nat.le_refl 1) a0.size a0 (Nat.le_refl _)
   have hcall := genSplit_one a0 c (-1) (Go.Lib.countB a0 ⟨#[c]⟩ + 1) w hs (by decide) (by decide) (by rw [if_pos (by decide)]; omega)
   rw [Nat.add_sub_cancel] at hcall
   have hR := splitR (Go.Lib.splitB ⟨#[c]⟩ 0 (Go.Lib.countB a0 ⟨#[c]⟩) a0) (Go.Lib.countB a0 ⟨#[c]⟩ + 1) w (splitB_length _ _ _ _) (by omega)
   have hb : Below w.heap.size w (w.alloc (.cells (Go.Lib.cellsOf (Go.Lib.splitB ⟨#[c]⟩ 0 (Go.Lib.countB a0 ⟨#[c]⟩) a0) (Go.Lib.countB a0 ⟨#[c]⟩ + 1)) 9)) := below_alloc (Below.refl _ _) _
   generalize Go.Lib.splitB ⟨#[c]⟩ 0 (Go.Lib.countB a0 ⟨#[c]⟩) a0 = L at hcall hR hb ⊢
   generalize Go.Lib.countB a0 ⟨#[c]⟩ + 1 = N at hcall hR hb ⊢
   generalize w.alloc (.cells (Go.Lib.cellsOf L N) 9) = w1 at hcall hR hb ⊢
   generalize w.heap.size = g at hcall hR hb ⊢
   generalize (⟨#[c]⟩ : ByteArray) = sp at hcall ⊢
   have HR := Aside0.mk hR
   have HB := Aside0.mk hb
   clear hR hb hle hs
   go_enter Tryd.func85, Tryd.ntmps85
   go_wp2_with (go_at_call 148; refine hcall.mono ?_; rintro e w' ⟨rfl, rfl⟩)
   go_ret
   exact ⟨_, by first | rfl | (simp; done), HR.out, HB.out⟩
 cases h

end Go.Proofs.YtmeflmlejcmckaaDoor.PS
