-- WRITTEN BY wip/gprint.py, a program of this session's over the kit's print, with contracts given by hand
import Derived.Test.YtmeflmlejcmckaaDoorPBx0
import Derived.Test.YtmeflmlejcmckaaDoorPBx17
namespace Go.Proofs.YtmeflmlejcmckaaDoor.PB
open Go.RowKit Go.Proofs.YtmeflmlejcmckaaDoorW.PrintWords Go.Proofs.YtmeflmlejcmckaaDoorW.PrintLast Go.Proofs.YtmeflmlejcmckaaDoorW.PrintMore
attribute [local go_sem] max2_int min2_int max_two min_two max_three min_three max_four min_four   -- for this text's walks alone
set_option linter.unusedVariables false
set_option linter.unusedSimpArgs false

attribute [local go_sem] isSome_setCell
/-! ### impl_Tuning_frequency: function 125 -/
def impl_Tuning_frequency.f (a0_0 : ByteArray) (l0_1 : List (S52)) (a1 : Int) (a2 : Int) : Option (Int) := (impl_ToneOf.f a2).bind fun t326 => (if 0 ≤ t326 then (if t326 < (l0_1.length : Int) then ((impl_octaveOf.f a2).bind fun t329 => (if t329 = (-1) then ((impl_divRound.f (wrap64 (a1 * ((rd_T52 l0_1 t326).f0))) (wrap64 (((rd_T52 l0_1 t326).f1) * 2))).bind fun t330 => (some t330)) else (if t329 = 1 then ((impl_divRound.f (wrap64 ((wrap64 (a1 * ((rd_T52 l0_1 t326).f0))) * 2)) ((rd_T52 l0_1 t326).f1)).bind fun t331 => (some t331)) else ((impl_divRound.f (wrap64 (a1 * ((rd_T52 l0_1 t326).f0))) ((rd_T52 l0_1 t326).f1)).bind fun t332 => (some t332))))) else (none)) else (none))
def impl_Tuning_frequency.T1 : Bool × List (List Nat × List Nat) := (true, [([], []), ([0], [0]), ([], []), ([2], [2]), ([1, 3], [1, 3]), ([4], [4]), ([], []), ([6, 5, 3, 0, 1, 2, 3, 4, 5, 6], [5, 6])])
def impl_Tuning_frequency.B1 : List Nat := [0, 1, 0, 4, 15, 31, 0, 127]
theorem impl_Tuning_frequency.tab1 : rtab .any (opsOf Tryd.f125 1) = impl_Tuning_frequency.T1 := by kernel_rfl
theorem impl_Tuning_frequency.bits1 : waitsOk impl_Tuning_frequency.T1.2 impl_Tuning_frequency.B1 = true := by kernel_rfl
def impl_Tuning_frequency.T2 : Bool × List (List Nat × List Nat) := (true, [([], []), ([], []), ([1], [1]), ([0, 2], [0, 2]), ([], []), ([4], [4]), ([3, 0, 1, 2, 3], [3]), ([5, 6, 0, 1, 2, 3, 4, 5, 6], [5])])
def impl_Tuning_frequency.B2 : List Nat := [0, 0, 2, 7, 0, 16, 15, 127]
theorem impl_Tuning_frequency.tab2 : rtab .any (opsOf Tryd.f125 2) = impl_Tuning_frequency.T2 := by kernel_rfl
theorem impl_Tuning_frequency.bits2 : waitsOk impl_Tuning_frequency.T2.2 impl_Tuning_frequency.B2 = true := by kernel_rfl
set_option maxHeartbeats 8000000 in
set_option maxRecDepth 100000 in
theorem impl_Tuning_frequency.calls (a0_0 : ByteArray) (A0_1 : Option Addr) (c0_1 : Nat) (l0_1 : List (S52)) (a1 : Int) (a2 : Int) (r : Int) (w : World) (hr0_1 : Kd.C k52 w A0_1 l0_1.length l0_1) (hc0_1 : l0_1.length ≤ c0_1) (h : impl_Tuning_frequency.f a0_0 l0_1 a1 a2 = some r) :
 Calls Tryd.prog 125 #[.agg #[.string a0_0, .slice A0_1 l0_1.length c0_1], .int .i64 a1, .int .i64 a2] w fun e w' => e = .returned (.int .i64 r) ∧ Below w.heap.size w w' := by
 have hu71 := Tryd.underlying71
 have hu52 := Tryd.underlying52
 have HR0_1 := Aside0.mk hr0_1
 have HC0_1 := Aside0.mk hc0_1
 clear hr0_1 hc0_1
 have HB := Aside0.mk (Below.refl w.heap.size w)
 have H : ((impl_ToneOf.f a2).bind fun t326 => (if 0 ≤ t326 then (if t326 < (l0_1.length : Int) then ((impl_octaveOf.f a2).bind fun t329 => (if t329 = (-1) then ((impl_divRound.f (wrap64 (a1 * ((rd_T52 l0_1 t326).f0))) (wrap64 (((rd_T52 l0_1 t326).f1) * 2))).bind fun t330 => (some t330)) else (if t329 = 1 then ((impl_divRound.f (wrap64 ((wrap64 (a1 * ((rd_T52 l0_1 t326).f0))) * 2)) ((rd_T52 l0_1 t326).f1)).bind fun t331 => (some t331)) else ((impl_divRound.f (wrap64 (a1 * ((rd_T52 l0_1 t326).f0))) ((rd_T52 l0_1 t326).f1)).bind fun t332 => (some t332))))) else (none)) else (none))) = some r := h
 clear h
 replace H := Option.bind_eq_some_iff.mp H
 obtain ⟨t326, A40, H⟩ := H
 replace H : (if 0 ≤ t326 then (if t326 < (l0_1.length : Int) then ((impl_octaveOf.f a2).bind fun t329 => (if t329 = (-1) then ((impl_divRound.f (wrap64 (a1 * ((rd_T52 l0_1 t326).f0))) (wrap64 (((rd_T52 l0_1 t326).f1) * 2))).bind fun t330 => (some t330)) else (if t329 = 1 then ((impl_divRound.f (wrap64 ((wrap64 (a1 * ((rd_T52 l0_1 t326).f0))) * 2)) ((rd_T52 l0_1 t326).f1)).bind fun t331 => (some t331)) else ((impl_divRound.f (wrap64 (a1 * ((rd_T52 l0_1 t326).f0))) ((rd_T52 l0_1 t326).f1)).bind fun t332 => (some t332))))) else (none)) else (none)) = some r := H
 have A4 := Aside0.mk A40
 clear A40
 by_cases c5 : 0 ≤ t326
 · rw [if_pos c5] at H
   have c5b0 : decide (0 ≤ t326) = true := decide_eq_true c5
   clear c5
   by_cases c6 : t326 < (l0_1.length : Int)
   · rw [if_pos c6] at H
     have c6b0 : decide (t326 < (l0_1.length : Int)) = true := decide_eq_true c6
     clear c6
     replace H := Option.bind_eq_some_iff.mp H
     obtain ⟨t329, A70, H⟩ := H
     replace H : (if t329 = (-1) then ((impl_divRound.f (wrap64 (a1 * ((rd_T52 l0_1 t326).f0))) (wrap64 (((rd_T52 l0_1 t326).f1) * 2))).bind fun t330 => (some t330)) else (if t329 = 1 then ((impl_divRound.f (wrap64 ((wrap64 (a1 * ((rd_T52 l0_1 t326).f0))) * 2)) ((rd_T52 l0_1 t326).f1)).bind fun t331 => (some t331)) else ((impl_divRound.f (wrap64 (a1 * ((rd_T52 l0_1 t326).f0))) ((rd_T52 l0_1 t326).f1)).bind fun t332 => (some t332)))) = some r := H
     have A7 := Aside0.mk A70
     clear A70
     by_cases c8 : t329 = (-1)
     · rw [if_pos c8] at H
       have c8b0 : (t329 == (-1)) = true := beq_iff_eq.mpr c8
       have c8b1 : (t329 != (-1)) = false := bne_eq_false_iff_eq.mpr c8
       clear c8
       replace H := Option.bind_eq_some_iff.mp H
       obtain ⟨t330, A90, H⟩ := H
       replace H : (some t330) = some r := H
       have A9 := Aside0.mk A90
       clear A90
       obtain rfl := Option.some.inj H
       go_enter Tryd.func125, Tryd.ntmps125
       try go_wp2_with (first | ((with_reducible refine gate_dst (N := 3) rfl ?_); refine box_event ?hg (N := 3) ?hd (cs := #[.string a0_0, .slice A0_1 l0_1.length c0_1]) (t := 71) ?hr ?_; (case hd => rfl); (case hg => rfl); (case hr => first | (go_simp; done) | (go_simp; rfl)); intro gb325 hg w10 hbox hb; have BK325 := Aside0.mk (hbox); have GW325 := Aside0.mk ((by rw [hg]; exact (below_size (tH HB)) : w.heap.size ≤ gb325)); have GE325 := Aside0.mk ((by rw [hg]; exact (below_size (tH HB)) : w.heap.size ≤ gb325)); replace HB := Aside0.mk (below_step (tH HB) hb); clear hb hbox hg))
       replace BK325 := Aside0.mk (blk_drew BK325.out)
       replace HB := Aside0.mk (below_drew1 HB.out)
       have p327 : 0 ≤ (t326 : Int) := of_decide_eq_true tA
       have q327 : t326 < (l0_1.length : Int) := of_decide_eq_true tA
       obtain ⟨ad327, e327, hx327_0, hx327_1⟩ := at_T52 HR0_1.out t326 p327 q327
       have hw327_1 := hx327_1
       have hw327_0 := hx327_0
       cases e327
       replace hx327_0 := tW HB hx327_0
       replace hx327_1 := tW HB hx327_1
       replace p327 := eq_true p327
       replace q327 := eq_true q327
       refine start_ (n := 8) (S := fun w' => w'.cell? ⟨gb325, 0, none⟩ = some (.string a0_0) ∧ w'.cell? ⟨gb325, 1, none⟩ = some (.slice (some ad327) l0_1.length c0_1) ∧ w'.cell? (ad327.add ((t326).toNat * 2)) = some (.int .i64 ((rd_T52 l0_1 t326).f0)) ∧ w'.cell? ⟨(ad327.add ((t326).toNat * 2)).block, (ad327.add ((t326).toNat * 2)).off + 1, none⟩ = some (.int .i64 ((rd_T52 l0_1 t326).f1))) (ds := []) (bq [0, 8]) (by kernel_rfl) rfl rfl ⟨(blk_cell BK325.out 0).trans rfl, (blk_cell BK325.out 1).trans rfl, (tW HB hw327_0), (tW HB hw327_1)⟩ (fun hHeld => ?_); refine with_tabW impl_Tuning_frequency.tab1 impl_Tuning_frequency.bits1 (fun HT_ HW_ => ?_)
       generalize w10.drew = w11 at BK325 HB hx327_0 hx327_1 hHeld ⊢
       refine pV 0 (some 10) [1, 7] rfl rfl HT_ ?_
       refine pV 2 (some 12) [1, 1, 1, 5] rfl rfl HT_ ?_
       refine pT 1 (some 11) (bq [3, 5]) rfl rfl HT_ HW_ hHeld ?_
       refine join_ (σ := Nat) 1 (bq [7, 1]) (fun s_ => [(13, .int .i64 t326), (7, .pointer (some ⟨s_, 0, none⟩)), (14, .pointer (some (ad327.add ((t326).toNat * 2)))), (15, .agg #[.int .i64 ((rd_T52 l0_1 t326).f0), .int .i64 ((rd_T52 l0_1 t326).f1)])]) (fun s_ w' => (w'.cell? ⟨gb325, 0, none⟩ = some (.string a0_0) ∧ w'.cell? ⟨gb325, 1, none⟩ = some (.slice (some ad327) l0_1.length c0_1) ∧ w'.cell? (ad327.add ((t326).toNat * 2)) = some (.int .i64 ((rd_T52 l0_1 t326).f0)) ∧ w'.cell? ⟨(ad327.add ((t326).toNat * 2)).block, (ad327.add ((t326).toNat * 2)).off + 1, none⟩ = some (.int .i64 ((rd_T52 l0_1 t326).f1))) ∧ (w'.heap[gb325]? = some (.cells #[.string a0_0, .slice (some ad327) l0_1.length c0_1] 71 (0, 0))) ∧ (w'.heap[s_]? = some (.cells #[.int .i64 0, .int .i64 0] 52 (0, 0))) ∧ (w.heap.size ≤ s_) ∧ (w.heap.size ≤ s_) ∧ (gb325 ≠ s_) ∧ (s_ ≠ gb325) ∧ (Below w.heap.size w w')) ?_ ?_
       rotate_left
       · intro hCont
         refine two_ (i := 3) (j := 6) (Ni := some 13) (Nj := some 7) (bq [4, 4]) (bq [3, 3, 1, 1]) rfl rfl rfl rfl (two_of HT_.out (by kernel_rfl)) (by decide) (by decide) (fun K hK => ?_) (fun K hK => ?_)
         · skip
           refine gS_ Tryd.func176 #[.int .i64 a2] rfl rfl ?_
           with_reducible refine (impl_ToneOf.calls a2 t326 _ A4.out).mono ?_
           rintro e w' ⟨rfl, ⟨nd, rfl⟩⟩
           refine ⟨_, rfl, ?_⟩
           refine hK.out _ _ ⟨(blk_cell BK325.out 0).trans rfl, (blk_cell BK325.out 1).trans rfl, (tW HB hw327_0), (tW HB hw327_1)⟩ (fun hHeld => ?_)
           clear hK K
           refine nO (some 13) ?_
           refine pV 4 (some 14) [5, 3] rfl rfl HT_ ?_
           refine pT 5 (some 15) (bq [6, 2]) rfl rfl HT_ HW_ hHeld ?_
           refine pO 6 (some 7) (bq [7, 1]) rfl rfl HT_ (fun K hK => ?_)
           refine box_step ?hg (N := 7) ?hd (cs := #[.int .i64 0, .int .i64 0]) (t := 52) ?hr ?_; (case hd => rfl); (case hg => rfl); (case hr => first | (go_simp; done) | (go_simp; rfl))
           intro gb328 hg w12 hbox hb
           have BK328 := Aside0.mk (hbox)
           have GW328 := Aside0.mk ((by rw [hg]; exact (below_size (tH1 HB GE325.out)) : w.heap.size ≤ gb328))
           have GE328 := Aside0.mk ((by rw [hg]; exact (below_size (tH1 HB GE325.out)) : w.heap.size ≤ gb328))
           replace HB := Aside0.mk (below_step (tH1 HB GE325.out) hb)
           have NB325_328 := Aside0.mk ((by rw [hg]; exact Nat.ne_of_lt (blk_lt (g := gb325) (o := .cells #[.string a0_0, .slice (some ad327) l0_1.length c0_1] 71 (0, 0)) (tB BK325)) : gb325 ≠ gb328))
           have NB328_325 := Aside0.mk ((by rw [hg]; exact Nat.ne_of_gt (blk_lt (g := gb325) (o := .cells #[.string a0_0, .slice (some ad327) l0_1.length c0_1] 71 (0, 0)) (tB BK325)) : gb328 ≠ gb325))
           replace BK325 := tbB BK325 hb
           clear hb hbox hg
           refine hK.out _ _ ⟨(blk_cell BK325.out 0).trans rfl, (blk_cell BK325.out 1).trans rfl, (tW HB hw327_0), (tW HB hw327_1)⟩ (fun hHeld => ?_)
           clear hK K
           refine nO (some 7) ?_
           exact norm_ (by simp only [putAll, Act.put, sx0, sx1, sx2]) (hCont (gb328) _ ⟨hHeld, (tB BK325), (tB BK328), GW328.out, GE328.out, NB325_328.out, NB328_325.out, (tH2 HB GE325.out GE328.out)⟩)
         skip
         refine box_step ?hg (N := 7) ?hd (cs := #[.int .i64 0, .int .i64 0]) (t := 52) ?hr ?_; (case hd => rfl); (case hg => rfl); (case hr => first | (go_simp; done) | (go_simp; rfl))
         intro gb328 hg w12 hbox hb
         have BK328 := Aside0.mk (hbox)
         have GW328 := Aside0.mk ((by rw [hg]; exact (below_size (tH1 HB GE325.out)) : w.heap.size ≤ gb328))
         have GE328 := Aside0.mk ((by rw [hg]; exact (below_size (tH1 HB GE325.out)) : w.heap.size ≤ gb328))
         replace HB := Aside0.mk (below_step (tH1 HB GE325.out) hb)
         have NB325_328 := Aside0.mk ((by rw [hg]; exact Nat.ne_of_lt (blk_lt (g := gb325) (o := .cells #[.string a0_0, .slice (some ad327) l0_1.length c0_1] 71 (0, 0)) (tB BK325)) : gb325 ≠ gb328))
         have NB328_325 := Aside0.mk ((by rw [hg]; exact Nat.ne_of_gt (blk_lt (g := gb325) (o := .cells #[.string a0_0, .slice (some ad327) l0_1.length c0_1] 71 (0, 0)) (tB BK325)) : gb328 ≠ gb325))
         replace BK325 := tbB BK325 hb
         clear hb hbox hg
         refine hK.out _ _ ⟨(blk_cell BK325.out 0).trans rfl, (blk_cell BK325.out 1).trans rfl, (tW HB hw327_0), (tW HB hw327_1)⟩ (fun hHeld => ?_)
         clear hK K
         refine nO (some 7) ?_
         refine pO 3 (some 13) (bq [4, 2, 1, 1]) rfl rfl HT_ (fun K hK => ?_)
         refine gS_ Tryd.func176 #[.int .i64 a2] rfl rfl ?_
         with_reducible refine (impl_ToneOf.calls a2 t326 _ A4.out).mono ?_
         rintro e w' ⟨rfl, ⟨nd, rfl⟩⟩
         refine ⟨_, rfl, ?_⟩
         refine hK.out _ _ ⟨(blk_cell BK325.out 0).trans rfl, (blk_cell BK325.out 1).trans rfl, (tW HB hw327_0), (tW HB hw327_1)⟩ (fun hHeld => ?_)
         clear hK K
         refine nO (some 13) ?_
         refine pV 4 (some 14) [5, 1, 1, 1] rfl rfl HT_ ?_
         refine pT 5 (some 15) (bq [7, 1]) rfl rfl HT_ HW_ hHeld ?_
         exact norm_ (by simp only [putAll, Act.put, sx0, sx1, sx2]) (hCont (gb328) _ ⟨hHeld, (tB BK325), (tB BK328), GW328.out, GE328.out, NB325_328.out, NB328_325.out, (tH2 HB GE325.out GE328.out)⟩)
       rintro gb328 w13 ⟨hS_, h0_, h1_, h2_, h3_, h4_, h5_, h6_⟩
       have n0_ : Aside0 (w13.heap[gb325]? = some (.cells #[.string a0_0, .slice (some ad327) l0_1.length c0_1] 71 (0, 0))) := ⟨h0_⟩
       have n1_ : Aside0 (w13.heap[gb328]? = some (.cells #[.int .i64 0, .int .i64 0] 52 (0, 0))) := ⟨h1_⟩
       have n2_ : Aside0 (w.heap.size ≤ gb328) := ⟨h2_⟩
       have n3_ : Aside0 (w.heap.size ≤ gb328) := ⟨h3_⟩
       have n4_ : Aside0 (gb325 ≠ gb328) := ⟨h4_⟩
       have n5_ : Aside0 (gb328 ≠ gb325) := ⟨h5_⟩
       have n6_ : Aside0 (Below w.heap.size w w13) := ⟨h6_⟩
       clear BK325
       clear HB
       clear h0_ h1_ h2_ h3_ h4_ h5_ h6_
       have BK325 := n0_
       have BK328 := n1_
       have GW328 := n2_
       have GE328 := n3_
       have NB325_328 := n4_
       have NB328_325 := n5_
       have HB := n6_
       clear n0_ n1_ n2_ n3_ n4_ n5_ n6_
       have hHeld : w13.cell? ⟨gb325, 0, none⟩ = some (.string a0_0) ∧ w13.cell? ⟨gb325, 1, none⟩ = some (.slice (some ad327) l0_1.length c0_1) ∧ w13.cell? (ad327.add ((t326).toNat * 2)) = some (.int .i64 ((rd_T52 l0_1 t326).f0)) ∧ w13.cell? ⟨(ad327.add ((t326).toNat * 2)).block, (ad327.add ((t326).toNat * 2)).off + 1, none⟩ = some (.int .i64 ((rd_T52 l0_1 t326).f1)) := hS_
       refine norm_ (a' := ?_) ?_ ?_
       rotate_left
       · simp only [putAll, Act.put, sx0, sx1, sx2]
         rfl
       refine pO 7 none (bq [8]) rfl rfl HT_ (fun K hK => ?_)
       have hs14 : w13.cell? ⟨gb328, 0, none⟩ = some (.int .i64 0) := (blk_cell BK328.out 0).trans rfl
       have hfs14 := blk_frozen BK328.out 0
       have hns14_0 := NB325_328.out
       have hms14_0 := NB328_325.out
       have hs15 : w13.cell? ⟨gb328, 1, none⟩ = some (.int .i64 0) := (blk_cell BK328.out 1).trans rfl
       have hfs15 := blk_frozen BK328.out 1
       have hns15_0 := NB325_328.out
       have hms15_0 := NB328_325.out
       refine skip_ (w1 := ?_) (by rfl) rfl ?_ ?_
       rotate_left
       · go_simp
         rfl
       refine hK.out _ _ ⟨((cell_far (p := ⟨gb328, _, none⟩) NB325_328.out _).trans (((cell_far (p := ⟨gb328, _, none⟩) NB325_328.out _).trans (hHeld.1)))), ((cell_far (p := ⟨gb328, _, none⟩) NB325_328.out _).trans (((cell_far (p := ⟨gb328, _, none⟩) NB325_328.out _).trans (hHeld.2.1)))), ((cell_far (p := ⟨gb328, _, none⟩) (by first | exact Nat.ne_of_lt (Nat.lt_of_lt_of_le (by have := World.block_lt_of_cell? _ _ hw327_0; first | rwa [add_block] at this | exact this) GW328.out) | (rw [add_block]; exact Nat.ne_of_lt (Nat.lt_of_lt_of_le (by have := World.block_lt_of_cell? _ _ hw327_0; first | rwa [add_block] at this | exact this) GW328.out)) | (show (Addr.add _ _).block ≠ _; rw [add_block]; exact Nat.ne_of_lt (Nat.lt_of_lt_of_le (by have := World.block_lt_of_cell? _ _ hw327_0; first | rwa [add_block] at this | exact this) GW328.out)) | (dsimp only; exact Nat.ne_of_lt (Nat.lt_of_lt_of_le (by have := World.block_lt_of_cell? _ _ hw327_0; first | rwa [add_block] at this | exact this) GW328.out))) _).trans (((cell_far (p := ⟨gb328, _, none⟩) (by first | exact Nat.ne_of_lt (Nat.lt_of_lt_of_le (by have := World.block_lt_of_cell? _ _ hw327_0; first | rwa [add_block] at this | exact this) GW328.out) | (rw [add_block]; exact Nat.ne_of_lt (Nat.lt_of_lt_of_le (by have := World.block_lt_of_cell? _ _ hw327_0; first | rwa [add_block] at this | exact this) GW328.out)) | (show (Addr.add _ _).block ≠ _; rw [add_block]; exact Nat.ne_of_lt (Nat.lt_of_lt_of_le (by have := World.block_lt_of_cell? _ _ hw327_0; first | rwa [add_block] at this | exact this) GW328.out)) | (dsimp only; exact Nat.ne_of_lt (Nat.lt_of_lt_of_le (by have := World.block_lt_of_cell? _ _ hw327_0; first | rwa [add_block] at this | exact this) GW328.out))) _).trans (hHeld.2.2.1)))), ((cell_far (p := ⟨gb328, _, none⟩) (by first | exact Nat.ne_of_lt (Nat.lt_of_lt_of_le (by have := World.block_lt_of_cell? _ _ hw327_1; first | rwa [add_block] at this | exact this) GW328.out) | (rw [add_block]; exact Nat.ne_of_lt (Nat.lt_of_lt_of_le (by have := World.block_lt_of_cell? _ _ hw327_1; first | rwa [add_block] at this | exact this) GW328.out)) | (show (Addr.add _ _).block ≠ _; rw [add_block]; exact Nat.ne_of_lt (Nat.lt_of_lt_of_le (by have := World.block_lt_of_cell? _ _ hw327_1; first | rwa [add_block] at this | exact this) GW328.out)) | (dsimp only; exact Nat.ne_of_lt (Nat.lt_of_lt_of_le (by have := World.block_lt_of_cell? _ _ hw327_1; first | rwa [add_block] at this | exact this) GW328.out))) _).trans (((cell_far (p := ⟨gb328, _, none⟩) (by first | exact Nat.ne_of_lt (Nat.lt_of_lt_of_le (by have := World.block_lt_of_cell? _ _ hw327_1; first | rwa [add_block] at this | exact this) GW328.out) | (rw [add_block]; exact Nat.ne_of_lt (Nat.lt_of_lt_of_le (by have := World.block_lt_of_cell? _ _ hw327_1; first | rwa [add_block] at this | exact this) GW328.out)) | (show (Addr.add _ _).block ≠ _; rw [add_block]; exact Nat.ne_of_lt (Nat.lt_of_lt_of_le (by have := World.block_lt_of_cell? _ _ hw327_1; first | rwa [add_block] at this | exact this) GW328.out)) | (dsimp only; exact Nat.ne_of_lt (Nat.lt_of_lt_of_le (by have := World.block_lt_of_cell? _ _ hw327_1; first | rwa [add_block] at this | exact this) GW328.out))) _).trans (hHeld.2.2.2))))⟩ (fun hHeld => ?_)
       clear hK K
       refine done_ (done_of HT_.out (by kernel_rfl)) ?_
       try go_wp2
       have n0_ : Aside0 (((w13.setCell ⟨gb328, 0, none⟩ (.int .i64 ((rd_T52 l0_1 t326).f0))).setCell ⟨gb328, 1, none⟩ (.int .i64 ((rd_T52 l0_1 t326).f1))).heap[gb325]? = some (.cells #[.string a0_0, .slice (some ad327) l0_1.length c0_1] 71 (0, 0))) := ⟨by (with_reducible repeat (first | refine blk_drewN ?_ _ | refine blk_drew ?_ | refine blk_alloc ?_ _)); refine blk_far ?_ NB325_328.out _; (with_reducible repeat (first | refine blk_drewN ?_ _ | refine blk_drew ?_ | refine blk_alloc ?_ _)); refine blk_far ?_ NB325_328.out _; (with_reducible repeat (first | refine blk_drewN ?_ _ | refine blk_drew ?_ | refine blk_alloc ?_ _)); exact BK325.out⟩
       have n1_ : Aside0 (((w13.setCell ⟨gb328, 0, none⟩ (.int .i64 ((rd_T52 l0_1 t326).f0))).setCell ⟨gb328, 1, none⟩ (.int .i64 ((rd_T52 l0_1 t326).f1))).heap[gb328]? = some (.cells #[.int .i64 ((rd_T52 l0_1 t326).f0), .int .i64 ((rd_T52 l0_1 t326).f1)] 52 (0, 0))) := ⟨by (with_reducible repeat (first | refine blk_drewN ?_ _ | refine blk_drew ?_ | refine blk_alloc ?_ _)); refine blk_put (cs := #[.int .i64 ((rd_T52 l0_1 t326).f0), .int .i64 0]) ?_ 1 _ rfl; (with_reducible repeat (first | refine blk_drewN ?_ _ | refine blk_drew ?_ | refine blk_alloc ?_ _)); refine blk_put (cs := #[.int .i64 0, .int .i64 0]) ?_ 0 _ rfl; (with_reducible repeat (first | refine blk_drewN ?_ _ | refine blk_drew ?_ | refine blk_alloc ?_ _)); exact BK328.out⟩
       have n2_ : Aside0 (Below w.heap.size w ((w13.setCell ⟨gb328, 0, none⟩ (.int .i64 ((rd_T52 l0_1 t326).f0))).setCell ⟨gb328, 1, none⟩ (.int .i64 ((rd_T52 l0_1 t326).f1)))) := ⟨tH2 HB GE325.out GE328.out⟩
       (try clear BK325)
       (try clear BK328)
       (try clear HB)
       generalize ((w13.setCell ⟨gb328, 0, none⟩ (.int .i64 ((rd_T52 l0_1 t326).f0))).setCell ⟨gb328, 1, none⟩ (.int .i64 ((rd_T52 l0_1 t326).f1))) = w16 at n0_ n1_ n2_ ⊢
       have BK325 := n0_
       have BK328 := n1_
       have HB := n2_
       clear n0_ n1_ n2_
       replace BK325 := Aside0.mk (blk_drew BK325.out)
       replace BK328 := Aside0.mk (blk_drew BK328.out)
       replace HB := Aside0.mk (below_drew1 HB.out)
       refine start_ (n := 8) (S := fun w' => w'.cell? ⟨gb328, 0, none⟩ = some (.int .i64 ((rd_T52 l0_1 t326).f0)) ∧ w'.cell? ⟨gb328, 1, none⟩ = some (.int .i64 ((rd_T52 l0_1 t326).f1))) (ds := []) (bq [0, 8]) (by kernel_rfl) rfl rfl ⟨(blk_cell BK328.out 0).trans rfl, (blk_cell BK328.out 1).trans rfl⟩ (fun hHeld => ?_); refine with_tabW impl_Tuning_frequency.tab2 impl_Tuning_frequency.bits2 (fun HT_ HW_ => ?_)
       generalize w16.drew = w17 at BK325 BK328 HB hHeld ⊢
       refine pV 0 (some 16) [1, 7] rfl rfl HT_ ?_
       refine pV 1 (some 17) [2, 6] rfl rfl HT_ ?_
       refine pV 4 (some 20) [2, 2, 1, 3] rfl rfl HT_ ?_
       refine pT 2 (some 18) (bq [3, 1, 1, 3]) rfl rfl HT_ HW_ hHeld ?_
       refine pV 3 (some 19) [5, 3] rfl rfl HT_ ?_
       refine pV 6 (some 8) [5, 1, 1, 1] rfl rfl HT_ ?_
       refine pT 5 (some 21) (bq [7, 1]) rfl rfl HT_ HW_ hHeld ?_
       refine pV 7 (some 9) [8] rfl rfl HT_ ?_
       refine done_ (done_of HT_.out (by kernel_rfl)) ?_
       try go_wp2_with (first | ((with_reducible refine gate_callee (f := 177) rfl ?_); refine gL_ (some 23) rfl rfl Tryd.func177 #[.int .i64 a2] rfl ?_; (with_reducible refine (impl_octaveOf.calls a2 t329 _ A7.out).mono ?_); rintro e w' ⟨rfl, ⟨nd, rfl⟩⟩; refine ⟨_, rfl, ?_⟩) | ((with_reducible refine gate_callee (f := 143) rfl ?_); refine gL_ (some 34) rfl rfl Tryd.func143 #[.int .i64 (wrap64 (a1 * ((rd_T52 l0_1 t326).f0))), .int .i64 (wrap64 (((rd_T52 l0_1 t326).f1) * 2))] rfl ?_; (with_reducible refine (impl_divRound.calls (wrap64 (a1 * ((rd_T52 l0_1 t326).f0))) (wrap64 (((rd_T52 l0_1 t326).f1) * 2)) t330 _ A9.out).mono ?_); rintro e w18 ⟨rfl, hb⟩; refine ⟨_, rfl, ?_⟩; replace BK325 := tbB BK325 hb; replace BK328 := tbB BK328 hb; replace HB := Aside0.mk (below_step (tH2 HB GE325.out GE328.out) hb); (try clear hb); (try clear hb2); (try clear hk); (try clear hi)))
       go_ret
       exact ⟨tE, tH2 HB GE325.out GE328.out⟩
     rw [if_neg c8] at H
     have c8b0 : (t329 == (-1)) = false := beq_eq_false_iff_ne.mpr c8
     have c8b1 : (t329 != (-1)) = true := bne_iff_ne.mpr c8
     by_cases c19 : t329 = 1
     · rw [if_pos c19] at H
       have c19b0 : (t329 == 1) = true := beq_iff_eq.mpr c19
       have c19b1 : (t329 != 1) = false := bne_eq_false_iff_eq.mpr c19
       clear c19
       replace H := Option.bind_eq_some_iff.mp H
       obtain ⟨t331, A200, H⟩ := H
       replace H : (some t331) = some r := H
       have A20 := Aside0.mk A200
       clear A200
       obtain rfl := Option.some.inj H
       go_enter Tryd.func125, Tryd.ntmps125
       try go_wp2_with (first | ((with_reducible refine gate_dst (N := 3) rfl ?_); refine box_event ?hg (N := 3) ?hd (cs := #[.string a0_0, .slice A0_1 l0_1.length c0_1]) (t := 71) ?hr ?_; (case hd => rfl); (case hg => rfl); (case hr => first | (go_simp; done) | (go_simp; rfl)); intro gb325 hg w21 hbox hb; have BK325 := Aside0.mk (hbox); have GW325 := Aside0.mk ((by rw [hg]; exact (below_size (tH HB)) : w.heap.size ≤ gb325)); have GE325 := Aside0.mk ((by rw [hg]; exact (below_size (tH HB)) : w.heap.size ≤ gb325)); replace HB := Aside0.mk (below_step (tH HB) hb); clear hb hbox hg))
       replace BK325 := Aside0.mk (blk_drew BK325.out)
       replace HB := Aside0.mk (below_drew1 HB.out)
       have p327 : 0 ≤ (t326 : Int) := of_decide_eq_true tA
       have q327 : t326 < (l0_1.length : Int) := of_decide_eq_true tA
       obtain ⟨ad327, e327, hx327_0, hx327_1⟩ := at_T52 HR0_1.out t326 p327 q327
       have hw327_1 := hx327_1
       have hw327_0 := hx327_0
       cases e327
       replace hx327_0 := tW HB hx327_0
       replace hx327_1 := tW HB hx327_1
       replace p327 := eq_true p327
       replace q327 := eq_true q327
       refine start_ (n := 8) (S := fun w' => w'.cell? ⟨gb325, 0, none⟩ = some (.string a0_0) ∧ w'.cell? ⟨gb325, 1, none⟩ = some (.slice (some ad327) l0_1.length c0_1) ∧ w'.cell? (ad327.add ((t326).toNat * 2)) = some (.int .i64 ((rd_T52 l0_1 t326).f0)) ∧ w'.cell? ⟨(ad327.add ((t326).toNat * 2)).block, (ad327.add ((t326).toNat * 2)).off + 1, none⟩ = some (.int .i64 ((rd_T52 l0_1 t326).f1))) (ds := []) (bq [0, 8]) (by kernel_rfl) rfl rfl ⟨(blk_cell BK325.out 0).trans rfl, (blk_cell BK325.out 1).trans rfl, (tW HB hw327_0), (tW HB hw327_1)⟩ (fun hHeld => ?_); refine with_tabW impl_Tuning_frequency.tab1 impl_Tuning_frequency.bits1 (fun HT_ HW_ => ?_)
       generalize w21.drew = w22 at BK325 HB hx327_0 hx327_1 hHeld ⊢
       refine pV 0 (some 10) [1, 7] rfl rfl HT_ ?_
       refine pV 2 (some 12) [1, 1, 1, 5] rfl rfl HT_ ?_
       refine pT 1 (some 11) (bq [3, 5]) rfl rfl HT_ HW_ hHeld ?_
       refine join_ (σ := Nat) 1 (bq [7, 1]) (fun s_ => [(13, .int .i64 t326), (7, .pointer (some ⟨s_, 0, none⟩)), (14, .pointer (some (ad327.add ((t326).toNat * 2)))), (15, .agg #[.int .i64 ((rd_T52 l0_1 t326).f0), .int .i64 ((rd_T52 l0_1 t326).f1)])]) (fun s_ w' => (w'.cell? ⟨gb325, 0, none⟩ = some (.string a0_0) ∧ w'.cell? ⟨gb325, 1, none⟩ = some (.slice (some ad327) l0_1.length c0_1) ∧ w'.cell? (ad327.add ((t326).toNat * 2)) = some (.int .i64 ((rd_T52 l0_1 t326).f0)) ∧ w'.cell? ⟨(ad327.add ((t326).toNat * 2)).block, (ad327.add ((t326).toNat * 2)).off + 1, none⟩ = some (.int .i64 ((rd_T52 l0_1 t326).f1))) ∧ (w'.heap[gb325]? = some (.cells #[.string a0_0, .slice (some ad327) l0_1.length c0_1] 71 (0, 0))) ∧ (w'.heap[s_]? = some (.cells #[.int .i64 0, .int .i64 0] 52 (0, 0))) ∧ (w.heap.size ≤ s_) ∧ (w.heap.size ≤ s_) ∧ (gb325 ≠ s_) ∧ (s_ ≠ gb325) ∧ (Below w.heap.size w w')) ?_ ?_
       rotate_left
       · intro hCont
         refine two_ (i := 3) (j := 6) (Ni := some 13) (Nj := some 7) (bq [4, 4]) (bq [3, 3, 1, 1]) rfl rfl rfl rfl (two_of HT_.out (by kernel_rfl)) (by decide) (by decide) (fun K hK => ?_) (fun K hK => ?_)
         · skip
           refine gS_ Tryd.func176 #[.int .i64 a2] rfl rfl ?_
           with_reducible refine (impl_ToneOf.calls a2 t326 _ A4.out).mono ?_
           rintro e w' ⟨rfl, ⟨nd, rfl⟩⟩
           refine ⟨_, rfl, ?_⟩
           refine hK.out _ _ ⟨(blk_cell BK325.out 0).trans rfl, (blk_cell BK325.out 1).trans rfl, (tW HB hw327_0), (tW HB hw327_1)⟩ (fun hHeld => ?_)
           clear hK K
           refine nO (some 13) ?_
           refine pV 4 (some 14) [5, 3] rfl rfl HT_ ?_
           refine pT 5 (some 15) (bq [6, 2]) rfl rfl HT_ HW_ hHeld ?_
           refine pO 6 (some 7) (bq [7, 1]) rfl rfl HT_ (fun K hK => ?_)
           refine box_step ?hg (N := 7) ?hd (cs := #[.int .i64 0, .int .i64 0]) (t := 52) ?hr ?_; (case hd => rfl); (case hg => rfl); (case hr => first | (go_simp; done) | (go_simp; rfl))
           intro gb328 hg w23 hbox hb
           have BK328 := Aside0.mk (hbox)
           have GW328 := Aside0.mk ((by rw [hg]; exact (below_size (tH1 HB GE325.out)) : w.heap.size ≤ gb328))
           have GE328 := Aside0.mk ((by rw [hg]; exact (below_size (tH1 HB GE325.out)) : w.heap.size ≤ gb328))
           replace HB := Aside0.mk (below_step (tH1 HB GE325.out) hb)
           have NB325_328 := Aside0.mk ((by rw [hg]; exact Nat.ne_of_lt (blk_lt (g := gb325) (o := .cells #[.string a0_0, .slice (some ad327) l0_1.length c0_1] 71 (0, 0)) (tB BK325)) : gb325 ≠ gb328))
           have NB328_325 := Aside0.mk ((by rw [hg]; exact Nat.ne_of_gt (blk_lt (g := gb325) (o := .cells #[.string a0_0, .slice (some ad327) l0_1.length c0_1] 71 (0, 0)) (tB BK325)) : gb328 ≠ gb325))
           replace BK325 := tbB BK325 hb
           clear hb hbox hg
           refine hK.out _ _ ⟨(blk_cell BK325.out 0).trans rfl, (blk_cell BK325.out 1).trans rfl, (tW HB hw327_0), (tW HB hw327_1)⟩ (fun hHeld => ?_)
           clear hK K
           refine nO (some 7) ?_
           exact norm_ (by simp only [putAll, Act.put, sx0, sx1, sx2]) (hCont (gb328) _ ⟨hHeld, (tB BK325), (tB BK328), GW328.out, GE328.out, NB325_328.out, NB328_325.out, (tH2 HB GE325.out GE328.out)⟩)
         skip
         refine box_step ?hg (N := 7) ?hd (cs := #[.int .i64 0, .int .i64 0]) (t := 52) ?hr ?_; (case hd => rfl); (case hg => rfl); (case hr => first | (go_simp; done) | (go_simp; rfl))
         intro gb328 hg w23 hbox hb
         have BK328 := Aside0.mk (hbox)
         have GW328 := Aside0.mk ((by rw [hg]; exact (below_size (tH1 HB GE325.out)) : w.heap.size ≤ gb328))
         have GE328 := Aside0.mk ((by rw [hg]; exact (below_size (tH1 HB GE325.out)) : w.heap.size ≤ gb328))
         replace HB := Aside0.mk (below_step (tH1 HB GE325.out) hb)
         have NB325_328 := Aside0.mk ((by rw [hg]; exact Nat.ne_of_lt (blk_lt (g := gb325) (o := .cells #[.string a0_0, .slice (some ad327) l0_1.length c0_1] 71 (0, 0)) (tB BK325)) : gb325 ≠ gb328))
         have NB328_325 := Aside0.mk ((by rw [hg]; exact Nat.ne_of_gt (blk_lt (g := gb325) (o := .cells #[.string a0_0, .slice (some ad327) l0_1.length c0_1] 71 (0, 0)) (tB BK325)) : gb328 ≠ gb325))
         replace BK325 := tbB BK325 hb
         clear hb hbox hg
         refine hK.out _ _ ⟨(blk_cell BK325.out 0).trans rfl, (blk_cell BK325.out 1).trans rfl, (tW HB hw327_0), (tW HB hw327_1)⟩ (fun hHeld => ?_)
         clear hK K
         refine nO (some 7) ?_
         refine pO 3 (some 13) (bq [4, 2, 1, 1]) rfl rfl HT_ (fun K hK => ?_)
         refine gS_ Tryd.func176 #[.int .i64 a2] rfl rfl ?_
         with_reducible refine (impl_ToneOf.calls a2 t326 _ A4.out).mono ?_
         rintro e w' ⟨rfl, ⟨nd, rfl⟩⟩
         refine ⟨_, rfl, ?_⟩
         refine hK.out _ _ ⟨(blk_cell BK325.out 0).trans rfl, (blk_cell BK325.out 1).trans rfl, (tW HB hw327_0), (tW HB hw327_1)⟩ (fun hHeld => ?_)
         clear hK K
         refine nO (some 13) ?_
         refine pV 4 (some 14) [5, 1, 1, 1] rfl rfl HT_ ?_
         refine pT 5 (some 15) (bq [7, 1]) rfl rfl HT_ HW_ hHeld ?_
         exact norm_ (by simp only [putAll, Act.put, sx0, sx1, sx2]) (hCont (gb328) _ ⟨hHeld, (tB BK325), (tB BK328), GW328.out, GE328.out, NB325_328.out, NB328_325.out, (tH2 HB GE325.out GE328.out)⟩)
       rintro gb328 w24 ⟨hS_, h0_, h1_, h2_, h3_, h4_, h5_, h6_⟩
       have n0_ : Aside0 (w24.heap[gb325]? = some (.cells #[.string a0_0, .slice (some ad327) l0_1.length c0_1] 71 (0, 0))) := ⟨h0_⟩
       have n1_ : Aside0 (w24.heap[gb328]? = some (.cells #[.int .i64 0, .int .i64 0] 52 (0, 0))) := ⟨h1_⟩
       have n2_ : Aside0 (w.heap.size ≤ gb328) := ⟨h2_⟩
       have n3_ : Aside0 (w.heap.size ≤ gb328) := ⟨h3_⟩
       have n4_ : Aside0 (gb325 ≠ gb328) := ⟨h4_⟩
       have n5_ : Aside0 (gb328 ≠ gb325) := ⟨h5_⟩
       have n6_ : Aside0 (Below w.heap.size w w24) := ⟨h6_⟩
       clear BK325
       clear HB
       clear h0_ h1_ h2_ h3_ h4_ h5_ h6_
       have BK325 := n0_
       have BK328 := n1_
       have GW328 := n2_
       have GE328 := n3_
       have NB325_328 := n4_
       have NB328_325 := n5_
       have HB := n6_
       clear n0_ n1_ n2_ n3_ n4_ n5_ n6_
       have hHeld : w24.cell? ⟨gb325, 0, none⟩ = some (.string a0_0) ∧ w24.cell? ⟨gb325, 1, none⟩ = some (.slice (some ad327) l0_1.length c0_1) ∧ w24.cell? (ad327.add ((t326).toNat * 2)) = some (.int .i64 ((rd_T52 l0_1 t326).f0)) ∧ w24.cell? ⟨(ad327.add ((t326).toNat * 2)).block, (ad327.add ((t326).toNat * 2)).off + 1, none⟩ = some (.int .i64 ((rd_T52 l0_1 t326).f1)) := hS_
       refine norm_ (a' := ?_) ?_ ?_
       rotate_left
       · simp only [putAll, Act.put, sx0, sx1, sx2]
         rfl
       refine pO 7 none (bq [8]) rfl rfl HT_ (fun K hK => ?_)
       have hs25 : w24.cell? ⟨gb328, 0, none⟩ = some (.int .i64 0) := (blk_cell BK328.out 0).trans rfl
       have hfs25 := blk_frozen BK328.out 0
       have hns25_0 := NB325_328.out
       have hms25_0 := NB328_325.out
       have hs26 : w24.cell? ⟨gb328, 1, none⟩ = some (.int .i64 0) := (blk_cell BK328.out 1).trans rfl
       have hfs26 := blk_frozen BK328.out 1
       have hns26_0 := NB325_328.out
       have hms26_0 := NB328_325.out
       refine skip_ (w1 := ?_) (by rfl) rfl ?_ ?_
       rotate_left
       · go_simp
         rfl
       refine hK.out _ _ ⟨((cell_far (p := ⟨gb328, _, none⟩) NB325_328.out _).trans (((cell_far (p := ⟨gb328, _, none⟩) NB325_328.out _).trans (hHeld.1)))), ((cell_far (p := ⟨gb328, _, none⟩) NB325_328.out _).trans (((cell_far (p := ⟨gb328, _, none⟩) NB325_328.out _).trans (hHeld.2.1)))), ((cell_far (p := ⟨gb328, _, none⟩) (by first | exact Nat.ne_of_lt (Nat.lt_of_lt_of_le (by have := World.block_lt_of_cell? _ _ hw327_0; first | rwa [add_block] at this | exact this) GW328.out) | (rw [add_block]; exact Nat.ne_of_lt (Nat.lt_of_lt_of_le (by have := World.block_lt_of_cell? _ _ hw327_0; first | rwa [add_block] at this | exact this) GW328.out)) | (show (Addr.add _ _).block ≠ _; rw [add_block]; exact Nat.ne_of_lt (Nat.lt_of_lt_of_le (by have := World.block_lt_of_cell? _ _ hw327_0; first | rwa [add_block] at this | exact this) GW328.out)) | (dsimp only; exact Nat.ne_of_lt (Nat.lt_of_lt_of_le (by have := World.block_lt_of_cell? _ _ hw327_0; first | rwa [add_block] at this | exact this) GW328.out))) _).trans (((cell_far (p := ⟨gb328, _, none⟩) (by first | exact Nat.ne_of_lt (Nat.lt_of_lt_of_le (by have := World.block_lt_of_cell? _ _ hw327_0; first | rwa [add_block] at this | exact this) GW328.out) | (rw [add_block]; exact Nat.ne_of_lt (Nat.lt_of_lt_of_le (by have := World.block_lt_of_cell? _ _ hw327_0; first | rwa [add_block] at this | exact this) GW328.out)) | (show (Addr.add _ _).block ≠ _; rw [add_block]; exact Nat.ne_of_lt (Nat.lt_of_lt_of_le (by have := World.block_lt_of_cell? _ _ hw327_0; first | rwa [add_block] at this | exact this) GW328.out)) | (dsimp only; exact Nat.ne_of_lt (Nat.lt_of_lt_of_le (by have := World.block_lt_of_cell? _ _ hw327_0; first | rwa [add_block] at this | exact this) GW328.out))) _).trans (hHeld.2.2.1)))), ((cell_far (p := ⟨gb328, _, none⟩) (by first | exact Nat.ne_of_lt (Nat.lt_of_lt_of_le (by have := World.block_lt_of_cell? _ _ hw327_1; first | rwa [add_block] at this | exact this) GW328.out) | (rw [add_block]; exact Nat.ne_of_lt (Nat.lt_of_lt_of_le (by have := World.block_lt_of_cell? _ _ hw327_1; first | rwa [add_block] at this | exact this) GW328.out)) | (show (Addr.add _ _).block ≠ _; rw [add_block]; exact Nat.ne_of_lt (Nat.lt_of_lt_of_le (by have := World.block_lt_of_cell? _ _ hw327_1; first | rwa [add_block] at this | exact this) GW328.out)) | (dsimp only; exact Nat.ne_of_lt (Nat.lt_of_lt_of_le (by have := World.block_lt_of_cell? _ _ hw327_1; first | rwa [add_block] at this | exact this) GW328.out))) _).trans (((cell_far (p := ⟨gb328, _, none⟩) (by first | exact Nat.ne_of_lt (Nat.lt_of_lt_of_le (by have := World.block_lt_of_cell? _ _ hw327_1; first | rwa [add_block] at this | exact this) GW328.out) | (rw [add_block]; exact Nat.ne_of_lt (Nat.lt_of_lt_of_le (by have := World.block_lt_of_cell? _ _ hw327_1; first | rwa [add_block] at this | exact this) GW328.out)) | (show (Addr.add _ _).block ≠ _; rw [add_block]; exact Nat.ne_of_lt (Nat.lt_of_lt_of_le (by have := World.block_lt_of_cell? _ _ hw327_1; first | rwa [add_block] at this | exact this) GW328.out)) | (dsimp only; exact Nat.ne_of_lt (Nat.lt_of_lt_of_le (by have := World.block_lt_of_cell? _ _ hw327_1; first | rwa [add_block] at this | exact this) GW328.out))) _).trans (hHeld.2.2.2))))⟩ (fun hHeld => ?_)
       clear hK K
       refine done_ (done_of HT_.out (by kernel_rfl)) ?_
       try go_wp2
       have n0_ : Aside0 (((w24.setCell ⟨gb328, 0, none⟩ (.int .i64 ((rd_T52 l0_1 t326).f0))).setCell ⟨gb328, 1, none⟩ (.int .i64 ((rd_T52 l0_1 t326).f1))).heap[gb325]? = some (.cells #[.string a0_0, .slice (some ad327) l0_1.length c0_1] 71 (0, 0))) := ⟨by (with_reducible repeat (first | refine blk_drewN ?_ _ | refine blk_drew ?_ | refine blk_alloc ?_ _)); refine blk_far ?_ NB325_328.out _; (with_reducible repeat (first | refine blk_drewN ?_ _ | refine blk_drew ?_ | refine blk_alloc ?_ _)); refine blk_far ?_ NB325_328.out _; (with_reducible repeat (first | refine blk_drewN ?_ _ | refine blk_drew ?_ | refine blk_alloc ?_ _)); exact BK325.out⟩
       have n1_ : Aside0 (((w24.setCell ⟨gb328, 0, none⟩ (.int .i64 ((rd_T52 l0_1 t326).f0))).setCell ⟨gb328, 1, none⟩ (.int .i64 ((rd_T52 l0_1 t326).f1))).heap[gb328]? = some (.cells #[.int .i64 ((rd_T52 l0_1 t326).f0), .int .i64 ((rd_T52 l0_1 t326).f1)] 52 (0, 0))) := ⟨by (with_reducible repeat (first | refine blk_drewN ?_ _ | refine blk_drew ?_ | refine blk_alloc ?_ _)); refine blk_put (cs := #[.int .i64 ((rd_T52 l0_1 t326).f0), .int .i64 0]) ?_ 1 _ rfl; (with_reducible repeat (first | refine blk_drewN ?_ _ | refine blk_drew ?_ | refine blk_alloc ?_ _)); refine blk_put (cs := #[.int .i64 0, .int .i64 0]) ?_ 0 _ rfl; (with_reducible repeat (first | refine blk_drewN ?_ _ | refine blk_drew ?_ | refine blk_alloc ?_ _)); exact BK328.out⟩
       have n2_ : Aside0 (Below w.heap.size w ((w24.setCell ⟨gb328, 0, none⟩ (.int .i64 ((rd_T52 l0_1 t326).f0))).setCell ⟨gb328, 1, none⟩ (.int .i64 ((rd_T52 l0_1 t326).f1)))) := ⟨tH2 HB GE325.out GE328.out⟩
       (try clear BK325)
       (try clear BK328)
       (try clear HB)
       generalize ((w24.setCell ⟨gb328, 0, none⟩ (.int .i64 ((rd_T52 l0_1 t326).f0))).setCell ⟨gb328, 1, none⟩ (.int .i64 ((rd_T52 l0_1 t326).f1))) = w27 at n0_ n1_ n2_ ⊢
       have BK325 := n0_
       have BK328 := n1_
       have HB := n2_
       clear n0_ n1_ n2_
       replace BK325 := Aside0.mk (blk_drew BK325.out)
       replace BK328 := Aside0.mk (blk_drew BK328.out)
       replace HB := Aside0.mk (below_drew1 HB.out)
       refine start_ (n := 8) (S := fun w' => w'.cell? ⟨gb328, 0, none⟩ = some (.int .i64 ((rd_T52 l0_1 t326).f0)) ∧ w'.cell? ⟨gb328, 1, none⟩ = some (.int .i64 ((rd_T52 l0_1 t326).f1))) (ds := []) (bq [0, 8]) (by kernel_rfl) rfl rfl ⟨(blk_cell BK328.out 0).trans rfl, (blk_cell BK328.out 1).trans rfl⟩ (fun hHeld => ?_); refine with_tabW impl_Tuning_frequency.tab2 impl_Tuning_frequency.bits2 (fun HT_ HW_ => ?_)
       generalize w27.drew = w28 at BK325 BK328 HB hHeld ⊢
       refine pV 0 (some 16) [1, 7] rfl rfl HT_ ?_
       refine pV 1 (some 17) [2, 6] rfl rfl HT_ ?_
       refine pV 4 (some 20) [2, 2, 1, 3] rfl rfl HT_ ?_
       refine pT 2 (some 18) (bq [3, 1, 1, 3]) rfl rfl HT_ HW_ hHeld ?_
       refine pV 3 (some 19) [5, 3] rfl rfl HT_ ?_
       refine pV 6 (some 8) [5, 1, 1, 1] rfl rfl HT_ ?_
       refine pT 5 (some 21) (bq [7, 1]) rfl rfl HT_ HW_ hHeld ?_
       refine pV 7 (some 9) [8] rfl rfl HT_ ?_
       refine done_ (done_of HT_.out (by kernel_rfl)) ?_
       try go_wp2_with (first | ((with_reducible refine gate_callee (f := 177) rfl ?_); refine gL_ (some 23) rfl rfl Tryd.func177 #[.int .i64 a2] rfl ?_; (with_reducible refine (impl_octaveOf.calls a2 t329 _ A7.out).mono ?_); rintro e w' ⟨rfl, ⟨nd, rfl⟩⟩; refine ⟨_, rfl, ?_⟩) | ((with_reducible refine gate_callee (f := 143) rfl ?_); refine gL_ (some 34) rfl rfl Tryd.func143 #[.int .i64 (wrap64 ((wrap64 (a1 * ((rd_T52 l0_1 t326).f0))) * 2)), .int .i64 ((rd_T52 l0_1 t326).f1)] rfl ?_; (with_reducible refine (impl_divRound.calls (wrap64 ((wrap64 (a1 * ((rd_T52 l0_1 t326).f0))) * 2)) ((rd_T52 l0_1 t326).f1) t331 _ A20.out).mono ?_); rintro e w29 ⟨rfl, hb⟩; refine ⟨_, rfl, ?_⟩; replace BK325 := tbB BK325 hb; replace BK328 := tbB BK328 hb; replace HB := Aside0.mk (below_step (tH2 HB GE325.out GE328.out) hb); (try clear hb); (try clear hb2); (try clear hk); (try clear hi)))
       go_ret
       exact ⟨tE, tH2 HB GE325.out GE328.out⟩
     rw [if_neg c19] at H
     have c19b0 : (t329 == 1) = false := beq_eq_false_iff_ne.mpr c19
     have c19b1 : (t329 != 1) = true := bne_iff_ne.mpr c19
     replace H := Option.bind_eq_some_iff.mp H
     obtain ⟨t332, A300, H⟩ := H
     replace H : (some t332) = some r := H
     have A30 := Aside0.mk A300
     clear A300
     obtain rfl := Option.some.inj H
     go_enter Tryd.func125, Tryd.ntmps125
     try go_wp2_with (first | ((with_reducible refine gate_dst (N := 3) rfl ?_); refine box_event ?hg (N := 3) ?hd (cs := #[.string a0_0, .slice A0_1 l0_1.length c0_1]) (t := 71) ?hr ?_; (case hd => rfl); (case hg => rfl); (case hr => first | (go_simp; done) | (go_simp; rfl)); intro gb325 hg w31 hbox hb; have BK325 := Aside0.mk (hbox); have GW325 := Aside0.mk ((by rw [hg]; exact (below_size (tH HB)) : w.heap.size ≤ gb325)); have GE325 := Aside0.mk ((by rw [hg]; exact (below_size (tH HB)) : w.heap.size ≤ gb325)); replace HB := Aside0.mk (below_step (tH HB) hb); clear hb hbox hg))
     replace BK325 := Aside0.mk (blk_drew BK325.out)
     replace HB := Aside0.mk (below_drew1 HB.out)
     have p327 : 0 ≤ (t326 : Int) := of_decide_eq_true tA
     have q327 : t326 < (l0_1.length : Int) := of_decide_eq_true tA
     obtain ⟨ad327, e327, hx327_0, hx327_1⟩ := at_T52 HR0_1.out t326 p327 q327
     have hw327_1 := hx327_1
     have hw327_0 := hx327_0
     cases e327
     replace hx327_0 := tW HB hx327_0
     replace hx327_1 := tW HB hx327_1
     replace p327 := eq_true p327
     replace q327 := eq_true q327
     refine start_ (n := 8) (S := fun w' => w'.cell? ⟨gb325, 0, none⟩ = some (.string a0_0) ∧ w'.cell? ⟨gb325, 1, none⟩ = some (.slice (some ad327) l0_1.length c0_1) ∧ w'.cell? (ad327.add ((t326).toNat * 2)) = some (.int .i64 ((rd_T52 l0_1 t326).f0)) ∧ w'.cell? ⟨(ad327.add ((t326).toNat * 2)).block, (ad327.add ((t326).toNat * 2)).off + 1, none⟩ = some (.int .i64 ((rd_T52 l0_1 t326).f1))) (ds := []) (bq [0, 8]) (by kernel_rfl) rfl rfl ⟨(blk_cell BK325.out 0).trans rfl, (blk_cell BK325.out 1).trans rfl, (tW HB hw327_0), (tW HB hw327_1)⟩ (fun hHeld => ?_); refine with_tabW impl_Tuning_frequency.tab1 impl_Tuning_frequency.bits1 (fun HT_ HW_ => ?_)
     generalize w31.drew = w32 at BK325 HB hx327_0 hx327_1 hHeld ⊢
     refine pV 0 (some 10) [1, 7] rfl rfl HT_ ?_
     refine pV 2 (some 12) [1, 1, 1, 5] rfl rfl HT_ ?_
     refine pT 1 (some 11) (bq [3, 5]) rfl rfl HT_ HW_ hHeld ?_
     refine join_ (σ := Nat) 1 (bq [7, 1]) (fun s_ => [(13, .int .i64 t326), (7, .pointer (some ⟨s_, 0, none⟩)), (14, .pointer (some (ad327.add ((t326).toNat * 2)))), (15, .agg #[.int .i64 ((rd_T52 l0_1 t326).f0), .int .i64 ((rd_T52 l0_1 t326).f1)])]) (fun s_ w' => (w'.cell? ⟨gb325, 0, none⟩ = some (.string a0_0) ∧ w'.cell? ⟨gb325, 1, none⟩ = some (.slice (some ad327) l0_1.length c0_1) ∧ w'.cell? (ad327.add ((t326).toNat * 2)) = some (.int .i64 ((rd_T52 l0_1 t326).f0)) ∧ w'.cell? ⟨(ad327.add ((t326).toNat * 2)).block, (ad327.add ((t326).toNat * 2)).off + 1, none⟩ = some (.int .i64 ((rd_T52 l0_1 t326).f1))) ∧ (w'.heap[gb325]? = some (.cells #[.string a0_0, .slice (some ad327) l0_1.length c0_1] 71 (0, 0))) ∧ (w'.heap[s_]? = some (.cells #[.int .i64 0, .int .i64 0] 52 (0, 0))) ∧ (w.heap.size ≤ s_) ∧ (w.heap.size ≤ s_) ∧ (gb325 ≠ s_) ∧ (s_ ≠ gb325) ∧ (Below w.heap.size w w')) ?_ ?_
     rotate_left
     · intro hCont
       refine two_ (i := 3) (j := 6) (Ni := some 13) (Nj := some 7) (bq [4, 4]) (bq [3, 3, 1, 1]) rfl rfl rfl rfl (two_of HT_.out (by kernel_rfl)) (by decide) (by decide) (fun K hK => ?_) (fun K hK => ?_)
       · skip
         refine gS_ Tryd.func176 #[.int .i64 a2] rfl rfl ?_
         with_reducible refine (impl_ToneOf.calls a2 t326 _ A4.out).mono ?_
         rintro e w' ⟨rfl, ⟨nd, rfl⟩⟩
         refine ⟨_, rfl, ?_⟩
         refine hK.out _ _ ⟨(blk_cell BK325.out 0).trans rfl, (blk_cell BK325.out 1).trans rfl, (tW HB hw327_0), (tW HB hw327_1)⟩ (fun hHeld => ?_)
         clear hK K
         refine nO (some 13) ?_
         refine pV 4 (some 14) [5, 3] rfl rfl HT_ ?_
         refine pT 5 (some 15) (bq [6, 2]) rfl rfl HT_ HW_ hHeld ?_
         refine pO 6 (some 7) (bq [7, 1]) rfl rfl HT_ (fun K hK => ?_)
         refine box_step ?hg (N := 7) ?hd (cs := #[.int .i64 0, .int .i64 0]) (t := 52) ?hr ?_; (case hd => rfl); (case hg => rfl); (case hr => first | (go_simp; done) | (go_simp; rfl))
         intro gb328 hg w33 hbox hb
         have BK328 := Aside0.mk (hbox)
         have GW328 := Aside0.mk ((by rw [hg]; exact (below_size (tH1 HB GE325.out)) : w.heap.size ≤ gb328))
         have GE328 := Aside0.mk ((by rw [hg]; exact (below_size (tH1 HB GE325.out)) : w.heap.size ≤ gb328))
         replace HB := Aside0.mk (below_step (tH1 HB GE325.out) hb)
         have NB325_328 := Aside0.mk ((by rw [hg]; exact Nat.ne_of_lt (blk_lt (g := gb325) (o := .cells #[.string a0_0, .slice (some ad327) l0_1.length c0_1] 71 (0, 0)) (tB BK325)) : gb325 ≠ gb328))
         have NB328_325 := Aside0.mk ((by rw [hg]; exact Nat.ne_of_gt (blk_lt (g := gb325) (o := .cells #[.string a0_0, .slice (some ad327) l0_1.length c0_1] 71 (0, 0)) (tB BK325)) : gb328 ≠ gb325))
         replace BK325 := tbB BK325 hb
         clear hb hbox hg
         refine hK.out _ _ ⟨(blk_cell BK325.out 0).trans rfl, (blk_cell BK325.out 1).trans rfl, (tW HB hw327_0), (tW HB hw327_1)⟩ (fun hHeld => ?_)
         clear hK K
         refine nO (some 7) ?_
         exact norm_ (by simp only [putAll, Act.put, sx0, sx1, sx2]) (hCont (gb328) _ ⟨hHeld, (tB BK325), (tB BK328), GW328.out, GE328.out, NB325_328.out, NB328_325.out, (tH2 HB GE325.out GE328.out)⟩)
       skip
       refine box_step ?hg (N := 7) ?hd (cs := #[.int .i64 0, .int .i64 0]) (t := 52) ?hr ?_; (case hd => rfl); (case hg => rfl); (case hr => first | (go_simp; done) | (go_simp; rfl))
       intro gb328 hg w33 hbox hb
       have BK328 := Aside0.mk (hbox)
       have GW328 := Aside0.mk ((by rw [hg]; exact (below_size (tH1 HB GE325.out)) : w.heap.size ≤ gb328))
       have GE328 := Aside0.mk ((by rw [hg]; exact (below_size (tH1 HB GE325.out)) : w.heap.size ≤ gb328))
       replace HB := Aside0.mk (below_step (tH1 HB GE325.out) hb)
       have NB325_328 := Aside0.mk ((by rw [hg]; exact Nat.ne_of_lt (blk_lt (g := gb325) (o := .cells #[.string a0_0, .slice (some ad327) l0_1.length c0_1] 71 (0, 0)) (tB BK325)) : gb325 ≠ gb328))
       have NB328_325 := Aside0.mk ((by rw [hg]; exact Nat.ne_of_gt (blk_lt (g := gb325) (o := .cells #[.string a0_0, .slice (some ad327) l0_1.length c0_1] 71 (0, 0)) (tB BK325)) : gb328 ≠ gb325))
       replace BK325 := tbB BK325 hb
       clear hb hbox hg
       refine hK.out _ _ ⟨(blk_cell BK325.out 0).trans rfl, (blk_cell BK325.out 1).trans rfl, (tW HB hw327_0), (tW HB hw327_1)⟩ (fun hHeld => ?_)
       clear hK K
       refine nO (some 7) ?_
       refine pO 3 (some 13) (bq [4, 2, 1, 1]) rfl rfl HT_ (fun K hK => ?_)
       refine gS_ Tryd.func176 #[.int .i64 a2] rfl rfl ?_
       with_reducible refine (impl_ToneOf.calls a2 t326 _ A4.out).mono ?_
       rintro e w' ⟨rfl, ⟨nd, rfl⟩⟩
       refine ⟨_, rfl, ?_⟩
       refine hK.out _ _ ⟨(blk_cell BK325.out 0).trans rfl, (blk_cell BK325.out 1).trans rfl, (tW HB hw327_0), (tW HB hw327_1)⟩ (fun hHeld => ?_)
       clear hK K
       refine nO (some 13) ?_
       refine pV 4 (some 14) [5, 1, 1, 1] rfl rfl HT_ ?_
       refine pT 5 (some 15) (bq [7, 1]) rfl rfl HT_ HW_ hHeld ?_
       exact norm_ (by simp only [putAll, Act.put, sx0, sx1, sx2]) (hCont (gb328) _ ⟨hHeld, (tB BK325), (tB BK328), GW328.out, GE328.out, NB325_328.out, NB328_325.out, (tH2 HB GE325.out GE328.out)⟩)
     rintro gb328 w34 ⟨hS_, h0_, h1_, h2_, h3_, h4_, h5_, h6_⟩
     have n0_ : Aside0 (w34.heap[gb325]? = some (.cells #[.string a0_0, .slice (some ad327) l0_1.length c0_1] 71 (0, 0))) := ⟨h0_⟩
     have n1_ : Aside0 (w34.heap[gb328]? = some (.cells #[.int .i64 0, .int .i64 0] 52 (0, 0))) := ⟨h1_⟩
     have n2_ : Aside0 (w.heap.size ≤ gb328) := ⟨h2_⟩
     have n3_ : Aside0 (w.heap.size ≤ gb328) := ⟨h3_⟩
     have n4_ : Aside0 (gb325 ≠ gb328) := ⟨h4_⟩
     have n5_ : Aside0 (gb328 ≠ gb325) := ⟨h5_⟩
     have n6_ : Aside0 (Below w.heap.size w w34) := ⟨h6_⟩
     clear BK325
     clear HB
     clear h0_ h1_ h2_ h3_ h4_ h5_ h6_
     have BK325 := n0_
     have BK328 := n1_
     have GW328 := n2_
     have GE328 := n3_
     have NB325_328 := n4_
     have NB328_325 := n5_
     have HB := n6_
     clear n0_ n1_ n2_ n3_ n4_ n5_ n6_
     have hHeld : w34.cell? ⟨gb325, 0, none⟩ = some (.string a0_0) ∧ w34.cell? ⟨gb325, 1, none⟩ = some (.slice (some ad327) l0_1.length c0_1) ∧ w34.cell? (ad327.add ((t326).toNat * 2)) = some (.int .i64 ((rd_T52 l0_1 t326).f0)) ∧ w34.cell? ⟨(ad327.add ((t326).toNat * 2)).block, (ad327.add ((t326).toNat * 2)).off + 1, none⟩ = some (.int .i64 ((rd_T52 l0_1 t326).f1)) := hS_
     refine norm_ (a' := ?_) ?_ ?_
     rotate_left
     · simp only [putAll, Act.put, sx0, sx1, sx2]
       rfl
     refine pO 7 none (bq [8]) rfl rfl HT_ (fun K hK => ?_)
     have hs35 : w34.cell? ⟨gb328, 0, none⟩ = some (.int .i64 0) := (blk_cell BK328.out 0).trans rfl
     have hfs35 := blk_frozen BK328.out 0
     have hns35_0 := NB325_328.out
     have hms35_0 := NB328_325.out
     have hs36 : w34.cell? ⟨gb328, 1, none⟩ = some (.int .i64 0) := (blk_cell BK328.out 1).trans rfl
     have hfs36 := blk_frozen BK328.out 1
     have hns36_0 := NB325_328.out
     have hms36_0 := NB328_325.out
     refine skip_ (w1 := ?_) (by rfl) rfl ?_ ?_
     rotate_left
     · go_simp
       rfl
     refine hK.out _ _ ⟨((cell_far (p := ⟨gb328, _, none⟩) NB325_328.out _).trans (((cell_far (p := ⟨gb328, _, none⟩) NB325_328.out _).trans (hHeld.1)))), ((cell_far (p := ⟨gb328, _, none⟩) NB325_328.out _).trans (((cell_far (p := ⟨gb328, _, none⟩) NB325_328.out _).trans (hHeld.2.1)))), ((cell_far (p := ⟨gb328, _, none⟩) (by first | exact Nat.ne_of_lt (Nat.lt_of_lt_of_le (by have := World.block_lt_of_cell? _ _ hw327_0; first | rwa [add_block] at this | exact this) GW328.out) | (rw [add_block]; exact Nat.ne_of_lt (Nat.lt_of_lt_of_le (by have := World.block_lt_of_cell? _ _ hw327_0; first | rwa [add_block] at this | exact this) GW328.out)) | (show (Addr.add _ _).block ≠ _; rw [add_block]; exact Nat.ne_of_lt (Nat.lt_of_lt_of_le (by have := World.block_lt_of_cell? _ _ hw327_0; first | rwa [add_block] at this | exact this) GW328.out)) | (dsimp only; exact Nat.ne_of_lt (Nat.lt_of_lt_of_le (by have := World.block_lt_of_cell? _ _ hw327_0; first | rwa [add_block] at this | exact this) GW328.out))) _).trans (((cell_far (p := ⟨gb328, _, none⟩) (by first | exact Nat.ne_of_lt (Nat.lt_of_lt_of_le (by have := World.block_lt_of_cell? _ _ hw327_0; first | rwa [add_block] at this | exact this) GW328.out) | (rw [add_block]; exact Nat.ne_of_lt (Nat.lt_of_lt_of_le (by have := World.block_lt_of_cell? _ _ hw327_0; first | rwa [add_block] at this | exact this) GW328.out)) | (show (Addr.add _ _).block ≠ _; rw [add_block]; exact Nat.ne_of_lt (Nat.lt_of_lt_of_le (by have := World.block_lt_of_cell? _ _ hw327_0; first | rwa [add_block] at this | exact this) GW328.out)) | (dsimp only; exact Nat.ne_of_lt (Nat.lt_of_lt_of_le (by have := World.block_lt_of_cell? _ _ hw327_0; first | rwa [add_block] at this | exact this) GW328.out))) _).trans (hHeld.2.2.1)))), ((cell_far (p := ⟨gb328, _, none⟩) (by first | exact Nat.ne_of_lt (Nat.lt_of_lt_of_le (by have := World.block_lt_of_cell? _ _ hw327_1; first | rwa [add_block] at this | exact this) GW328.out) | (rw [add_block]; exact Nat.ne_of_lt (Nat.lt_of_lt_of_le (by have := World.block_lt_of_cell? _ _ hw327_1; first | rwa [add_block] at this | exact this) GW328.out)) | (show (Addr.add _ _).block ≠ _; rw [add_block]; exact Nat.ne_of_lt (Nat.lt_of_lt_of_le (by have := World.block_lt_of_cell? _ _ hw327_1; first | rwa [add_block] at this | exact this) GW328.out)) | (dsimp only; exact Nat.ne_of_lt (Nat.lt_of_lt_of_le (by have := World.block_lt_of_cell? _ _ hw327_1; first | rwa [add_block] at this | exact this) GW328.out))) _).trans (((cell_far (p := ⟨gb328, _, none⟩) (by first | exact Nat.ne_of_lt (Nat.lt_of_lt_of_le (by have := World.block_lt_of_cell? _ _ hw327_1; first | rwa [add_block] at this | exact this) GW328.out) | (rw [add_block]; exact Nat.ne_of_lt (Nat.lt_of_lt_of_le (by have := World.block_lt_of_cell? _ _ hw327_1; first | rwa [add_block] at this | exact this) GW328.out)) | (show (Addr.add _ _).block ≠ _; rw [add_block]; exact Nat.ne_of_lt (Nat.lt_of_lt_of_le (by have := World.block_lt_of_cell? _ _ hw327_1; first | rwa [add_block] at this | exact this) GW328.out)) | (dsimp only; exact Nat.ne_of_lt (Nat.lt_of_lt_of_le (by have := World.block_lt_of_cell? _ _ hw327_1; first | rwa [add_block] at this | exact this) GW328.out))) _).trans (hHeld.2.2.2))))⟩ (fun hHeld => ?_)
     clear hK K
     refine done_ (done_of HT_.out (by kernel_rfl)) ?_
     try go_wp2
     have n0_ : Aside0 (((w34.setCell ⟨gb328, 0, none⟩ (.int .i64 ((rd_T52 l0_1 t326).f0))).setCell ⟨gb328, 1, none⟩ (.int .i64 ((rd_T52 l0_1 t326).f1))).heap[gb325]? = some (.cells #[.string a0_0, .slice (some ad327) l0_1.length c0_1] 71 (0, 0))) := ⟨by (with_reducible repeat (first | refine blk_drewN ?_ _ | refine blk_drew ?_ | refine blk_alloc ?_ _)); refine blk_far ?_ NB325_328.out _; (with_reducible repeat (first | refine blk_drewN ?_ _ | refine blk_drew ?_ | refine blk_alloc ?_ _)); refine blk_far ?_ NB325_328.out _; (with_reducible repeat (first | refine blk_drewN ?_ _ | refine blk_drew ?_ | refine blk_alloc ?_ _)); exact BK325.out⟩
     have n1_ : Aside0 (((w34.setCell ⟨gb328, 0, none⟩ (.int .i64 ((rd_T52 l0_1 t326).f0))).setCell ⟨gb328, 1, none⟩ (.int .i64 ((rd_T52 l0_1 t326).f1))).heap[gb328]? = some (.cells #[.int .i64 ((rd_T52 l0_1 t326).f0), .int .i64 ((rd_T52 l0_1 t326).f1)] 52 (0, 0))) := ⟨by (with_reducible repeat (first | refine blk_drewN ?_ _ | refine blk_drew ?_ | refine blk_alloc ?_ _)); refine blk_put (cs := #[.int .i64 ((rd_T52 l0_1 t326).f0), .int .i64 0]) ?_ 1 _ rfl; (with_reducible repeat (first | refine blk_drewN ?_ _ | refine blk_drew ?_ | refine blk_alloc ?_ _)); refine blk_put (cs := #[.int .i64 0, .int .i64 0]) ?_ 0 _ rfl; (with_reducible repeat (first | refine blk_drewN ?_ _ | refine blk_drew ?_ | refine blk_alloc ?_ _)); exact BK328.out⟩
     have n2_ : Aside0 (Below w.heap.size w ((w34.setCell ⟨gb328, 0, none⟩ (.int .i64 ((rd_T52 l0_1 t326).f0))).setCell ⟨gb328, 1, none⟩ (.int .i64 ((rd_T52 l0_1 t326).f1)))) := ⟨tH2 HB GE325.out GE328.out⟩
     (try clear BK325)
     (try clear BK328)
     (try clear HB)
     generalize ((w34.setCell ⟨gb328, 0, none⟩ (.int .i64 ((rd_T52 l0_1 t326).f0))).setCell ⟨gb328, 1, none⟩ (.int .i64 ((rd_T52 l0_1 t326).f1))) = w37 at n0_ n1_ n2_ ⊢
     have BK325 := n0_
     have BK328 := n1_
     have HB := n2_
     clear n0_ n1_ n2_
     replace BK325 := Aside0.mk (blk_drew BK325.out)
     replace BK328 := Aside0.mk (blk_drew BK328.out)
     replace HB := Aside0.mk (below_drew1 HB.out)
     refine start_ (n := 8) (S := fun w' => w'.cell? ⟨gb328, 0, none⟩ = some (.int .i64 ((rd_T52 l0_1 t326).f0)) ∧ w'.cell? ⟨gb328, 1, none⟩ = some (.int .i64 ((rd_T52 l0_1 t326).f1))) (ds := []) (bq [0, 8]) (by kernel_rfl) rfl rfl ⟨(blk_cell BK328.out 0).trans rfl, (blk_cell BK328.out 1).trans rfl⟩ (fun hHeld => ?_); refine with_tabW impl_Tuning_frequency.tab2 impl_Tuning_frequency.bits2 (fun HT_ HW_ => ?_)
     generalize w37.drew = w38 at BK325 BK328 HB hHeld ⊢
     refine pV 0 (some 16) [1, 7] rfl rfl HT_ ?_
     refine pV 1 (some 17) [2, 6] rfl rfl HT_ ?_
     refine pV 4 (some 20) [2, 2, 1, 3] rfl rfl HT_ ?_
     refine pT 2 (some 18) (bq [3, 1, 1, 3]) rfl rfl HT_ HW_ hHeld ?_
     refine pV 3 (some 19) [5, 3] rfl rfl HT_ ?_
     refine pV 6 (some 8) [5, 1, 1, 1] rfl rfl HT_ ?_
     refine pT 5 (some 21) (bq [7, 1]) rfl rfl HT_ HW_ hHeld ?_
     refine pV 7 (some 9) [8] rfl rfl HT_ ?_
     refine done_ (done_of HT_.out (by kernel_rfl)) ?_
     try go_wp2_with (first | ((with_reducible refine gate_callee (f := 177) rfl ?_); refine gL_ (some 23) rfl rfl Tryd.func177 #[.int .i64 a2] rfl ?_; (with_reducible refine (impl_octaveOf.calls a2 t329 _ A7.out).mono ?_); rintro e w' ⟨rfl, ⟨nd, rfl⟩⟩; refine ⟨_, rfl, ?_⟩) | ((with_reducible refine gate_callee (f := 143) rfl ?_); refine gL_ (some 34) rfl rfl Tryd.func143 #[.int .i64 (wrap64 (a1 * ((rd_T52 l0_1 t326).f0))), .int .i64 ((rd_T52 l0_1 t326).f1)] rfl ?_; (with_reducible refine (impl_divRound.calls (wrap64 (a1 * ((rd_T52 l0_1 t326).f0))) ((rd_T52 l0_1 t326).f1) t332 _ A30.out).mono ?_); rintro e w39 ⟨rfl, hb⟩; refine ⟨_, rfl, ?_⟩; replace BK325 := tbB BK325 hb; replace BK328 := tbB BK328 hb; replace HB := Aside0.mk (below_step (tH2 HB GE325.out GE328.out) hb); (try clear hb); (try clear hb2); (try clear hk); (try clear hi)))
     go_ret
     exact ⟨tE, tH2 HB GE325.out GE328.out⟩
   rw [if_neg c6] at H
   exact absurd H (by simp)
 rw [if_neg c5] at H
 exact absurd H (by simp)

end Go.Proofs.YtmeflmlejcmckaaDoor.PB
