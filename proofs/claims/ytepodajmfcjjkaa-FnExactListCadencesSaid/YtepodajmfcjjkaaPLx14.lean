-- WRITTEN BY wip/gprint.py, a program of this session's over the kit's print, with contracts given by hand
import Derived.Test.YtepodajmfcjjkaaPLx0
import Derived.Test.YtepodajmfcjjkaaPLx1
import Derived.Test.YtepodajmfcjjkaaPLx5
import Derived.Test.YtepodajmfcjjkaaPLx6
import Derived.Test.YtepodajmfcjjkaaPLx10
import Derived.Test.YtepodajmfcjjkaaPLx11
import Derived.Test.YtepodajmfcjjkaaPLx12
import Derived.Test.YtepodajmfcjjkaaPLx13
namespace Go.Proofs.Ytepodajmfcjjkaa.PL
open Go.RowKit Go.Proofs.YtepodajmfcjjkaaW.PrintWords Go.Proofs.YtepodajmfcjjkaaW.PrintLast Go.Proofs.YtepodajmfcjjkaaW.PrintMore
attribute [local go_sem] max2_int min2_int max_two min_two max_three min_three max_four min_four   -- for this text's walks alone
set_option linter.unusedVariables false
set_option linter.unusedSimpArgs false

attribute [local go_sem] isSome_setCell
/-- A world's size, by a name. -/
theorem name_size {W w1 : World} (_ : Below W.heap.size W w1) : ∃ N : Nat, N = W.heap.size := ⟨_, rfl⟩
theorem S_elderN {α : Type} {d : Kd α} {e base N : Nat} {ok : Nat → Prop} {u v : Value} {xs : List α} {W w1 : World} (hN : N = W.heap.size) (h : Kd.S d e W base ok u xs) (hbase : ∀ k, v.ownBlock = some k → W.heap.size ≤ k) (hb : Below W.heap.size W w1) : Kd.S d e w1 base (fun k => ok k ∧ (some k ≠ v.ownBlock ∧ k < N)) u xs :=
  Kd.S_mono (Kd.S_elder' (Kd.S_mono (ok' := fun k => ok k ∧ k < N) (Kd.S_bound h) (fun k hk => ⟨hk.1, by rw [hN]; exact hk.2.2.1⟩)) hbase hb) (fun k hk => ⟨hk.1.1, hk.2, hk.1.2⟩)
theorem S_newN {α : Type} {d : Kd α} {e N : Nat} {ok : Nat → Prop} {u v : Value} {xs : List α} {w w1 : World} (hN : N = w.heap.size) (h : Kd.S d e w1 w.heap.size ok v xs) (hlt : ∀ k, u.ownBlock = some k → k < w.heap.size) : Kd.S d e w1 w.heap.size (fun k => ok k ∧ (some k ≠ u.ownBlock ∧ N ≤ k)) v xs :=
  Kd.S_mono (Kd.S_new' (Kd.S_mono (ok' := fun k => ok k ∧ N ≤ k) (Kd.S_bound h) (fun k hk => ⟨hk.1, by rw [hN]; exact hk.2.1⟩)) hlt) (fun k hk => ⟨hk.1.1, hk.2, hk.1.2⟩)
/-! ### laws_FnExactListCadences: function 3 -/
mutual
def laws_FnExactListCadences.j0 : Nat → Int → Int → Int → Int → List (List Int) → Int → List (List Int) → Int → Bool → ByteArray → List Int → List Int → ByteArray → List Int → List Int → Option (Bool)
 | 0, _, _, _, _, _, _, _, _, _, _, _, _, _, _, _ => none
 | k + 1, x1, x2, x3, x4, x12, x13, x15, x16, x56, x221000, x221001, x221002, x241000, x241001, x241002 => if x56 = true then (some false) else ((laws_toTala.f k x221000 x221001 x221002).bind fun bt246 => ((laws_eqTala.f k x241000 x241001 x241002 bt246.1 bt246.2.1 bt246.2.2).bind fun t253 => (if t253 = true then ((laws_markTala.f k x241000 x241001 x241002 1).bind fun bt254 => (if bt254.1 < 0 then (laws_FnExactListCadences.j1 k x1 x2 x3 x4 x12 x13 x15 true x221000 x221001 x221002) else ((laws_eqInt64SS.f k x15 x12).bind fun t257 => (if t257 = true then (laws_FnExactListCadences.j1 k x1 x2 x3 x4 x12 x13 x15 (x16 != x13) x221000 x221001 x221002) else (laws_FnExactListCadences.j1 k x1 x2 x3 x4 x12 x13 x15 true x221000 x221001 x221002))))) else (some false))))
def laws_FnExactListCadences.j1 : Nat → Int → Int → Int → Int → List (List Int) → Int → List (List Int) → Bool → ByteArray → List Int → List Int → Option (Bool)
 | 0, _, _, _, _, _, _, _, _, _, _, _ => none
 | k + 1, x1, x2, x3, x4, x12, x13, x15, x77, x221000, x221001, x221002 => if x77 = true then (some false) else ((laws_markInt64SS.f k x15 1).bind fun bt258 => ((laws_heldInt64SS.f k bt258.2 1).bind fun t260 => (if t260 < 0 then (some false) else (if t260 = bt258.1 then ((laws_toTala.f k x221000 x221001 x221002).bind fun bt261 => ((impl_ListCadences.f k bt261.1 bt261.2.1 bt261.2.2 x1 x2 x3 x4).bind fun bt268 => ((laws_eqInt64SS.f k bt268.1 x12).bind fun t272 => (if t272 = true then (laws_FnExactListCadences.j2 k bt258.2 bt258.1 (bt268.2 != x13)) else (laws_FnExactListCadences.j2 k bt258.2 bt258.1 true))))) else (some false)))))
def laws_FnExactListCadences.j2 : Nat → List (List Int) → Int → Bool → Option (Bool)
 | 0, _, _, _ => none
 | k + 1, x15, x18, x107 => if x107 = true then (some false) else ((laws_heldInt64SS.f k x15 1).bind fun t273 => (if t273 < 0 then (some false) else (if t273 = x18 then (some true) else (some false))))
end
def laws_FnExactListCadences.f (k : Nat) (a0_0 : ByteArray) (l0_1 : List Int) (l0_2 : List Int) (a1 : Int) (a2 : Int) (a3 : Int) (a4 : Int) : Option (Bool) := (laws_szTala.f a0_0 l0_1 l0_2 1048576).bind fun t221 => (if t221 < 0 then (some true) else ((laws_toTala.f k a0_0 l0_1 l0_2).bind fun bt222 => ((spec_ListCadences.f k bt222.1 bt222.2.1 bt222.2.2 a1 a2 a3 a4).bind fun bt229 => ((laws_toTala.f k a0_0 l0_1 l0_2).bind fun bt233 => ((impl_ListCadences.f k bt233.1 bt233.2.1 bt233.2.2 a1 a2 a3 a4).bind fun bt241 => ((laws_eqInt64SS.f k bt241.1 bt229.1).bind fun t245 => (if t245 = true then (laws_FnExactListCadences.j0 k a1 a2 a3 a4 bt229.1 bt229.2 bt241.1 bt241.2 (bt241.2 != bt229.2) a0_0 l0_1 l0_2 bt233.1 bt233.2.1 bt233.2.2) else (laws_FnExactListCadences.j0 k a1 a2 a3 a4 bt229.1 bt229.2 bt241.1 bt241.2 true a0_0 l0_1 l0_2 bt233.1 bt233.2.1 bt233.2.2))))))))
theorem laws_FnExactListCadences.mono_l : ∀ k, (∀ y0 y1 y2 y3 y4 y5 y6 y7 y8 y9 y10 y11 y12 y13 y14, LeO (laws_FnExactListCadences.j0 k y0 y1 y2 y3 y4 y5 y6 y7 y8 y9 y10 y11 y12 y13 y14) (laws_FnExactListCadences.j0 (k + 1) y0 y1 y2 y3 y4 y5 y6 y7 y8 y9 y10 y11 y12 y13 y14)) ∧ (∀ y0 y1 y2 y3 y4 y5 y6 y7 y8 y9 y10, LeO (laws_FnExactListCadences.j1 k y0 y1 y2 y3 y4 y5 y6 y7 y8 y9 y10) (laws_FnExactListCadences.j1 (k + 1) y0 y1 y2 y3 y4 y5 y6 y7 y8 y9 y10)) ∧ (∀ y0 y1 y2, LeO (laws_FnExactListCadences.j2 k y0 y1 y2) (laws_FnExactListCadences.j2 (k + 1) y0 y1 y2))
 | 0 => ⟨fun _ _ _ _ _ _ _ _ _ _ _ _ _ _ _ r h => by simp [laws_FnExactListCadences.j0] at h, fun _ _ _ _ _ _ _ _ _ _ _ r h => by simp [laws_FnExactListCadences.j1] at h, fun _ _ _ r h => by simp [laws_FnExactListCadences.j2] at h⟩
 | k + 1 => by
  obtain ⟨ih0, ih1, ih2⟩ := laws_FnExactListCadences.mono_l k
  refine ⟨?_, ?_, ?_⟩
  · intro y0 y1 y2 y3 y4 y5 y6 y7 y8 y9 y10 y11 y12 y13 y14
    unfold laws_FnExactListCadences.j0
    repeat' first
    | (with_reducible exact ih0 _ _ _ _ _ _ _ _ _ _ _ _ _ _ _)
    | (with_reducible exact ih1 _ _ _ _ _ _ _ _ _ _ _)
    | (with_reducible exact ih2 _ _ _)
    | (with_reducible exact impl_ListCadences.mono _ _ _ _ _ _ _ _)
    | (with_reducible exact laws_eqInt64SS.mono _ _ _)
    | (with_reducible exact laws_eqTala.mono _ _ _ _ _ _ _)
    | (with_reducible exact laws_heldInt64SS.mono _ _ _)
    | (with_reducible exact laws_markInt64SS.mono _ _ _)
    | (with_reducible exact laws_markTala.mono _ _ _ _ _)
    | (with_reducible exact laws_toTala.mono _ _ _ _)
    | (with_reducible exact spec_ListCadences.mono _ _ _ _ _ _ _ _)
    | (with_reducible exact LeO.refl _)
    | (with_reducible exact LeO.none _)
    | (with_reducible refine LeO.ite ?_ ?_)
    | (with_reducible refine LeO.bind ?_ (fun _ => ?_))
    | exact ih0 _ _ _ _ _ _ _ _ _ _ _ _ _ _ _
    | exact ih1 _ _ _ _ _ _ _ _ _ _ _
    | exact ih2 _ _ _
    | exact impl_ListCadences.mono _ _ _ _ _ _ _ _
    | exact laws_eqInt64SS.mono _ _ _
    | exact laws_eqTala.mono _ _ _ _ _ _ _
    | exact laws_heldInt64SS.mono _ _ _
    | exact laws_markInt64SS.mono _ _ _
    | exact laws_markTala.mono _ _ _ _ _
    | exact laws_toTala.mono _ _ _ _
    | exact spec_ListCadences.mono _ _ _ _ _ _ _ _
    | exact LeO.none _
    | refine LeO.ite ?_ ?_
    | refine LeO.bind ?_ (fun _ => ?_)
  · intro y0 y1 y2 y3 y4 y5 y6 y7 y8 y9 y10
    unfold laws_FnExactListCadences.j1
    repeat' first
    | (with_reducible exact ih0 _ _ _ _ _ _ _ _ _ _ _ _ _ _ _)
    | (with_reducible exact ih1 _ _ _ _ _ _ _ _ _ _ _)
    | (with_reducible exact ih2 _ _ _)
    | (with_reducible exact impl_ListCadences.mono _ _ _ _ _ _ _ _)
    | (with_reducible exact laws_eqInt64SS.mono _ _ _)
    | (with_reducible exact laws_eqTala.mono _ _ _ _ _ _ _)
    | (with_reducible exact laws_heldInt64SS.mono _ _ _)
    | (with_reducible exact laws_markInt64SS.mono _ _ _)
    | (with_reducible exact laws_markTala.mono _ _ _ _ _)
    | (with_reducible exact laws_toTala.mono _ _ _ _)
    | (with_reducible exact spec_ListCadences.mono _ _ _ _ _ _ _ _)
    | (with_reducible exact LeO.refl _)
    | (with_reducible exact LeO.none _)
    | (with_reducible refine LeO.ite ?_ ?_)
    | (with_reducible refine LeO.bind ?_ (fun _ => ?_))
    | exact ih0 _ _ _ _ _ _ _ _ _ _ _ _ _ _ _
    | exact ih1 _ _ _ _ _ _ _ _ _ _ _
    | exact ih2 _ _ _
    | exact impl_ListCadences.mono _ _ _ _ _ _ _ _
    | exact laws_eqInt64SS.mono _ _ _
    | exact laws_eqTala.mono _ _ _ _ _ _ _
    | exact laws_heldInt64SS.mono _ _ _
    | exact laws_markInt64SS.mono _ _ _
    | exact laws_markTala.mono _ _ _ _ _
    | exact laws_toTala.mono _ _ _ _
    | exact spec_ListCadences.mono _ _ _ _ _ _ _ _
    | exact LeO.none _
    | refine LeO.ite ?_ ?_
    | refine LeO.bind ?_ (fun _ => ?_)
  · intro y0 y1 y2
    unfold laws_FnExactListCadences.j2
    repeat' first
    | (with_reducible exact ih0 _ _ _ _ _ _ _ _ _ _ _ _ _ _ _)
    | (with_reducible exact ih1 _ _ _ _ _ _ _ _ _ _ _)
    | (with_reducible exact ih2 _ _ _)
    | (with_reducible exact impl_ListCadences.mono _ _ _ _ _ _ _ _)
    | (with_reducible exact laws_eqInt64SS.mono _ _ _)
    | (with_reducible exact laws_eqTala.mono _ _ _ _ _ _ _)
    | (with_reducible exact laws_heldInt64SS.mono _ _ _)
    | (with_reducible exact laws_markInt64SS.mono _ _ _)
    | (with_reducible exact laws_markTala.mono _ _ _ _ _)
    | (with_reducible exact laws_toTala.mono _ _ _ _)
    | (with_reducible exact spec_ListCadences.mono _ _ _ _ _ _ _ _)
    | (with_reducible exact LeO.refl _)
    | (with_reducible exact LeO.none _)
    | (with_reducible refine LeO.ite ?_ ?_)
    | (with_reducible refine LeO.bind ?_ (fun _ => ?_))
    | exact ih0 _ _ _ _ _ _ _ _ _ _ _ _ _ _ _
    | exact ih1 _ _ _ _ _ _ _ _ _ _ _
    | exact ih2 _ _ _
    | exact impl_ListCadences.mono _ _ _ _ _ _ _ _
    | exact laws_eqInt64SS.mono _ _ _
    | exact laws_eqTala.mono _ _ _ _ _ _ _
    | exact laws_heldInt64SS.mono _ _ _
    | exact laws_markInt64SS.mono _ _ _
    | exact laws_markTala.mono _ _ _ _ _
    | exact laws_toTala.mono _ _ _ _
    | exact spec_ListCadences.mono _ _ _ _ _ _ _ _
    | exact LeO.none _
    | refine LeO.ite ?_ ?_
    | refine LeO.bind ?_ (fun _ => ?_)
theorem laws_FnExactListCadences.mono : ∀ a0 a1 a2 a3 a4 a5 a6 k, LeO (laws_FnExactListCadences.f k a0 a1 a2 a3 a4 a5 a6) (laws_FnExactListCadences.f (k + 1) a0 a1 a2 a3 a4 a5 a6) := by
 intro a0 a1 a2 a3 a4 a5 a6 k
 obtain ⟨ih0, ih1, ih2⟩ := laws_FnExactListCadences.mono_l k
 unfold laws_FnExactListCadences.f
 repeat' first
  | (with_reducible exact ih0 _ _ _ _ _ _ _ _ _ _ _ _ _ _ _)
  | (with_reducible exact ih1 _ _ _ _ _ _ _ _ _ _ _)
  | (with_reducible exact ih2 _ _ _)
  | (with_reducible exact impl_ListCadences.mono _ _ _ _ _ _ _ _)
  | (with_reducible exact laws_eqInt64SS.mono _ _ _)
  | (with_reducible exact laws_eqTala.mono _ _ _ _ _ _ _)
  | (with_reducible exact laws_heldInt64SS.mono _ _ _)
  | (with_reducible exact laws_markInt64SS.mono _ _ _)
  | (with_reducible exact laws_markTala.mono _ _ _ _ _)
  | (with_reducible exact laws_toTala.mono _ _ _ _)
  | (with_reducible exact spec_ListCadences.mono _ _ _ _ _ _ _ _)
  | (with_reducible exact LeO.refl _)
  | (with_reducible exact LeO.none _)
  | (with_reducible refine LeO.ite ?_ ?_)
  | (with_reducible refine LeO.bind ?_ (fun _ => ?_))
  | exact ih0 _ _ _ _ _ _ _ _ _ _ _ _ _ _ _
  | exact ih1 _ _ _ _ _ _ _ _ _ _ _
  | exact ih2 _ _ _
  | exact impl_ListCadences.mono _ _ _ _ _ _ _ _
  | exact laws_eqInt64SS.mono _ _ _
  | exact laws_eqTala.mono _ _ _ _ _ _ _
  | exact laws_heldInt64SS.mono _ _ _
  | exact laws_markInt64SS.mono _ _ _
  | exact laws_markTala.mono _ _ _ _ _
  | exact laws_toTala.mono _ _ _ _
  | exact spec_ListCadences.mono _ _ _ _ _ _ _ _
  | exact LeO.none _
  | refine LeO.ite ?_ ?_
  | refine LeO.bind ?_ (fun _ => ?_)
set_option maxHeartbeats 8000000 in
set_option maxRecDepth 100000 in
theorem laws_FnExactListCadences.calls (k : Nat) (a0_0 : ByteArray) (A0_1 : Option Addr) (c0_1 : Nat) (l0_1 : List Int) (A0_2 : Option Addr) (c0_2 : Nat) (l0_2 : List Int) (a1 : Int) (a2 : Int) (a3 : Int) (a4 : Int) (r : Bool) (w : World) (hr0_1 : Kd.C (Kd.int .i64) w A0_1 l0_1.length l0_1) (hc0_1 : l0_1.length ≤ c0_1) (hr0_2 : Kd.C (Kd.int .i64) w A0_2 l0_2.length l0_2) (hc0_2 : l0_2.length ≤ c0_2) (h : laws_FnExactListCadences.f k a0_0 l0_1 l0_2 a1 a2 a3 a4 = some r) :
 Calls Try.prog 3 #[.agg #[.string a0_0, .slice A0_1 l0_1.length c0_1, .slice A0_2 l0_2.length c0_2], .int .i64 a1, .int .i64 a2, .int .i64 a3, .int .i64 a4] w fun e w' => e = .returned (.bool r) ∧ Below w.heap.size w w' := by
 have hu24 := Try.underlying24
 have hu29 := Try.underlying29
 have HR0_1 := Aside0.mk hr0_1
 have HC0_1 := Aside0.mk hc0_1
 clear hr0_1 hc0_1
 have HR0_2 := Aside0.mk hr0_2
 have HC0_2 := Aside0.mk hc0_2
 clear hr0_2 hc0_2
 have HB := Aside0.mk (Below.refl w.heap.size w)
 have H : ((laws_szTala.f a0_0 l0_1 l0_2 1048576).bind fun t221 => (if t221 < 0 then (some true) else ((laws_toTala.f k a0_0 l0_1 l0_2).bind fun bt222 => ((spec_ListCadences.f k bt222.1 bt222.2.1 bt222.2.2 a1 a2 a3 a4).bind fun bt229 => ((laws_toTala.f k a0_0 l0_1 l0_2).bind fun bt233 => ((impl_ListCadences.f k bt233.1 bt233.2.1 bt233.2.2 a1 a2 a3 a4).bind fun bt241 => ((laws_eqInt64SS.f k bt241.1 bt229.1).bind fun t245 => (if t245 = true then (laws_FnExactListCadences.j0 k a1 a2 a3 a4 bt229.1 bt229.2 bt241.1 bt241.2 (bt241.2 != bt229.2) a0_0 l0_1 l0_2 bt233.1 bt233.2.1 bt233.2.2) else (laws_FnExactListCadences.j0 k a1 a2 a3 a4 bt229.1 bt229.2 bt241.1 bt241.2 true a0_0 l0_1 l0_2 bt233.1 bt233.2.1 bt233.2.2))))))))) = some r := h
 clear h
 replace H := Option.bind_eq_some_iff.mp H
 obtain ⟨t221, A60, H⟩ := H
 replace H : (if t221 < 0 then (some true) else ((laws_toTala.f k a0_0 l0_1 l0_2).bind fun bt222 => ((spec_ListCadences.f k bt222.1 bt222.2.1 bt222.2.2 a1 a2 a3 a4).bind fun bt229 => ((laws_toTala.f k a0_0 l0_1 l0_2).bind fun bt233 => ((impl_ListCadences.f k bt233.1 bt233.2.1 bt233.2.2 a1 a2 a3 a4).bind fun bt241 => ((laws_eqInt64SS.f k bt241.1 bt229.1).bind fun t245 => (if t245 = true then (laws_FnExactListCadences.j0 k a1 a2 a3 a4 bt229.1 bt229.2 bt241.1 bt241.2 (bt241.2 != bt229.2) a0_0 l0_1 l0_2 bt233.1 bt233.2.1 bt233.2.2) else (laws_FnExactListCadences.j0 k a1 a2 a3 a4 bt229.1 bt229.2 bt241.1 bt241.2 true a0_0 l0_1 l0_2 bt233.1 bt233.2.1 bt233.2.2)))))))) = some r := H
 have A6 := Aside0.mk A60
 clear A60
 by_cases c7 : t221 < 0
 · rw [if_pos c7] at H
   have c7b0 : decide (t221 < 0) = true := decide_eq_true c7
   clear c7
   obtain rfl := Option.some.inj H
   go_enter Try.func3, Try.ntmps3
   go_wp2_with (first | ((with_reducible refine gate_dst (N := 5) rfl ?_); refine box_event ?hg (N := 5) ?hd (cs := #[.string a0_0, .slice A0_1 l0_1.length c0_1, .slice A0_2 l0_2.length c0_2]) (t := 24) ?hr ?_; (case hd => rfl); (case hg => rfl); (case hr => first | (go_simp; done) | (go_simp; rfl)); intro gb220 hg w8 hbox hb; have n0_ := Aside0.mk (below_step (by repeat (first | (with_reducible first | exact HB.out | apply qba | apply qbn | apply qb1) | exact HB.out)) hb); have n1_ := Aside0.mk (hbox); have n2_ := Aside0.mk ((by rw [hg]; exact (below_size (by repeat (first | (with_reducible first | exact HB.out | apply qba | apply qbn | apply qb1) | exact HB.out))) : w.heap.size ≤ gb220)); have n3_ := Aside0.mk ((by rw [hg]; exact (below_size (by repeat (first | (with_reducible first | exact HB.out | apply qba | apply qbn | apply qb1) | exact HB.out))) : w.heap.size ≤ gb220)); clear HB; have HB := n0_; have BK220 := n1_; have GW220 := n2_; have GE220 := n3_; clear n0_ n1_ n2_ n3_; clear hb hbox hg; have hcz9_0 : w8.cell? ⟨gb220, 0, none⟩ = some (.string a0_0) := (blk_cell BK220.out 0).trans rfl; have hcz9_1 : w8.cell? ⟨gb220, 1, none⟩ = some (.slice A0_1 l0_1.length c0_1) := (blk_cell BK220.out 1).trans rfl; have hcz9_2 : w8.cell? ⟨gb220, 2, none⟩ = some (.slice A0_2 l0_2.length c0_2) := (blk_cell BK220.out 2).trans rfl; have hfz9_0 := blk_frozen BK220.out 0; have hfz9_1 := blk_frozen BK220.out 1; have hfz9_2 := blk_frozen BK220.out 2) | ((with_reducible refine gate_callee (f := 4) rfl ?_); refine gL_ (some 24) rfl rfl Try.func4 #[.agg #[.string a0_0, .slice A0_1 l0_1.length c0_1, .slice A0_2 l0_2.length c0_2], .int .i64 1048576] rfl ?_; (with_reducible refine (laws_szTala.calls a0_0 _ _ l0_1 _ _ l0_2 1048576 t221 _ ?side1 ?side2 ?side3 ?side4 A6.out).mono ?_); (case side1 => repeat (first | exact (Kd.C_below HR0_1.out HB.out) | (with_reducible refine Kd.C_alloc ?_ _) | (with_reducible refine Kd.C_drewN ?_ _) | (with_reducible refine Kd.C_drew ?_))); (case side2 => exact HC0_1.out); (case side3 => repeat (first | exact (Kd.C_below HR0_2.out HB.out) | (with_reducible refine Kd.C_alloc ?_ _) | (with_reducible refine Kd.C_drewN ?_ _) | (with_reducible refine Kd.C_drew ?_))); (case side4 => exact HC0_2.out); rintro e w10 ⟨rfl, hb⟩; refine ⟨_, rfl, ?_⟩; have n0_ := Aside0.mk (blk_below (g := gb220) (o := .cells #[.string a0_0, .slice A0_1 l0_1.length c0_1, .slice A0_2 l0_2.length c0_2] 24 (0, 0)) (by (with_reducible repeat (first | refine blk_drewN ?_ _ | refine blk_drew ?_ | refine blk_alloc ?_ _)); exact BK220.out) hb); have n1_ := Aside0.mk (below_step (by repeat (first | (with_reducible first | exact HB.out | apply qba | apply qbn | apply qb1 | refine below_set ?_ GE220.out) | exact HB.out)) hb); clear BK220; clear HB; have BK220 := n0_; have HB := n1_; clear n0_ n1_; (try clear hb); (try clear hb2); (try clear hk); (try clear hi)))
   go_ret
   exact ⟨by first | rfl | (simp [errW_none, errW_some] <;> rfl) | (simp [*, errW_none, errW_some] <;> rfl), by repeat (first | (with_reducible first | exact HB.out | apply qba | apply qbn | apply qb1 | refine below_set ?_ GE220.out) | exact HB.out)⟩
 · rw [if_neg c7] at H
   have c7b0 : decide (t221 < 0) = false := decide_eq_false c7
   clear c7
   replace H := Option.bind_eq_some_iff.mp H
   obtain ⟨⟨t222, t223, t226⟩, A110, H⟩ := H
   replace H : ((spec_ListCadences.f k t222 t223 t226 a1 a2 a3 a4).bind fun bt229 => ((laws_toTala.f k a0_0 l0_1 l0_2).bind fun bt233 => ((impl_ListCadences.f k bt233.1 bt233.2.1 bt233.2.2 a1 a2 a3 a4).bind fun bt241 => ((laws_eqInt64SS.f k bt241.1 bt229.1).bind fun t245 => (if t245 = true then (laws_FnExactListCadences.j0 k a1 a2 a3 a4 bt229.1 bt229.2 bt241.1 bt241.2 (bt241.2 != bt229.2) a0_0 l0_1 l0_2 bt233.1 bt233.2.1 bt233.2.2) else (laws_FnExactListCadences.j0 k a1 a2 a3 a4 bt229.1 bt229.2 bt241.1 bt241.2 true a0_0 l0_1 l0_2 bt233.1 bt233.2.1 bt233.2.2)))))) = some r := H
   have A11 := Aside0.mk A110
   clear A110
   replace H := Option.bind_eq_some_iff.mp H
   obtain ⟨⟨t229, t232⟩, A120, H⟩ := H
   replace H : ((laws_toTala.f k a0_0 l0_1 l0_2).bind fun bt233 => ((impl_ListCadences.f k bt233.1 bt233.2.1 bt233.2.2 a1 a2 a3 a4).bind fun bt241 => ((laws_eqInt64SS.f k bt241.1 t229).bind fun t245 => (if t245 = true then (laws_FnExactListCadences.j0 k a1 a2 a3 a4 t229 t232 bt241.1 bt241.2 (bt241.2 != t232) a0_0 l0_1 l0_2 bt233.1 bt233.2.1 bt233.2.2) else (laws_FnExactListCadences.j0 k a1 a2 a3 a4 t229 t232 bt241.1 bt241.2 true a0_0 l0_1 l0_2 bt233.1 bt233.2.1 bt233.2.2))))) = some r := H
   have A12 := Aside0.mk A120
   clear A120
   replace H := Option.bind_eq_some_iff.mp H
   obtain ⟨⟨t233, t234, t237⟩, A130, H⟩ := H
   replace H : ((impl_ListCadences.f k t233 t234 t237 a1 a2 a3 a4).bind fun bt241 => ((laws_eqInt64SS.f k bt241.1 t229).bind fun t245 => (if t245 = true then (laws_FnExactListCadences.j0 k a1 a2 a3 a4 t229 t232 bt241.1 bt241.2 (bt241.2 != t232) a0_0 l0_1 l0_2 t233 t234 t237) else (laws_FnExactListCadences.j0 k a1 a2 a3 a4 t229 t232 bt241.1 bt241.2 true a0_0 l0_1 l0_2 t233 t234 t237)))) = some r := H
   have A13 := Aside0.mk A130
   clear A130
   replace H := Option.bind_eq_some_iff.mp H
   obtain ⟨⟨t241, t244⟩, A140, H⟩ := H
   replace H : ((laws_eqInt64SS.f k t241 t229).bind fun t245 => (if t245 = true then (laws_FnExactListCadences.j0 k a1 a2 a3 a4 t229 t232 t241 t244 (t244 != t232) a0_0 l0_1 l0_2 t233 t234 t237) else (laws_FnExactListCadences.j0 k a1 a2 a3 a4 t229 t232 t241 t244 true a0_0 l0_1 l0_2 t233 t234 t237))) = some r := H
   have A14 := Aside0.mk A140
   clear A140
   have HC15 := Aside0.mk H
   clear H
   go_enter Try.func3, Try.ntmps3
   go_upto_region 8 with (first | ((with_reducible refine gate_dst (N := 5) rfl ?_); refine box_event ?hg (N := 5) ?hd (cs := #[.string a0_0, .slice A0_1 l0_1.length c0_1, .slice A0_2 l0_2.length c0_2]) (t := 24) ?hr ?_; (case hd => rfl); (case hg => rfl); (case hr => first | (go_simp; done) | (go_simp; rfl)); intro gb220 hg w16 hbox hb; have n0_ := Aside0.mk (below_step (by repeat (first | (with_reducible first | exact HB.out | apply qba | apply qbn | apply qb1) | exact HB.out)) hb); have n1_ := Aside0.mk (hbox); have n2_ := Aside0.mk ((by rw [hg]; exact (below_size (by repeat (first | (with_reducible first | exact HB.out | apply qba | apply qbn | apply qb1) | exact HB.out))) : w.heap.size ≤ gb220)); have n3_ := Aside0.mk ((by rw [hg]; exact (below_size (by repeat (first | (with_reducible first | exact HB.out | apply qba | apply qbn | apply qb1) | exact HB.out))) : w.heap.size ≤ gb220)); clear HB; have HB := n0_; have BK220 := n1_; have GW220 := n2_; have GE220 := n3_; clear n0_ n1_ n2_ n3_; clear hb hbox hg; have hcz17_0 : w16.cell? ⟨gb220, 0, none⟩ = some (.string a0_0) := (blk_cell BK220.out 0).trans rfl; have hcz17_1 : w16.cell? ⟨gb220, 1, none⟩ = some (.slice A0_1 l0_1.length c0_1) := (blk_cell BK220.out 1).trans rfl; have hcz17_2 : w16.cell? ⟨gb220, 2, none⟩ = some (.slice A0_2 l0_2.length c0_2) := (blk_cell BK220.out 2).trans rfl; have hfz17_0 := blk_frozen BK220.out 0; have hfz17_1 := blk_frozen BK220.out 1; have hfz17_2 := blk_frozen BK220.out 2) | ((with_reducible refine gate_callee (f := 4) rfl ?_); refine gL_ (some 24) rfl rfl Try.func4 #[.agg #[.string a0_0, .slice A0_1 l0_1.length c0_1, .slice A0_2 l0_2.length c0_2], .int .i64 1048576] rfl ?_; (with_reducible refine (laws_szTala.calls a0_0 _ _ l0_1 _ _ l0_2 1048576 t221 _ ?side1 ?side2 ?side3 ?side4 A6.out).mono ?_); (case side1 => repeat (first | exact (Kd.C_below HR0_1.out HB.out) | (with_reducible refine Kd.C_alloc ?_ _) | (with_reducible refine Kd.C_drewN ?_ _) | (with_reducible refine Kd.C_drew ?_))); (case side2 => exact HC0_1.out); (case side3 => repeat (first | exact (Kd.C_below HR0_2.out HB.out) | (with_reducible refine Kd.C_alloc ?_ _) | (with_reducible refine Kd.C_drewN ?_ _) | (with_reducible refine Kd.C_drew ?_))); (case side4 => exact HC0_2.out); rintro e w18 ⟨rfl, hb⟩; refine ⟨_, rfl, ?_⟩; have n0_ := Aside0.mk (blk_below (g := gb220) (o := .cells #[.string a0_0, .slice A0_1 l0_1.length c0_1, .slice A0_2 l0_2.length c0_2] 24 (0, 0)) (by (with_reducible repeat (first | refine blk_drewN ?_ _ | refine blk_drew ?_ | refine blk_alloc ?_ _)); exact BK220.out) hb); have n1_ := Aside0.mk (below_step (by repeat (first | (with_reducible first | exact HB.out | apply qba | apply qbn | apply qb1 | refine below_set ?_ GE220.out) | exact HB.out)) hb); clear BK220; clear HB; have BK220 := n0_; have HB := n1_; clear n0_ n1_; (try clear hb); (try clear hb2); (try clear hk); (try clear hi); have hcz19_0 : w18.cell? ⟨gb220, 0, none⟩ = some (.string a0_0) := (blk_cell BK220.out 0).trans rfl; have hcz19_1 : w18.cell? ⟨gb220, 1, none⟩ = some (.slice A0_1 l0_1.length c0_1) := (blk_cell BK220.out 1).trans rfl; have hcz19_2 : w18.cell? ⟨gb220, 2, none⟩ = some (.slice A0_2 l0_2.length c0_2) := (blk_cell BK220.out 2).trans rfl; have hfz19_0 := blk_frozen BK220.out 0; have hfz19_1 := blk_frozen BK220.out 1; have hfz19_2 := blk_frozen BK220.out 2) | ((with_reducible refine gate_callee (f := 6) rfl ?_); refine gL_ (some 29) rfl rfl Try.func6 #[.agg #[.string a0_0, .slice A0_1 l0_1.length c0_1, .slice A0_2 l0_2.length c0_2]] rfl ?_; (with_reducible refine (laws_toTala.calls k a0_0 _ _ l0_1 _ _ l0_2 t222 t223 t226 _ ?side1 ?side2 ?side3 ?side4 A11.out).mono ?_); (case side1 => repeat (first | exact (Kd.C_below HR0_1.out HB.out) | (with_reducible refine Kd.C_alloc ?_ _) | (with_reducible refine Kd.C_drewN ?_ _) | (with_reducible refine Kd.C_drew ?_))); (case side2 => exact HC0_1.out); (case side3 => repeat (first | exact (Kd.C_below HR0_2.out HB.out) | (with_reducible refine Kd.C_alloc ?_ _) | (with_reducible refine Kd.C_drewN ?_ _) | (with_reducible refine Kd.C_drew ?_))); (case side4 => exact HC0_2.out); rintro e w20 ⟨v224, v227, rfl, ho0, ho1, hb⟩; refine ⟨_, rfl, ?_⟩; have n0_ := Aside0.mk (Kd.R_lower ho0 (below_size (by repeat (first | (with_reducible first | exact HB.out | apply qba | apply qbn | apply qb1 | refine below_set ?_ GE220.out) | exact HB.out)))); have n1_ := Aside0.mk (Kd.R_lower ho1 (below_size (by repeat (first | (with_reducible first | exact HB.out | apply qba | apply qbn | apply qb1 | refine below_set ?_ GE220.out) | exact HB.out)))); have n2_ := Aside0.mk (blk_below (g := gb220) (o := .cells #[.string a0_0, .slice A0_1 l0_1.length c0_1, .slice A0_2 l0_2.length c0_2] 24 (0, 0)) (by (with_reducible repeat (first | refine blk_drewN ?_ _ | refine blk_drew ?_ | refine blk_alloc ?_ _)); exact BK220.out) hb); have n3_ := Aside0.mk (below_step (by repeat (first | (with_reducible first | exact HB.out | apply qba | apply qbn | apply qb1 | refine below_set ?_ GE220.out) | exact HB.out)) hb); clear BK220; clear HB; have HO225 := n0_; have HO228 := n1_; have BK220 := n2_; have HB := n3_; clear n0_ n1_ n2_ n3_; (try clear hb); (try clear hb2); (try clear hk); (try clear hi); (try clear ho0); (try clear ho1); obtain ⟨Ao21, co21, eo21⟩ := Kd.R_slice HO225.out; subst eo21; obtain ⟨Ao22, co22, eo22⟩ := Kd.R_slice HO228.out; subst eo22) | ((with_reducible refine gate_callee (f := 5) rfl ?_); refine gL_ (some 34) rfl rfl Try.func5 #[.agg #[.string t222, .slice Ao21 t223.length co21, .slice Ao22 t226.length co22], .int .i64 a1, .int .i64 a2, .int .i64 a3, .int .i64 a4] rfl ?_; (with_reducible refine (spec_ListCadences.calls k t222 _ _ t223 _ _ t226 a1 a2 a3 a4 t229 t232 _ ?side1 ?side2 ?side3 ?side4 A12.out).mono ?_); (case side1 => repeat (first | exact (Kd.R_reads' HO225.out).2.2 | (with_reducible refine Kd.C_alloc ?_ _) | (with_reducible refine Kd.C_drewN ?_ _) | (with_reducible refine Kd.C_drew ?_))); (case side2 => exact (Kd.R_reads' HO225.out).2.1); (case side3 => repeat (first | exact (Kd.R_reads' HO228.out).2.2 | (with_reducible refine Kd.C_alloc ?_ _) | (with_reducible refine Kd.C_drewN ?_ _) | (with_reducible refine Kd.C_drew ?_))); (case side4 => exact (Kd.R_reads' HO228.out).2.1); rintro e w23 ⟨v230, rfl, ho0, hb⟩; refine ⟨_, rfl, ?_⟩; have n0_ := Aside0.mk (Kd.R_below (by (with_reducible repeat (first | apply qra | apply qrn | apply qrd)); exact HO225.out) hb); have n1_ := Aside0.mk (Kd.R_below (by (with_reducible repeat (first | apply qra | apply qrn | apply qrd)); exact HO228.out) hb); have n2_ := Aside0.mk (Kd.S_lower (Kd.S_new' (Kd.S_new' ho0 (Kd.R_lt (by (with_reducible repeat (first | apply qra | apply qrn | apply qrd)); exact HO225.out))) (Kd.R_lt (by (with_reducible repeat (first | apply qra | apply qrn | apply qrd)); exact HO228.out))) (below_size (by repeat (first | (with_reducible first | exact HB.out | apply qba | apply qbn | apply qb1 | refine below_set ?_ GE220.out) | exact HB.out)))); have n3_ := Aside0.mk (blk_below (g := gb220) (o := .cells #[.string a0_0, .slice A0_1 l0_1.length c0_1, .slice A0_2 l0_2.length c0_2] 24 (0, 0)) (by (with_reducible repeat (first | refine blk_drewN ?_ _ | refine blk_drew ?_ | refine blk_alloc ?_ _)); exact BK220.out) hb); have n4_ := Aside0.mk (below_step (by repeat (first | (with_reducible first | exact HB.out | apply qba | apply qbn | apply qb1 | refine below_set ?_ GE220.out) | exact HB.out)) hb); clear HO225; clear HO228; clear BK220; clear HB; have HO225 := n0_; have HO228 := n1_; have HO231 := n2_; have BK220 := n3_; have HB := n4_; clear n0_ n1_ n2_ n3_ n4_; (try clear hb); (try clear hb2); (try clear hk); (try clear hi); (try clear ho0); have hcz24_0 : w23.cell? ⟨gb220, 0, none⟩ = some (.string a0_0) := (blk_cell BK220.out 0).trans rfl; have hcz24_1 : w23.cell? ⟨gb220, 1, none⟩ = some (.slice A0_1 l0_1.length c0_1) := (blk_cell BK220.out 1).trans rfl; have hcz24_2 : w23.cell? ⟨gb220, 2, none⟩ = some (.slice A0_2 l0_2.length c0_2) := (blk_cell BK220.out 2).trans rfl; have hfz24_0 := blk_frozen BK220.out 0; have hfz24_1 := blk_frozen BK220.out 1; have hfz24_2 := blk_frozen BK220.out 2) | ((with_reducible refine gate_callee (f := 6) rfl ?_); refine gL_ (some 38) rfl rfl Try.func6 #[.agg #[.string a0_0, .slice A0_1 l0_1.length c0_1, .slice A0_2 l0_2.length c0_2]] rfl ?_; (with_reducible refine (laws_toTala.calls k a0_0 _ _ l0_1 _ _ l0_2 t233 t234 t237 _ ?side1 ?side2 ?side3 ?side4 A13.out).mono ?_); (case side1 => repeat (first | exact (Kd.C_below HR0_1.out HB.out) | (with_reducible refine Kd.C_alloc ?_ _) | (with_reducible refine Kd.C_drewN ?_ _) | (with_reducible refine Kd.C_drew ?_))); (case side2 => exact HC0_1.out); (case side3 => repeat (first | exact (Kd.C_below HR0_2.out HB.out) | (with_reducible refine Kd.C_alloc ?_ _) | (with_reducible refine Kd.C_drewN ?_ _) | (with_reducible refine Kd.C_drew ?_))); (case side4 => exact HC0_2.out); rintro e w25 ⟨v235, v238, rfl, ho0, ho1, hb⟩; refine ⟨_, rfl, ?_⟩; have n0_ := Aside0.mk (Kd.R_mono (Kd.R_told (Kd.R_told (Kd.R_old (by (with_reducible repeat (first | apply qra | apply qrn | apply qrd)); exact HO225.out) hb) (Kd.R_base ho0)) (Kd.R_base ho1)) (fun _ h_ => h_.1)); have n1_ := Aside0.mk (Kd.R_mono (Kd.R_told (Kd.R_told (Kd.R_old (by (with_reducible repeat (first | apply qra | apply qrn | apply qrd)); exact HO228.out) hb) (Kd.R_base ho0)) (Kd.R_base ho1)) (fun _ h_ => h_.1)); have n2_ := Aside0.mk (Kd.S_mono (Kd.S_told (Kd.S_told (Kd.S_old (by (with_reducible repeat (first | apply Kd.S_alloc | apply Kd.S_drewN | apply Kd.S_drew)); exact HO231.out) hb) (Kd.R_base ho0)) (Kd.R_base ho1)) (fun _ h_ => h_.1)); have n3_ := Aside0.mk (Kd.R_lower (Kd.R_new' (Kd.R_new' ho0 (Kd.R_lt (by (with_reducible repeat (first | apply qra | apply qrn | apply qrd)); exact HO225.out))) (Kd.R_lt (by (with_reducible repeat (first | apply qra | apply qrn | apply qrd)); exact HO228.out))) (below_size (by repeat (first | (with_reducible first | exact HB.out | apply qba | apply qbn | apply qb1 | refine below_set ?_ GE220.out) | exact HB.out)))); have n4_ := Aside0.mk (Kd.R_lower (Kd.R_new' (Kd.R_new' ho1 (Kd.R_lt (by (with_reducible repeat (first | apply qra | apply qrn | apply qrd)); exact HO225.out))) (Kd.R_lt (by (with_reducible repeat (first | apply qra | apply qrn | apply qrd)); exact HO228.out))) (below_size (by repeat (first | (with_reducible first | exact HB.out | apply qba | apply qbn | apply qb1 | refine below_set ?_ GE220.out) | exact HB.out)))); have n5_ := Aside0.mk (blk_below (g := gb220) (o := .cells #[.string a0_0, .slice A0_1 l0_1.length c0_1, .slice A0_2 l0_2.length c0_2] 24 (0, 0)) (by (with_reducible repeat (first | refine blk_drewN ?_ _ | refine blk_drew ?_ | refine blk_alloc ?_ _)); exact BK220.out) hb); have n6_ := Aside0.mk (below_step (by repeat (first | (with_reducible first | exact HB.out | apply qba | apply qbn | apply qb1 | refine below_set ?_ GE220.out) | exact HB.out)) hb); clear HO225; clear HO228; clear HO231; clear BK220; clear HB; have HO225 := n0_; have HO228 := n1_; have HO231 := n2_; have HO236 := n3_; have HO239 := n4_; have BK220 := n5_; have HB := n6_; clear n0_ n1_ n2_ n3_ n4_ n5_ n6_; (try clear hb); (try clear hb2); (try clear hk); (try clear hi); (try clear ho0); (try clear ho1)) | ((with_reducible refine gate_dst (N := 14) rfl ?_); refine box_event ?hg (N := 14) ?hd (cs := #[.string (⟨#[]⟩ : ByteArray), .slice none 0 0, .slice none 0 0]) (t := 29) ?hr ?_; (case hd => rfl); (case hg => rfl); (case hr => first | (go_simp; done) | (go_simp; rfl)); intro gb240 hg w26 hbox hb; have n0_ := Aside0.mk (Kd.R_below (by (with_reducible repeat (first | apply qra | apply qrn | apply qrd)); exact HO225.out) hb); have n1_ := Aside0.mk (Kd.R_below (by (with_reducible repeat (first | apply qra | apply qrn | apply qrd)); exact HO228.out) hb); have n2_ := Aside0.mk (Kd.S_below (by (with_reducible repeat (first | apply Kd.S_alloc | apply Kd.S_drewN | apply Kd.S_drew)); exact HO231.out) hb); have n3_ := Aside0.mk (Kd.R_below (by (with_reducible repeat (first | apply qra | apply qrn | apply qrd)); exact HO236.out) hb); have n4_ := Aside0.mk (Kd.R_below (by (with_reducible repeat (first | apply qra | apply qrn | apply qrd)); exact HO239.out) hb); have n5_ := Aside0.mk (blk_below (g := gb220) (o := .cells #[.string a0_0, .slice A0_1 l0_1.length c0_1, .slice A0_2 l0_2.length c0_2] 24 (0, 0)) (by (with_reducible repeat (first | refine blk_drewN ?_ _ | refine blk_drew ?_ | refine blk_alloc ?_ _)); exact BK220.out) hb); have n6_ := Aside0.mk (below_step (by repeat (first | (with_reducible first | exact HB.out | apply qba | apply qbn | apply qb1 | refine below_set ?_ GE220.out) | exact HB.out)) hb); have n7_ := Aside0.mk (hbox); have n8_ := Aside0.mk ((by rw [hg]; exact (below_size (by repeat (first | (with_reducible first | exact HB.out | apply qba | apply qbn | apply qb1 | refine below_set ?_ GE220.out) | exact HB.out))) : w.heap.size ≤ gb240)); have n9_ := Aside0.mk ((by rw [hg]; exact (below_size (by repeat (first | (with_reducible first | exact HB.out | apply qba | apply qbn | apply qb1 | refine below_set ?_ GE220.out) | exact HB.out))) : w.heap.size ≤ gb240)); have n10_ := Aside0.mk ((by rw [hg]; exact Nat.ne_of_lt (blk_lt (g := gb220) (o := .cells #[.string a0_0, .slice A0_1 l0_1.length c0_1, .slice A0_2 l0_2.length c0_2] 24 (0, 0)) (by (with_reducible repeat (first | refine blk_drewN ?_ _ | refine blk_drew ?_ | refine blk_alloc ?_ _)); exact BK220.out)) : gb220 ≠ gb240)); have n11_ := Aside0.mk ((by rw [hg]; exact Nat.ne_of_gt (blk_lt (g := gb220) (o := .cells #[.string a0_0, .slice A0_1 l0_1.length c0_1, .slice A0_2 l0_2.length c0_2] 24 (0, 0)) (by (with_reducible repeat (first | refine blk_drewN ?_ _ | refine blk_drew ?_ | refine blk_alloc ?_ _)); exact BK220.out)) : gb240 ≠ gb220)); clear HO225; clear HO228; clear HO231; clear HO236; clear HO239; clear BK220; clear HB; have HO225 := n0_; have HO228 := n1_; have HO231 := n2_; have HO236 := n3_; have HO239 := n4_; have BK220 := n5_; have HB := n6_; have BK240 := n7_; have GW240 := n8_; have GE240 := n9_; have NB220_240 := n10_; have NB240_220 := n11_; clear n0_ n1_ n2_ n3_ n4_ n5_ n6_ n7_ n8_ n9_ n10_ n11_; clear hb hbox hg; have hnb27 := NB240_220.out; have hnc27 := NB220_240.out; have hcz28_0 : w26.cell? ⟨gb240, 0, none⟩ = some (.string (⟨#[]⟩ : ByteArray)) := (blk_cell BK240.out 0).trans rfl; have hcz28_1 : w26.cell? ⟨gb240, 1, none⟩ = some (.slice none 0 0) := (blk_cell BK240.out 1).trans rfl; have hcz28_2 : w26.cell? ⟨gb240, 2, none⟩ = some (.slice none 0 0) := (blk_cell BK240.out 2).trans rfl; have hfz28_0 := blk_frozen BK240.out 0; have hfz28_1 := blk_frozen BK240.out 1; have hfz28_2 := blk_frozen BK240.out 2; obtain ⟨Ao29, co29, eo29⟩ := Kd.R_slice HO236.out; subst eo29; obtain ⟨Ao30, co30, eo30⟩ := Kd.R_slice HO239.out; subst eo30) | ((with_reducible refine gate_callee (f := 7) rfl ?_); refine gL_ (some 45) rfl rfl Try.func7 #[.agg #[.string t233, .slice Ao29 t234.length co29, .slice Ao30 t237.length co30], .int .i64 a1, .int .i64 a2, .int .i64 a3, .int .i64 a4] rfl ?_; (with_reducible refine (impl_ListCadences.calls k t233 _ _ t234 _ _ t237 a1 a2 a3 a4 t241 t244 _ ?side1 ?side2 ?side3 ?side4 A14.out).mono ?_); (case side1 => refine (Kd.R_reads' (e := 2) (base := w.heap.size) (ok := fun k_ => ((some k_ ≠ (.slice Ao30 t237.length co30 : Value).ownBlock ∧ some k_ ≠ (.slice Ao21 t223.length co21 : Value).ownBlock) ∧ some k_ ≠ (.slice Ao22 t226.length co22 : Value).ownBlock)) (n := t234.length) (c := co29) ?_).2.2; exact (by (with_reducible repeat (first | apply qra | apply qrn | apply qrd)); exact (Kd.R_mono (Kd.R_far (p := ⟨gb240, 2, none⟩) (Kd.R_far (p := ⟨gb240, 1, none⟩) (Kd.R_far (p := ⟨gb240, 0, none⟩) (Kd.R_types HO236.out BK240.out (by decide)) (fun _ hk => hk.2) (.string t233)) (fun _ hk => hk.2) (.slice Ao29 t234.length co29)) (fun _ hk => hk.2) (.slice Ao30 t237.length co30)) (fun _ h_ => h_.1)))); (case side2 => exact (Kd.R_reads' HO236.out).2.1); (case side3 => refine (Kd.R_reads' (e := 2) (base := w.heap.size) (ok := fun k_ => ((some k_ ≠ (.slice Ao29 t234.length co29 : Value).ownBlock ∧ some k_ ≠ (.slice Ao21 t223.length co21 : Value).ownBlock) ∧ some k_ ≠ (.slice Ao22 t226.length co22 : Value).ownBlock)) (n := t237.length) (c := co30) ?_).2.2; exact (by (with_reducible repeat (first | apply qra | apply qrn | apply qrd)); exact (Kd.R_mono (Kd.R_far (p := ⟨gb240, 2, none⟩) (Kd.R_far (p := ⟨gb240, 1, none⟩) (Kd.R_far (p := ⟨gb240, 0, none⟩) (Kd.R_types HO239.out BK240.out (by decide)) (fun _ hk => hk.2) (.string t233)) (fun _ hk => hk.2) (.slice Ao29 t234.length co29)) (fun _ hk => hk.2) (.slice Ao30 t237.length co30)) (fun _ h_ => h_.1)))); (case side4 => exact (Kd.R_reads' HO239.out).2.1); rintro e w31 ⟨v242, rfl, ho0, hb⟩; refine ⟨_, rfl, ?_⟩; obtain ⟨NG, hNG⟩ := name_size hb; have LB220 := Aside0.mk (show gb220 < NG by rw [hNG]; exact blk_lt (g := gb220) (o := .cells #[.string a0_0, .slice A0_1 l0_1.length c0_1, .slice A0_2 l0_2.length c0_2] 24 (0, 0)) (by (with_reducible repeat (first | refine blk_drewN ?_ _ | refine blk_drew ?_ | refine blk_alloc ?_ _)); refine blk_far ?_ NB220_240.out _; (with_reducible repeat (first | refine blk_drewN ?_ _ | refine blk_drew ?_ | refine blk_alloc ?_ _)); refine blk_far ?_ NB220_240.out _; (with_reducible repeat (first | refine blk_drewN ?_ _ | refine blk_drew ?_ | refine blk_alloc ?_ _)); refine blk_far ?_ NB220_240.out _; (with_reducible repeat (first | refine blk_drewN ?_ _ | refine blk_drew ?_ | refine blk_alloc ?_ _)); exact BK220.out)); have LB240 := Aside0.mk (show gb240 < NG by rw [hNG]; exact blk_lt (g := gb240) (o := .cells #[.string t233, .slice Ao29 t234.length co29, .slice Ao30 t237.length co30] 29 (0, 0)) (by (with_reducible repeat (first | refine blk_drewN ?_ _ | refine blk_drew ?_ | refine blk_alloc ?_ _)); refine blk_put (cs := #[.string t233, .slice Ao29 t234.length co29, .slice none 0 0]) ?_ 2 _ rfl; (with_reducible repeat (first | refine blk_drewN ?_ _ | refine blk_drew ?_ | refine blk_alloc ?_ _)); refine blk_put (cs := #[.string t233, .slice none 0 0, .slice none 0 0]) ?_ 1 _ rfl; (with_reducible repeat (first | refine blk_drewN ?_ _ | refine blk_drew ?_ | refine blk_alloc ?_ _)); refine blk_put (cs := #[.string (⟨#[]⟩ : ByteArray), .slice none 0 0, .slice none 0 0]) ?_ 0 _ rfl; (with_reducible repeat (first | refine blk_drewN ?_ _ | refine blk_drew ?_ | refine blk_alloc ?_ _)); exact BK240.out)); have n0_ := Aside0.mk (Kd.R_below (by (with_reducible repeat (first | apply qra | apply qrn | apply qrd)); exact (Kd.R_mono (Kd.R_far (p := ⟨gb240, 2, none⟩) (Kd.R_far (p := ⟨gb240, 1, none⟩) (Kd.R_far (p := ⟨gb240, 0, none⟩) (Kd.R_types HO225.out BK240.out (by decide)) (fun _ hk => hk.2) (.string t233)) (fun _ hk => hk.2) (.slice Ao29 t234.length co29)) (fun _ hk => hk.2) (.slice Ao30 t237.length co30)) (fun _ h_ => h_.1))) hb); have n1_ := Aside0.mk (Kd.R_below (by (with_reducible repeat (first | apply qra | apply qrn | apply qrd)); exact (Kd.R_mono (Kd.R_far (p := ⟨gb240, 2, none⟩) (Kd.R_far (p := ⟨gb240, 1, none⟩) (Kd.R_far (p := ⟨gb240, 0, none⟩) (Kd.R_types HO228.out BK240.out (by decide)) (fun _ hk => hk.2) (.string t233)) (fun _ hk => hk.2) (.slice Ao29 t234.length co29)) (fun _ hk => hk.2) (.slice Ao30 t237.length co30)) (fun _ h_ => h_.1))) hb); have n2_ := Aside0.mk (S_elderN hNG (by (with_reducible repeat (first | apply Kd.S_alloc | apply Kd.S_drewN | apply Kd.S_drew)); exact (Kd.S_mono (Kd.S_far (p := ⟨gb240, 2, none⟩) (Kd.S_far (p := ⟨gb240, 1, none⟩) (Kd.S_far (p := ⟨gb240, 0, none⟩) (Kd.S_types HO231.out BK240.out (by decide)) (fun _ hk => hk.2) (.string t233)) (fun _ hk => hk.2) (.slice Ao29 t234.length co29)) (fun _ hk => hk.2) (.slice Ao30 t237.length co30)) (fun _ h_ => h_.1))) (Kd.S_base ho0) hb); have n3_ := Aside0.mk (Kd.R_below (by (with_reducible repeat (first | apply qra | apply qrn | apply qrd)); exact (Kd.R_mono (Kd.R_far (p := ⟨gb240, 2, none⟩) (Kd.R_far (p := ⟨gb240, 1, none⟩) (Kd.R_far (p := ⟨gb240, 0, none⟩) (Kd.R_types HO236.out BK240.out (by decide)) (fun _ hk => hk.2) (.string t233)) (fun _ hk => hk.2) (.slice Ao29 t234.length co29)) (fun _ hk => hk.2) (.slice Ao30 t237.length co30)) (fun _ h_ => h_.1))) hb); have n4_ := Aside0.mk (Kd.R_below (by (with_reducible repeat (first | apply qra | apply qrn | apply qrd)); exact (Kd.R_mono (Kd.R_far (p := ⟨gb240, 2, none⟩) (Kd.R_far (p := ⟨gb240, 1, none⟩) (Kd.R_far (p := ⟨gb240, 0, none⟩) (Kd.R_types HO239.out BK240.out (by decide)) (fun _ hk => hk.2) (.string t233)) (fun _ hk => hk.2) (.slice Ao29 t234.length co29)) (fun _ hk => hk.2) (.slice Ao30 t237.length co30)) (fun _ h_ => h_.1))) hb); have n5_ := Aside0.mk (Kd.S_lower (Kd.S_new' (Kd.S_new' (S_newN hNG (Kd.S_new' (Kd.S_new' ho0 (Kd.R_lt (by (with_reducible repeat (first | apply qra | apply qrn | apply qrd)); exact (Kd.R_mono (Kd.R_far (p := ⟨gb240, 2, none⟩) (Kd.R_far (p := ⟨gb240, 1, none⟩) (Kd.R_far (p := ⟨gb240, 0, none⟩) (Kd.R_types HO225.out BK240.out (by decide)) (fun _ hk => hk.2) (.string t233)) (fun _ hk => hk.2) (.slice Ao29 t234.length co29)) (fun _ hk => hk.2) (.slice Ao30 t237.length co30)) (fun _ h_ => h_.1))))) (Kd.R_lt (by (with_reducible repeat (first | apply qra | apply qrn | apply qrd)); exact (Kd.R_mono (Kd.R_far (p := ⟨gb240, 2, none⟩) (Kd.R_far (p := ⟨gb240, 1, none⟩) (Kd.R_far (p := ⟨gb240, 0, none⟩) (Kd.R_types HO228.out BK240.out (by decide)) (fun _ hk => hk.2) (.string t233)) (fun _ hk => hk.2) (.slice Ao29 t234.length co29)) (fun _ hk => hk.2) (.slice Ao30 t237.length co30)) (fun _ h_ => h_.1))))) (Kd.S_lt (by (with_reducible repeat (first | apply Kd.S_alloc | apply Kd.S_drewN | apply Kd.S_drew)); exact (Kd.S_mono (Kd.S_far (p := ⟨gb240, 2, none⟩) (Kd.S_far (p := ⟨gb240, 1, none⟩) (Kd.S_far (p := ⟨gb240, 0, none⟩) (Kd.S_types HO231.out BK240.out (by decide)) (fun _ hk => hk.2) (.string t233)) (fun _ hk => hk.2) (.slice Ao29 t234.length co29)) (fun _ hk => hk.2) (.slice Ao30 t237.length co30)) (fun _ h_ => h_.1))))) (Kd.R_lt (by (with_reducible repeat (first | apply qra | apply qrn | apply qrd)); exact (Kd.R_mono (Kd.R_far (p := ⟨gb240, 2, none⟩) (Kd.R_far (p := ⟨gb240, 1, none⟩) (Kd.R_far (p := ⟨gb240, 0, none⟩) (Kd.R_types HO236.out BK240.out (by decide)) (fun _ hk => hk.2) (.string t233)) (fun _ hk => hk.2) (.slice Ao29 t234.length co29)) (fun _ hk => hk.2) (.slice Ao30 t237.length co30)) (fun _ h_ => h_.1))))) (Kd.R_lt (by (with_reducible repeat (first | apply qra | apply qrn | apply qrd)); exact (Kd.R_mono (Kd.R_far (p := ⟨gb240, 2, none⟩) (Kd.R_far (p := ⟨gb240, 1, none⟩) (Kd.R_far (p := ⟨gb240, 0, none⟩) (Kd.R_types HO239.out BK240.out (by decide)) (fun _ hk => hk.2) (.string t233)) (fun _ hk => hk.2) (.slice Ao29 t234.length co29)) (fun _ hk => hk.2) (.slice Ao30 t237.length co30)) (fun _ h_ => h_.1))))) (below_size (by repeat (first | (with_reducible first | exact HB.out | apply qba | apply qbn | apply qb1 | refine below_set ?_ GE220.out | refine below_set ?_ GE240.out) | exact HB.out)))); have n6_ := Aside0.mk (blk_below (g := gb220) (o := .cells #[.string a0_0, .slice A0_1 l0_1.length c0_1, .slice A0_2 l0_2.length c0_2] 24 (0, 0)) (by (with_reducible repeat (first | refine blk_drewN ?_ _ | refine blk_drew ?_ | refine blk_alloc ?_ _)); refine blk_far ?_ NB220_240.out _; (with_reducible repeat (first | refine blk_drewN ?_ _ | refine blk_drew ?_ | refine blk_alloc ?_ _)); refine blk_far ?_ NB220_240.out _; (with_reducible repeat (first | refine blk_drewN ?_ _ | refine blk_drew ?_ | refine blk_alloc ?_ _)); refine blk_far ?_ NB220_240.out _; (with_reducible repeat (first | refine blk_drewN ?_ _ | refine blk_drew ?_ | refine blk_alloc ?_ _)); exact BK220.out) hb); have n7_ := Aside0.mk (blk_below (g := gb240) (o := .cells #[.string t233, .slice Ao29 t234.length co29, .slice Ao30 t237.length co30] 29 (0, 0)) (by (with_reducible repeat (first | refine blk_drewN ?_ _ | refine blk_drew ?_ | refine blk_alloc ?_ _)); refine blk_put (cs := #[.string t233, .slice Ao29 t234.length co29, .slice none 0 0]) ?_ 2 _ rfl; (with_reducible repeat (first | refine blk_drewN ?_ _ | refine blk_drew ?_ | refine blk_alloc ?_ _)); refine blk_put (cs := #[.string t233, .slice none 0 0, .slice none 0 0]) ?_ 1 _ rfl; (with_reducible repeat (first | refine blk_drewN ?_ _ | refine blk_drew ?_ | refine blk_alloc ?_ _)); refine blk_put (cs := #[.string (⟨#[]⟩ : ByteArray), .slice none 0 0, .slice none 0 0]) ?_ 0 _ rfl; (with_reducible repeat (first | refine blk_drewN ?_ _ | refine blk_drew ?_ | refine blk_alloc ?_ _)); exact BK240.out) hb); have n8_ := Aside0.mk (below_step (by repeat (first | (with_reducible first | exact HB.out | apply qba | apply qbn | apply qb1 | refine below_set ?_ GE220.out | refine below_set ?_ GE240.out) | exact HB.out)) hb); clear HO225; clear HO228; clear HO231; clear HO236; clear HO239; clear BK220; clear BK240; clear HB; have HO225 := n0_; have HO228 := n1_; have HO231 := n2_; have HO236 := n3_; have HO239 := n4_; have HO243 := n5_; have BK220 := n6_; have BK240 := n7_; have HB := n8_; clear n0_ n1_ n2_ n3_ n4_ n5_ n6_ n7_ n8_; (try clear hb); (try clear hb2); (try clear hk); (try clear hi); (try clear ho0)))
   (try simp only [Act.put, sx0, sx1, sx2])
   go_cut [56] (fun v56 wc => ∃ (kq : Nat) (x56_14 : Bool), v56 = .bool x56_14 ∧ Aside0 (laws_FnExactListCadences.j0 kq a1 a2 a3 a4 t229 t232 t241 t244 x56_14 a0_0 l0_1 l0_2 t233 t234 t237 = some r) ∧ Aside0 (kq ≤ k) ∧ Aside0 (Kd.S (Kd.slice 2 (Kd.int .i64)) 22 wc w.heap.size (fun k_ => (some k_ ≠ (v242 : Value).ownBlock ∧ k_ < NG) ∧ some k_ ≠ ((.slice Ao29 t234.length co29) : Value).ownBlock ∧ some k_ ≠ ((.slice Ao30 t237.length co30) : Value).ownBlock) v230 t229) ∧ Aside0 (Kd.S (Kd.slice 2 (Kd.int .i64)) 22 wc w.heap.size (fun k_ => (some k_ ≠ (v230 : Value).ownBlock ∧ NG ≤ k_) ∧ some k_ ≠ ((.slice Ao29 t234.length co29) : Value).ownBlock ∧ some k_ ≠ ((.slice Ao30 t237.length co30) : Value).ownBlock) v242 t241) ∧ Aside0 (Kd.R (Kd.int .i64) 2 wc w.heap.size (fun k_ => some k_ ≠ ((.slice Ao30 t237.length co30) : Value).ownBlock) (.slice Ao29 t234.length co29) t234) ∧ Aside0 (Kd.R (Kd.int .i64) 2 wc w.heap.size (fun k_ => some k_ ≠ ((.slice Ao29 t234.length co29) : Value).ownBlock) (.slice Ao30 t237.length co30) t237) ∧ Aside0 (wc.heap[gb220]? = some (.cells #[.string a0_0, (.slice A0_1 l0_1.length c0_1), (.slice A0_2 l0_2.length c0_2)] 24 (0, 0))) ∧ Aside0 (wc.heap[gb240]? = some (.cells #[.string t233, (.slice Ao29 t234.length co29), (.slice Ao30 t237.length co30)] 29 (0, 0))) ∧ Aside0 (Below w.heap.size w wc))
   case first =>
    have H := HC15.out
    clear HC15
    replace H := Option.bind_eq_some_iff.mp H
    obtain ⟨t245, A320, H⟩ := H
    replace H : (if t245 = true then (laws_FnExactListCadences.j0 k a1 a2 a3 a4 t229 t232 t241 t244 (t244 != t232) a0_0 l0_1 l0_2 t233 t234 t237) else (laws_FnExactListCadences.j0 k a1 a2 a3 a4 t229 t232 t241 t244 true a0_0 l0_1 l0_2 t233 t234 t237)) = some r := H
    have A32 := Aside0.mk A320
    clear A320
    by_cases c33 : t245 = true
    · subst c33
      have H1 : (laws_FnExactListCadences.j0 k a1 a2 a3 a4 t229 t232 t241 t244 (t244 != t232) a0_0 l0_1 l0_2 t233 t234 t237) = some r := by rw [if_pos rfl] at H; exact H
      clear H
      have H := H1
      clear H1
      have H' := Aside0.mk H
      clear H
      obtain ⟨Ao34, co34, eo34⟩ := Kd.S_slice HO243.out
      subst eo34
      obtain ⟨Ao35, co35, eo35⟩ := Kd.S_slice HO231.out
      subst eo35
      go_wp2_with (first | ((with_reducible refine gate_callee (f := 8) rfl ?_); refine gL_ (some 50) rfl rfl Try.func8 #[.slice Ao34 t241.length co34, .slice Ao35 t229.length co35] rfl ?_; (with_reducible refine (laws_eqInt64SS.calls k _ _ t241 _ _ t229 true _ ?side1 ?side2 ?side3 ?side4 A32.out).mono ?_); (case side1 => repeat (first | exact (Kd.S_reads' HO243.out).2.2 | (with_reducible refine Kd.C_alloc ?_ _) | (with_reducible refine Kd.C_drewN ?_ _) | (with_reducible refine Kd.C_drew ?_))); (case side2 => exact (Kd.S_reads' HO243.out).2.1); (case side3 => repeat (first | exact (Kd.S_reads' HO231.out).2.2 | (with_reducible refine Kd.C_alloc ?_ _) | (with_reducible refine Kd.C_drewN ?_ _) | (with_reducible refine Kd.C_drew ?_))); (case side4 => exact (Kd.S_reads' HO231.out).2.1); rintro e w' ⟨rfl, ⟨nd, rfl⟩⟩; refine ⟨_, rfl, ?_⟩))
      go_meet
      case rel => exact ⟨_, ((t244 != t232)), (by first | rfl | (simp; done) | (simp [*]; done)), H', ⟨by first | omega | exact Nat.le_refl _⟩, ⟨by (with_reducible repeat (first | apply Kd.S_alloc | apply Kd.S_drewN | apply Kd.S_drew)); exact Kd.S_mono HO231.out (fun _ hk => ⟨hk.2, ⟨hk.1.1.2, hk.1.2⟩⟩)⟩, ⟨by (with_reducible repeat (first | apply Kd.S_alloc | apply Kd.S_drewN | apply Kd.S_drew)); exact Kd.S_mono HO243.out (fun _ hk => ⟨hk.1.1.2, ⟨hk.1.2, hk.2⟩⟩)⟩, ⟨by (with_reducible repeat (first | apply qra | apply qrn | apply qrd)); exact Kd.R_mono HO236.out (fun _ hk => hk.1.1)⟩, ⟨by (with_reducible repeat (first | apply qra | apply qrn | apply qrd)); exact Kd.R_mono HO239.out (fun _ hk => hk.1.1)⟩, ⟨by (with_reducible repeat (first | refine blk_drewN ?_ _ | refine blk_drew ?_ | refine blk_alloc ?_ _)); exact BK220.out⟩, ⟨by (with_reducible repeat (first | refine blk_drewN ?_ _ | refine blk_drew ?_ | refine blk_alloc ?_ _)); exact BK240.out⟩, ⟨by repeat (first | (with_reducible first | exact HB.out | apply qba | apply qbn | apply qb1 | refine below_set ?_ GE220.out | refine below_set ?_ GE240.out) | exact HB.out)⟩⟩
    · replace c33 := Bool.eq_false_iff.mpr c33
      subst c33
      have H1 : (laws_FnExactListCadences.j0 k a1 a2 a3 a4 t229 t232 t241 t244 true a0_0 l0_1 l0_2 t233 t234 t237) = some r := by rw [if_neg (show ¬ (false = true) by decide)] at H; exact H
      clear H
      have H := H1
      clear H1
      have H' := Aside0.mk H
      clear H
      obtain ⟨Ao36, co36, eo36⟩ := Kd.S_slice HO243.out
      subst eo36
      obtain ⟨Ao37, co37, eo37⟩ := Kd.S_slice HO231.out
      subst eo37
      go_wp2_with (first | ((with_reducible refine gate_callee (f := 8) rfl ?_); refine gL_ (some 50) rfl rfl Try.func8 #[.slice Ao36 t241.length co36, .slice Ao37 t229.length co37] rfl ?_; (with_reducible refine (laws_eqInt64SS.calls k _ _ t241 _ _ t229 false _ ?side1 ?side2 ?side3 ?side4 A32.out).mono ?_); (case side1 => repeat (first | exact (Kd.S_reads' HO243.out).2.2 | (with_reducible refine Kd.C_alloc ?_ _) | (with_reducible refine Kd.C_drewN ?_ _) | (with_reducible refine Kd.C_drew ?_))); (case side2 => exact (Kd.S_reads' HO243.out).2.1); (case side3 => repeat (first | exact (Kd.S_reads' HO231.out).2.2 | (with_reducible refine Kd.C_alloc ?_ _) | (with_reducible refine Kd.C_drewN ?_ _) | (with_reducible refine Kd.C_drew ?_))); (case side4 => exact (Kd.S_reads' HO231.out).2.1); rintro e w' ⟨rfl, ⟨nd, rfl⟩⟩; refine ⟨_, rfl, ?_⟩))
      go_meet
      case rel => exact ⟨_, (true), (by first | rfl | (simp; done) | (simp [*]; done)), H', ⟨by first | omega | exact Nat.le_refl _⟩, ⟨by (with_reducible repeat (first | apply Kd.S_alloc | apply Kd.S_drewN | apply Kd.S_drew)); exact Kd.S_mono HO231.out (fun _ hk => ⟨hk.2, ⟨hk.1.1.2, hk.1.2⟩⟩)⟩, ⟨by (with_reducible repeat (first | apply Kd.S_alloc | apply Kd.S_drewN | apply Kd.S_drew)); exact Kd.S_mono HO243.out (fun _ hk => ⟨hk.1.1.2, ⟨hk.1.2, hk.2⟩⟩)⟩, ⟨by (with_reducible repeat (first | apply qra | apply qrn | apply qrd)); exact Kd.R_mono HO236.out (fun _ hk => hk.1.1)⟩, ⟨by (with_reducible repeat (first | apply qra | apply qrn | apply qrd)); exact Kd.R_mono HO239.out (fun _ hk => hk.1.1)⟩, ⟨by (with_reducible repeat (first | refine blk_drewN ?_ _ | refine blk_drew ?_ | refine blk_alloc ?_ _)); exact BK220.out⟩, ⟨by (with_reducible repeat (first | refine blk_drewN ?_ _ | refine blk_drew ?_ | refine blk_alloc ?_ _)); exact BK240.out⟩, ⟨by repeat (first | (with_reducible first | exact HB.out | apply qba | apply qbn | apply qb1 | refine below_set ?_ GE220.out | refine below_set ?_ GE240.out) | exact HB.out)⟩⟩
   case rest =>
    clear HC15
    try clear c2
    try clear p2
    try clear c3
    try clear c4
    try clear c5
    try clear c6
    try clear c7
    try clear c7b0
    try clear c8
    try clear c27
    try clear c33
    try clear hcz17_0
    try clear hcz17_1
    try clear hcz17_2
    try clear hcz19_0
    try clear hcz19_1
    try clear hcz19_2
    try clear hcz24_0
    try clear hcz24_1
    try clear hcz24_2
    try clear hcz28_0
    try clear hcz28_1
    try clear hcz28_2
    try clear hcz9_0
    try clear hcz9_1
    try clear hcz9_2
    try clear hfz17_0
    try clear hfz17_1
    try clear hfz17_2
    try clear hfz19_0
    try clear hfz19_1
    try clear hfz19_2
    try clear hfz24_0
    try clear hfz24_1
    try clear hfz24_2
    try clear hfz28_0
    try clear hfz28_1
    try clear hfz28_2
    try clear hfz9_0
    try clear hfz9_1
    try clear hfz9_2
    obtain ⟨kq, x56_14, rfl, HA, HJ14, HO_12, HO_15, HO_241001, HO_241002, BK220, BK240, HB⟩ := hcut
    cases kq with
    | zero => exact absurd HA.out (by simp [laws_FnExactListCadences.j0])
    | succ kj14 =>
     have H := HA.out
     clear HA
     simp only [laws_FnExactListCadences.j0] at H
     by_cases c38 : x56_14 = true
     · subst c38
       have H1 : (some false) = some r := by rw [if_pos rfl] at H; exact H
       clear H
       have H := H1
       clear H1
       obtain rfl := Option.some.inj H
       go_wp2
       go_ret
       exact ⟨by first | rfl | (simp [errW_none, errW_some] <;> rfl) | (simp [*, errW_none, errW_some] <;> rfl), by repeat (first | (with_reducible first | exact HB.out | apply qba | apply qbn | apply qb1 | refine below_set ?_ GE220.out | refine below_set ?_ GE240.out) | exact HB.out)⟩
     · replace c38 := Bool.eq_false_iff.mpr c38
       subst c38
       have H1 : ((laws_toTala.f kj14 a0_0 l0_1 l0_2).bind fun bt246 => ((laws_eqTala.f kj14 t233 t234 t237 bt246.1 bt246.2.1 bt246.2.2).bind fun t253 => (if t253 = true then ((laws_markTala.f kj14 t233 t234 t237 1).bind fun bt254 => (if bt254.1 < 0 then (laws_FnExactListCadences.j1 kj14 a1 a2 a3 a4 t229 t232 t241 true a0_0 l0_1 l0_2) else ((laws_eqInt64SS.f kj14 t241 t229).bind fun t257 => (if t257 = true then (laws_FnExactListCadences.j1 kj14 a1 a2 a3 a4 t229 t232 t241 (t244 != t232) a0_0 l0_1 l0_2) else (laws_FnExactListCadences.j1 kj14 a1 a2 a3 a4 t229 t232 t241 true a0_0 l0_1 l0_2))))) else (some false)))) = some r := by rw [if_neg (show ¬ (false = true) by decide)] at H; exact H
       clear H
       have H := H1
       clear H1
       replace H := Option.bind_eq_some_iff.mp H
       obtain ⟨⟨t246, t247, t250⟩, A390, H⟩ := H
       replace H : ((laws_eqTala.f kj14 t233 t234 t237 t246 t247 t250).bind fun t253 => (if t253 = true then ((laws_markTala.f kj14 t233 t234 t237 1).bind fun bt254 => (if bt254.1 < 0 then (laws_FnExactListCadences.j1 kj14 a1 a2 a3 a4 t229 t232 t241 true a0_0 l0_1 l0_2) else ((laws_eqInt64SS.f kj14 t241 t229).bind fun t257 => (if t257 = true then (laws_FnExactListCadences.j1 kj14 a1 a2 a3 a4 t229 t232 t241 (t244 != t232) a0_0 l0_1 l0_2) else (laws_FnExactListCadences.j1 kj14 a1 a2 a3 a4 t229 t232 t241 true a0_0 l0_1 l0_2))))) else (some false))) = some r := H
       have A39 := Aside0.mk A390
       clear A390
       replace H := Option.bind_eq_some_iff.mp H
       obtain ⟨t253, A400, H⟩ := H
       replace H : (if t253 = true then ((laws_markTala.f kj14 t233 t234 t237 1).bind fun bt254 => (if bt254.1 < 0 then (laws_FnExactListCadences.j1 kj14 a1 a2 a3 a4 t229 t232 t241 true a0_0 l0_1 l0_2) else ((laws_eqInt64SS.f kj14 t241 t229).bind fun t257 => (if t257 = true then (laws_FnExactListCadences.j1 kj14 a1 a2 a3 a4 t229 t232 t241 (t244 != t232) a0_0 l0_1 l0_2) else (laws_FnExactListCadences.j1 kj14 a1 a2 a3 a4 t229 t232 t241 true a0_0 l0_1 l0_2))))) else (some false)) = some r := H
       have A40 := Aside0.mk A400
       clear A400
       by_cases c41 : t253 = true
       · subst c41
         have H1 : ((laws_markTala.f kj14 t233 t234 t237 1).bind fun bt254 => (if bt254.1 < 0 then (laws_FnExactListCadences.j1 kj14 a1 a2 a3 a4 t229 t232 t241 true a0_0 l0_1 l0_2) else ((laws_eqInt64SS.f kj14 t241 t229).bind fun t257 => (if t257 = true then (laws_FnExactListCadences.j1 kj14 a1 a2 a3 a4 t229 t232 t241 (t244 != t232) a0_0 l0_1 l0_2) else (laws_FnExactListCadences.j1 kj14 a1 a2 a3 a4 t229 t232 t241 true a0_0 l0_1 l0_2))))) = some r := by rw [if_pos rfl] at H; exact H
         clear H
         have H := H1
         clear H1
         replace H := Option.bind_eq_some_iff.mp H
         obtain ⟨⟨t254, t255, t256⟩, A420, H⟩ := H
         replace H : (if t254 < 0 then (laws_FnExactListCadences.j1 kj14 a1 a2 a3 a4 t229 t232 t241 true a0_0 l0_1 l0_2) else ((laws_eqInt64SS.f kj14 t241 t229).bind fun t257 => (if t257 = true then (laws_FnExactListCadences.j1 kj14 a1 a2 a3 a4 t229 t232 t241 (t244 != t232) a0_0 l0_1 l0_2) else (laws_FnExactListCadences.j1 kj14 a1 a2 a3 a4 t229 t232 t241 true a0_0 l0_1 l0_2)))) = some r := H
         have A42 := Aside0.mk A420
         clear A420
         have HC43 := Aside0.mk H
         clear H
         try go_wp2
         have n0_ := Aside0.mk (Kd.S_drew HO_12.out)
         have n1_ := Aside0.mk (Kd.S_drew HO_15.out)
         have n2_ := Aside0.mk (Kd.R_drew HO_241001.out)
         have n3_ := Aside0.mk (Kd.R_drew HO_241002.out)
         have n4_ := Aside0.mk (blk_drew BK220.out)
         have n5_ := Aside0.mk (blk_drew BK240.out)
         have n6_ := Aside0.mk (below_drew1 HB.out)
         clear HO_12
         clear HO_15
         clear HO_241001
         clear HO_241002
         clear BK220
         clear BK240
         clear HB
         have HO_12 := n0_
         have HO_15 := n1_
         have HO_241001 := n2_
         have HO_241002 := n3_
         have BK220 := n4_
         have BK240 := n5_
         have HB := n6_
         clear n0_ n1_ n2_ n3_ n4_ n5_ n6_
         refine start_ (n := 5) (S := fun w' => w'.cell? ⟨gb240, 0, none⟩ = some (.string t233) ∧ w'.cell? ⟨gb240, 1, none⟩ = some (.slice Ao29 t234.length co29) ∧ w'.cell? ⟨gb240, 2, none⟩ = some (.slice Ao30 t237.length co30) ∧ w'.cell? ⟨gb220, 0, none⟩ = some (.string a0_0) ∧ w'.cell? ⟨gb220, 1, none⟩ = some (.slice A0_1 l0_1.length c0_1) ∧ w'.cell? ⟨gb220, 2, none⟩ = some (.slice A0_2 l0_2.length c0_2)) (ds := []) #[false, false, false, false, false] (by kernel_rfl) rfl rfl ⟨(blk_cell BK240.out 0).trans rfl, (blk_cell BK240.out 1).trans rfl, (blk_cell BK240.out 2).trans rfl, (blk_cell BK220.out 0).trans rfl, (blk_cell BK220.out 1).trans rfl, (blk_cell BK220.out 2).trans rfl⟩ (fun hHeld => ?_)
         generalize wc.drew = w44 at HO_12 HO_15 HO_241001 HO_241002 BK220 BK240 HB hHeld ⊢
         refine take_ (i := 0) (N := some 57) (v := ?_) (a' := ?_) #[true, false, false, false, false] rfl rfl (by kernel_rfl) (fun _ _ _ h => h) (Or.inl ⟨by rfl, ?_⟩) hHeld ?_ ?_
         rotate_left
         · rintro w' ⟨s0, s1, s2, s3, s4, s5⟩
           go_simp
           with_reducible rfl
         rotate_left
         · simp only [Act.put, sx0, sx1, sx2, i64_w, i32_w]
           rfl
         refine take_ (i := 1) (N := some 58) (v := ?_) (a' := ?_) #[true, true, false, false, false] rfl rfl (by kernel_rfl) (fun _ _ _ h => h) (Or.inl ⟨by rfl, ?_⟩) hHeld ?_ ?_
         rotate_left
         · rintro w' ⟨s0, s1, s2, s3, s4, s5⟩
           go_simp
           with_reducible rfl
         rotate_left
         · simp only [Act.put, sx0, sx1, sx2, i64_w, i32_w]
           rfl
         refine one_ (i := 2) (N := some 59) #[true, true, true, false, false] rfl rfl (by kernel_rfl) (by decide) (fun K hK => ?_)
         refine gS_ Try.func6 #[.agg #[.string a0_0, .slice A0_1 l0_1.length c0_1, .slice A0_2 l0_2.length c0_2]] rfl rfl ?_
         with_reducible refine (laws_toTala.calls kj14 a0_0 _ _ l0_1 _ _ l0_2 t246 t247 t250 _ ?side1 ?side2 ?side3 ?side4 A39.out).mono ?_
         (case side1 => repeat (first | exact (Kd.C_below HR0_1.out HB.out) | (with_reducible refine Kd.C_alloc ?_ _) | (with_reducible refine Kd.C_drewN ?_ _) | (with_reducible refine Kd.C_drew ?_)))
         (case side2 => exact HC0_1.out)
         (case side3 => repeat (first | exact (Kd.C_below HR0_2.out HB.out) | (with_reducible refine Kd.C_alloc ?_ _) | (with_reducible refine Kd.C_drewN ?_ _) | (with_reducible refine Kd.C_drew ?_)))
         (case side4 => exact HC0_2.out)
         rintro e w45 ⟨v248, v251, rfl, ho0, ho1, hb⟩
         refine ⟨_, rfl, ?_⟩
         have n0_ := Aside0.mk (Kd.S_mono (Kd.S_told (Kd.S_told (Kd.S_old (by (with_reducible repeat (first | apply Kd.S_alloc | apply Kd.S_drewN | apply Kd.S_drew)); exact HO_12.out) hb) (Kd.R_base ho0)) (Kd.R_base ho1)) (fun _ h_ => h_.1))
         have n1_ := Aside0.mk (Kd.S_mono (Kd.S_told (Kd.S_told (Kd.S_old (by (with_reducible repeat (first | apply Kd.S_alloc | apply Kd.S_drewN | apply Kd.S_drew)); exact HO_15.out) hb) (Kd.R_base ho0)) (Kd.R_base ho1)) (fun _ h_ => h_.1))
         have n2_ := Aside0.mk (Kd.R_mono (Kd.R_told (Kd.R_told (Kd.R_old (by (with_reducible repeat (first | apply qra | apply qrn | apply qrd)); exact HO_241001.out) hb) (Kd.R_base ho0)) (Kd.R_base ho1)) (fun _ h_ => h_.1))
         have n3_ := Aside0.mk (Kd.R_mono (Kd.R_told (Kd.R_told (Kd.R_old (by (with_reducible repeat (first | apply qra | apply qrn | apply qrd)); exact HO_241002.out) hb) (Kd.R_base ho0)) (Kd.R_base ho1)) (fun _ h_ => h_.1))
         have n4_ := Aside0.mk (Kd.R_lower (Kd.R_new' (Kd.R_new' ho0 (Kd.R_lt (by (with_reducible repeat (first | apply qra | apply qrn | apply qrd)); exact HO_241001.out))) (Kd.R_lt (by (with_reducible repeat (first | apply qra | apply qrn | apply qrd)); exact HO_241002.out))) (below_size (by repeat (first | (with_reducible first | exact HB.out | apply qba | apply qbn | apply qb1 | refine below_set ?_ GE220.out | refine below_set ?_ GE240.out) | exact HB.out))))
         have n5_ := Aside0.mk (Kd.R_lower (Kd.R_new' (Kd.R_new' ho1 (Kd.R_lt (by (with_reducible repeat (first | apply qra | apply qrn | apply qrd)); exact HO_241001.out))) (Kd.R_lt (by (with_reducible repeat (first | apply qra | apply qrn | apply qrd)); exact HO_241002.out))) (below_size (by repeat (first | (with_reducible first | exact HB.out | apply qba | apply qbn | apply qb1 | refine below_set ?_ GE220.out | refine below_set ?_ GE240.out) | exact HB.out))))
         have n6_ := Aside0.mk (blk_below (g := gb220) (o := .cells #[.string a0_0, .slice A0_1 l0_1.length c0_1, .slice A0_2 l0_2.length c0_2] 24 (0, 0)) (by (with_reducible repeat (first | refine blk_drewN ?_ _ | refine blk_drew ?_ | refine blk_alloc ?_ _)); exact BK220.out) hb)
         have n7_ := Aside0.mk (blk_below (g := gb240) (o := .cells #[.string t233, .slice Ao29 t234.length co29, .slice Ao30 t237.length co30] 29 (0, 0)) (by (with_reducible repeat (first | refine blk_drewN ?_ _ | refine blk_drew ?_ | refine blk_alloc ?_ _)); exact BK240.out) hb)
         have n8_ := Aside0.mk (below_step (by repeat (first | (with_reducible first | exact HB.out | apply qba | apply qbn | apply qb1 | refine below_set ?_ GE220.out | refine below_set ?_ GE240.out) | exact HB.out)) hb)
         clear HO_12
         clear HO_15
         clear HO_241001
         clear HO_241002
         clear BK220
         clear BK240
         clear HB
         have HO_12 := n0_
         have HO_15 := n1_
         have HO_241001 := n2_
         have HO_241002 := n3_
         have HO249 := n4_
         have HO252 := n5_
         have BK220 := n6_
         have BK240 := n7_
         have HB := n8_
         clear n0_ n1_ n2_ n3_ n4_ n5_ n6_ n7_ n8_
         (try clear hb)
         (try clear hb2)
         (try clear hk)
         (try clear hi)
         (try clear ho0)
         (try clear ho1)
         obtain ⟨Ao46, co46, eo46⟩ := Kd.R_slice HO249.out
         (first | subst eo46 | (injection eo46 with f1_ f2_ f3_; have f4_ := f1_.symm; have f5_ := f3_.symm; clear f1_ f2_ f3_; subst f4_; subst f5_))
         obtain ⟨Ao47, co47, eo47⟩ := Kd.R_slice HO252.out
         (first | subst eo47 | (injection eo47 with f1_ f2_ f3_; have f4_ := f1_.symm; have f5_ := f3_.symm; clear f1_ f2_ f3_; subst f4_; subst f5_))
         refine hK.out _ _ ⟨(blk_cell BK240.out 0).trans rfl, (blk_cell BK240.out 1).trans rfl, (blk_cell BK240.out 2).trans rfl, (blk_cell BK220.out 0).trans rfl, (blk_cell BK220.out 1).trans rfl, (blk_cell BK220.out 2).trans rfl⟩ (fun hHeld => ?_)
         clear hK K
         refine norm_ (a' := ?_) ?_ ?_
         rotate_left
         · show Act.put _ (some 59) _ = _
           simp only [Act.put, sx0, sx1, sx2, i64_w, i32_w]
           rfl
         refine one_ (i := 3) (N := some 60) #[true, true, true, true, false] rfl rfl (by kernel_rfl) (by decide) (fun K hK => ?_)
         refine gS_ Try.func9 #[.agg #[.string t233, .slice Ao29 t234.length co29, .slice Ao30 t237.length co30], .agg #[.string t246, .slice Ao46 t247.length co46, .slice Ao47 t250.length co47]] rfl rfl ?_
         with_reducible refine (laws_eqTala.calls kj14 t233 _ _ t234 _ _ t237 t246 _ _ t247 _ _ t250 true _ ?side1 ?side2 ?side3 ?side4 ?side5 ?side6 ?side7 ?side8 A40.out).mono ?_
         (case side1 => repeat (first | exact (Kd.R_reads' HO_241001.out).2.2 | (with_reducible refine Kd.C_alloc ?_ _) | (with_reducible refine Kd.C_drewN ?_ _) | (with_reducible refine Kd.C_drew ?_)))
         (case side2 => exact (Kd.R_reads' HO_241001.out).2.1)
         (case side3 => repeat (first | exact (Kd.R_reads' HO_241002.out).2.2 | (with_reducible refine Kd.C_alloc ?_ _) | (with_reducible refine Kd.C_drewN ?_ _) | (with_reducible refine Kd.C_drew ?_)))
         (case side4 => exact (Kd.R_reads' HO_241002.out).2.1)
         (case side5 => repeat (first | exact (Kd.R_reads' HO249.out).2.2 | (with_reducible refine Kd.C_alloc ?_ _) | (with_reducible refine Kd.C_drewN ?_ _) | (with_reducible refine Kd.C_drew ?_)))
         (case side6 => exact (Kd.R_reads' HO249.out).2.1)
         (case side7 => repeat (first | exact (Kd.R_reads' HO252.out).2.2 | (with_reducible refine Kd.C_alloc ?_ _) | (with_reducible refine Kd.C_drewN ?_ _) | (with_reducible refine Kd.C_drew ?_)))
         (case side8 => exact (Kd.R_reads' HO252.out).2.1)
         rintro e w48 ⟨rfl, hb⟩
         refine ⟨_, rfl, ?_⟩
         have n0_ := Aside0.mk (Kd.S_below (by (with_reducible repeat (first | apply Kd.S_alloc | apply Kd.S_drewN | apply Kd.S_drew)); exact HO_12.out) hb)
         have n1_ := Aside0.mk (Kd.S_below (by (with_reducible repeat (first | apply Kd.S_alloc | apply Kd.S_drewN | apply Kd.S_drew)); exact HO_15.out) hb)
         have n2_ := Aside0.mk (Kd.R_below (by (with_reducible repeat (first | apply qra | apply qrn | apply qrd)); exact HO_241001.out) hb)
         have n3_ := Aside0.mk (Kd.R_below (by (with_reducible repeat (first | apply qra | apply qrn | apply qrd)); exact HO_241002.out) hb)
         have n4_ := Aside0.mk (Kd.R_below (by (with_reducible repeat (first | apply qra | apply qrn | apply qrd)); exact HO249.out) hb)
         have n5_ := Aside0.mk (Kd.R_below (by (with_reducible repeat (first | apply qra | apply qrn | apply qrd)); exact HO252.out) hb)
         have n6_ := Aside0.mk (blk_below (g := gb220) (o := .cells #[.string a0_0, .slice A0_1 l0_1.length c0_1, .slice A0_2 l0_2.length c0_2] 24 (0, 0)) (by (with_reducible repeat (first | refine blk_drewN ?_ _ | refine blk_drew ?_ | refine blk_alloc ?_ _)); exact BK220.out) hb)
         have n7_ := Aside0.mk (blk_below (g := gb240) (o := .cells #[.string t233, .slice Ao29 t234.length co29, .slice Ao30 t237.length co30] 29 (0, 0)) (by (with_reducible repeat (first | refine blk_drewN ?_ _ | refine blk_drew ?_ | refine blk_alloc ?_ _)); exact BK240.out) hb)
         have n8_ := Aside0.mk (below_step (by repeat (first | (with_reducible first | exact HB.out | apply qba | apply qbn | apply qb1 | refine below_set ?_ GE220.out | refine below_set ?_ GE240.out) | exact HB.out)) hb)
         clear HO_12
         clear HO_15
         clear HO_241001
         clear HO_241002
         clear HO249
         clear HO252
         clear BK220
         clear BK240
         clear HB
         have HO_12 := n0_
         have HO_15 := n1_
         have HO_241001 := n2_
         have HO_241002 := n3_
         have HO249 := n4_
         have HO252 := n5_
         have BK220 := n6_
         have BK240 := n7_
         have HB := n8_
         clear n0_ n1_ n2_ n3_ n4_ n5_ n6_ n7_ n8_
         (try clear hb)
         (try clear hb2)
         (try clear hk)
         (try clear hi)
         refine hK.out _ _ ⟨(blk_cell BK240.out 0).trans rfl, (blk_cell BK240.out 1).trans rfl, (blk_cell BK240.out 2).trans rfl, (blk_cell BK220.out 0).trans rfl, (blk_cell BK220.out 1).trans rfl, (blk_cell BK220.out 2).trans rfl⟩ (fun hHeld => ?_)
         clear hK K
         refine norm_ (a' := ?_) ?_ ?_
         rotate_left
         · show Act.put _ (some 60) _ = _
           simp only [Act.put, sx0, sx1, sx2, i64_w, i32_w]
           rfl
         refine pv_ (i := 4) (N := some 61) #[true, true, true, true, true] rfl rfl ?_
         refine done_ (by kernel_rfl) ?_
         have hnb49 := NB240_220.out
         have hnc49 := NB220_240.out
         have hcz50_0 : w48.cell? ⟨gb240, 0, none⟩ = some (.string t233) := (blk_cell BK240.out 0).trans rfl
         have hcz50_1 : w48.cell? ⟨gb240, 1, none⟩ = some (.slice Ao29 t234.length co29) := (blk_cell BK240.out 1).trans rfl
         have hcz50_2 : w48.cell? ⟨gb240, 2, none⟩ = some (.slice Ao30 t237.length co30) := (blk_cell BK240.out 2).trans rfl
         have hfz50_0 := blk_frozen BK240.out 0
         have hfz50_1 := blk_frozen BK240.out 1
         have hfz50_2 := blk_frozen BK240.out 2
         go_upto_region 14 with (first | ((with_reducible refine gate_callee (f := 10) rfl ?_); refine gL_ (some 64) rfl rfl Try.func10 #[.agg #[.string t233, .slice Ao29 t234.length co29, .slice Ao30 t237.length co30], .int .i64 1] rfl ?_; (with_reducible refine (laws_markTala.calls kj14 t233 (fun k_ => some k_ = (.slice Ao29 t234.length co29 : Value).ownBlock) (.slice Ao29 t234.length co29) t234 (fun k_ => some k_ = (.slice Ao30 t237.length co30 : Value).ownBlock) (.slice Ao30 t237.length co30) t237 1 t254 t255 t256 w _ ?side1 ?side2 ?side3 ?side4 ?side5 A42.out).mono ?_); (case side1 => repeat (first | (with_reducible first | exact HB.out | apply qba | apply qbn | apply qb1 | refine below_set ?_ GE220.out | refine below_set ?_ GE240.out) | exact HB.out)); (case side2 => exact Kd.R_tight rfl HO_241001.out); (case side3 => exact fun k_ e_ => (HO_241001.out.1 k_ e_.symm).1.1); (case side4 => exact Kd.R_tight rfl HO_241002.out); (case side5 => exact fun k_ e_ => (HO_241002.out.1 k_ e_.symm).1.1); rintro e w51 ⟨rfl, hy0, hy1, hb, hkp⟩; refine ⟨_, rfl, ?_⟩; have n0_ := Aside0.mk (Kd.S_mono (ok' := fun k_ => (some k_ ≠ (v242 : Value).ownBlock ∧ k_ < NG) ∧ some k_ ≠ (.slice Ao29 t234.length co29 : Value).ownBlock ∧ some k_ ≠ (.slice Ao30 t237.length co30 : Value).ownBlock ∧ some k_ ≠ (.slice Ao46 t247.length co46 : Value).ownBlock ∧ some k_ ≠ (.slice Ao47 t250.length co47 : Value).ownBlock) (Kd.S_keptB (HO_12.out) hkp (fun k_ hk_ hs_ => Or.elim hs_ (fun e_ => (hk_.1.1.2.1) e_) (fun e_ => (hk_.1.1.2.2) e_))) (fun k_ hk_ => ⟨hk_.1.1.1.1, hk_.1.1.1.2.1, hk_.1.1.1.2.2, hk_.1.1.2, hk_.1.2⟩)); have n1_ := Aside0.mk (Kd.S_mono (ok' := fun k_ => (some k_ ≠ (v230 : Value).ownBlock ∧ NG ≤ k_) ∧ some k_ ≠ (.slice Ao29 t234.length co29 : Value).ownBlock ∧ some k_ ≠ (.slice Ao30 t237.length co30 : Value).ownBlock ∧ some k_ ≠ (.slice Ao46 t247.length co46 : Value).ownBlock ∧ some k_ ≠ (.slice Ao47 t250.length co47 : Value).ownBlock) (Kd.S_keptB (HO_15.out) hkp (fun k_ hk_ hs_ => Or.elim hs_ (fun e_ => (hk_.1.1.2.1) e_) (fun e_ => (hk_.1.1.2.2) e_))) (fun k_ hk_ => ⟨hk_.1.1.1.1, hk_.1.1.1.2.1, hk_.1.1.1.2.2, hk_.1.1.2, hk_.1.2⟩)); have n2_ := Aside0.mk (Kd.R_reok rfl hy0 (fun k_ e_ => HO_241001.out.1 k_ e_)); have n3_ := Aside0.mk (Kd.R_reok rfl hy1 (fun k_ e_ => HO_241002.out.1 k_ e_)); have n4_ := Aside0.mk (blk_kept (by (with_reducible repeat (first | refine blk_drewN ?_ _ | refine blk_drew ?_ | refine blk_alloc ?_ _)); exact BK220.out) hkp (fun hs_ => Or.elim hs_ (fun e_ => (fun e_ => (Kd.R_ne HO_241001.out BK220.out (by decide)) e_) e_) (fun e_ => (fun e_ => (Kd.R_ne HO_241002.out BK220.out (by decide)) e_) e_))); have n5_ := Aside0.mk (blk_kept (by (with_reducible repeat (first | refine blk_drewN ?_ _ | refine blk_drew ?_ | refine blk_alloc ?_ _)); exact BK240.out) hkp (fun hs_ => Or.elim hs_ (fun e_ => (fun e_ => (Kd.R_ne HO_241001.out BK240.out (by decide)) e_) e_) (fun e_ => (fun e_ => (Kd.R_ne HO_241002.out BK240.out (by decide)) e_) e_))); have n6_ := Aside0.mk (Kd.R_mono (ok' := fun k_ => some k_ ≠ (.slice Ao29 t234.length co29 : Value).ownBlock ∧ some k_ ≠ (.slice Ao30 t237.length co30 : Value).ownBlock ∧ some k_ ≠ (.slice Ao47 t250.length co47 : Value).ownBlock) (Kd.R_keptB (HO249.out) hkp (fun k_ hk_ hs_ => Or.elim hs_ (fun e_ => (hk_.1.2) e_) (fun e_ => (hk_.2) e_))) (fun k_ hk_ => ⟨hk_.1.1.2, hk_.1.2, hk_.1.1.1⟩)); have n7_ := Aside0.mk (Kd.R_mono (ok' := fun k_ => some k_ ≠ (.slice Ao29 t234.length co29 : Value).ownBlock ∧ some k_ ≠ (.slice Ao30 t237.length co30 : Value).ownBlock ∧ some k_ ≠ (.slice Ao46 t247.length co46 : Value).ownBlock) (Kd.R_keptB (HO252.out) hkp (fun k_ hk_ hs_ => Or.elim hs_ (fun e_ => (hk_.1.2) e_) (fun e_ => (hk_.2) e_))) (fun k_ hk_ => ⟨hk_.1.1.2, hk_.1.2, hk_.1.1.1⟩)); have n8_ := Aside0.mk (hb); clear HO_12; clear HO_15; clear HO_241001; clear HO_241002; clear BK220; clear BK240; clear HO249; clear HO252; clear HB; have HO_12 := n0_; have HO_15 := n1_; have HO_241001 := n2_; have HO_241002 := n3_; have BK220 := n4_; have BK240 := n5_; have HO249 := n6_; have HO252 := n7_; have HB := n8_; clear n0_ n1_ n2_ n3_ n4_ n5_ n6_ n7_ n8_; (try clear hb); (try clear hkp); (try clear hy0); (try clear hy1)))
         (try simp only [Act.put, sx0, sx1, sx2])
         go_cut [77] (fun v77 wc => ∃ (kq : Nat) (x77_42 : Bool), v77 = .bool x77_42 ∧ Aside0 (laws_FnExactListCadences.j1 kq a1 a2 a3 a4 t229 t232 t241 x77_42 a0_0 l0_1 l0_2 = some r) ∧ Aside0 (kq ≤ kj14) ∧ Aside0 (Kd.S (Kd.slice 2 (Kd.int .i64)) 22 wc w.heap.size (fun k_ => (some k_ ≠ (v242 : Value).ownBlock ∧ k_ < NG) ∧ some k_ ≠ ((.slice Ao29 t234.length co29) : Value).ownBlock ∧ some k_ ≠ ((.slice Ao30 t237.length co30) : Value).ownBlock) v230 t229) ∧ Aside0 (Kd.S (Kd.slice 2 (Kd.int .i64)) 22 wc w.heap.size (fun k_ => (some k_ ≠ (v230 : Value).ownBlock ∧ NG ≤ k_) ∧ some k_ ≠ ((.slice Ao29 t234.length co29) : Value).ownBlock ∧ some k_ ≠ ((.slice Ao30 t237.length co30) : Value).ownBlock) v242 t241) ∧ Aside0 (Kd.R (Kd.int .i64) 2 wc w.heap.size (fun k_ => some k_ ≠ ((.slice Ao30 t237.length co30) : Value).ownBlock) (.slice Ao29 t234.length co29) t255) ∧ Aside0 (Kd.R (Kd.int .i64) 2 wc w.heap.size (fun k_ => some k_ ≠ ((.slice Ao29 t234.length co29) : Value).ownBlock) (.slice Ao30 t237.length co30) t256) ∧ Aside0 (wc.heap[gb220]? = some (.cells #[.string a0_0, (.slice A0_1 l0_1.length c0_1), (.slice A0_2 l0_2.length c0_2)] 24 (0, 0))) ∧ Aside0 (wc.heap[gb240]? = some (.cells #[.string t233, (.slice Ao29 t234.length co29), (.slice Ao30 t237.length co30)] 29 (0, 0))) ∧ Aside0 (Below w.heap.size w wc))
         case first =>
          have H := HC43.out
          clear HC43
          by_cases c52 : t254 < 0
          · rw [if_pos c52] at H
            have c52b0 : decide (t254 < 0) = true := decide_eq_true c52
            clear c52
            (first | rw [c52b0] | (simp only [i64_w, i32_w]; rw [c52b0]) | skip)
            have H' := Aside0.mk H
            clear H
            go_wp2
            go_meet
            case rel => exact ⟨_, (true), (by first | rfl | (simp; done) | (simp [*]; done)), H', ⟨by have := HJ14.out; first | omega | exact Nat.le_refl _⟩, ⟨by (with_reducible repeat (first | apply Kd.S_alloc | apply Kd.S_drewN | apply Kd.S_drew)); exact Kd.S_mono HO_12.out (fun _ hk => ⟨hk.1, ⟨hk.2.1, hk.2.2.1⟩⟩)⟩, ⟨by (with_reducible repeat (first | apply Kd.S_alloc | apply Kd.S_drewN | apply Kd.S_drew)); exact Kd.S_mono HO_15.out (fun _ hk => ⟨hk.1, ⟨hk.2.1, hk.2.2.1⟩⟩)⟩, ⟨by (with_reducible repeat (first | apply qra | apply qrn | apply qrd)); exact Kd.R_mono HO_241001.out (fun _ hk => hk.1.1)⟩, ⟨by (with_reducible repeat (first | apply qra | apply qrn | apply qrd)); exact Kd.R_mono HO_241002.out (fun _ hk => hk.1.1)⟩, ⟨by (with_reducible repeat (first | refine blk_drewN ?_ _ | refine blk_drew ?_ | refine blk_alloc ?_ _)); exact BK220.out⟩, ⟨by (with_reducible repeat (first | refine blk_drewN ?_ _ | refine blk_drew ?_ | refine blk_alloc ?_ _)); exact BK240.out⟩, ⟨by repeat (first | (with_reducible first | exact HB.out | apply qba | apply qbn | apply qb1 | refine below_set ?_ GE220.out | refine below_set ?_ GE240.out) | exact HB.out)⟩⟩
          · rw [if_neg c52] at H
            have c52b0 : decide (t254 < 0) = false := decide_eq_false c52
            clear c52
            (first | rw [c52b0] | (simp only [i64_w, i32_w]; rw [c52b0]) | skip)
            replace H := Option.bind_eq_some_iff.mp H
            obtain ⟨t257, A530, H⟩ := H
            replace H : (if t257 = true then (laws_FnExactListCadences.j1 kj14 a1 a2 a3 a4 t229 t232 t241 (t244 != t232) a0_0 l0_1 l0_2) else (laws_FnExactListCadences.j1 kj14 a1 a2 a3 a4 t229 t232 t241 true a0_0 l0_1 l0_2)) = some r := H
            have A53 := Aside0.mk A530
            clear A530
            by_cases c54 : t257 = true
            · subst c54
              have H1 : (laws_FnExactListCadences.j1 kj14 a1 a2 a3 a4 t229 t232 t241 (t244 != t232) a0_0 l0_1 l0_2) = some r := by rw [if_pos rfl] at H; exact H
              clear H
              have H := H1
              clear H1
              have H' := Aside0.mk H
              clear H
              obtain ⟨Ao55, co55, eo55⟩ := Kd.S_slice HO_15.out
              subst eo55
              obtain ⟨Ao56, co56, eo56⟩ := Kd.S_slice HO_12.out
              subst eo56
              go_wp2_with (first | (go_at_call 8; (with_reducible refine (laws_eqInt64SS.calls kj14 _ _ t241 _ _ t229 true _ ?side1 ?side2 ?side3 ?side4 A53.out).mono ?_); (case side1 => repeat (first | exact (Kd.S_reads' HO_15.out).2.2 | (with_reducible refine Kd.C_alloc ?_ _) | (with_reducible refine Kd.C_drewN ?_ _) | (with_reducible refine Kd.C_drew ?_))); (case side2 => exact (Kd.S_reads' HO_15.out).2.1); (case side3 => repeat (first | exact (Kd.S_reads' HO_12.out).2.2 | (with_reducible refine Kd.C_alloc ?_ _) | (with_reducible refine Kd.C_drewN ?_ _) | (with_reducible refine Kd.C_drew ?_))); (case side4 => exact (Kd.S_reads' HO_12.out).2.1); rintro e w' ⟨rfl, ⟨nd, rfl⟩⟩))
              go_meet
              case rel => exact ⟨_, ((t244 != t232)), (by first | rfl | (simp; done) | (simp [*]; done)), H', ⟨by have := HJ14.out; first | omega | exact Nat.le_refl _⟩, ⟨by (with_reducible repeat (first | apply Kd.S_alloc | apply Kd.S_drewN | apply Kd.S_drew)); exact Kd.S_mono HO_12.out (fun _ hk => ⟨hk.1, ⟨hk.2.1, hk.2.2.1⟩⟩)⟩, ⟨by (with_reducible repeat (first | apply Kd.S_alloc | apply Kd.S_drewN | apply Kd.S_drew)); exact Kd.S_mono HO_15.out (fun _ hk => ⟨hk.1, ⟨hk.2.1, hk.2.2.1⟩⟩)⟩, ⟨by (with_reducible repeat (first | apply qra | apply qrn | apply qrd)); exact Kd.R_mono HO_241001.out (fun _ hk => hk.1.1)⟩, ⟨by (with_reducible repeat (first | apply qra | apply qrn | apply qrd)); exact Kd.R_mono HO_241002.out (fun _ hk => hk.1.1)⟩, ⟨by (with_reducible repeat (first | refine blk_drewN ?_ _ | refine blk_drew ?_ | refine blk_alloc ?_ _)); exact BK220.out⟩, ⟨by (with_reducible repeat (first | refine blk_drewN ?_ _ | refine blk_drew ?_ | refine blk_alloc ?_ _)); exact BK240.out⟩, ⟨by repeat (first | (with_reducible first | exact HB.out | apply qba | apply qbn | apply qb1 | refine below_set ?_ GE220.out | refine below_set ?_ GE240.out) | exact HB.out)⟩⟩
            · replace c54 := Bool.eq_false_iff.mpr c54
              subst c54
              have H1 : (laws_FnExactListCadences.j1 kj14 a1 a2 a3 a4 t229 t232 t241 true a0_0 l0_1 l0_2) = some r := by rw [if_neg (show ¬ (false = true) by decide)] at H; exact H
              clear H
              have H := H1
              clear H1
              have H' := Aside0.mk H
              clear H
              obtain ⟨Ao57, co57, eo57⟩ := Kd.S_slice HO_15.out
              subst eo57
              obtain ⟨Ao58, co58, eo58⟩ := Kd.S_slice HO_12.out
              subst eo58
              go_wp2_with (first | (go_at_call 8; (with_reducible refine (laws_eqInt64SS.calls kj14 _ _ t241 _ _ t229 false _ ?side1 ?side2 ?side3 ?side4 A53.out).mono ?_); (case side1 => repeat (first | exact (Kd.S_reads' HO_15.out).2.2 | (with_reducible refine Kd.C_alloc ?_ _) | (with_reducible refine Kd.C_drewN ?_ _) | (with_reducible refine Kd.C_drew ?_))); (case side2 => exact (Kd.S_reads' HO_15.out).2.1); (case side3 => repeat (first | exact (Kd.S_reads' HO_12.out).2.2 | (with_reducible refine Kd.C_alloc ?_ _) | (with_reducible refine Kd.C_drewN ?_ _) | (with_reducible refine Kd.C_drew ?_))); (case side4 => exact (Kd.S_reads' HO_12.out).2.1); rintro e w' ⟨rfl, ⟨nd, rfl⟩⟩))
              go_meet
              case rel => exact ⟨_, (true), (by first | rfl | (simp; done) | (simp [*]; done)), H', ⟨by have := HJ14.out; first | omega | exact Nat.le_refl _⟩, ⟨by (with_reducible repeat (first | apply Kd.S_alloc | apply Kd.S_drewN | apply Kd.S_drew)); exact Kd.S_mono HO_12.out (fun _ hk => ⟨hk.1, ⟨hk.2.1, hk.2.2.1⟩⟩)⟩, ⟨by (with_reducible repeat (first | apply Kd.S_alloc | apply Kd.S_drewN | apply Kd.S_drew)); exact Kd.S_mono HO_15.out (fun _ hk => ⟨hk.1, ⟨hk.2.1, hk.2.2.1⟩⟩)⟩, ⟨by (with_reducible repeat (first | apply qra | apply qrn | apply qrd)); exact Kd.R_mono HO_241001.out (fun _ hk => hk.1.1)⟩, ⟨by (with_reducible repeat (first | apply qra | apply qrn | apply qrd)); exact Kd.R_mono HO_241002.out (fun _ hk => hk.1.1)⟩, ⟨by (with_reducible repeat (first | refine blk_drewN ?_ _ | refine blk_drew ?_ | refine blk_alloc ?_ _)); exact BK220.out⟩, ⟨by (with_reducible repeat (first | refine blk_drewN ?_ _ | refine blk_drew ?_ | refine blk_alloc ?_ _)); exact BK240.out⟩, ⟨by repeat (first | (with_reducible first | exact HB.out | apply qba | apply qbn | apply qb1 | refine below_set ?_ GE220.out | refine below_set ?_ GE240.out) | exact HB.out)⟩⟩
         case rest =>
          clear HC43
          try clear c1
          try clear c2
          try clear p2
          try clear c3
          try clear c4
          try clear c5
          try clear c6
          try clear c7
          try clear c7b0
          try clear c8
          try clear c9
          try clear c10
          try clear c27
          try clear c33
          try clear c38
          try clear c41
          try clear c49
          try clear c52
          try clear c52b0
          try clear c54
          try clear hcz17_0
          try clear hcz17_1
          try clear hcz17_2
          try clear hcz19_0
          try clear hcz19_1
          try clear hcz19_2
          try clear hcz24_0
          try clear hcz24_1
          try clear hcz24_2
          try clear hcz28_0
          try clear hcz28_1
          try clear hcz28_2
          try clear hcz50_0
          try clear hcz50_1
          try clear hcz50_2
          try clear hcz9_0
          try clear hcz9_1
          try clear hcz9_2
          try clear hfz17_0
          try clear hfz17_1
          try clear hfz17_2
          try clear hfz19_0
          try clear hfz19_1
          try clear hfz19_2
          try clear hfz24_0
          try clear hfz24_1
          try clear hfz24_2
          try clear hfz28_0
          try clear hfz28_1
          try clear hfz28_2
          try clear hfz50_0
          try clear hfz50_1
          try clear hfz50_2
          try clear hfz9_0
          try clear hfz9_1
          try clear hfz9_2
          try clear p2
          obtain ⟨kq, x77_42, rfl, HA, HJ42, HO_12, HO_15, HO_241001, HO_241002, BK220, BK240, HB⟩ := hcut
          have hl241001_42 := (Kd.R_reads' HO_241001.out).1
          rw [hl241001_42] at HO_241001
          (try simp only [hl241001_42])
          (try simp only [hl241001_42] at BK220)
          (try simp only [hl241001_42] at BK240)
          (try simp only [hl241001_42] at HO_12)
          (try simp only [hl241001_42] at HO_15)
          (try simp only [hl241001_42] at HO_241002)
          have hl241002_42 := (Kd.R_reads' HO_241002.out).1
          rw [hl241002_42] at HO_241002
          (try simp only [hl241002_42])
          (try simp only [hl241002_42] at BK220)
          (try simp only [hl241002_42] at BK240)
          (try simp only [hl241002_42] at HO_12)
          (try simp only [hl241002_42] at HO_15)
          (try simp only [hl241002_42] at HO_241001)
          cases kq with
          | zero => exact absurd HA.out (by simp [laws_FnExactListCadences.j1])
          | succ kj42 =>
           have H := HA.out
           clear HA
           simp only [laws_FnExactListCadences.j1] at H
           by_cases c59 : x77_42 = true
           · subst c59
             have H1 : (some false) = some r := by rw [if_pos rfl] at H; exact H
             clear H
             have H := H1
             clear H1
             obtain rfl := Option.some.inj H
             go_wp2
             go_ret
             exact ⟨by first | rfl | (simp [errW_none, errW_some] <;> rfl) | (simp [*, errW_none, errW_some] <;> rfl), by repeat (first | (with_reducible first | exact HB.out | apply qba | apply qbn | apply qb1 | refine below_set ?_ GE220.out | refine below_set ?_ GE240.out) | exact HB.out)⟩
           · replace c59 := Bool.eq_false_iff.mpr c59
             subst c59
             have H1 : ((laws_markInt64SS.f kj42 t241 1).bind fun bt258 => ((laws_heldInt64SS.f kj42 bt258.2 1).bind fun t260 => (if t260 < 0 then (some false) else (if t260 = bt258.1 then ((laws_toTala.f kj42 a0_0 l0_1 l0_2).bind fun bt261 => ((impl_ListCadences.f kj42 bt261.1 bt261.2.1 bt261.2.2 a1 a2 a3 a4).bind fun bt268 => ((laws_eqInt64SS.f kj42 bt268.1 t229).bind fun t272 => (if t272 = true then (laws_FnExactListCadences.j2 kj42 bt258.2 bt258.1 (bt268.2 != t232)) else (laws_FnExactListCadences.j2 kj42 bt258.2 bt258.1 true))))) else (some false))))) = some r := by rw [if_neg (show ¬ (false = true) by decide)] at H; exact H
             clear H
             have H := H1
             clear H1
             replace H := Option.bind_eq_some_iff.mp H
             obtain ⟨⟨t258, t259⟩, A600, H⟩ := H
             replace H : ((laws_heldInt64SS.f kj42 t259 1).bind fun t260 => (if t260 < 0 then (some false) else (if t260 = t258 then ((laws_toTala.f kj42 a0_0 l0_1 l0_2).bind fun bt261 => ((impl_ListCadences.f kj42 bt261.1 bt261.2.1 bt261.2.2 a1 a2 a3 a4).bind fun bt268 => ((laws_eqInt64SS.f kj42 bt268.1 t229).bind fun t272 => (if t272 = true then (laws_FnExactListCadences.j2 kj42 t259 t258 (bt268.2 != t232)) else (laws_FnExactListCadences.j2 kj42 t259 t258 true))))) else (some false)))) = some r := H
             have A60 := Aside0.mk A600
             clear A600
             replace H := Option.bind_eq_some_iff.mp H
             obtain ⟨t260, A610, H⟩ := H
             replace H : (if t260 < 0 then (some false) else (if t260 = t258 then ((laws_toTala.f kj42 a0_0 l0_1 l0_2).bind fun bt261 => ((impl_ListCadences.f kj42 bt261.1 bt261.2.1 bt261.2.2 a1 a2 a3 a4).bind fun bt268 => ((laws_eqInt64SS.f kj42 bt268.1 t229).bind fun t272 => (if t272 = true then (laws_FnExactListCadences.j2 kj42 t259 t258 (bt268.2 != t232)) else (laws_FnExactListCadences.j2 kj42 t259 t258 true))))) else (some false))) = some r := H
             have A61 := Aside0.mk A610
             clear A610
             by_cases c62 : t260 < 0
             · rw [if_pos c62] at H
               have c62b0 : decide (t260 < 0) = true := decide_eq_true c62
               clear c62
               obtain rfl := Option.some.inj H
               obtain ⟨Ao63, co63, eo63⟩ := Kd.S_slice HO_15.out
               subst eo63
               go_wp2_with (first | ((with_reducible refine gate_callee (f := 11) rfl ?_); refine gL_ (some 80) rfl rfl Try.func11 #[.slice Ao63 t241.length co63, .int .i64 1] rfl ?_; (with_reducible refine (laws_markInt64SS.calls kj42 (fun k_ => (some k_ ≠ (v230 : Value).ownBlock ∧ NG ≤ k_) ∧ some k_ ≠ (.slice Ao29 t255.length co29 : Value).ownBlock ∧ some k_ ≠ (.slice Ao30 t256.length co30 : Value).ownBlock) (.slice Ao63 t241.length co63) t241 1 t258 t259 w _ ?side1 ?side2 A60.out).mono ?_); (case side1 => repeat (first | (with_reducible first | exact HB.out | apply qba | apply qbn | apply qb1 | refine below_set ?_ GE220.out | refine below_set ?_ GE240.out) | exact HB.out)); (case side2 => exact HO_15.out); rintro e w64 ⟨rfl, hy0, hb, hkp⟩; refine ⟨_, rfl, ?_⟩; have n0_ := Aside0.mk (Kd.S_mono (ok' := fun k_ => (some k_ ≠ (.slice Ao63 t241.length co63 : Value).ownBlock ∧ k_ < NG) ∧ some k_ ≠ (.slice Ao29 t255.length co29 : Value).ownBlock ∧ some k_ ≠ (.slice Ao30 t256.length co30 : Value).ownBlock) (Kd.S_keptB (HO_12.out) hkp (fun k_ hk_ hs_ => absurd hk_.1.2 (Nat.not_lt.2 hs_.1.2))) (fun k_ hk_ => ⟨hk_.1.1, hk_.1.2.1, hk_.1.2.2⟩)); have n1_ := Aside0.mk hy0; have n2_ := Aside0.mk (Kd.R_mono (ok' := fun k_ => some k_ ≠ (.slice Ao30 t256.length co30 : Value).ownBlock) (Kd.R_keptB (Kd.R_tight2 rfl HO_241001.out) hkp (fun k_ hk_ hs_ => hs_.2.1 hk_.1)) (fun k_ hk_ => hk_.1.2)); have n3_ := Aside0.mk (Kd.R_mono (ok' := fun k_ => some k_ ≠ (.slice Ao29 t255.length co29 : Value).ownBlock) (Kd.R_keptB (Kd.R_tight2 rfl HO_241002.out) hkp (fun k_ hk_ hs_ => hs_.2.2 hk_.1)) (fun k_ hk_ => hk_.1.2)); have n4_ := Aside0.mk (blk_kept (by (with_reducible repeat (first | refine blk_drewN ?_ _ | refine blk_drew ?_ | refine blk_alloc ?_ _)); exact BK220.out) hkp (fun hs_ => absurd LB220.out (Nat.not_lt.2 hs_.1.2))); have n5_ := Aside0.mk (blk_kept (by (with_reducible repeat (first | refine blk_drewN ?_ _ | refine blk_drew ?_ | refine blk_alloc ?_ _)); exact BK240.out) hkp (fun hs_ => absurd LB240.out (Nat.not_lt.2 hs_.1.2))); have n6_ := Aside0.mk (hb); clear HO_12; clear HO_15; clear HO_241001; clear HO_241002; clear BK220; clear BK240; clear HB; have HO_12 := n0_; have HO_15 := n1_; have HO_241001 := n2_; have HO_241002 := n3_; have BK220 := n4_; have BK240 := n5_; have HB := n6_; clear n0_ n1_ n2_ n3_ n4_ n5_ n6_; (try clear hb); (try clear hkp); (try clear hy0)) | ((with_reducible refine gate_callee (f := 12) rfl ?_); refine goesL_ (some 83) rfl rfl Try.func12 (by kernel_rfl) rfl #[.slice Ao63 t259.length co63, .int .i64 1] rfl (by (try simp only [List.map_toArray, List.map_cons, List.map_nil]); first | done | (rw [show t259.length = t241.length from (Kd.S_reads' HO_15.out).1.symm] <;> rfl) | rfl | (simp only [List.length_drop, List.length_take]; rfl)) ?_; (with_reducible refine (laws_heldInt64SS.calls kj42 _ _ t259 1 t260 _ ?side1 ?side2 A61.out).mono ?_); (case side1 => repeat (first | exact (Kd.S_reads' HO_15.out).2.2 | (with_reducible refine Kd.C_alloc ?_ _) | (with_reducible refine Kd.C_drewN ?_ _) | (with_reducible refine Kd.C_drew ?_))); (case side2 => rw [show t259.length = t241.length from (Kd.S_reads' HO_15.out).1.symm]; exact (Kd.S_reads' HO_15.out).2.1); rintro e w' ⟨rfl, ⟨nd, rfl⟩⟩; refine ⟨_, rfl, ?_⟩))
               go_ret
               exact ⟨by first | rfl | (simp [errW_none, errW_some] <;> rfl) | (simp [*, errW_none, errW_some] <;> rfl), by repeat (first | (with_reducible first | exact HB.out | apply qba | apply qbn | apply qb1 | refine below_set ?_ GE220.out | refine below_set ?_ GE240.out) | exact HB.out)⟩
             · rw [if_neg c62] at H
               have c62b0 : decide (t260 < 0) = false := decide_eq_false c62
               clear c62
               by_cases c65 : t260 = t258
               · rw [if_pos c65] at H
                 have c65b0 : (t260 == t258) = true := beq_iff_eq.mpr c65
                 have c65b1 : (t260 != t258) = false := bne_eq_false_iff_eq.mpr c65
                 clear c65
                 replace H := Option.bind_eq_some_iff.mp H
                 obtain ⟨⟨t261, t262, t265⟩, A660, H⟩ := H
                 replace H : ((impl_ListCadences.f kj42 t261 t262 t265 a1 a2 a3 a4).bind fun bt268 => ((laws_eqInt64SS.f kj42 bt268.1 t229).bind fun t272 => (if t272 = true then (laws_FnExactListCadences.j2 kj42 t259 t258 (bt268.2 != t232)) else (laws_FnExactListCadences.j2 kj42 t259 t258 true)))) = some r := H
                 have A66 := Aside0.mk A660
                 clear A660
                 replace H := Option.bind_eq_some_iff.mp H
                 obtain ⟨⟨t268, t271⟩, A670, H⟩ := H
                 replace H : ((laws_eqInt64SS.f kj42 t268 t229).bind fun t272 => (if t272 = true then (laws_FnExactListCadences.j2 kj42 t259 t258 (t271 != t232)) else (laws_FnExactListCadences.j2 kj42 t259 t258 true))) = some r := H
                 have A67 := Aside0.mk A670
                 clear A670
                 have HC68 := Aside0.mk H
                 clear H
                 obtain ⟨Ao69, co69, eo69⟩ := Kd.S_slice HO_15.out
                 subst eo69
                 go_upto_region 25 with (first | ((with_reducible refine gate_callee (f := 11) rfl ?_); refine gL_ (some 80) rfl rfl Try.func11 #[.slice Ao69 t241.length co69, .int .i64 1] rfl ?_; (with_reducible refine (laws_markInt64SS.calls kj42 (fun k_ => (some k_ ≠ (v230 : Value).ownBlock ∧ NG ≤ k_) ∧ some k_ ≠ (.slice Ao29 t255.length co29 : Value).ownBlock ∧ some k_ ≠ (.slice Ao30 t256.length co30 : Value).ownBlock) (.slice Ao69 t241.length co69) t241 1 t258 t259 w _ ?side1 ?side2 A60.out).mono ?_); (case side1 => repeat (first | (with_reducible first | exact HB.out | apply qba | apply qbn | apply qb1 | refine below_set ?_ GE220.out | refine below_set ?_ GE240.out) | exact HB.out)); (case side2 => exact HO_15.out); rintro e w70 ⟨rfl, hy0, hb, hkp⟩; refine ⟨_, rfl, ?_⟩; have n0_ := Aside0.mk (Kd.S_mono (ok' := fun k_ => (some k_ ≠ (.slice Ao69 t241.length co69 : Value).ownBlock ∧ k_ < NG) ∧ some k_ ≠ (.slice Ao29 t255.length co29 : Value).ownBlock ∧ some k_ ≠ (.slice Ao30 t256.length co30 : Value).ownBlock) (Kd.S_keptB (HO_12.out) hkp (fun k_ hk_ hs_ => absurd hk_.1.2 (Nat.not_lt.2 hs_.1.2))) (fun k_ hk_ => ⟨hk_.1.1, hk_.1.2.1, hk_.1.2.2⟩)); have n1_ := Aside0.mk hy0; have n2_ := Aside0.mk (Kd.R_mono (ok' := fun k_ => some k_ ≠ (.slice Ao30 t256.length co30 : Value).ownBlock) (Kd.R_keptB (Kd.R_tight2 rfl HO_241001.out) hkp (fun k_ hk_ hs_ => hs_.2.1 hk_.1)) (fun k_ hk_ => hk_.1.2)); have n3_ := Aside0.mk (Kd.R_mono (ok' := fun k_ => some k_ ≠ (.slice Ao29 t255.length co29 : Value).ownBlock) (Kd.R_keptB (Kd.R_tight2 rfl HO_241002.out) hkp (fun k_ hk_ hs_ => hs_.2.2 hk_.1)) (fun k_ hk_ => hk_.1.2)); have n4_ := Aside0.mk (blk_kept (by (with_reducible repeat (first | refine blk_drewN ?_ _ | refine blk_drew ?_ | refine blk_alloc ?_ _)); exact BK220.out) hkp (fun hs_ => absurd LB220.out (Nat.not_lt.2 hs_.1.2))); have n5_ := Aside0.mk (blk_kept (by (with_reducible repeat (first | refine blk_drewN ?_ _ | refine blk_drew ?_ | refine blk_alloc ?_ _)); exact BK240.out) hkp (fun hs_ => absurd LB240.out (Nat.not_lt.2 hs_.1.2))); have n6_ := Aside0.mk (hb); clear HO_12; clear HO_15; clear HO_241001; clear HO_241002; clear BK220; clear BK240; clear HB; have HO_12 := n0_; have HO_15 := n1_; have HO_241001 := n2_; have HO_241002 := n3_; have BK220 := n4_; have BK240 := n5_; have HB := n6_; clear n0_ n1_ n2_ n3_ n4_ n5_ n6_; (try clear hb); (try clear hkp); (try clear hy0)) | ((with_reducible refine gate_callee (f := 12) rfl ?_); refine goesL_ (some 83) rfl rfl Try.func12 (by kernel_rfl) rfl #[.slice Ao69 t259.length co69, .int .i64 1] rfl (by (try simp only [List.map_toArray, List.map_cons, List.map_nil]); first | done | (rw [show t259.length = t241.length from (Kd.S_reads' HO_15.out).1.symm] <;> rfl) | rfl | (simp only [List.length_drop, List.length_take]; rfl)) ?_; (with_reducible refine (laws_heldInt64SS.calls kj42 _ _ t259 1 t260 _ ?side1 ?side2 A61.out).mono ?_); (case side1 => repeat (first | exact (Kd.S_reads' HO_15.out).2.2 | (with_reducible refine Kd.C_alloc ?_ _) | (with_reducible refine Kd.C_drewN ?_ _) | (with_reducible refine Kd.C_drew ?_))); (case side2 => rw [show t259.length = t241.length from (Kd.S_reads' HO_15.out).1.symm]; exact (Kd.S_reads' HO_15.out).2.1); rintro e w' ⟨rfl, ⟨nd, rfl⟩⟩; refine ⟨_, rfl, ?_⟩; have hnb71 := NB220_240.out; have hnc71 := NB240_220.out; have hcz72_0 : w70.cell? ⟨gb220, 0, none⟩ = some (.string a0_0) := (blk_cell BK220.out 0).trans rfl; have hcz72_1 : w70.cell? ⟨gb220, 1, none⟩ = some (.slice A0_1 l0_1.length c0_1) := (blk_cell BK220.out 1).trans rfl; have hcz72_2 : w70.cell? ⟨gb220, 2, none⟩ = some (.slice A0_2 l0_2.length c0_2) := (blk_cell BK220.out 2).trans rfl; have hfz72_0 := blk_frozen BK220.out 0; have hfz72_1 := blk_frozen BK220.out 1; have hfz72_2 := blk_frozen BK220.out 2) | ((with_reducible refine gate_callee (f := 6) rfl ?_); refine gL_ (some 91) rfl rfl Try.func6 #[.agg #[.string a0_0, .slice A0_1 l0_1.length c0_1, .slice A0_2 l0_2.length c0_2]] rfl ?_; (with_reducible refine (laws_toTala.calls kj42 a0_0 _ _ l0_1 _ _ l0_2 t261 t262 t265 _ ?side1 ?side2 ?side3 ?side4 A66.out).mono ?_); (case side1 => repeat (first | exact (Kd.C_below HR0_1.out (by repeat (first | (with_reducible first | exact HB.out | apply qba | apply qbn | apply qb1 | refine below_set ?_ GE220.out | refine below_set ?_ GE240.out) | exact HB.out))) | (with_reducible refine Kd.C_alloc ?_ _) | (with_reducible refine Kd.C_drewN ?_ _) | (with_reducible refine Kd.C_drew ?_))); (case side2 => exact HC0_1.out); (case side3 => repeat (first | exact (Kd.C_below HR0_2.out (by repeat (first | (with_reducible first | exact HB.out | apply qba | apply qbn | apply qb1 | refine below_set ?_ GE220.out | refine below_set ?_ GE240.out) | exact HB.out))) | (with_reducible refine Kd.C_alloc ?_ _) | (with_reducible refine Kd.C_drewN ?_ _) | (with_reducible refine Kd.C_drew ?_))); (case side4 => exact HC0_2.out); rintro e w73 ⟨v263, v266, rfl, ho0, ho1, hb⟩; refine ⟨_, rfl, ?_⟩; have n0_ := Aside0.mk (Kd.S_mono (Kd.S_told (Kd.S_told (Kd.S_old (by (with_reducible repeat (first | apply Kd.S_alloc | apply Kd.S_drewN | apply Kd.S_drew)); exact HO_12.out) hb) (Kd.R_base ho0)) (Kd.R_base ho1)) (fun _ h_ => h_.1)); have n1_ := Aside0.mk (Kd.S_mono (Kd.S_told (Kd.S_told (Kd.S_old (by (with_reducible repeat (first | apply Kd.S_alloc | apply Kd.S_drewN | apply Kd.S_drew)); exact HO_15.out) hb) (Kd.R_base ho0)) (Kd.R_base ho1)) (fun _ h_ => h_.1)); have n2_ := Aside0.mk (Kd.R_mono (Kd.R_told (Kd.R_told (Kd.R_old (by (with_reducible repeat (first | apply qra | apply qrn | apply qrd)); exact HO_241001.out) hb) (Kd.R_base ho0)) (Kd.R_base ho1)) (fun _ h_ => h_.1)); have n3_ := Aside0.mk (Kd.R_mono (Kd.R_told (Kd.R_told (Kd.R_old (by (with_reducible repeat (first | apply qra | apply qrn | apply qrd)); exact HO_241002.out) hb) (Kd.R_base ho0)) (Kd.R_base ho1)) (fun _ h_ => h_.1)); have n4_ := Aside0.mk (Kd.R_lower (Kd.R_new' (Kd.R_new' ho0 (Kd.R_lt (by (with_reducible repeat (first | apply qra | apply qrn | apply qrd)); exact HO_241001.out))) (Kd.R_lt (by (with_reducible repeat (first | apply qra | apply qrn | apply qrd)); exact HO_241002.out))) (below_size (by repeat (first | (with_reducible first | exact HB.out | apply qba | apply qbn | apply qb1 | refine below_set ?_ GE220.out | refine below_set ?_ GE240.out) | exact HB.out)))); have n5_ := Aside0.mk (Kd.R_lower (Kd.R_new' (Kd.R_new' ho1 (Kd.R_lt (by (with_reducible repeat (first | apply qra | apply qrn | apply qrd)); exact HO_241001.out))) (Kd.R_lt (by (with_reducible repeat (first | apply qra | apply qrn | apply qrd)); exact HO_241002.out))) (below_size (by repeat (first | (with_reducible first | exact HB.out | apply qba | apply qbn | apply qb1 | refine below_set ?_ GE220.out | refine below_set ?_ GE240.out) | exact HB.out)))); have n6_ := Aside0.mk (blk_below (g := gb220) (o := .cells #[.string a0_0, .slice A0_1 l0_1.length c0_1, .slice A0_2 l0_2.length c0_2] 24 (0, 0)) (by (with_reducible repeat (first | refine blk_drewN ?_ _ | refine blk_drew ?_ | refine blk_alloc ?_ _)); exact BK220.out) hb); have n7_ := Aside0.mk (blk_below (g := gb240) (o := .cells #[.string t233, .slice Ao29 t255.length co29, .slice Ao30 t256.length co30] 29 (0, 0)) (by (with_reducible repeat (first | refine blk_drewN ?_ _ | refine blk_drew ?_ | refine blk_alloc ?_ _)); exact BK240.out) hb); have n8_ := Aside0.mk (below_step (by repeat (first | (with_reducible first | exact HB.out | apply qba | apply qbn | apply qb1 | refine below_set ?_ GE220.out | refine below_set ?_ GE240.out) | exact HB.out)) hb); clear HO_12; clear HO_15; clear HO_241001; clear HO_241002; clear BK220; clear BK240; clear HB; have HO_12 := n0_; have HO_15 := n1_; have HO_241001 := n2_; have HO_241002 := n3_; have HO264 := n4_; have HO267 := n5_; have BK220 := n6_; have BK240 := n7_; have HB := n8_; clear n0_ n1_ n2_ n3_ n4_ n5_ n6_ n7_ n8_; (try clear hb); (try clear hb2); (try clear hk); (try clear hi); (try clear ho0); (try clear ho1); obtain ⟨Ao74, co74, eo74⟩ := Kd.R_slice HO264.out; subst eo74; obtain ⟨Ao75, co75, eo75⟩ := Kd.R_slice HO267.out; subst eo75) | ((with_reducible refine gate_callee (f := 7) rfl ?_); refine gL_ (some 96) rfl rfl Try.func7 #[.agg #[.string t261, .slice Ao74 t262.length co74, .slice Ao75 t265.length co75], .int .i64 a1, .int .i64 a2, .int .i64 a3, .int .i64 a4] rfl ?_; (with_reducible refine (impl_ListCadences.calls kj42 t261 _ _ t262 _ _ t265 a1 a2 a3 a4 t268 t271 _ ?side1 ?side2 ?side3 ?side4 A67.out).mono ?_); (case side1 => repeat (first | exact (Kd.R_reads' HO264.out).2.2 | (with_reducible refine Kd.C_alloc ?_ _) | (with_reducible refine Kd.C_drewN ?_ _) | (with_reducible refine Kd.C_drew ?_))); (case side2 => exact (Kd.R_reads' HO264.out).2.1); (case side3 => repeat (first | exact (Kd.R_reads' HO267.out).2.2 | (with_reducible refine Kd.C_alloc ?_ _) | (with_reducible refine Kd.C_drewN ?_ _) | (with_reducible refine Kd.C_drew ?_))); (case side4 => exact (Kd.R_reads' HO267.out).2.1); rintro e w76 ⟨v269, rfl, ho0, hb⟩; refine ⟨_, rfl, ?_⟩; have n0_ := Aside0.mk (Kd.S_elder' (by (with_reducible repeat (first | apply Kd.S_alloc | apply Kd.S_drewN | apply Kd.S_drew)); exact HO_12.out) (Kd.S_base ho0) hb); have n1_ := Aside0.mk (Kd.S_elder' (by (with_reducible repeat (first | apply Kd.S_alloc | apply Kd.S_drewN | apply Kd.S_drew)); exact HO_15.out) (Kd.S_base ho0) hb); have n2_ := Aside0.mk (Kd.R_below (by (with_reducible repeat (first | apply qra | apply qrn | apply qrd)); exact HO_241001.out) hb); have n3_ := Aside0.mk (Kd.R_below (by (with_reducible repeat (first | apply qra | apply qrn | apply qrd)); exact HO_241002.out) hb); have n4_ := Aside0.mk (Kd.R_below (by (with_reducible repeat (first | apply qra | apply qrn | apply qrd)); exact HO264.out) hb); have n5_ := Aside0.mk (Kd.R_below (by (with_reducible repeat (first | apply qra | apply qrn | apply qrd)); exact HO267.out) hb); have n6_ := Aside0.mk (Kd.S_lower (Kd.S_new' (Kd.S_new' (Kd.S_new' (Kd.S_new' (Kd.S_new' (Kd.S_new' ho0 (Kd.S_lt (by (with_reducible repeat (first | apply Kd.S_alloc | apply Kd.S_drewN | apply Kd.S_drew)); exact HO_12.out))) (Kd.S_lt (by (with_reducible repeat (first | apply Kd.S_alloc | apply Kd.S_drewN | apply Kd.S_drew)); exact HO_15.out))) (Kd.R_lt (by (with_reducible repeat (first | apply qra | apply qrn | apply qrd)); exact HO_241001.out))) (Kd.R_lt (by (with_reducible repeat (first | apply qra | apply qrn | apply qrd)); exact HO_241002.out))) (Kd.R_lt (by (with_reducible repeat (first | apply qra | apply qrn | apply qrd)); exact HO264.out))) (Kd.R_lt (by (with_reducible repeat (first | apply qra | apply qrn | apply qrd)); exact HO267.out))) (below_size (by repeat (first | (with_reducible first | exact HB.out | apply qba | apply qbn | apply qb1 | refine below_set ?_ GE220.out | refine below_set ?_ GE240.out) | exact HB.out)))); have n7_ := Aside0.mk (blk_below (g := gb220) (o := .cells #[.string a0_0, .slice A0_1 l0_1.length c0_1, .slice A0_2 l0_2.length c0_2] 24 (0, 0)) (by (with_reducible repeat (first | refine blk_drewN ?_ _ | refine blk_drew ?_ | refine blk_alloc ?_ _)); exact BK220.out) hb); have n8_ := Aside0.mk (blk_below (g := gb240) (o := .cells #[.string t233, .slice Ao29 t255.length co29, .slice Ao30 t256.length co30] 29 (0, 0)) (by (with_reducible repeat (first | refine blk_drewN ?_ _ | refine blk_drew ?_ | refine blk_alloc ?_ _)); exact BK240.out) hb); have n9_ := Aside0.mk (below_step (by repeat (first | (with_reducible first | exact HB.out | apply qba | apply qbn | apply qb1 | refine below_set ?_ GE220.out | refine below_set ?_ GE240.out) | exact HB.out)) hb); clear HO_12; clear HO_15; clear HO_241001; clear HO_241002; clear HO264; clear HO267; clear BK220; clear BK240; clear HB; have HO_12 := n0_; have HO_15 := n1_; have HO_241001 := n2_; have HO_241002 := n3_; have HO264 := n4_; have HO267 := n5_; have HO270 := n6_; have BK220 := n7_; have BK240 := n8_; have HB := n9_; clear n0_ n1_ n2_ n3_ n4_ n5_ n6_ n7_ n8_ n9_; (try clear hb); (try clear hb2); (try clear hk); (try clear hi); (try clear ho0)))
                 (try simp only [Act.put, sx0, sx1, sx2])
                 go_cut [107] (fun v107 wc => ∃ (kq : Nat) (x107_67 : Bool), v107 = .bool x107_67 ∧ Aside0 (laws_FnExactListCadences.j2 kq t259 t258 x107_67 = some r) ∧ Aside0 (kq ≤ kj42) ∧ Aside0 (Kd.S (Kd.slice 2 (Kd.int .i64)) 22 wc w.heap.size (fun k_ => some k_ ≠ ((.slice Ao29 t255.length co29) : Value).ownBlock ∧ some k_ ≠ ((.slice Ao30 t256.length co30) : Value).ownBlock) (.slice Ao69 t241.length co69) t259) ∧ Aside0 (Kd.R (Kd.int .i64) 2 wc w.heap.size (fun k_ => some k_ ≠ ((.slice Ao30 t256.length co30) : Value).ownBlock) (.slice Ao29 t255.length co29) t255) ∧ Aside0 (Kd.R (Kd.int .i64) 2 wc w.heap.size (fun k_ => some k_ ≠ ((.slice Ao29 t255.length co29) : Value).ownBlock) (.slice Ao30 t256.length co30) t256) ∧ Aside0 (wc.heap[gb220]? = some (.cells #[.string a0_0, (.slice A0_1 l0_1.length c0_1), (.slice A0_2 l0_2.length c0_2)] 24 (0, 0))) ∧ Aside0 (wc.heap[gb240]? = some (.cells #[.string t233, (.slice Ao29 t255.length co29), (.slice Ao30 t256.length co30)] 29 (0, 0))) ∧ Aside0 (Below w.heap.size w wc))
                 case first =>
                  have H := HC68.out
                  clear HC68
                  replace H := Option.bind_eq_some_iff.mp H
                  obtain ⟨t272, A770, H⟩ := H
                  replace H : (if t272 = true then (laws_FnExactListCadences.j2 kj42 t259 t258 (t271 != t232)) else (laws_FnExactListCadences.j2 kj42 t259 t258 true)) = some r := H
                  have A77 := Aside0.mk A770
                  clear A770
                  by_cases c78 : t272 = true
                  · subst c78
                    have H1 : (laws_FnExactListCadences.j2 kj42 t259 t258 (t271 != t232)) = some r := by rw [if_pos rfl] at H; exact H
                    clear H
                    have H := H1
                    clear H1
                    have H' := Aside0.mk H
                    clear H
                    obtain ⟨Ao79, co79, eo79⟩ := Kd.S_slice HO270.out
                    subst eo79
                    obtain ⟨Ao80, co80, eo80⟩ := Kd.S_slice HO_12.out
                    subst eo80
                    go_wp2_with (first | ((with_reducible refine gate_callee (f := 8) rfl ?_); refine gL_ (some 101) rfl rfl Try.func8 #[.slice Ao79 t268.length co79, .slice Ao80 t229.length co80] rfl ?_; (with_reducible refine (laws_eqInt64SS.calls kj42 _ _ t268 _ _ t229 true _ ?side1 ?side2 ?side3 ?side4 A77.out).mono ?_); (case side1 => repeat (first | exact (Kd.S_reads' HO270.out).2.2 | (with_reducible refine Kd.C_alloc ?_ _) | (with_reducible refine Kd.C_drewN ?_ _) | (with_reducible refine Kd.C_drew ?_))); (case side2 => exact (Kd.S_reads' HO270.out).2.1); (case side3 => repeat (first | exact (Kd.S_reads' HO_12.out).2.2 | (with_reducible refine Kd.C_alloc ?_ _) | (with_reducible refine Kd.C_drewN ?_ _) | (with_reducible refine Kd.C_drew ?_))); (case side4 => exact (Kd.S_reads' HO_12.out).2.1); rintro e w' ⟨rfl, ⟨nd, rfl⟩⟩; refine ⟨_, rfl, ?_⟩))
                    go_meet
                    case rel => exact ⟨_, ((t271 != t232)), (by first | rfl | (simp; done) | (simp [*]; done)), H', ⟨by have := HJ14.out; have := HJ42.out; first | omega | exact Nat.le_refl _⟩, ⟨by (try simp only [hl241001_42]); (try simp only [hl241002_42]); (with_reducible repeat (first | apply Kd.S_alloc | apply Kd.S_drewN | apply Kd.S_drew)); exact Kd.S_mono HO_15.out (fun _ hk => ⟨hk.1.1.1.2.1, hk.1.1.1.2.2⟩)⟩, ⟨by (try simp only [hl241001_42]); (try simp only [hl241002_42]); (with_reducible repeat (first | apply qra | apply qrn | apply qrd)); exact Kd.R_mono HO_241001.out (fun _ hk => hk.1.1)⟩, ⟨by (try simp only [hl241001_42]); (try simp only [hl241002_42]); (with_reducible repeat (first | apply qra | apply qrn | apply qrd)); exact Kd.R_mono HO_241002.out (fun _ hk => hk.1.1)⟩, ⟨by (try simp only [hl241001_42]); (try simp only [hl241002_42]); (with_reducible repeat (first | refine blk_drewN ?_ _ | refine blk_drew ?_ | refine blk_alloc ?_ _)); exact BK220.out⟩, ⟨by (try simp only [hl241001_42]); (try simp only [hl241002_42]); (with_reducible repeat (first | refine blk_drewN ?_ _ | refine blk_drew ?_ | refine blk_alloc ?_ _)); exact BK240.out⟩, ⟨by repeat (first | (with_reducible first | exact HB.out | apply qba | apply qbn | apply qb1 | refine below_set ?_ GE220.out | refine below_set ?_ GE240.out) | exact HB.out)⟩⟩
                  · replace c78 := Bool.eq_false_iff.mpr c78
                    subst c78
                    have H1 : (laws_FnExactListCadences.j2 kj42 t259 t258 true) = some r := by rw [if_neg (show ¬ (false = true) by decide)] at H; exact H
                    clear H
                    have H := H1
                    clear H1
                    have H' := Aside0.mk H
                    clear H
                    obtain ⟨Ao81, co81, eo81⟩ := Kd.S_slice HO270.out
                    subst eo81
                    obtain ⟨Ao82, co82, eo82⟩ := Kd.S_slice HO_12.out
                    subst eo82
                    go_wp2_with (first | ((with_reducible refine gate_callee (f := 8) rfl ?_); refine gL_ (some 101) rfl rfl Try.func8 #[.slice Ao81 t268.length co81, .slice Ao82 t229.length co82] rfl ?_; (with_reducible refine (laws_eqInt64SS.calls kj42 _ _ t268 _ _ t229 false _ ?side1 ?side2 ?side3 ?side4 A77.out).mono ?_); (case side1 => repeat (first | exact (Kd.S_reads' HO270.out).2.2 | (with_reducible refine Kd.C_alloc ?_ _) | (with_reducible refine Kd.C_drewN ?_ _) | (with_reducible refine Kd.C_drew ?_))); (case side2 => exact (Kd.S_reads' HO270.out).2.1); (case side3 => repeat (first | exact (Kd.S_reads' HO_12.out).2.2 | (with_reducible refine Kd.C_alloc ?_ _) | (with_reducible refine Kd.C_drewN ?_ _) | (with_reducible refine Kd.C_drew ?_))); (case side4 => exact (Kd.S_reads' HO_12.out).2.1); rintro e w' ⟨rfl, ⟨nd, rfl⟩⟩; refine ⟨_, rfl, ?_⟩))
                    go_meet
                    case rel => exact ⟨_, (true), (by first | rfl | (simp; done) | (simp [*]; done)), H', ⟨by have := HJ14.out; have := HJ42.out; first | omega | exact Nat.le_refl _⟩, ⟨by (try simp only [hl241001_42]); (try simp only [hl241002_42]); (with_reducible repeat (first | apply Kd.S_alloc | apply Kd.S_drewN | apply Kd.S_drew)); exact Kd.S_mono HO_15.out (fun _ hk => ⟨hk.1.1.1.2.1, hk.1.1.1.2.2⟩)⟩, ⟨by (try simp only [hl241001_42]); (try simp only [hl241002_42]); (with_reducible repeat (first | apply qra | apply qrn | apply qrd)); exact Kd.R_mono HO_241001.out (fun _ hk => hk.1.1)⟩, ⟨by (try simp only [hl241001_42]); (try simp only [hl241002_42]); (with_reducible repeat (first | apply qra | apply qrn | apply qrd)); exact Kd.R_mono HO_241002.out (fun _ hk => hk.1.1)⟩, ⟨by (try simp only [hl241001_42]); (try simp only [hl241002_42]); (with_reducible repeat (first | refine blk_drewN ?_ _ | refine blk_drew ?_ | refine blk_alloc ?_ _)); exact BK220.out⟩, ⟨by (try simp only [hl241001_42]); (try simp only [hl241002_42]); (with_reducible repeat (first | refine blk_drewN ?_ _ | refine blk_drew ?_ | refine blk_alloc ?_ _)); exact BK240.out⟩, ⟨by repeat (first | (with_reducible first | exact HB.out | apply qba | apply qbn | apply qb1 | refine below_set ?_ GE220.out | refine below_set ?_ GE240.out) | exact HB.out)⟩⟩
                 case rest =>
                  clear HC68
                  try clear c1
                  try clear c2
                  try clear p2
                  try clear c3
                  try clear c4
                  try clear c5
                  try clear c6
                  try clear c7
                  try clear c7b0
                  try clear c8
                  try clear c9
                  try clear c10
                  try clear c11
                  try clear c12
                  try clear c27
                  try clear c33
                  try clear c38
                  try clear c41
                  try clear c49
                  try clear c52
                  try clear c52b0
                  try clear c54
                  try clear c59
                  try clear c62
                  try clear c62b0
                  try clear c65
                  try clear c65b0
                  try clear c65b1
                  try clear c71
                  try clear c78
                  try clear hcz17_0
                  try clear hcz17_1
                  try clear hcz17_2
                  try clear hcz19_0
                  try clear hcz19_1
                  try clear hcz19_2
                  try clear hcz24_0
                  try clear hcz24_1
                  try clear hcz24_2
                  try clear hcz28_0
                  try clear hcz28_1
                  try clear hcz28_2
                  try clear hcz50_0
                  try clear hcz50_1
                  try clear hcz50_2
                  try clear hcz72_0
                  try clear hcz72_1
                  try clear hcz72_2
                  try clear hcz9_0
                  try clear hcz9_1
                  try clear hcz9_2
                  try clear hfz17_0
                  try clear hfz17_1
                  try clear hfz17_2
                  try clear hfz19_0
                  try clear hfz19_1
                  try clear hfz19_2
                  try clear hfz24_0
                  try clear hfz24_1
                  try clear hfz24_2
                  try clear hfz28_0
                  try clear hfz28_1
                  try clear hfz28_2
                  try clear hfz50_0
                  try clear hfz50_1
                  try clear hfz50_2
                  try clear hfz72_0
                  try clear hfz72_1
                  try clear hfz72_2
                  try clear hfz9_0
                  try clear hfz9_1
                  try clear hfz9_2
                  try clear p2
                  obtain ⟨kq, x107_67, rfl, HA, HJ67, HO_15, HO_241001, HO_241002, BK220, BK240, HB⟩ := hcut
                  have hl15_67 := (Kd.S_reads' HO_15.out).1
                  rw [hl15_67] at HO_15
                  (try simp only [hl15_67])
                  (try simp only [hl15_67] at BK220)
                  (try simp only [hl15_67] at BK240)
                  (try simp only [hl15_67] at HO_241001)
                  (try simp only [hl15_67] at HO_241002)
                  cases kq with
                  | zero => exact absurd HA.out (by simp [laws_FnExactListCadences.j2])
                  | succ kj67 =>
                   have H := HA.out
                   clear HA
                   simp only [laws_FnExactListCadences.j2] at H
                   by_cases c83 : x107_67 = true
                   · subst c83
                     have H1 : (some false) = some r := by rw [if_pos rfl] at H; exact H
                     clear H
                     have H := H1
                     clear H1
                     obtain rfl := Option.some.inj H
                     go_wp2
                     go_ret
                     exact ⟨by first | rfl | (simp [errW_none, errW_some] <;> rfl) | (simp [*, errW_none, errW_some] <;> rfl), by repeat (first | (with_reducible first | exact HB.out | apply qba | apply qbn | apply qb1 | refine below_set ?_ GE220.out | refine below_set ?_ GE240.out) | exact HB.out)⟩
                   · replace c83 := Bool.eq_false_iff.mpr c83
                     subst c83
                     have H1 : ((laws_heldInt64SS.f kj67 t259 1).bind fun t273 => (if t273 < 0 then (some false) else (if t273 = t258 then (some true) else (some false)))) = some r := by rw [if_neg (show ¬ (false = true) by decide)] at H; exact H
                     clear H
                     have H := H1
                     clear H1
                     replace H := Option.bind_eq_some_iff.mp H
                     obtain ⟨t273, A840, H⟩ := H
                     replace H : (if t273 < 0 then (some false) else (if t273 = t258 then (some true) else (some false))) = some r := H
                     have A84 := Aside0.mk A840
                     clear A840
                     by_cases c85 : t273 < 0
                     · rw [if_pos c85] at H
                       have c85b0 : decide (t273 < 0) = true := decide_eq_true c85
                       clear c85
                       obtain rfl := Option.some.inj H
                       go_wp2_with (first | ((with_reducible refine gate_callee (f := 12) rfl ?_); refine gL_ (some 110) rfl rfl Try.func12 #[.slice Ao69 t259.length co69, .int .i64 1] rfl ?_; (with_reducible refine (laws_heldInt64SS.calls kj67 _ _ t259 1 t273 _ ?side1 ?side2 A84.out).mono ?_); (case side1 => repeat (first | exact (Kd.S_reads' HO_15.out).2.2 | (with_reducible refine Kd.C_alloc ?_ _) | (with_reducible refine Kd.C_drewN ?_ _) | (with_reducible refine Kd.C_drew ?_))); (case side2 => exact (Kd.S_reads' HO_15.out).2.1); rintro e w' ⟨rfl, ⟨nd, rfl⟩⟩; refine ⟨_, rfl, ?_⟩))
                       go_ret
                       exact ⟨by first | rfl | (simp [errW_none, errW_some] <;> rfl) | (simp [*, errW_none, errW_some] <;> rfl), by repeat (first | (with_reducible first | exact HB.out | apply qba | apply qbn | apply qb1 | refine below_set ?_ GE220.out | refine below_set ?_ GE240.out) | exact HB.out)⟩
                     · rw [if_neg c85] at H
                       have c85b0 : decide (t273 < 0) = false := decide_eq_false c85
                       clear c85
                       by_cases c86 : t273 = t258
                       · rw [if_pos c86] at H
                         have c86b0 : (t273 == t258) = true := beq_iff_eq.mpr c86
                         have c86b1 : (t273 != t258) = false := bne_eq_false_iff_eq.mpr c86
                         clear c86
                         obtain rfl := Option.some.inj H
                         go_wp2_with (first | ((with_reducible refine gate_callee (f := 12) rfl ?_); refine gL_ (some 110) rfl rfl Try.func12 #[.slice Ao69 t259.length co69, .int .i64 1] rfl ?_; (with_reducible refine (laws_heldInt64SS.calls kj67 _ _ t259 1 t273 _ ?side1 ?side2 A84.out).mono ?_); (case side1 => repeat (first | exact (Kd.S_reads' HO_15.out).2.2 | (with_reducible refine Kd.C_alloc ?_ _) | (with_reducible refine Kd.C_drewN ?_ _) | (with_reducible refine Kd.C_drew ?_))); (case side2 => exact (Kd.S_reads' HO_15.out).2.1); rintro e w' ⟨rfl, ⟨nd, rfl⟩⟩; refine ⟨_, rfl, ?_⟩))
                         go_ret
                         exact ⟨by first | rfl | (simp [errW_none, errW_some] <;> rfl) | (simp [*, errW_none, errW_some] <;> rfl), by repeat (first | (with_reducible first | exact HB.out | apply qba | apply qbn | apply qb1 | refine below_set ?_ GE220.out | refine below_set ?_ GE240.out) | exact HB.out)⟩
                       · rw [if_neg c86] at H
                         have c86b0 : (t273 == t258) = false := beq_eq_false_iff_ne.mpr c86
                         have c86b1 : (t273 != t258) = true := bne_iff_ne.mpr c86
                         obtain rfl := Option.some.inj H
                         go_wp2_with (first | ((with_reducible refine gate_callee (f := 12) rfl ?_); refine gL_ (some 110) rfl rfl Try.func12 #[.slice Ao69 t259.length co69, .int .i64 1] rfl ?_; (with_reducible refine (laws_heldInt64SS.calls kj67 _ _ t259 1 t273 _ ?side1 ?side2 A84.out).mono ?_); (case side1 => repeat (first | exact (Kd.S_reads' HO_15.out).2.2 | (with_reducible refine Kd.C_alloc ?_ _) | (with_reducible refine Kd.C_drewN ?_ _) | (with_reducible refine Kd.C_drew ?_))); (case side2 => exact (Kd.S_reads' HO_15.out).2.1); rintro e w' ⟨rfl, ⟨nd, rfl⟩⟩; refine ⟨_, rfl, ?_⟩))
                         go_ret
                         exact ⟨by first | rfl | (simp [errW_none, errW_some] <;> rfl) | (simp [*, errW_none, errW_some] <;> rfl), by repeat (first | (with_reducible first | exact HB.out | apply qba | apply qbn | apply qb1 | refine below_set ?_ GE220.out | refine below_set ?_ GE240.out) | exact HB.out)⟩
               · rw [if_neg c65] at H
                 have c65b0 : (t260 == t258) = false := beq_eq_false_iff_ne.mpr c65
                 have c65b1 : (t260 != t258) = true := bne_iff_ne.mpr c65
                 obtain rfl := Option.some.inj H
                 obtain ⟨Ao87, co87, eo87⟩ := Kd.S_slice HO_15.out
                 subst eo87
                 go_wp2_with (first | ((with_reducible refine gate_callee (f := 11) rfl ?_); refine gL_ (some 80) rfl rfl Try.func11 #[.slice Ao87 t241.length co87, .int .i64 1] rfl ?_; (with_reducible refine (laws_markInt64SS.calls kj42 (fun k_ => (some k_ ≠ (v230 : Value).ownBlock ∧ NG ≤ k_) ∧ some k_ ≠ (.slice Ao29 t255.length co29 : Value).ownBlock ∧ some k_ ≠ (.slice Ao30 t256.length co30 : Value).ownBlock) (.slice Ao87 t241.length co87) t241 1 t258 t259 w _ ?side1 ?side2 A60.out).mono ?_); (case side1 => repeat (first | (with_reducible first | exact HB.out | apply qba | apply qbn | apply qb1 | refine below_set ?_ GE220.out | refine below_set ?_ GE240.out) | exact HB.out)); (case side2 => exact HO_15.out); rintro e w88 ⟨rfl, hy0, hb, hkp⟩; refine ⟨_, rfl, ?_⟩; have n0_ := Aside0.mk (Kd.S_mono (ok' := fun k_ => (some k_ ≠ (.slice Ao87 t241.length co87 : Value).ownBlock ∧ k_ < NG) ∧ some k_ ≠ (.slice Ao29 t255.length co29 : Value).ownBlock ∧ some k_ ≠ (.slice Ao30 t256.length co30 : Value).ownBlock) (Kd.S_keptB (HO_12.out) hkp (fun k_ hk_ hs_ => absurd hk_.1.2 (Nat.not_lt.2 hs_.1.2))) (fun k_ hk_ => ⟨hk_.1.1, hk_.1.2.1, hk_.1.2.2⟩)); have n1_ := Aside0.mk hy0; have n2_ := Aside0.mk (Kd.R_mono (ok' := fun k_ => some k_ ≠ (.slice Ao30 t256.length co30 : Value).ownBlock) (Kd.R_keptB (Kd.R_tight2 rfl HO_241001.out) hkp (fun k_ hk_ hs_ => hs_.2.1 hk_.1)) (fun k_ hk_ => hk_.1.2)); have n3_ := Aside0.mk (Kd.R_mono (ok' := fun k_ => some k_ ≠ (.slice Ao29 t255.length co29 : Value).ownBlock) (Kd.R_keptB (Kd.R_tight2 rfl HO_241002.out) hkp (fun k_ hk_ hs_ => hs_.2.2 hk_.1)) (fun k_ hk_ => hk_.1.2)); have n4_ := Aside0.mk (blk_kept (by (with_reducible repeat (first | refine blk_drewN ?_ _ | refine blk_drew ?_ | refine blk_alloc ?_ _)); exact BK220.out) hkp (fun hs_ => absurd LB220.out (Nat.not_lt.2 hs_.1.2))); have n5_ := Aside0.mk (blk_kept (by (with_reducible repeat (first | refine blk_drewN ?_ _ | refine blk_drew ?_ | refine blk_alloc ?_ _)); exact BK240.out) hkp (fun hs_ => absurd LB240.out (Nat.not_lt.2 hs_.1.2))); have n6_ := Aside0.mk (hb); clear HO_12; clear HO_15; clear HO_241001; clear HO_241002; clear BK220; clear BK240; clear HB; have HO_12 := n0_; have HO_15 := n1_; have HO_241001 := n2_; have HO_241002 := n3_; have BK220 := n4_; have BK240 := n5_; have HB := n6_; clear n0_ n1_ n2_ n3_ n4_ n5_ n6_; (try clear hb); (try clear hkp); (try clear hy0)) | ((with_reducible refine gate_callee (f := 12) rfl ?_); refine goesL_ (some 83) rfl rfl Try.func12 (by kernel_rfl) rfl #[.slice Ao87 t259.length co87, .int .i64 1] rfl (by (try simp only [List.map_toArray, List.map_cons, List.map_nil]); first | done | (rw [show t259.length = t241.length from (Kd.S_reads' HO_15.out).1.symm] <;> rfl) | rfl | (simp only [List.length_drop, List.length_take]; rfl)) ?_; (with_reducible refine (laws_heldInt64SS.calls kj42 _ _ t259 1 t260 _ ?side1 ?side2 A61.out).mono ?_); (case side1 => repeat (first | exact (Kd.S_reads' HO_15.out).2.2 | (with_reducible refine Kd.C_alloc ?_ _) | (with_reducible refine Kd.C_drewN ?_ _) | (with_reducible refine Kd.C_drew ?_))); (case side2 => rw [show t259.length = t241.length from (Kd.S_reads' HO_15.out).1.symm]; exact (Kd.S_reads' HO_15.out).2.1); rintro e w' ⟨rfl, ⟨nd, rfl⟩⟩; refine ⟨_, rfl, ?_⟩))
                 go_ret
                 exact ⟨by first | rfl | (simp [errW_none, errW_some] <;> rfl) | (simp [*, errW_none, errW_some] <;> rfl), by repeat (first | (with_reducible first | exact HB.out | apply qba | apply qbn | apply qb1 | refine below_set ?_ GE220.out | refine below_set ?_ GE240.out) | exact HB.out)⟩
       · replace c41 := Bool.eq_false_iff.mpr c41
         subst c41
         have H1 : (some false) = some r := by rw [if_neg (show ¬ (false = true) by decide)] at H; exact H
         clear H
         have H := H1
         clear H1
         obtain rfl := Option.some.inj H
         try go_wp2
         have n0_ := Aside0.mk (Kd.S_drew HO_12.out)
         have n1_ := Aside0.mk (Kd.S_drew HO_15.out)
         have n2_ := Aside0.mk (Kd.R_drew HO_241001.out)
         have n3_ := Aside0.mk (Kd.R_drew HO_241002.out)
         have n4_ := Aside0.mk (blk_drew BK220.out)
         have n5_ := Aside0.mk (blk_drew BK240.out)
         have n6_ := Aside0.mk (below_drew1 HB.out)
         clear HO_12
         clear HO_15
         clear HO_241001
         clear HO_241002
         clear BK220
         clear BK240
         clear HB
         have HO_12 := n0_
         have HO_15 := n1_
         have HO_241001 := n2_
         have HO_241002 := n3_
         have BK220 := n4_
         have BK240 := n5_
         have HB := n6_
         clear n0_ n1_ n2_ n3_ n4_ n5_ n6_
         refine start_ (n := 5) (S := fun w' => w'.cell? ⟨gb240, 0, none⟩ = some (.string t233) ∧ w'.cell? ⟨gb240, 1, none⟩ = some (.slice Ao29 t234.length co29) ∧ w'.cell? ⟨gb240, 2, none⟩ = some (.slice Ao30 t237.length co30) ∧ w'.cell? ⟨gb220, 0, none⟩ = some (.string a0_0) ∧ w'.cell? ⟨gb220, 1, none⟩ = some (.slice A0_1 l0_1.length c0_1) ∧ w'.cell? ⟨gb220, 2, none⟩ = some (.slice A0_2 l0_2.length c0_2)) (ds := []) #[false, false, false, false, false] (by kernel_rfl) rfl rfl ⟨(blk_cell BK240.out 0).trans rfl, (blk_cell BK240.out 1).trans rfl, (blk_cell BK240.out 2).trans rfl, (blk_cell BK220.out 0).trans rfl, (blk_cell BK220.out 1).trans rfl, (blk_cell BK220.out 2).trans rfl⟩ (fun hHeld => ?_)
         generalize wc.drew = w89 at HO_12 HO_15 HO_241001 HO_241002 BK220 BK240 HB hHeld ⊢
         refine take_ (i := 0) (N := some 57) (v := ?_) (a' := ?_) #[true, false, false, false, false] rfl rfl (by kernel_rfl) (fun _ _ _ h => h) (Or.inl ⟨by rfl, ?_⟩) hHeld ?_ ?_
         rotate_left
         · rintro w' ⟨s0, s1, s2, s3, s4, s5⟩
           go_simp
           with_reducible rfl
         rotate_left
         · simp only [Act.put, sx0, sx1, sx2, i64_w, i32_w]
           rfl
         refine take_ (i := 1) (N := some 58) (v := ?_) (a' := ?_) #[true, true, false, false, false] rfl rfl (by kernel_rfl) (fun _ _ _ h => h) (Or.inl ⟨by rfl, ?_⟩) hHeld ?_ ?_
         rotate_left
         · rintro w' ⟨s0, s1, s2, s3, s4, s5⟩
           go_simp
           with_reducible rfl
         rotate_left
         · simp only [Act.put, sx0, sx1, sx2, i64_w, i32_w]
           rfl
         refine one_ (i := 2) (N := some 59) #[true, true, true, false, false] rfl rfl (by kernel_rfl) (by decide) (fun K hK => ?_)
         refine gS_ Try.func6 #[.agg #[.string a0_0, .slice A0_1 l0_1.length c0_1, .slice A0_2 l0_2.length c0_2]] rfl rfl ?_
         with_reducible refine (laws_toTala.calls kj14 a0_0 _ _ l0_1 _ _ l0_2 t246 t247 t250 _ ?side1 ?side2 ?side3 ?side4 A39.out).mono ?_
         (case side1 => repeat (first | exact (Kd.C_below HR0_1.out HB.out) | (with_reducible refine Kd.C_alloc ?_ _) | (with_reducible refine Kd.C_drewN ?_ _) | (with_reducible refine Kd.C_drew ?_)))
         (case side2 => exact HC0_1.out)
         (case side3 => repeat (first | exact (Kd.C_below HR0_2.out HB.out) | (with_reducible refine Kd.C_alloc ?_ _) | (with_reducible refine Kd.C_drewN ?_ _) | (with_reducible refine Kd.C_drew ?_)))
         (case side4 => exact HC0_2.out)
         rintro e w90 ⟨v248, v251, rfl, ho0, ho1, hb⟩
         refine ⟨_, rfl, ?_⟩
         have n0_ := Aside0.mk (Kd.S_mono (Kd.S_told (Kd.S_told (Kd.S_old (by (with_reducible repeat (first | apply Kd.S_alloc | apply Kd.S_drewN | apply Kd.S_drew)); exact HO_12.out) hb) (Kd.R_base ho0)) (Kd.R_base ho1)) (fun _ h_ => h_.1))
         have n1_ := Aside0.mk (Kd.S_mono (Kd.S_told (Kd.S_told (Kd.S_old (by (with_reducible repeat (first | apply Kd.S_alloc | apply Kd.S_drewN | apply Kd.S_drew)); exact HO_15.out) hb) (Kd.R_base ho0)) (Kd.R_base ho1)) (fun _ h_ => h_.1))
         have n2_ := Aside0.mk (Kd.R_mono (Kd.R_told (Kd.R_told (Kd.R_old (by (with_reducible repeat (first | apply qra | apply qrn | apply qrd)); exact HO_241001.out) hb) (Kd.R_base ho0)) (Kd.R_base ho1)) (fun _ h_ => h_.1))
         have n3_ := Aside0.mk (Kd.R_mono (Kd.R_told (Kd.R_told (Kd.R_old (by (with_reducible repeat (first | apply qra | apply qrn | apply qrd)); exact HO_241002.out) hb) (Kd.R_base ho0)) (Kd.R_base ho1)) (fun _ h_ => h_.1))
         have n4_ := Aside0.mk (Kd.R_lower (Kd.R_new' (Kd.R_new' ho0 (Kd.R_lt (by (with_reducible repeat (first | apply qra | apply qrn | apply qrd)); exact HO_241001.out))) (Kd.R_lt (by (with_reducible repeat (first | apply qra | apply qrn | apply qrd)); exact HO_241002.out))) (below_size (by repeat (first | (with_reducible first | exact HB.out | apply qba | apply qbn | apply qb1 | refine below_set ?_ GE220.out | refine below_set ?_ GE240.out) | exact HB.out))))
         have n5_ := Aside0.mk (Kd.R_lower (Kd.R_new' (Kd.R_new' ho1 (Kd.R_lt (by (with_reducible repeat (first | apply qra | apply qrn | apply qrd)); exact HO_241001.out))) (Kd.R_lt (by (with_reducible repeat (first | apply qra | apply qrn | apply qrd)); exact HO_241002.out))) (below_size (by repeat (first | (with_reducible first | exact HB.out | apply qba | apply qbn | apply qb1 | refine below_set ?_ GE220.out | refine below_set ?_ GE240.out) | exact HB.out))))
         have n6_ := Aside0.mk (blk_below (g := gb220) (o := .cells #[.string a0_0, .slice A0_1 l0_1.length c0_1, .slice A0_2 l0_2.length c0_2] 24 (0, 0)) (by (with_reducible repeat (first | refine blk_drewN ?_ _ | refine blk_drew ?_ | refine blk_alloc ?_ _)); exact BK220.out) hb)
         have n7_ := Aside0.mk (blk_below (g := gb240) (o := .cells #[.string t233, .slice Ao29 t234.length co29, .slice Ao30 t237.length co30] 29 (0, 0)) (by (with_reducible repeat (first | refine blk_drewN ?_ _ | refine blk_drew ?_ | refine blk_alloc ?_ _)); exact BK240.out) hb)
         have n8_ := Aside0.mk (below_step (by repeat (first | (with_reducible first | exact HB.out | apply qba | apply qbn | apply qb1 | refine below_set ?_ GE220.out | refine below_set ?_ GE240.out) | exact HB.out)) hb)
         clear HO_12
         clear HO_15
         clear HO_241001
         clear HO_241002
         clear BK220
         clear BK240
         clear HB
         have HO_12 := n0_
         have HO_15 := n1_
         have HO_241001 := n2_
         have HO_241002 := n3_
         have HO249 := n4_
         have HO252 := n5_
         have BK220 := n6_
         have BK240 := n7_
         have HB := n8_
         clear n0_ n1_ n2_ n3_ n4_ n5_ n6_ n7_ n8_
         (try clear hb)
         (try clear hb2)
         (try clear hk)
         (try clear hi)
         (try clear ho0)
         (try clear ho1)
         obtain ⟨Ao91, co91, eo91⟩ := Kd.R_slice HO249.out
         (first | subst eo91 | (injection eo91 with f1_ f2_ f3_; have f4_ := f1_.symm; have f5_ := f3_.symm; clear f1_ f2_ f3_; subst f4_; subst f5_))
         obtain ⟨Ao92, co92, eo92⟩ := Kd.R_slice HO252.out
         (first | subst eo92 | (injection eo92 with f1_ f2_ f3_; have f4_ := f1_.symm; have f5_ := f3_.symm; clear f1_ f2_ f3_; subst f4_; subst f5_))
         refine hK.out _ _ ⟨(blk_cell BK240.out 0).trans rfl, (blk_cell BK240.out 1).trans rfl, (blk_cell BK240.out 2).trans rfl, (blk_cell BK220.out 0).trans rfl, (blk_cell BK220.out 1).trans rfl, (blk_cell BK220.out 2).trans rfl⟩ (fun hHeld => ?_)
         clear hK K
         refine norm_ (a' := ?_) ?_ ?_
         rotate_left
         · show Act.put _ (some 59) _ = _
           simp only [Act.put, sx0, sx1, sx2, i64_w, i32_w]
           rfl
         refine one_ (i := 3) (N := some 60) #[true, true, true, true, false] rfl rfl (by kernel_rfl) (by decide) (fun K hK => ?_)
         refine gS_ Try.func9 #[.agg #[.string t233, .slice Ao29 t234.length co29, .slice Ao30 t237.length co30], .agg #[.string t246, .slice Ao91 t247.length co91, .slice Ao92 t250.length co92]] rfl rfl ?_
         with_reducible refine (laws_eqTala.calls kj14 t233 _ _ t234 _ _ t237 t246 _ _ t247 _ _ t250 false _ ?side1 ?side2 ?side3 ?side4 ?side5 ?side6 ?side7 ?side8 A40.out).mono ?_
         (case side1 => repeat (first | exact (Kd.R_reads' HO_241001.out).2.2 | (with_reducible refine Kd.C_alloc ?_ _) | (with_reducible refine Kd.C_drewN ?_ _) | (with_reducible refine Kd.C_drew ?_)))
         (case side2 => exact (Kd.R_reads' HO_241001.out).2.1)
         (case side3 => repeat (first | exact (Kd.R_reads' HO_241002.out).2.2 | (with_reducible refine Kd.C_alloc ?_ _) | (with_reducible refine Kd.C_drewN ?_ _) | (with_reducible refine Kd.C_drew ?_)))
         (case side4 => exact (Kd.R_reads' HO_241002.out).2.1)
         (case side5 => repeat (first | exact (Kd.R_reads' HO249.out).2.2 | (with_reducible refine Kd.C_alloc ?_ _) | (with_reducible refine Kd.C_drewN ?_ _) | (with_reducible refine Kd.C_drew ?_)))
         (case side6 => exact (Kd.R_reads' HO249.out).2.1)
         (case side7 => repeat (first | exact (Kd.R_reads' HO252.out).2.2 | (with_reducible refine Kd.C_alloc ?_ _) | (with_reducible refine Kd.C_drewN ?_ _) | (with_reducible refine Kd.C_drew ?_)))
         (case side8 => exact (Kd.R_reads' HO252.out).2.1)
         rintro e w93 ⟨rfl, hb⟩
         refine ⟨_, rfl, ?_⟩
         have n0_ := Aside0.mk (Kd.S_below (by (with_reducible repeat (first | apply Kd.S_alloc | apply Kd.S_drewN | apply Kd.S_drew)); exact HO_12.out) hb)
         have n1_ := Aside0.mk (Kd.S_below (by (with_reducible repeat (first | apply Kd.S_alloc | apply Kd.S_drewN | apply Kd.S_drew)); exact HO_15.out) hb)
         have n2_ := Aside0.mk (Kd.R_below (by (with_reducible repeat (first | apply qra | apply qrn | apply qrd)); exact HO_241001.out) hb)
         have n3_ := Aside0.mk (Kd.R_below (by (with_reducible repeat (first | apply qra | apply qrn | apply qrd)); exact HO_241002.out) hb)
         have n4_ := Aside0.mk (Kd.R_below (by (with_reducible repeat (first | apply qra | apply qrn | apply qrd)); exact HO249.out) hb)
         have n5_ := Aside0.mk (Kd.R_below (by (with_reducible repeat (first | apply qra | apply qrn | apply qrd)); exact HO252.out) hb)
         have n6_ := Aside0.mk (blk_below (g := gb220) (o := .cells #[.string a0_0, .slice A0_1 l0_1.length c0_1, .slice A0_2 l0_2.length c0_2] 24 (0, 0)) (by (with_reducible repeat (first | refine blk_drewN ?_ _ | refine blk_drew ?_ | refine blk_alloc ?_ _)); exact BK220.out) hb)
         have n7_ := Aside0.mk (blk_below (g := gb240) (o := .cells #[.string t233, .slice Ao29 t234.length co29, .slice Ao30 t237.length co30] 29 (0, 0)) (by (with_reducible repeat (first | refine blk_drewN ?_ _ | refine blk_drew ?_ | refine blk_alloc ?_ _)); exact BK240.out) hb)
         have n8_ := Aside0.mk (below_step (by repeat (first | (with_reducible first | exact HB.out | apply qba | apply qbn | apply qb1 | refine below_set ?_ GE220.out | refine below_set ?_ GE240.out) | exact HB.out)) hb)
         clear HO_12
         clear HO_15
         clear HO_241001
         clear HO_241002
         clear HO249
         clear HO252
         clear BK220
         clear BK240
         clear HB
         have HO_12 := n0_
         have HO_15 := n1_
         have HO_241001 := n2_
         have HO_241002 := n3_
         have HO249 := n4_
         have HO252 := n5_
         have BK220 := n6_
         have BK240 := n7_
         have HB := n8_
         clear n0_ n1_ n2_ n3_ n4_ n5_ n6_ n7_ n8_
         (try clear hb)
         (try clear hb2)
         (try clear hk)
         (try clear hi)
         refine hK.out _ _ ⟨(blk_cell BK240.out 0).trans rfl, (blk_cell BK240.out 1).trans rfl, (blk_cell BK240.out 2).trans rfl, (blk_cell BK220.out 0).trans rfl, (blk_cell BK220.out 1).trans rfl, (blk_cell BK220.out 2).trans rfl⟩ (fun hHeld => ?_)
         clear hK K
         refine norm_ (a' := ?_) ?_ ?_
         rotate_left
         · show Act.put _ (some 60) _ = _
           simp only [Act.put, sx0, sx1, sx2, i64_w, i32_w]
           rfl
         refine pv_ (i := 4) (N := some 61) #[true, true, true, true, true] rfl rfl ?_
         refine done_ (by kernel_rfl) ?_
         try go_wp2
         go_ret
         exact ⟨by first | rfl | (simp [errW_none, errW_some] <;> rfl) | (simp [*, errW_none, errW_some] <;> rfl), by repeat (first | (with_reducible first | exact HB.out | apply qba | apply qbn | apply qb1 | refine below_set ?_ GE220.out | refine below_set ?_ GE240.out) | exact HB.out)⟩

/-- THE ONE PURE STATEMENT of laws_FnExactListCadences: yours. -/
def laws_FnExactListCadences.Pure : Prop := ∀ (a0_0 : ByteArray) (l0_1 : List Int) (l0_2 : List Int) (a1 : Int) (a2 : Int) (a3 : Int) (a4 : Int), a0_0.size ≤ maxLen → (l0_1.length ≤ maxLen ∧ ∀ y0 ∈ l0_1, (Lit.int .i64 y0).wf = true) → (l0_2.length ≤ maxLen ∧ ∀ y0 ∈ l0_2, (Lit.int .i64 y0).wf = true) → (Lit.int .i64 a1).wf = true → (Lit.int .i64 a2).wf = true → (Lit.int .i64 a3).wf = true → (Lit.int .i64 a4).wf = true → ∃ k, laws_FnExactListCadences.f k a0_0 l0_1 l0_2 a1 a2 a3 a4 = some true
theorem laws_FnExactListCadences.walk (P : laws_FnExactListCadences.Pure) (a0_0 : ByteArray) (A0_1 : Option Addr) (c0_1 : Nat) (l0_1 : List Int) (A0_2 : Option Addr) (c0_2 : Nat) (l0_2 : List Int) (a1 : Int) (a2 : Int) (a3 : Int) (a4 : Int) (w : World) (hr0_1 : Kd.C (Kd.int .i64) w A0_1 l0_1.length l0_1) (hc0_1 : l0_1.length ≤ c0_1) (hr0_2 : Kd.C (Kd.int .i64) w A0_2 l0_2.length l0_2) (hc0_2 : l0_2.length ≤ c0_2) (hk0_0 : a0_0.size ≤ maxLen) (hk0_1 : (l0_1.length ≤ maxLen ∧ ∀ y0 ∈ l0_1, (Lit.int .i64 y0).wf = true)) (hk0_2 : (l0_2.length ≤ maxLen ∧ ∀ y0 ∈ l0_2, (Lit.int .i64 y0).wf = true)) (hk1 : (Lit.int .i64 a1).wf = true) (hk2 : (Lit.int .i64 a2).wf = true) (hk3 : (Lit.int .i64 a3).wf = true) (hk4 : (Lit.int .i64 a4).wf = true) :
 Calls Try.prog 3 #[.agg #[.string a0_0, .slice A0_1 l0_1.length c0_1, .slice A0_2 l0_2.length c0_2], .int .i64 a1, .int .i64 a2, .int .i64 a3, .int .i64 a4] w fun e w' => e = .returned (.bool true) ∧ Below w.heap.size w w' := by
 obtain ⟨k, h⟩ := P a0_0 l0_1 l0_2 a1 a2 a3 a4 hk0_0 hk0_1 hk0_2 hk1 hk2 hk3 hk4
 refine (laws_FnExactListCadences.calls k a0_0 _ _ l0_1 _ _ l0_2 a1 a2 a3 a4 true w hr0_1 hc0_1 hr0_2 hc0_2 h).mono ?_
 rintro e w' ⟨rfl, hd⟩
 exact ⟨rfl, hd⟩

end Go.Proofs.Ytepodajmfcjjkaa.PL
