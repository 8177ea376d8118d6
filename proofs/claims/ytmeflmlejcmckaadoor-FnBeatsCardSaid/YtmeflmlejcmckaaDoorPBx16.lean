-- WRITTEN BY wip/gprint.py, a program of this session's over the kit's print, with contracts given by hand
import Derived.Test.YtmeflmlejcmckaaDoorPBx0
import Derived.Test.YtmeflmlejcmckaaDoorPBx12
import Derived.Test.YtmeflmlejcmckaaDoorPBx15
namespace Go.Proofs.YtmeflmlejcmckaaDoor.PB
open Go.RowKit Go.Proofs.YtmeflmlejcmckaaDoorW.PrintWords Go.Proofs.YtmeflmlejcmckaaDoorW.PrintLast Go.Proofs.YtmeflmlejcmckaaDoorW.PrintMore
attribute [local go_sem] max2_int min2_int max_two min_two max_three min_three max_four min_four   -- for this text's walks alone
set_option linter.unusedVariables false
set_option linter.unusedSimpArgs false

/-! ### impl_allWithin: function 160 (a contract given by hand) -/
def idxO {α : Type} (p : α → Option Bool) : List α → Int → Option Int
 | [], _ => some (-1)
 | x :: xs, i => (p x).bind fun b => if b = true then some i else idxO p xs (i + 1)
def anyO {α : Type} (p : α → Option Bool) : List α → Option Bool
 | [] => some false
 | x :: xs => (p x).bind fun b => if b = true then some true else anyO p xs
theorem idxO_at {α : Type} (p : α → Option Bool) (l : List α) (k : Nat) (hk : k < l.length) {r : Int} (h : idxO p (l.drop k) k = some r) :
 ((p l[k]).bind fun b => if b = true then some (k : Int) else idxO p (l.drop (k + 1)) ((k + 1 : Nat) : Int)) = some r := by
 rw [List.drop_eq_getElem_cons hk] at h
 exact h
theorem idxO_end {α : Type} (p : α → Option Bool) (l : List α) (k : Nat) (hk : l.length ≤ k) {r : Int} (h : idxO p (l.drop k) k = some r) : (-1 : Int) = r := by
 rw [List.drop_eq_nil_of_le hk] at h
 exact Option.some.inj h
theorem idxO_any' {α : Type} (p : α → Option Bool) : ∀ (l : List α) (j : Nat) (r : Bool), anyO p l = some r → ∃ i : Int, idxO p l j = some i ∧ decide (0 ≤ i) = r
 | [], _, r, h => ⟨-1, rfl, by simp [anyO] at h; subst h; rfl⟩
 | x :: xs, j, r, h => by
  simp only [anyO] at h
  obtain ⟨b, hb, h⟩ := Option.bind_eq_some_iff.mp h
  cases b with
  | true => exact ⟨j, by simp [idxO, hb], by simp at h; subst h; simp⟩
  | false =>
   obtain ⟨i, h1, h2⟩ := idxO_any' p xs (j + 1) r (by simpa using h)
   exact ⟨i, by simp only [idxO, hb, Option.bind_some]; rw [if_neg (by decide)]; exact h1, h2⟩
theorem idxO_any {α : Type} (p : α → Option Bool) (l : List α) (r : Bool) (h : anyO p l = some r) : ∃ i : Int, idxO p l 0 = some i ∧ decide (0 ≤ i) = r := idxO_any' p l 0 r h
theorem rdm_at {α : Type} (l : List α) (d : α) (k : Nat) (h : k < l.length) : l[k] = l.getD ((k : Int)).toNat d := by
 simp [List.getD_eq_getElem?_getD, List.getElem?_eq_getElem h]
theorem rdm_mem {α : Type} (l : List α) (d : α) (k : Nat) (h : k < l.length) : l.getD ((k : Int)).toNat d ∈ l := by
 rw [← rdm_at l d k h]; exact List.getElem_mem h
theorem anyO_some {α : Type} (p : α → Bool) : ∀ l : List α, anyO (fun x => some (p x)) l = some (l.any p)
 | [] => rfl
 | x :: xs => by simp only [anyO, Option.bind_some, List.any_cons]; cases p x <;> simp [anyO_some p xs]
theorem anyO_mono {α : Type} {p q : α → Option Bool} (h : ∀ x, LeO (p x) (q x)) : ∀ l : List α, LeO (anyO p l) (anyO q l)
 | [] => LeO.refl _
 | x :: xs => LeO.bind (h x) (fun b => LeO.ite (LeO.refl _) (anyO_mono h xs))
theorem idxO_mono {α : Type} {p q : α → Option Bool} (h : ∀ x, LeO (p x) (q x)) : ∀ (l : List α) (i : Int), LeO (idxO p l i) (idxO q l i)
 | [], _ => LeO.refl _
 | x :: xs, i => LeO.bind (h x) (fun b => LeO.ite (LeO.refl _) (idxO_mono h xs (i + 1)))
set_option maxHeartbeats 4000000 in
set_option maxRecDepth 100000 in
theorem idxf_229 (g : Nat) (lb : Array Value) (p : Int → Option Bool) (A0 : Option Addr) (c0 : Nat) (l0 : List (Int)) (r : Int) (w : World) (hr0 : Kd.C (Kd.int .i64) w A0 l0.length l0)
 (eg : ∀ args w, (callFunc g args).run Tryd.prog w = .ok (.enter g args) w)
 (hp : ∀ W x b, x ∈ l0 → p x = some b → Below w.heap.size w W → Calls Tryd.prog g (#[.int .i64 x] ++ lb) W fun e w' => e = .returned (.bool b) ∧ Below w.heap.size w w') (h : idxO p l0 0 = some r) :
 Calls Tryd.prog 229 #[.slice A0 l0.length c0, .func (.func g) #[] lb] w fun e w' => e = .returned (.int .i64 r) ∧ Below w.heap.size w w' := by
 have hbig := hr0.2.1
 have HR0 := Aside0.mk hr0
 clear hr0
 have h' := Aside0.mk h
 clear h
 go_enter Tryd.func229, Tryd.ntmps229
 go_wp2
 go_loopg [5, 8] l0.length (fun gg _ s8 wr => ∃ kk : Nat, kk ≤ l0.length ∧ l0.length - kk ≤ gg ∧ s8 = .int .i64 kk ∧ Aside0 (Below w.heap.size w wr) ∧ Aside0 (idxO p (l0.drop kk) kk = some r))
 case atStart => exact ⟨0, Nat.zero_le _, by omega, rfl, ⟨Below.refl _ w⟩, h'⟩
 case round =>
 obtain ⟨kk, hkk, hg, rfl, BW, H⟩ := hrel
 clear h'
 by_cases hlt : kk < l0.length
 · have hltz : (kk : Int) < (l0.length : Int) := by omega
   have l1 := Kd.at_int HR0.out (kk : Int) (by omega) hltz
   have hmem : rd l0 kk ∈ l0 := rdm_mem l0 _ kk hlt
   obtain ⟨ad, rfl, l2_0⟩ := l1
   replace l2_0 := tW BW l2_0
   have H2 := idxO_at p l0 kk hlt H.out
   have hdef : l0[kk] = rd l0 kk := rdm_at l0 _ kk hlt
   rw [hdef] at H2
   clear H hdef
   obtain ⟨b, hb, H2⟩ := Option.bind_eq_some_iff.mp H2
   have hcall := hp wr (rd l0 kk) b hmem hb BW.out
   clear hp hmem hb
   try simp only [Int.toNat_natCast] at l2_0
   cases b with
   | true =>
    have HZ := Aside0.mk (Option.some.inj ((if_pos rfl).symm.trans H2))
    clear H2
    go_wp2_with (go_at_fn g; refine hcall.mono ?_; rintro e w' ⟨rfl, hb'⟩)
    go_ret
    exact ⟨(by rw [← HZ.out]; rfl), hb'⟩
   | false =>
   have HZ := Aside0.mk ((if_neg (by decide)).symm.trans H2)
   clear H2
   go_wp2_with (go_at_fn g; refine hcall.mono ?_; rintro e w' ⟨rfl, hb'⟩)
   go_roundg (l0.length - (kk + 1))
   case measure => omega
   case rel => exact ⟨kk + 1, by omega, by omega, by go_num, ⟨hb'⟩, HZ⟩
 have hltz : ¬ (kk : Int) < (l0.length : Int) := by omega
 have HZ := Aside0.mk (idxO_end p l0 kk (by omega) H.out)
 clear H
 go_wp2
 go_ret
 exact ⟨(by rw [← HZ.out]; rfl), BW.out⟩
set_option maxHeartbeats 4000000 in
set_option maxRecDepth 100000 in
theorem conf_200 (g : Nat) (lb : Array Value) (p : Int → Option Bool) (A0 : Option Addr) (c0 : Nat) (l0 : List (Int)) (r : Bool) (w : World) (hr0 : Kd.C (Kd.int .i64) w A0 l0.length l0)
 (eg : ∀ args w, (callFunc g args).run Tryd.prog w = .ok (.enter g args) w)
 (hp : ∀ W x b, x ∈ l0 → p x = some b → Below w.heap.size w W → Calls Tryd.prog g (#[.int .i64 x] ++ lb) W fun e w' => e = .returned (.bool b) ∧ Below w.heap.size w w') (h : anyO p l0 = some r) :
 Calls Tryd.prog 200 #[.slice A0 l0.length c0, .func (.func g) #[] lb] w fun e w' => e = .returned (.bool r) ∧ Below w.heap.size w w' := by
 obtain ⟨i, hi, rfl⟩ := idxO_any p l0 r h
 have hcall := idxf_229 g lb p A0 c0 l0 i w hr0 eg hp hi
 clear hp hr0 h hi
 go_enter Tryd.func200, Tryd.ntmps200
 go_wp2_with (go_at_call 229; refine hcall.mono ?_; rintro e w' ⟨rfl, hb'⟩)
 go_ret
 exact ⟨rfl, hb'⟩
def within_ (n a b : Int) : Bool := decide (a ≤ n) && decide (n ≤ b)
theorem within_f (n a b : Int) : impl_within.f n a b = some (within_ n a b) := by
 unfold impl_within.f within_
 by_cases h : n ≥ a
 · rw [if_pos h]; simp [show a ≤ n from h]
 · rw [if_neg h]; simp [show ¬ a ≤ n from h]
theorem allWithin_cl (b1 b2 : Nat) (a1 a2 : Int) (x : Int) (w W : World) (hb : Below w.heap.size w W) (hl1 : b1 < w.heap.size) (hl2 : b2 < w.heap.size)
 (h1 : w.cell? ⟨b1, 0, none⟩ = some (.int .i64 a1)) (h2 : w.cell? ⟨b2, 0, none⟩ = some (.int .i64 a2)) :
 Calls Tryd.prog 201 #[.int .i64 x, .pointer (some ⟨b1, 0, none⟩), .pointer (some ⟨b2, 0, none⟩)] W fun e w' => e = .returned (.bool (!within_ x a1 a2)) ∧ Below w.heap.size w w' := by
 have h1' := (hb.cell (p := ⟨b1, 0, none⟩) hl1).trans h1
 have h2' := (hb.cell (p := ⟨b2, 0, none⟩) hl2).trans h2
 clear h1 h2 hl1 hl2
 have HB := Aside0.mk hb
 clear hb
 go_enter Tryd.func201, Tryd.ntmps201
 go_wp2_with (go_at_call 115; refine (impl_within.calls x a1 a2 _ _ (within_f x a1 a2)).mono ?_; rintro e w' ⟨rfl, ⟨nd, rfl⟩⟩)
 go_ret
 exact ⟨rfl, by repeat (first | exact HB.out | apply qbn | apply qb1)⟩
def impl_allWithin.f (l0 : List Int) (a1 : Int) (a2 : Int) : Option (Bool) := some (l0.all fun n => within_ n a1 a2)
set_option maxHeartbeats 8000000 in
set_option maxRecDepth 100000 in
theorem impl_allWithin.calls (A0 : Option Addr) (c0 : Nat) (l0 : List Int) (a1 : Int) (a2 : Int) (r : Bool) (w : World) (hr0 : Kd.C (Kd.int .i64) w A0 l0.length l0) (hc0 : l0.length ≤ c0) (h : impl_allWithin.f l0 a1 a2 = some r) :
 Calls Tryd.prog 160 #[.slice A0 l0.length c0, .int .i64 a1, .int .i64 a2] w fun e w' => e = .returned (.bool r) ∧ Below w.heap.size w w' := by
 obtain rfl := Option.some.inj h
 have eg : ∀ args w, (callFunc 201 args).run Tryd.prog w = .ok (.enter 201 args) w := enters_of Tryd.func201 (by kernel_rfl) rfl
 have hcall := conf_200 201 #[.pointer (some ⟨w.heap.size, 0, none⟩), .pointer (some ⟨w.heap.size + 1, 0, none⟩)] (fun x => some (!within_ x a1 a2)) A0 c0 l0 _ ((w.alloc (.cells #[.int .i64 a1] 2)).alloc (.cells #[.int .i64 a2] 2)) (Kd.C_below (Kd.C_below hr0 ((Below.refl _ w).alloc (Nat.le_refl _) _)) ((Below.refl _ _).alloc (Nat.le_refl _) _)) eg
  (fun W x b hx hb hW => by
   obtain rfl := Option.some.inj hb
   exact allWithin_cl w.heap.size (w.heap.size + 1) a1 a2 x _ W hW (by simp; omega) (by simp) (by rw [World.cell?_alloc_past _ _ _ (by simp), World.cell?_alloc_at _ _ _ _ rfl]; rfl) (by rw [World.cell?_alloc_at _ _ _ _ (by simp)]; rfl)) (anyO_some _ l0)
 rw [show (l0.all fun n => within_ n a1 a2) = !(l0.any fun x => !within_ x a1 a2) from by simp [List.all_eq_not_any_not]]
 generalize (l0.any fun x => !within_ x a1 a2) = bb at hcall ⊢
 clear hr0 eg
 have hmf : ∀ (fn : Fn) (first cap : Array Value) (w : World), (Instr.makeFunc fn first cap).run Tryd.prog w = .ok (.func fn first cap) w := fun _ _ _ _ => rfl
 go_enter Tryd.func160, Tryd.ntmps160
 go_wp2_with (go_at_call 200; refine hcall.mono ?_; rintro e w' ⟨rfl, hb'⟩)
 go_ret
 exact ⟨rfl, (((Below.refl _ w).alloc (Nat.le_refl _) _).alloc (by simp) _).trans (hb'.mono (by simp; omega))⟩

/-! ### impl_tuningCode: function 124 -/
def impl_tuningCode.f (k : Nat) (a0_0 : ByteArray) (l0_1 : List (S52)) (a1 : Int) (l2 : List Int) : Option (Int) := (impl_ValidTuning.f k a0_0 l0_1).bind fun t319 => (if t319 = true then ((impl_within.f a1 10000 2000000).bind fun t320 => (if t320 = true then ((impl_allWithin.f l2 (-12) 23).bind fun t321 => (if t321 = true then (some 0) else (some 2))) else (some 2))) else (some 1))
theorem impl_tuningCode.mono : ∀ a0 a1 a2 a3 k, LeO (impl_tuningCode.f k a0 a1 a2 a3) (impl_tuningCode.f (k + 1) a0 a1 a2 a3) := by
 intro a0 a1 a2 a3 k
 unfold impl_tuningCode.f
 repeat' first
  | (with_reducible exact impl_ValidTuning.mono _ _ _)
  | (with_reducible exact LeO.refl _)
  | (with_reducible exact LeO.none _)
  | (with_reducible refine LeO.ite ?_ ?_)
  | (with_reducible refine LeO.bind ?_ (fun _ => ?_))
  | exact impl_ValidTuning.mono _ _ _
  | exact LeO.none _
  | refine LeO.ite ?_ ?_
  | refine LeO.bind ?_ (fun _ => ?_)
set_option maxHeartbeats 8000000 in
set_option maxRecDepth 100000 in
theorem impl_tuningCode.calls (k : Nat) (a0_0 : ByteArray) (A0_1 : Option Addr) (c0_1 : Nat) (l0_1 : List (S52)) (a1 : Int) (A2 : Option Addr) (c2 : Nat) (l2 : List Int) (r : Int) (w : World) (hr0_1 : Kd.C k52 w A0_1 l0_1.length l0_1) (hc0_1 : l0_1.length ≤ c0_1) (hr2 : Kd.C (Kd.int .i64) w A2 l2.length l2) (hc2 : l2.length ≤ c2) (h : impl_tuningCode.f k a0_0 l0_1 a1 l2 = some r) :
 Calls Tryd.prog 124 #[.agg #[.string a0_0, .slice A0_1 l0_1.length c0_1], .int .i64 a1, .slice A2 l2.length c2] w fun e w' => e = .returned (.int .i64 r) ∧ Below w.heap.size w w' := by
 have hu71 := Tryd.underlying71
 have HR0_1 := Aside0.mk hr0_1
 have HC0_1 := Aside0.mk hc0_1
 clear hr0_1 hc0_1
 have HR2 := Aside0.mk hr2
 have HC2 := Aside0.mk hc2
 clear hr2 hc2
 have HB := Aside0.mk (Below.refl w.heap.size w)
 have H : ((impl_ValidTuning.f k a0_0 l0_1).bind fun t319 => (if t319 = true then ((impl_within.f a1 10000 2000000).bind fun t320 => (if t320 = true then ((impl_allWithin.f l2 (-12) 23).bind fun t321 => (if t321 = true then (some 0) else (some 2))) else (some 2))) else (some 1))) = some r := h
 clear h
 replace H := Option.bind_eq_some_iff.mp H
 obtain ⟨t319, A40, H⟩ := H
 replace H : (if t319 = true then ((impl_within.f a1 10000 2000000).bind fun t320 => (if t320 = true then ((impl_allWithin.f l2 (-12) 23).bind fun t321 => (if t321 = true then (some 0) else (some 2))) else (some 2))) else (some 1)) = some r := H
 have A4 := Aside0.mk A40
 clear A40
 by_cases c5 : t319 = true
 · subst c5
   have H1 : ((impl_within.f a1 10000 2000000).bind fun t320 => (if t320 = true then ((impl_allWithin.f l2 (-12) 23).bind fun t321 => (if t321 = true then (some 0) else (some 2))) else (some 2))) = some r := by rw [if_pos rfl] at H; exact H
   clear H
   have H := H1
   clear H1
   replace H := Option.bind_eq_some_iff.mp H
   obtain ⟨t320, A60, H⟩ := H
   replace H : (if t320 = true then ((impl_allWithin.f l2 (-12) 23).bind fun t321 => (if t321 = true then (some 0) else (some 2))) else (some 2)) = some r := H
   have A6 := Aside0.mk A60
   clear A60
   by_cases c7 : t320 = true
   · subst c7
     have H1 : ((impl_allWithin.f l2 (-12) 23).bind fun t321 => (if t321 = true then (some 0) else (some 2))) = some r := by rw [if_pos rfl] at H; exact H
     clear H
     have H := H1
     clear H1
     replace H := Option.bind_eq_some_iff.mp H
     obtain ⟨t321, A80, H⟩ := H
     replace H : (if t321 = true then (some 0) else (some 2)) = some r := H
     have A8 := Aside0.mk A80
     clear A80
     by_cases c9 : t321 = true
     · subst c9
       have H1 : (some 0) = some r := by rw [if_pos rfl] at H; exact H
       clear H
       have H := H1
       clear H1
       obtain rfl := Option.some.inj H
       go_enter Tryd.func124, Tryd.ntmps124
       go_wp2_with (first | ((with_reducible refine gate_dst (N := 3) rfl ?_); refine box_event ?hg (N := 3) ?hd (cs := #[.string a0_0, .slice A0_1 l0_1.length c0_1]) (t := 71) ?hr ?_; (case hd => rfl); (case hg => rfl); (case hr => first | (go_simp; done) | (go_simp; rfl)); intro gb318 hg w10 hbox hb; have BK318 := Aside0.mk (hbox); have GW318 := Aside0.mk ((by rw [hg]; exact (below_size (tH HB)) : w.heap.size ≤ gb318)); have GE318 := Aside0.mk ((by rw [hg]; exact (below_size (tH HB)) : w.heap.size ≤ gb318)); replace HB := Aside0.mk (below_step (tH HB) hb); clear hb hbox hg; have hcz11_0 : w10.cell? ⟨gb318, 0, none⟩ = some (.string a0_0) := (blk_cell BK318.out 0).trans rfl; have hcz11_1 : w10.cell? ⟨gb318, 1, none⟩ = some (.slice A0_1 l0_1.length c0_1) := (blk_cell BK318.out 1).trans rfl; have hfz11_0 := blk_frozen BK318.out 0; have hfz11_1 := blk_frozen BK318.out 1) | ((with_reducible refine gate_callee (f := 126) rfl ?_); refine gL_ (some 9) rfl rfl Tryd.func126 #[.agg #[.string a0_0, .slice A0_1 l0_1.length c0_1]] rfl ?_; (with_reducible refine (impl_ValidTuning.calls k a0_0 _ _ l0_1 true _ ?side1 ?side2 A4.out).mono ?_); (case side1 => exact tC (Kd.C_below HR0_1.out HB.out)); (case side2 => exact HC0_1.out); rintro e w12 ⟨rfl, hb⟩; refine ⟨_, rfl, ?_⟩; replace BK318 := tbB BK318 hb; replace HB := Aside0.mk (below_step (tH1 HB GE318.out) hb); (try clear hb); (try clear hb2); (try clear hk); (try clear hi)) | ((with_reducible refine gate_callee (f := 115) rfl ?_); refine gL_ (some 13) rfl rfl Tryd.func115 #[.int .i64 a1, .int .i64 10000, .int .i64 2000000] rfl ?_; (with_reducible refine (impl_within.calls a1 10000 2000000 true _ A6.out).mono ?_); rintro e w' ⟨rfl, ⟨nd, rfl⟩⟩; refine ⟨_, rfl, ?_⟩) | (go_at_call 160; (with_reducible refine (impl_allWithin.calls _ _ l2 (-12) 23 true _ ?side1 ?side2 A8.out).mono ?_); (case side1 => exact Kd.C_below HR2.out (tH1 HB GE318.out)); (case side2 => exact HC2.out); rintro e w13 ⟨rfl, hb⟩; replace BK318 := tbB BK318 hb; replace HB := Aside0.mk (below_step (tH1 HB GE318.out) hb); (try clear hb); (try clear hb2); (try clear hk); (try clear hi)))
       go_ret
       exact ⟨tE, tH1 HB GE318.out⟩
     replace c9 := Bool.eq_false_iff.mpr c9
     subst c9
     have H1 : (some 2) = some r := by rw [if_neg (show ¬ (false = true) by decide)] at H; exact H
     clear H
     have H := H1
     clear H1
     obtain rfl := Option.some.inj H
     go_enter Tryd.func124, Tryd.ntmps124
     go_wp2_with (first | ((with_reducible refine gate_dst (N := 3) rfl ?_); refine box_event ?hg (N := 3) ?hd (cs := #[.string a0_0, .slice A0_1 l0_1.length c0_1]) (t := 71) ?hr ?_; (case hd => rfl); (case hg => rfl); (case hr => first | (go_simp; done) | (go_simp; rfl)); intro gb318 hg w14 hbox hb; have BK318 := Aside0.mk (hbox); have GW318 := Aside0.mk ((by rw [hg]; exact (below_size (tH HB)) : w.heap.size ≤ gb318)); have GE318 := Aside0.mk ((by rw [hg]; exact (below_size (tH HB)) : w.heap.size ≤ gb318)); replace HB := Aside0.mk (below_step (tH HB) hb); clear hb hbox hg; have hcz15_0 : w14.cell? ⟨gb318, 0, none⟩ = some (.string a0_0) := (blk_cell BK318.out 0).trans rfl; have hcz15_1 : w14.cell? ⟨gb318, 1, none⟩ = some (.slice A0_1 l0_1.length c0_1) := (blk_cell BK318.out 1).trans rfl; have hfz15_0 := blk_frozen BK318.out 0; have hfz15_1 := blk_frozen BK318.out 1) | ((with_reducible refine gate_callee (f := 126) rfl ?_); refine gL_ (some 9) rfl rfl Tryd.func126 #[.agg #[.string a0_0, .slice A0_1 l0_1.length c0_1]] rfl ?_; (with_reducible refine (impl_ValidTuning.calls k a0_0 _ _ l0_1 true _ ?side1 ?side2 A4.out).mono ?_); (case side1 => exact tC (Kd.C_below HR0_1.out HB.out)); (case side2 => exact HC0_1.out); rintro e w16 ⟨rfl, hb⟩; refine ⟨_, rfl, ?_⟩; replace BK318 := tbB BK318 hb; replace HB := Aside0.mk (below_step (tH1 HB GE318.out) hb); (try clear hb); (try clear hb2); (try clear hk); (try clear hi)) | ((with_reducible refine gate_callee (f := 115) rfl ?_); refine gL_ (some 13) rfl rfl Tryd.func115 #[.int .i64 a1, .int .i64 10000, .int .i64 2000000] rfl ?_; (with_reducible refine (impl_within.calls a1 10000 2000000 true _ A6.out).mono ?_); rintro e w' ⟨rfl, ⟨nd, rfl⟩⟩; refine ⟨_, rfl, ?_⟩) | (go_at_call 160; (with_reducible refine (impl_allWithin.calls _ _ l2 (-12) 23 false _ ?side1 ?side2 A8.out).mono ?_); (case side1 => exact Kd.C_below HR2.out (tH1 HB GE318.out)); (case side2 => exact HC2.out); rintro e w17 ⟨rfl, hb⟩; replace BK318 := tbB BK318 hb; replace HB := Aside0.mk (below_step (tH1 HB GE318.out) hb); (try clear hb); (try clear hb2); (try clear hk); (try clear hi)))
     go_ret
     exact ⟨tE, tH1 HB GE318.out⟩
   replace c7 := Bool.eq_false_iff.mpr c7
   subst c7
   have H1 : (some 2) = some r := by rw [if_neg (show ¬ (false = true) by decide)] at H; exact H
   clear H
   have H := H1
   clear H1
   obtain rfl := Option.some.inj H
   go_enter Tryd.func124, Tryd.ntmps124
   go_wp2_with (first | ((with_reducible refine gate_dst (N := 3) rfl ?_); refine box_event ?hg (N := 3) ?hd (cs := #[.string a0_0, .slice A0_1 l0_1.length c0_1]) (t := 71) ?hr ?_; (case hd => rfl); (case hg => rfl); (case hr => first | (go_simp; done) | (go_simp; rfl)); intro gb318 hg w18 hbox hb; have BK318 := Aside0.mk (hbox); have GW318 := Aside0.mk ((by rw [hg]; exact (below_size (tH HB)) : w.heap.size ≤ gb318)); have GE318 := Aside0.mk ((by rw [hg]; exact (below_size (tH HB)) : w.heap.size ≤ gb318)); replace HB := Aside0.mk (below_step (tH HB) hb); clear hb hbox hg; have hcz19_0 : w18.cell? ⟨gb318, 0, none⟩ = some (.string a0_0) := (blk_cell BK318.out 0).trans rfl; have hcz19_1 : w18.cell? ⟨gb318, 1, none⟩ = some (.slice A0_1 l0_1.length c0_1) := (blk_cell BK318.out 1).trans rfl; have hfz19_0 := blk_frozen BK318.out 0; have hfz19_1 := blk_frozen BK318.out 1) | ((with_reducible refine gate_callee (f := 126) rfl ?_); refine gL_ (some 9) rfl rfl Tryd.func126 #[.agg #[.string a0_0, .slice A0_1 l0_1.length c0_1]] rfl ?_; (with_reducible refine (impl_ValidTuning.calls k a0_0 _ _ l0_1 true _ ?side1 ?side2 A4.out).mono ?_); (case side1 => exact tC (Kd.C_below HR0_1.out HB.out)); (case side2 => exact HC0_1.out); rintro e w20 ⟨rfl, hb⟩; refine ⟨_, rfl, ?_⟩; replace BK318 := tbB BK318 hb; replace HB := Aside0.mk (below_step (tH1 HB GE318.out) hb); (try clear hb); (try clear hb2); (try clear hk); (try clear hi)) | ((with_reducible refine gate_callee (f := 115) rfl ?_); refine gL_ (some 13) rfl rfl Tryd.func115 #[.int .i64 a1, .int .i64 10000, .int .i64 2000000] rfl ?_; (with_reducible refine (impl_within.calls a1 10000 2000000 false _ A6.out).mono ?_); rintro e w' ⟨rfl, ⟨nd, rfl⟩⟩; refine ⟨_, rfl, ?_⟩))
   go_ret
   exact ⟨tE, tH1 HB GE318.out⟩
 replace c5 := Bool.eq_false_iff.mpr c5
 subst c5
 have H1 : (some 1) = some r := by rw [if_neg (show ¬ (false = true) by decide)] at H; exact H
 clear H
 have H := H1
 clear H1
 obtain rfl := Option.some.inj H
 go_enter Tryd.func124, Tryd.ntmps124
 go_wp2_with (first | ((with_reducible refine gate_dst (N := 3) rfl ?_); refine box_event ?hg (N := 3) ?hd (cs := #[.string a0_0, .slice A0_1 l0_1.length c0_1]) (t := 71) ?hr ?_; (case hd => rfl); (case hg => rfl); (case hr => first | (go_simp; done) | (go_simp; rfl)); intro gb318 hg w21 hbox hb; have BK318 := Aside0.mk (hbox); have GW318 := Aside0.mk ((by rw [hg]; exact (below_size (tH HB)) : w.heap.size ≤ gb318)); have GE318 := Aside0.mk ((by rw [hg]; exact (below_size (tH HB)) : w.heap.size ≤ gb318)); replace HB := Aside0.mk (below_step (tH HB) hb); clear hb hbox hg; have hcz22_0 : w21.cell? ⟨gb318, 0, none⟩ = some (.string a0_0) := (blk_cell BK318.out 0).trans rfl; have hcz22_1 : w21.cell? ⟨gb318, 1, none⟩ = some (.slice A0_1 l0_1.length c0_1) := (blk_cell BK318.out 1).trans rfl; have hfz22_0 := blk_frozen BK318.out 0; have hfz22_1 := blk_frozen BK318.out 1) | ((with_reducible refine gate_callee (f := 126) rfl ?_); refine gL_ (some 9) rfl rfl Tryd.func126 #[.agg #[.string a0_0, .slice A0_1 l0_1.length c0_1]] rfl ?_; (with_reducible refine (impl_ValidTuning.calls k a0_0 _ _ l0_1 false _ ?side1 ?side2 A4.out).mono ?_); (case side1 => exact tC (Kd.C_below HR0_1.out HB.out)); (case side2 => exact HC0_1.out); rintro e w23 ⟨rfl, hb⟩; refine ⟨_, rfl, ?_⟩; replace BK318 := tbB BK318 hb; replace HB := Aside0.mk (below_step (tH1 HB GE318.out) hb); (try clear hb); (try clear hb2); (try clear hk); (try clear hi)))
 go_ret
 exact ⟨tE, tH1 HB GE318.out⟩

end Go.Proofs.YtmeflmlejcmckaaDoor.PB
