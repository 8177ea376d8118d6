-- WRITTEN BY wip/gprint.py, a program of this session's over the kit's print, with contracts given by hand
import Derived.Test.YtdaggmnmifnabaaPXx0
import Derived.Test.YtdaggmnmifnabaaPXx6
import Derived.Test.YtdaggmnmifnabaaPXx8
namespace Go.Proofs.Ytdaggmnmifnabaa.PX
open Go.RowKit Go.Proofs.YtdaggmnmifnabaaW.PrintWords Go.Proofs.YtdaggmnmifnabaaW.PrintLast Go.Proofs.YtdaggmnmifnabaaW.PrintMore
attribute [local go_sem] max2_int min2_int max_two min_two max_three min_three max_four min_four   -- for this text's walks alone
set_option linter.unusedVariables false
set_option linter.unusedSimpArgs false

/-! ### impl_allWithin: function 28 (a contract given by hand) -/
def idxO {α : Type} (p : α → Option Bool) : List α → Int → Option Int
 | [], _ => some (-1)
 | x :: xs, i => (p x).bind fun b => if b = true then some i else idxO p xs (i + 1)
def anyO {α : Type} (p : α → Option Bool) : List α → Option Bool
 | [] => some false
 | x :: xs => (p x).bind fun b => if b = true then some true else anyO p xs
theorem idxO_at {α : Type} (p : α → Option Bool) (l : List α) (k : Nat) (hk : k < l.length) {r : Int} (h : idxO p (l.drop k) k = some r) :
 ((p l[k]).bind fun b => if b = true then some (k : Int) else idxO p (l.drop (k + 1)) ((k + 1 : Nat) : Int)) = some r := by
 rw [List.drop_eq_getElem_cons hk] at h
 exact h
theorem idxO_end {α : Type} (p : α → Option Bool) (l : List α) (k : Nat) (hk : l.length ≤ k) {r : Int} (h : idxO p (l.drop k) k = some r) : (-1 : Int) = r := by
 rw [List.drop_eq_nil_of_le hk] at h
 exact Option.some.inj h
theorem idxO_any' {α : Type} (p : α → Option Bool) : ∀ (l : List α) (j : Nat) (r : Bool), anyO p l = some r → ∃ i : Int, idxO p l j = some i ∧ decide (0 ≤ i) = r
 | [], _, r, h => ⟨-1, rfl, by simp [anyO] at h; subst h; rfl⟩
 | x :: xs, j, r, h => by
  simp only [anyO] at h
  obtain ⟨b, hb, h⟩ := Option.bind_eq_some_iff.mp h
  cases b with
  | true => exact ⟨j, by simp [idxO, hb], by simp at h; subst h; simp⟩
  | false =>
   obtain ⟨i, h1, h2⟩ := idxO_any' p xs (j + 1) r (by simpa using h)
   exact ⟨i, by simp only [idxO, hb, Option.bind_some]; rw [if_neg (by decide)]; exact h1, h2⟩
theorem idxO_any {α : Type} (p : α → Option Bool) (l : List α) (r : Bool) (h : anyO p l = some r) : ∃ i : Int, idxO p l 0 = some i ∧ decide (0 ≤ i) = r := idxO_any' p l 0 r h
theorem rdm_at {α : Type} (l : List α) (d : α) (k : Nat) (h : k < l.length) : l[k] = l.getD ((k : Int)).toNat d := by
 simp [List.getD_eq_getElem?_getD, List.getElem?_eq_getElem h]
theorem rdm_mem {α : Type} (l : List α) (d : α) (k : Nat) (h : k < l.length) : l.getD ((k : Int)).toNat d ∈ l := by
 rw [← rdm_at l d k h]; exact List.getElem_mem h
theorem anyO_some {α : Type} (p : α → Bool) : ∀ l : List α, anyO (fun x => some (p x)) l = some (l.any p)
 | [] => rfl
 | x :: xs => by simp only [anyO, Option.bind_some, List.any_cons]; cases p x <;> simp [anyO_some p xs]
theorem anyO_mono {α : Type} {p q : α → Option Bool} (h : ∀ x, LeO (p x) (q x)) : ∀ l : List α, LeO (anyO p l) (anyO q l)
 | [] => LeO.refl _
 | x :: xs => LeO.bind (h x) (fun b => LeO.ite (LeO.refl _) (anyO_mono h xs))
theorem idxO_mono {α : Type} {p q : α → Option Bool} (h : ∀ x, LeO (p x) (q x)) : ∀ (l : List α) (i : Int), LeO (idxO p l i) (idxO q l i)
 | [], _ => LeO.refl _
 | x :: xs, i => LeO.bind (h x) (fun b => LeO.ite (LeO.refl _) (idxO_mono h xs (i + 1)))
set_option maxHeartbeats 4000000 in
set_option maxRecDepth 100000 in
theorem idxf_41 (g : Nat) (lb : Array Value) (p : Int → Option Bool) (A0 : Option Addr) (c0 : Nat) (l0 : List (Int)) (r : Int) (w : World) (hr0 : Kd.C (Kd.int .i64) w A0 l0.length l0)
 (eg : ∀ args w, (callFunc g args).run Try.prog w = .ok (.enter g args) w)
 (hp : ∀ W x b, x ∈ l0 → p x = some b → Below w.heap.size w W → Calls Try.prog g (#[.int .i64 x] ++ lb) W fun e w' => e = .returned (.bool b) ∧ Below w.heap.size w w') (h : idxO p l0 0 = some r) :
 Calls Try.prog 41 #[.slice A0 l0.length c0, .func (.func g) #[] lb] w fun e w' => e = .returned (.int .i64 r) ∧ Below w.heap.size w w' := by
 have hbig := hr0.2.1
 have HR0 := Aside0.mk hr0
 clear hr0
 have h' := Aside0.mk h
 clear h
 go_enter Try.func41, Try.ntmps41
 go_wp2
 go_loopg [5, 8] l0.length (fun gg _ s8 wr => ∃ kk : Nat, kk ≤ l0.length ∧ l0.length - kk ≤ gg ∧ s8 = .int .i64 kk ∧ Aside0 (Below w.heap.size w wr) ∧ Aside0 (idxO p (l0.drop kk) kk = some r))
 case atStart => exact ⟨0, Nat.zero_le _, by omega, rfl, ⟨Below.refl _ w⟩, h'⟩
 case round =>
 obtain ⟨kk, hkk, hg, rfl, BW, H⟩ := hrel
 clear h'
 by_cases hlt : kk < l0.length
 · have hltz : (kk : Int) < (l0.length : Int) := by omega
   have l1 := Kd.at_int HR0.out (kk : Int) (by omega) hltz
   have hmem : rd l0 kk ∈ l0 := rdm_mem l0 _ kk hlt
   obtain ⟨ad, rfl, l2_0⟩ := l1
   replace l2_0 := tW BW l2_0
   have H2 := idxO_at p l0 kk hlt H.out
   have hdef : l0[kk] = rd l0 kk := rdm_at l0 _ kk hlt
   rw [hdef] at H2
   clear H hdef
   obtain ⟨b, hb, H2⟩ := Option.bind_eq_some_iff.mp H2
   have hcall := hp wr (rd l0 kk) b hmem hb BW.out
   clear hp hmem hb
   try simp only [Int.toNat_natCast] at l2_0
   cases b with
   | true =>
    have HZ := Aside0.mk (Option.some.inj ((if_pos rfl).symm.trans H2))
    clear H2
    go_wp2_with (go_at_fn g; refine hcall.mono ?_; rintro e w' ⟨rfl, hb'⟩)
    go_ret
    exact ⟨(by rw [← HZ.out]; rfl), hb'⟩
   | false =>
   have HZ := Aside0.mk ((if_neg (by decide)).symm.trans H2)
   clear H2
   go_wp2_with (go_at_fn g; refine hcall.mono ?_; rintro e w' ⟨rfl, hb'⟩)
   go_roundg (l0.length - (kk + 1))
   case measure => omega
   case rel => exact ⟨kk + 1, by omega, by omega, by go_num, ⟨hb'⟩, HZ⟩
 have hltz : ¬ (kk : Int) < (l0.length : Int) := by omega
 have HZ := Aside0.mk (idxO_end p l0 kk (by omega) H.out)
 clear H
 go_wp2
 go_ret
 exact ⟨(by rw [← HZ.out]; rfl), BW.out⟩
set_option maxHeartbeats 4000000 in
set_option maxRecDepth 100000 in
theorem conf_34 (g : Nat) (lb : Array Value) (p : Int → Option Bool) (A0 : Option Addr) (c0 : Nat) (l0 : List (Int)) (r : Bool) (w : World) (hr0 : Kd.C (Kd.int .i64) w A0 l0.length l0)
 (eg : ∀ args w, (callFunc g args).run Try.prog w = .ok (.enter g args) w)
 (hp : ∀ W x b, x ∈ l0 → p x = some b → Below w.heap.size w W → Calls Try.prog g (#[.int .i64 x] ++ lb) W fun e w' => e = .returned (.bool b) ∧ Below w.heap.size w w') (h : anyO p l0 = some r) :
 Calls Try.prog 34 #[.slice A0 l0.length c0, .func (.func g) #[] lb] w fun e w' => e = .returned (.bool r) ∧ Below w.heap.size w w' := by
 obtain ⟨i, hi, rfl⟩ := idxO_any p l0 r h
 have hcall := idxf_41 g lb p A0 c0 l0 i w hr0 eg hp hi
 clear hp hr0 h hi
 go_enter Try.func34, Try.ntmps34
 go_wp2_with (go_at_call 41; refine hcall.mono ?_; rintro e w' ⟨rfl, hb'⟩)
 go_ret
 exact ⟨rfl, hb'⟩
def within_ (n a b : Int) : Bool := decide (a ≤ n) && decide (n ≤ b)
theorem within_f (n a b : Int) : impl_within.f n a b = some (within_ n a b) := by
 unfold impl_within.f within_
 by_cases h : n ≥ a
 · rw [if_pos h]; simp [show a ≤ n from h]
 · rw [if_neg h]; simp [show ¬ a ≤ n from h]
theorem allWithin_cl (b1 b2 : Nat) (a1 a2 : Int) (x : Int) (w W : World) (hb : Below w.heap.size w W) (hl1 : b1 < w.heap.size) (hl2 : b2 < w.heap.size)
 (h1 : w.cell? ⟨b1, 0, none⟩ = some (.int .i64 a1)) (h2 : w.cell? ⟨b2, 0, none⟩ = some (.int .i64 a2)) :
 Calls Try.prog 35 #[.int .i64 x, .pointer (some ⟨b1, 0, none⟩), .pointer (some ⟨b2, 0, none⟩)] W fun e w' => e = .returned (.bool (!within_ x a1 a2)) ∧ Below w.heap.size w w' := by
 have h1' := (hb.cell (p := ⟨b1, 0, none⟩) hl1).trans h1
 have h2' := (hb.cell (p := ⟨b2, 0, none⟩) hl2).trans h2
 clear h1 h2 hl1 hl2
 have HB := Aside0.mk hb
 clear hb
 go_enter Try.func35, Try.ntmps35
 go_wp2_with (go_at_call 33; refine (impl_within.calls x a1 a2 _ _ (within_f x a1 a2)).mono ?_; rintro e w' ⟨rfl, ⟨nd, rfl⟩⟩)
 go_ret
 exact ⟨rfl, by repeat (first | exact HB.out | apply qbn | apply qb1)⟩
def impl_allWithin.f (l0 : List Int) (a1 : Int) (a2 : Int) : Option (Bool) := some (l0.all fun n => within_ n a1 a2)
set_option maxHeartbeats 8000000 in
set_option maxRecDepth 100000 in
theorem impl_allWithin.calls (A0 : Option Addr) (c0 : Nat) (l0 : List Int) (a1 : Int) (a2 : Int) (r : Bool) (w : World) (hr0 : Kd.C (Kd.int .i64) w A0 l0.length l0) (hc0 : l0.length ≤ c0) (h : impl_allWithin.f l0 a1 a2 = some r) :
 Calls Try.prog 28 #[.slice A0 l0.length c0, .int .i64 a1, .int .i64 a2] w fun e w' => e = .returned (.bool r) ∧ Below w.heap.size w w' := by
 obtain rfl := Option.some.inj h
 have eg : ∀ args w, (callFunc 35 args).run Try.prog w = .ok (.enter 35 args) w := enters_of Try.func35 (by kernel_rfl) rfl
 have hcall := conf_34 35 #[.pointer (some ⟨w.heap.size, 0, none⟩), .pointer (some ⟨w.heap.size + 1, 0, none⟩)] (fun x => some (!within_ x a1 a2)) A0 c0 l0 _ ((w.alloc (.cells #[.int .i64 a1] 2)).alloc (.cells #[.int .i64 a2] 2)) (Kd.C_below (Kd.C_below hr0 ((Below.refl _ w).alloc (Nat.le_refl _) _)) ((Below.refl _ _).alloc (Nat.le_refl _) _)) eg
  (fun W x b hx hb hW => by
   obtain rfl := Option.some.inj hb
   exact allWithin_cl w.heap.size (w.heap.size + 1) a1 a2 x _ W hW (by simp; omega) (by simp) (by rw [World.cell?_alloc_past _ _ _ (by simp), World.cell?_alloc_at _ _ _ _ rfl]; rfl) (by rw [World.cell?_alloc_at _ _ _ _ (by simp)]; rfl)) (anyO_some _ l0)
 rw [show (l0.all fun n => within_ n a1 a2) = !(l0.any fun x => !within_ x a1 a2) from by simp [List.all_eq_not_any_not]]
 generalize (l0.any fun x => !within_ x a1 a2) = bb at hcall ⊢
 clear hr0 eg
 have hmf : ∀ (fn : Fn) (first cap : Array Value) (w : World), (Instr.makeFunc fn first cap).run Try.prog w = .ok (.func fn first cap) w := fun _ _ _ _ => rfl
 go_enter Try.func28, Try.ntmps28
 go_wp2_with (go_at_call 34; refine hcall.mono ?_; rintro e w' ⟨rfl, hb'⟩)
 go_ret
 exact ⟨rfl, (((Below.refl _ w).alloc (Nat.le_refl _) _).alloc (by simp) _).trans (hb'.mono (by simp; omega))⟩

/-! ### impl_composedOk: function 21 -/
def impl_composedOk.f (l0 : List (S38)) (l1 : List Int) : Option (Bool) := if (l1.length : Int) ≤ 64 then ((impl_allWithin.f l1 0 (wrap64 ((l0.length : Int) - 1))).bind fun t150 => (some t150)) else (some false)
set_option maxHeartbeats 8000000 in
set_option maxRecDepth 100000 in
theorem impl_composedOk.calls (A0 : Option Addr) (c0 : Nat) (l0 : List (S38)) (A1 : Option Addr) (c1 : Nat) (l1 : List Int) (r : Bool) (w : World) (hr0 : Kd.C k38 w A0 l0.length l0) (hc0 : l0.length ≤ c0) (hr1 : Kd.C (Kd.int .i64) w A1 l1.length l1) (hc1 : l1.length ≤ c1) (h : impl_composedOk.f l0 l1 = some r) :
 Calls Try.prog 21 #[.slice A0 l0.length c0, .slice A1 l1.length c1] w fun e w' => e = .returned (.bool r) ∧ Below w.heap.size w w' := by
 have HR0 := Aside0.mk hr0
 have HC0 := Aside0.mk hc0
 clear hr0 hc0
 have HR1 := Aside0.mk hr1
 have HC1 := Aside0.mk hc1
 clear hr1 hc1
 have HB := Aside0.mk (Below.refl w.heap.size w)
 have H : (if (l1.length : Int) ≤ 64 then ((impl_allWithin.f l1 0 (wrap64 ((l0.length : Int) - 1))).bind fun t150 => (some t150)) else (some false)) = some r := h
 clear h
 by_cases c3 : (l1.length : Int) ≤ 64
 · rw [if_pos c3] at H
   have c3b0 : decide ((l1.length : Int) ≤ 64) = true := decide_eq_true c3
   have c3b1 : decide (l1.length ≤ 64) = true := decide_eq_true (by omega)
   clear c3
   replace H := Option.bind_eq_some_iff.mp H
   obtain ⟨t150, A40, H⟩ := H
   replace H : (some t150) = some r := H
   have A4 := Aside0.mk A40
   clear A40
   obtain rfl := Option.some.inj H
   go_enter Try.func21, Try.ntmps21
   go_wp2_with (first | (go_at_call 28; (with_reducible refine (impl_allWithin.calls _ _ l1 0 (wrap64 ((l0.length : Int) - 1)) t150 _ ?side1 ?side2 A4.out).mono ?_); (case side1 => exact tC HR1.out); (case side2 => exact HC1.out); rintro e w5 ⟨rfl, hb⟩; replace HB := Aside0.mk (below_step (tH HB) hb); (try clear hb); (try clear hb2); (try clear hk); (try clear hi)))
   go_ret
   exact ⟨tE, tH HB⟩
 rw [if_neg c3] at H
 have c3b0 : decide ((l1.length : Int) ≤ 64) = false := decide_eq_false c3
 have c3b1 : decide (l1.length ≤ 64) = false := decide_eq_false (by omega)
 clear c3
 obtain rfl := Option.some.inj H
 go_enter Try.func21, Try.ntmps21
 go_wp2
 go_ret
 exact ⟨tE, tH HB⟩

/-! ### impl_composedCode: function 15 -/
def impl_composedCode.f (k : Nat) (l0 : List (S38)) (l1 : List Int) : Option (Int) := (impl_ValidSyllables.f k l0).bind fun t151 => (if t151 = true then ((impl_composedOk.f l0 l1).bind fun t152 => (if t152 = true then (some 0) else (some 7))) else (some 1))
theorem impl_composedCode.mono : ∀ a0 a1 k, LeO (impl_composedCode.f k a0 a1) (impl_composedCode.f (k + 1) a0 a1) := by
 intro a0 a1 k
 unfold impl_composedCode.f
 repeat' first
  | (with_reducible exact impl_ValidSyllables.mono _ _)
  | (with_reducible exact LeO.refl _)
  | (with_reducible exact LeO.none _)
  | (with_reducible refine LeO.ite ?_ ?_)
  | (with_reducible refine LeO.bind ?_ (fun _ => ?_))
  | exact impl_ValidSyllables.mono _ _
  | exact LeO.none _
  | refine LeO.ite ?_ ?_
  | refine LeO.bind ?_ (fun _ => ?_)
set_option maxHeartbeats 8000000 in
set_option maxRecDepth 100000 in
theorem impl_composedCode.calls (k : Nat) (A0 : Option Addr) (c0 : Nat) (l0 : List (S38)) (A1 : Option Addr) (c1 : Nat) (l1 : List Int) (r : Int) (w : World) (hr0 : Kd.C k38 w A0 l0.length l0) (hc0 : l0.length ≤ c0) (hr1 : Kd.C (Kd.int .i64) w A1 l1.length l1) (hc1 : l1.length ≤ c1) (h : impl_composedCode.f k l0 l1 = some r) :
 Calls Try.prog 15 #[.slice A0 l0.length c0, .slice A1 l1.length c1] w fun e w' => e = .returned (.int .i64 r) ∧ Below w.heap.size w w' := by
 have HR0 := Aside0.mk hr0
 have HC0 := Aside0.mk hc0
 clear hr0 hc0
 have HR1 := Aside0.mk hr1
 have HC1 := Aside0.mk hc1
 clear hr1 hc1
 have HB := Aside0.mk (Below.refl w.heap.size w)
 have H : ((impl_ValidSyllables.f k l0).bind fun t151 => (if t151 = true then ((impl_composedOk.f l0 l1).bind fun t152 => (if t152 = true then (some 0) else (some 7))) else (some 1))) = some r := h
 clear h
 replace H := Option.bind_eq_some_iff.mp H
 obtain ⟨t151, A30, H⟩ := H
 replace H : (if t151 = true then ((impl_composedOk.f l0 l1).bind fun t152 => (if t152 = true then (some 0) else (some 7))) else (some 1)) = some r := H
 have A3 := Aside0.mk A30
 clear A30
 by_cases c4 : t151 = true
 · subst c4
   have H1 : ((impl_composedOk.f l0 l1).bind fun t152 => (if t152 = true then (some 0) else (some 7))) = some r := by rw [if_pos rfl] at H; exact H
   clear H
   have H := H1
   clear H1
   replace H := Option.bind_eq_some_iff.mp H
   obtain ⟨t152, A50, H⟩ := H
   replace H : (if t152 = true then (some 0) else (some 7)) = some r := H
   have A5 := Aside0.mk A50
   clear A50
   by_cases c6 : t152 = true
   · subst c6
     have H1 : (some 0) = some r := by rw [if_pos rfl] at H; exact H
     clear H
     have H := H1
     clear H1
     obtain rfl := Option.some.inj H
     go_enter Try.func15, Try.ntmps15
     go_wp2_with (first | ((with_reducible refine gate_callee (f := 20) rfl ?_); refine gL_ (some 7) rfl rfl Try.func20 #[.slice A0 l0.length c0] rfl ?_; (with_reducible refine (impl_ValidSyllables.calls k _ _ l0 true _ ?side1 ?side2 A3.out).mono ?_); (case side1 => exact tC HR0.out); (case side2 => exact HC0.out); rintro e w7 ⟨rfl, hb⟩; refine ⟨_, rfl, ?_⟩; replace HB := Aside0.mk (below_step (tH HB) hb); (try clear hb); (try clear hb2); (try clear hk); (try clear hi)) | ((with_reducible refine gate_callee (f := 21) rfl ?_); refine gL_ (some 12) rfl rfl Try.func21 #[.slice A0 l0.length c0, .slice A1 l1.length c1] rfl ?_; (with_reducible refine (impl_composedOk.calls _ _ l0 _ _ l1 true _ ?side1 ?side2 ?side3 ?side4 A5.out).mono ?_); (case side1 => exact tC (Kd.C_below HR0.out HB.out)); (case side2 => exact HC0.out); (case side3 => exact tC (Kd.C_below HR1.out HB.out)); (case side4 => exact HC1.out); rintro e w8 ⟨rfl, hb⟩; refine ⟨_, rfl, ?_⟩; replace HB := Aside0.mk (below_step (tH HB) hb); (try clear hb); (try clear hb2); (try clear hk); (try clear hi)))
     go_ret
     exact ⟨tE, tH HB⟩
   replace c6 := Bool.eq_false_iff.mpr c6
   subst c6
   have H1 : (some 7) = some r := by rw [if_neg (show ¬ (false = true) by decide)] at H; exact H
   clear H
   have H := H1
   clear H1
   obtain rfl := Option.some.inj H
   go_enter Try.func15, Try.ntmps15
   go_wp2_with (first | ((with_reducible refine gate_callee (f := 20) rfl ?_); refine gL_ (some 7) rfl rfl Try.func20 #[.slice A0 l0.length c0] rfl ?_; (with_reducible refine (impl_ValidSyllables.calls k _ _ l0 true _ ?side1 ?side2 A3.out).mono ?_); (case side1 => exact tC HR0.out); (case side2 => exact HC0.out); rintro e w9 ⟨rfl, hb⟩; refine ⟨_, rfl, ?_⟩; replace HB := Aside0.mk (below_step (tH HB) hb); (try clear hb); (try clear hb2); (try clear hk); (try clear hi)) | ((with_reducible refine gate_callee (f := 21) rfl ?_); refine gL_ (some 12) rfl rfl Try.func21 #[.slice A0 l0.length c0, .slice A1 l1.length c1] rfl ?_; (with_reducible refine (impl_composedOk.calls _ _ l0 _ _ l1 false _ ?side1 ?side2 ?side3 ?side4 A5.out).mono ?_); (case side1 => exact tC (Kd.C_below HR0.out HB.out)); (case side2 => exact HC0.out); (case side3 => exact tC (Kd.C_below HR1.out HB.out)); (case side4 => exact HC1.out); rintro e w10 ⟨rfl, hb⟩; refine ⟨_, rfl, ?_⟩; replace HB := Aside0.mk (below_step (tH HB) hb); (try clear hb); (try clear hb2); (try clear hk); (try clear hi)))
   go_ret
   exact ⟨tE, tH HB⟩
 replace c4 := Bool.eq_false_iff.mpr c4
 subst c4
 have H1 : (some 1) = some r := by rw [if_neg (show ¬ (false = true) by decide)] at H; exact H
 clear H
 have H := H1
 clear H1
 obtain rfl := Option.some.inj H
 go_enter Try.func15, Try.ntmps15
 go_wp2_with (first | ((with_reducible refine gate_callee (f := 20) rfl ?_); refine gL_ (some 7) rfl rfl Try.func20 #[.slice A0 l0.length c0] rfl ?_; (with_reducible refine (impl_ValidSyllables.calls k _ _ l0 false _ ?side1 ?side2 A3.out).mono ?_); (case side1 => exact tC HR0.out); (case side2 => exact HC0.out); rintro e w11 ⟨rfl, hb⟩; refine ⟨_, rfl, ?_⟩; replace HB := Aside0.mk (below_step (tH HB) hb); (try clear hb); (try clear hb2); (try clear hk); (try clear hi)))
 go_ret
 exact ⟨tE, tH HB⟩

/-! ### strings_Join: function 16 (a contract given by hand) -/
def lays156_ren : Go.Shelf.Ren := ⟨fun | 156 => 16 | 165 => 22 | 166 => 23 | 169 => 24 | 240 => 29 | 241 => 30 | 276 => 36 | 277 => 37 | n => n, fun | 31 => 40 | 9 => 9 | 3 => 3 | 4 => 4 | 0 => 0 | 20 => 20 | 72 => 48 | 76 => 52 | 70 => 45 | 37 => 46 | 75 => 51 | 127 => 60 | 164 => 64 | 5 => 5 | 80 => 54 | n => n, fun  | n => n⟩
theorem lays156 : Lays.n156 Try.prog lays156_ren := { mixed := by kernel_rfl, f156 := Try.func16.trans (congrArg some (by kernel_rfl)), f165 := Try.func22.trans (congrArg some (by kernel_rfl)), f166 := Try.func23.trans (congrArg some (by kernel_rfl)), f169 := Try.func24.trans (congrArg some (by kernel_rfl)), f240 := Try.func29.trans (congrArg some (by kernel_rfl)), f241 := Try.func30.trans (congrArg some (by kernel_rfl)), f276 := Try.func36.trans (congrArg some (by kernel_rfl)), f277 := Try.func37.trans (congrArg some (by kernel_rfl)), t0 := Try.underlying0, a0 := Try.isAgg0, z0 := Try.sizeOf0, v0 := Try.zeroValue0, t3 := Try.underlying3, a3 := Try.isAgg3, z3 := Try.sizeOf3, v3 := Try.zeroValue3, t4 := Try.underlying4, a4 := Try.isAgg4, z4 := Try.sizeOf4, v4 := Try.zeroValue4, t9 := Try.underlying9, a9 := Try.isAgg9, z9 := Try.sizeOf9, v9 := Try.zeroValue9, t20 := Try.underlying20, a20 := Try.isAgg20, z20 := Try.sizeOf20, v20 := Try.zeroValue20, t31 := Try.underlying40, a31 := Try.isAgg40, z31 := Try.sizeOf40, v31 := Try.zeroValue40, t37 := Try.underlying46, a37 := Try.isAgg46, z37 := Try.sizeOf46, v37 := Try.zeroValue46, t70 := Try.underlying45, a70 := Try.isAgg45, z70 := Try.sizeOf45, v70 := Try.zeroValue45, t72 := Try.underlying48, a72 := Try.isAgg48, z72 := Try.sizeOf48, v72 := Try.zeroValue48, t75 := Try.underlying51, a75 := Try.isAgg51, z75 := Try.sizeOf51, v75 := Try.zeroValue51, t76 := Try.underlying52, a76 := Try.isAgg52, z76 := Try.sizeOf52, v76 := Try.zeroValue52, t127 := Try.underlying60, a127 := Try.isAgg60, z127 := Try.sizeOf60, v127 := Try.zeroValue60, t164 := Try.underlying64, a164 := Try.isAgg64, z164 := Try.sizeOf64, v164 := Try.zeroValue64 }
theorem builderX156 : Builder.Extra Try.prog lays156_ren := { sizeBuilder := by kernel_rfl, liesBuilder := by kernel_rfl, t5 := Try.underlying5, a5 := Try.isAgg5, z5 := Try.sizeOf5, v5 := Try.zeroValue5, infoByte := by kernel_rfl, cellsByte := by kernel_rfl, sizeByte := by kernel_rfl, neB5 := by decide }
/-- Texts joined. -/
def joinT (l : List ByteArray) (sep : ByteArray) : ByteArray := ⟨(Go.Lib.join (l.map (·.data.toList)) sep.data.toList).toArray⟩
def strings_Join.f (l0 : List ByteArray) (a1 : ByteArray) : Option (ByteArray) := if l0.length ≤ 140737488355328 ∧ (Go.Lib.join (l0.map (·.data.toList)) a1.data.toList).length ≤ 140737488355328 then some (joinT l0 a1) else none
set_option maxHeartbeats 8000000 in
set_option maxRecDepth 100000 in
theorem strings_Join.calls (A0 : Option Addr) (c0 : Nat) (l0 : List ByteArray) (a1 : ByteArray) (r : ByteArray) (w : World) (hr0 : Kd.C Kd.string w A0 l0.length l0) (hc0 : l0.length ≤ c0) (h : strings_Join.f l0 a1 = some r) :
 Calls Try.prog 16 #[.slice A0 l0.length c0, .string a1] w fun e w' => e = .returned (.string r) ∧ Below w.heap.size w w' := by
 unfold strings_Join.f at h
 split at h
 · rename_i hlim
   injection h with h
   subst h
   cases hl : l0 with
   | nil =>
    have h0 := Any.strings_Join_none lays156 builderX156 A0 c0 a1 w
    exact h0.mono fun e w' ⟨he, hw⟩ => ⟨he, hw ▸ Below.refl _ _⟩
   | cons x t =>
   rw [← hl]
   have hp : (0 : Int) < (l0.length : Int) := by rw [hl]; simp
   obtain ⟨ad, e0, hx⟩ := Kd.at_string hr0 0 (by omega) (by omega)
   obtain ⟨bk, o, spot⟩ := ad
   have hs : spot = none := by
    cases spot with
    | none => rfl
    | some s =>
    rw [show (0 : Int).toNat = 0 from rfl, Addr.add_zero'] at hx
    unfold World.cell? at hx
    split at hx <;> simp at hx
   subst hs
   subst e0
   have hblk : bk < w.heap.size := by
    rw [show (0 : Int).toNat = 0 from rfl, Addr.add_zero'] at hx
    exact World.block_lt_of_cell? w _ hx
   refine Any.strings_Join lays156 builderX156 bk o c0 l0 a1 w (fun j x hj => ?_) hblk hlim.1 hc0 hlim.2
   have hjl : j < l0.length := (List.getElem?_eq_some_iff.1 hj).1
   obtain ⟨ad, e1, hy⟩ := Kd.at_string hr0 (j : Int) (by omega) (by omega)
   injection e1 with e1
   subst e1
   rw [Int.toNat_natCast] at hy
   have e2 : rdOf ByteArray.empty l0 (j : Int) = x := by
    simp only [rdOf, Int.toNat_natCast, List.getD_eq_getElem?_getD, hj, Option.getD_some]
   rw [e2] at hy
   rcases Nat.eq_zero_or_pos j with rfl | hj0
   · rw [Addr.add_zero'] at hy; exact hy
   unfold Addr.add at hy
   rw [if_neg (by omega)] at hy
   exact hy
 cases h

end Go.Proofs.Ytdaggmnmifnabaa.PX
