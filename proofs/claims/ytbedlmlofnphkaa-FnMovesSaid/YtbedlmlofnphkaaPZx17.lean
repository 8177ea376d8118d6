-- WRITTEN BY wip/gprint.py, a program of this session's over the kit's print, with contracts given by hand
import Derived.Test.YtbedlmlofnphkaaPZx0
import Derived.Test.YtbedlmlofnphkaaPZx16
namespace Go.Proofs.Ytbedlmlofnphkaa.PZ
open Go.RowKit Go.Proofs.YtbedlmlofnphkaaW.PrintWords Go.Proofs.YtbedlmlofnphkaaW.PrintLast Go.Proofs.YtbedlmlofnphkaaW.PrintMore
attribute [local go_sem] max2_int min2_int max_two min_two max_three min_three max_four min_four   -- for this text's walks alone
set_option linter.unusedVariables false
set_option linter.unusedSimpArgs false

/-! ### impl_allWithin: function 213 (a contract given by hand) -/
def idxO {α : Type} (p : α → Option Bool) : List α → Int → Option Int
 | [], _ => some (-1)
 | x :: xs, i => (p x).bind fun b => if b = true then some i else idxO p xs (i + 1)
def anyO {α : Type} (p : α → Option Bool) : List α → Option Bool
 | [] => some false
 | x :: xs => (p x).bind fun b => if b = true then some true else anyO p xs
theorem idxO_at {α : Type} (p : α → Option Bool) (l : List α) (k : Nat) (hk : k < l.length) {r : Int} (h : idxO p (l.drop k) k = some r) :
 ((p l[k]).bind fun b => if b = true then some (k : Int) else idxO p (l.drop (k + 1)) ((k + 1 : Nat) : Int)) = some r := by
 rw [List.drop_eq_getElem_cons hk] at h
 exact h
theorem idxO_end {α : Type} (p : α → Option Bool) (l : List α) (k : Nat) (hk : l.length ≤ k) {r : Int} (h : idxO p (l.drop k) k = some r) : (-1 : Int) = r := by
 rw [List.drop_eq_nil_of_le hk] at h
 exact Option.some.inj h
theorem idxO_any' {α : Type} (p : α → Option Bool) : ∀ (l : List α) (j : Nat) (r : Bool), anyO p l = some r → ∃ i : Int, idxO p l j = some i ∧ decide (0 ≤ i) = r
 | [], _, r, h => ⟨-1, rfl, by simp [anyO] at h; subst h; rfl⟩
 | x :: xs, j, r, h => by
  simp only [anyO] at h
  obtain ⟨b, hb, h⟩ := Option.bind_eq_some_iff.mp h
  cases b with
  | true => exact ⟨j, by simp [idxO, hb], by simp at h; subst h; simp⟩
  | false =>
   obtain ⟨i, h1, h2⟩ := idxO_any' p xs (j + 1) r (by simpa using h)
   exact ⟨i, by simp only [idxO, hb, Option.bind_some]; rw [if_neg (by decide)]; exact h1, h2⟩
theorem idxO_any {α : Type} (p : α → Option Bool) (l : List α) (r : Bool) (h : anyO p l = some r) : ∃ i : Int, idxO p l 0 = some i ∧ decide (0 ≤ i) = r := idxO_any' p l 0 r h
theorem rdm_at {α : Type} (l : List α) (d : α) (k : Nat) (h : k < l.length) : l[k] = l.getD ((k : Int)).toNat d := by
 simp [List.getD_eq_getElem?_getD, List.getElem?_eq_getElem h]
theorem rdm_mem {α : Type} (l : List α) (d : α) (k : Nat) (h : k < l.length) : l.getD ((k : Int)).toNat d ∈ l := by
 rw [← rdm_at l d k h]; exact List.getElem_mem h
theorem anyO_some {α : Type} (p : α → Bool) : ∀ l : List α, anyO (fun x => some (p x)) l = some (l.any p)
 | [] => rfl
 | x :: xs => by simp only [anyO, Option.bind_some, List.any_cons]; cases p x <;> simp [anyO_some p xs]
theorem anyO_mono {α : Type} {p q : α → Option Bool} (h : ∀ x, LeO (p x) (q x)) : ∀ l : List α, LeO (anyO p l) (anyO q l)
 | [] => LeO.refl _
 | x :: xs => LeO.bind (h x) (fun b => LeO.ite (LeO.refl _) (anyO_mono h xs))
theorem idxO_mono {α : Type} {p q : α → Option Bool} (h : ∀ x, LeO (p x) (q x)) : ∀ (l : List α) (i : Int), LeO (idxO p l i) (idxO q l i)
 | [], _ => LeO.refl _
 | x :: xs, i => LeO.bind (h x) (fun b => LeO.ite (LeO.refl _) (idxO_mono h xs (i + 1)))
set_option maxHeartbeats 4000000 in
set_option maxRecDepth 100000 in
theorem idxf_303 (g : Nat) (lb : Array Value) (p : Int → Option Bool) (A0 : Option Addr) (c0 : Nat) (l0 : List (Int)) (r : Int) (w : World) (hr0 : Kd.C (Kd.int .i64) w A0 l0.length l0)
 (eg : ∀ args w, (callFunc g args).run Try.prog w = .ok (.enter g args) w)
 (hp : ∀ W x b, x ∈ l0 → p x = some b → Below w.heap.size w W → Calls Try.prog g (#[.int .i64 x] ++ lb) W fun e w' => e = .returned (.bool b) ∧ Below w.heap.size w w') (h : idxO p l0 0 = some r) :
 Calls Try.prog 303 #[.slice A0 l0.length c0, .func (.func g) #[] lb] w fun e w' => e = .returned (.int .i64 r) ∧ Below w.heap.size w w' := by
 have hbig := hr0.2.1
 have HR0 := Aside0.mk hr0
 clear hr0
 have h' := Aside0.mk h
 clear h
 go_enter Try.func303, Try.ntmps303
 go_wp2
 go_loopg [5, 8] l0.length (fun gg _ s8 wr => ∃ kk : Nat, kk ≤ l0.length ∧ l0.length - kk ≤ gg ∧ s8 = .int .i64 kk ∧ Aside0 (Below w.heap.size w wr) ∧ Aside0 (idxO p (l0.drop kk) kk = some r))
 case atStart => exact ⟨0, Nat.zero_le _, by omega, rfl, ⟨Below.refl _ w⟩, h'⟩
 case round =>
 obtain ⟨kk, hkk, hg, rfl, BW, H⟩ := hrel
 clear h'
 by_cases hlt : kk < l0.length
 · have hltz : (kk : Int) < (l0.length : Int) := by omega
   have l1 := Kd.at_int HR0.out (kk : Int) (by omega) hltz
   have hmem : rd l0 kk ∈ l0 := rdm_mem l0 _ kk hlt
   obtain ⟨ad, rfl, l2_0⟩ := l1
   replace l2_0 := tW BW l2_0
   have H2 := idxO_at p l0 kk hlt H.out
   have hdef : l0[kk] = rd l0 kk := rdm_at l0 _ kk hlt
   rw [hdef] at H2
   clear H hdef
   obtain ⟨b, hb, H2⟩ := Option.bind_eq_some_iff.mp H2
   have hcall := hp wr (rd l0 kk) b hmem hb BW.out
   clear hp hmem hb
   try simp only [Int.toNat_natCast] at l2_0
   cases b with
   | true =>
    have HZ := Aside0.mk (Option.some.inj ((if_pos rfl).symm.trans H2))
    clear H2
    go_wp2_with (go_at_fn g; refine hcall.mono ?_; rintro e w' ⟨rfl, hb'⟩)
    go_ret
    exact ⟨(by rw [← HZ.out]; rfl), hb'⟩
   | false =>
   have HZ := Aside0.mk ((if_neg (by decide)).symm.trans H2)
   clear H2
   go_wp2_with (go_at_fn g; refine hcall.mono ?_; rintro e w' ⟨rfl, hb'⟩)
   go_roundg (l0.length - (kk + 1))
   case measure => omega
   case rel => exact ⟨kk + 1, by omega, by omega, by go_num, ⟨hb'⟩, HZ⟩
 have hltz : ¬ (kk : Int) < (l0.length : Int) := by omega
 have HZ := Aside0.mk (idxO_end p l0 kk (by omega) H.out)
 clear H
 go_wp2
 go_ret
 exact ⟨(by rw [← HZ.out]; rfl), BW.out⟩
set_option maxHeartbeats 4000000 in
set_option maxRecDepth 100000 in
theorem conf_269 (g : Nat) (lb : Array Value) (p : Int → Option Bool) (A0 : Option Addr) (c0 : Nat) (l0 : List (Int)) (r : Bool) (w : World) (hr0 : Kd.C (Kd.int .i64) w A0 l0.length l0)
 (eg : ∀ args w, (callFunc g args).run Try.prog w = .ok (.enter g args) w)
 (hp : ∀ W x b, x ∈ l0 → p x = some b → Below w.heap.size w W → Calls Try.prog g (#[.int .i64 x] ++ lb) W fun e w' => e = .returned (.bool b) ∧ Below w.heap.size w w') (h : anyO p l0 = some r) :
 Calls Try.prog 269 #[.slice A0 l0.length c0, .func (.func g) #[] lb] w fun e w' => e = .returned (.bool r) ∧ Below w.heap.size w w' := by
 obtain ⟨i, hi, rfl⟩ := idxO_any p l0 r h
 have hcall := idxf_303 g lb p A0 c0 l0 i w hr0 eg hp hi
 clear hp hr0 h hi
 go_enter Try.func269, Try.ntmps269
 go_wp2_with (go_at_call 303; refine hcall.mono ?_; rintro e w' ⟨rfl, hb'⟩)
 go_ret
 exact ⟨rfl, hb'⟩
def within_ (n a b : Int) : Bool := decide (a ≤ n) && decide (n ≤ b)
theorem within_f (n a b : Int) : impl_within.f n a b = some (within_ n a b) := by
 unfold impl_within.f within_
 by_cases h : n ≥ a
 · rw [if_pos h]; simp [show a ≤ n from h]
 · rw [if_neg h]; simp [show ¬ a ≤ n from h]
theorem allWithin_cl (b1 b2 : Nat) (a1 a2 : Int) (x : Int) (w W : World) (hb : Below w.heap.size w W) (hl1 : b1 < w.heap.size) (hl2 : b2 < w.heap.size)
 (h1 : w.cell? ⟨b1, 0, none⟩ = some (.int .i64 a1)) (h2 : w.cell? ⟨b2, 0, none⟩ = some (.int .i64 a2)) :
 Calls Try.prog 270 #[.int .i64 x, .pointer (some ⟨b1, 0, none⟩), .pointer (some ⟨b2, 0, none⟩)] W fun e w' => e = .returned (.bool (!within_ x a1 a2)) ∧ Below w.heap.size w w' := by
 have h1' := (hb.cell (p := ⟨b1, 0, none⟩) hl1).trans h1
 have h2' := (hb.cell (p := ⟨b2, 0, none⟩) hl2).trans h2
 clear h1 h2 hl1 hl2
 have HB := Aside0.mk hb
 clear hb
 go_enter Try.func270, Try.ntmps270
 go_wp2_with (go_at_call 117; refine (impl_within.calls x a1 a2 _ _ (within_f x a1 a2)).mono ?_; rintro e w' ⟨rfl, ⟨nd, rfl⟩⟩)
 go_ret
 exact ⟨rfl, by repeat (first | exact HB.out | apply qbn | apply qb1)⟩
def impl_allWithin.f (l0 : List Int) (a1 : Int) (a2 : Int) : Option (Bool) := some (l0.all fun n => within_ n a1 a2)
set_option maxHeartbeats 8000000 in
set_option maxRecDepth 100000 in
theorem impl_allWithin.calls (A0 : Option Addr) (c0 : Nat) (l0 : List Int) (a1 : Int) (a2 : Int) (r : Bool) (w : World) (hr0 : Kd.C (Kd.int .i64) w A0 l0.length l0) (hc0 : l0.length ≤ c0) (h : impl_allWithin.f l0 a1 a2 = some r) :
 Calls Try.prog 213 #[.slice A0 l0.length c0, .int .i64 a1, .int .i64 a2] w fun e w' => e = .returned (.bool r) ∧ Below w.heap.size w w' := by
 obtain rfl := Option.some.inj h
 have eg : ∀ args w, (callFunc 270 args).run Try.prog w = .ok (.enter 270 args) w := enters_of Try.func270 (by kernel_rfl) rfl
 have hcall := conf_269 270 #[.pointer (some ⟨w.heap.size, 0, none⟩), .pointer (some ⟨w.heap.size + 1, 0, none⟩)] (fun x => some (!within_ x a1 a2)) A0 c0 l0 _ ((w.alloc (.cells #[.int .i64 a1] 2)).alloc (.cells #[.int .i64 a2] 2)) (Kd.C_below (Kd.C_below hr0 ((Below.refl _ w).alloc (Nat.le_refl _) _)) ((Below.refl _ _).alloc (Nat.le_refl _) _)) eg
  (fun W x b hx hb hW => by
   obtain rfl := Option.some.inj hb
   exact allWithin_cl w.heap.size (w.heap.size + 1) a1 a2 x _ W hW (by simp; omega) (by simp) (by rw [World.cell?_alloc_past _ _ _ (by simp), World.cell?_alloc_at _ _ _ _ rfl]; rfl) (by rw [World.cell?_alloc_at _ _ _ _ (by simp)]; rfl)) (anyO_some _ l0)
 rw [show (l0.all fun n => within_ n a1 a2) = !(l0.any fun x => !within_ x a1 a2) from by simp [List.all_eq_not_any_not]]
 generalize (l0.any fun x => !within_ x a1 a2) = bb at hcall ⊢
 clear hr0 eg
 have hmf : ∀ (fn : Fn) (first cap : Array Value) (w : World), (Instr.makeFunc fn first cap).run Try.prog w = .ok (.func fn first cap) w := fun _ _ _ _ => rfl
 go_enter Try.func213, Try.ntmps213
 go_wp2_with (go_at_call 269; refine hcall.mono ?_; rintro e w' ⟨rfl, hb'⟩)
 go_ret
 exact ⟨rfl, (((Below.refl _ w).alloc (Nat.le_refl _) _).alloc (by simp) _).trans (hb'.mono (by simp; omega))⟩

/-! ### impl_pitchesOk: function 107 -/
def impl_pitchesOk.f (l0 : List Int) : Option (Bool) := if (l0.length : Int) ≤ 64 then ((impl_allWithin.f l0 (-12) 23).bind fun t372 => (some t372)) else (some false)
set_option maxHeartbeats 8000000 in
set_option maxRecDepth 100000 in
theorem impl_pitchesOk.calls (A0 : Option Addr) (c0 : Nat) (l0 : List Int) (r : Bool) (w : World) (hr0 : Kd.C (Kd.int .i64) w A0 l0.length l0) (hc0 : l0.length ≤ c0) (h : impl_pitchesOk.f l0 = some r) :
 Calls Try.prog 107 #[.slice A0 l0.length c0] w fun e w' => e = .returned (.bool r) ∧ Below w.heap.size w w' := by
 have HR0 := Aside0.mk hr0
 have HC0 := Aside0.mk hc0
 clear hr0 hc0
 have HB := Aside0.mk (Below.refl w.heap.size w)
 have H : (if (l0.length : Int) ≤ 64 then ((impl_allWithin.f l0 (-12) 23).bind fun t372 => (some t372)) else (some false)) = some r := h
 clear h
 by_cases c2 : (l0.length : Int) ≤ 64
 · rw [if_pos c2] at H
   have c2b0 : decide ((l0.length : Int) ≤ 64) = true := decide_eq_true c2
   have c2b1 : decide (l0.length ≤ 64) = true := decide_eq_true (by omega)
   clear c2
   replace H := Option.bind_eq_some_iff.mp H
   obtain ⟨t372, A30, H⟩ := H
   replace H : (some t372) = some r := H
   have A3 := Aside0.mk A30
   clear A30
   obtain rfl := Option.some.inj H
   go_enter Try.func107, Try.ntmps107
   go_wp2_with (first | (go_at_call 213; (with_reducible refine (impl_allWithin.calls _ _ l0 (-12) 23 t372 _ ?side1 ?side2 A3.out).mono ?_); (case side1 => exact tC HR0.out); (case side2 => exact HC0.out); rintro e w4 ⟨rfl, hb⟩; replace HB := Aside0.mk (below_step (tH HB) hb); (try clear hb); (try clear hb2); (try clear hk); (try clear hi)))
   go_ret
   exact ⟨tE, tH HB⟩
 rw [if_neg c2] at H
 have c2b0 : decide ((l0.length : Int) ≤ 64) = false := decide_eq_false c2
 have c2b1 : decide (l0.length ≤ 64) = false := decide_eq_false (by omega)
 clear c2
 obtain rfl := Option.some.inj H
 go_enter Try.func107, Try.ntmps107
 go_wp2
 go_ret
 exact ⟨tE, tH HB⟩

/-! ### impl_increasing: function 230 -/
def impl_increasing.l0 : Nat → List Int → Int → Option (Bool)
 | 0, _, _ => none
 | k + 1, x0, x3 => if x3 < (x0.length : Int) then (if 0 ≤ x3 then (if 0 ≤ (wrap64 (x3 - 1)) then (if (wrap64 (x3 - 1)) < (x0.length : Int) then (if (rd x0 x3) ≤ (rd x0 (wrap64 (x3 - 1))) then (some false) else (impl_increasing.l0 k x0 (wrap64 (x3 + 1)))) else (none)) else (none)) else (none)) else (some true)
def impl_increasing.f (k : Nat) (l0 : List Int) : Option (Bool) := impl_increasing.l0 k l0 1
theorem impl_increasing.mono_l : ∀ k, (∀ y0 y1, LeO (impl_increasing.l0 k y0 y1) (impl_increasing.l0 (k + 1) y0 y1))
 | 0 => fun _ _ r h => by simp [impl_increasing.l0] at h
 | k + 1 => by
  have ih0 := impl_increasing.mono_l k
  · intro y0 y1
    unfold impl_increasing.l0
    repeat' first
    | (with_reducible exact ih0 _ _)
    | (with_reducible exact LeO.refl _)
    | (with_reducible exact LeO.none _)
    | (with_reducible refine LeO.ite ?_ ?_)
    | (with_reducible refine LeO.bind ?_ (fun _ => ?_))
    | exact ih0 _ _
    | exact LeO.none _
    | refine LeO.ite ?_ ?_
    | refine LeO.bind ?_ (fun _ => ?_)
theorem impl_increasing.mono : ∀ a0 k, LeO (impl_increasing.f k a0) (impl_increasing.f (k + 1) a0) := by
 intro a0 k
 have ih0 := impl_increasing.mono_l k
 unfold impl_increasing.f
 repeat' first
  | (with_reducible exact ih0 _ _)
  | (with_reducible exact LeO.refl _)
  | (with_reducible exact LeO.none _)
  | (with_reducible refine LeO.ite ?_ ?_)
  | (with_reducible refine LeO.bind ?_ (fun _ => ?_))
  | exact ih0 _ _
  | exact LeO.none _
  | refine LeO.ite ?_ ?_
  | refine LeO.bind ?_ (fun _ => ?_)
set_option maxHeartbeats 8000000 in
set_option maxRecDepth 100000 in
theorem impl_increasing.calls (k : Nat) (A0 : Option Addr) (c0 : Nat) (l0 : List Int) (r : Bool) (w : World) (hr0 : Kd.C (Kd.int .i64) w A0 l0.length l0) (hc0 : l0.length ≤ c0) (h : impl_increasing.f k l0 = some r) :
 Calls Try.prog 230 #[.slice A0 l0.length c0] w fun e w' => e = .returned (.bool r) ∧ Drawn0 w w' := by
 have HR0 := Aside0.mk hr0
 have HC0 := Aside0.mk hc0
 clear hr0 hc0
 have H : (impl_increasing.l0 k l0 1) = some r := h
 clear h
 have H' := Aside0.mk H
 clear H
 go_enter Try.func230, Try.ntmps230
 go_wp2
 repeat (go_quiet (fail); try go_wp2)
 go_loopg [3] k (fun kq v3 w' => ∃ (x3_1 : Int), v3 = .int .i64 x3_1 ∧ Aside0 (impl_increasing.l0 kq l0 x3_1 = some r) ∧ Aside0 (kq ≤ k) ∧ Drawn0 w w')
 case atStart => exact ⟨(1), tq, H', ⟨Nat.le_refl _⟩, tZ⟩
 case round =>
 clear H'
 obtain ⟨x3_1, rfl, HA, HK1, ⟨m1, rfl⟩⟩ := hrel
 cases gk with
 | zero => exact absurd HA.out (by simp [impl_increasing.l0])
 | succ k1 =>
 have H := HA.out
 clear HA
 simp only [impl_increasing.l0] at H
 by_cases c2 : x3_1 < (l0.length : Int)
 · rw [if_pos c2] at H
   have c2b0 : decide (x3_1 < (l0.length : Int)) = true := decide_eq_true c2
   clear c2
   by_cases c3 : 0 ≤ x3_1
   · rw [if_pos c3] at H
     have c3b0 : decide (0 ≤ x3_1) = true := decide_eq_true c3
     clear c3
     obtain ⟨ji4, hji4⟩ : ∃ j_ : Int, (wrap64 (x3_1 - 1)) = j_ := ⟨_, rfl⟩
     replace H : (if 0 ≤ (ji4) then (if (ji4) < (l0.length : Int) then (if (rd l0 x3_1) ≤ (rd l0 (ji4)) then (some false) else (impl_increasing.l0 k1 l0 (wrap64 (x3_1 + 1)))) else (none)) else (none)) = some r := by first | (rw [hji4] at H; exact H) | (simp only [hji4] at H ⊢; exact H)
     have hji4w : (IntKind.i64.wrap (x3_1 - 1)) = ji4 := (i64_w _).trans hji4
     by_cases c5 : 0 ≤ (ji4)
     · rw [if_pos c5] at H
       have c5b0 : decide (0 ≤ (ji4)) = true := decide_eq_true c5
       clear c5
       by_cases c6 : (ji4) < (l0.length : Int)
       · rw [if_pos c6] at H
         have c6b0 : decide ((ji4) < (l0.length : Int)) = true := decide_eq_true c6
         clear c6
         by_cases c7 : (rd l0 x3_1) ≤ (rd l0 (ji4))
         · rw [if_pos c7] at H
           have c7b0 : decide ((rd l0 x3_1) ≤ (rd l0 (ji4))) = true := decide_eq_true c7
           clear c7
           obtain rfl := Option.some.inj H
           have p373 : 0 ≤ (x3_1 : Int) := of_decide_eq_true tA
           have q373 : x3_1 < (l0.length : Int) := of_decide_eq_true tA
           obtain ⟨ad373, e373, hx373_0⟩ := Kd.at_int HR0.out x3_1 p373 q373
           cases e373
           replace p373 := eq_true p373
           replace q373 := eq_true q373
           have p374 : 0 ≤ ((ji4) : Int) := of_decide_eq_true tA
           have q374 : (ji4) < (l0.length : Int) := of_decide_eq_true tA
           obtain ⟨ad374, e374, hx374_0⟩ := Kd.at_int HR0.out (ji4) p374 q374
           obtain rfl : ad373 = ad374 := (by injection e374)
           replace p374 := eq_true p374
           replace q374 := eq_true q374
           go_wp2
           repeat (go_quiet (fail); try go_wp2)
           go_ret
           exact ⟨by first | rfl | (simp; done) | (simp only [← hji4] <;> (first | rfl | simp)) | (simp [*]; done), tZ⟩
         rw [if_neg c7] at H
         have c7b0 : decide ((rd l0 x3_1) ≤ (rd l0 (ji4))) = false := decide_eq_false c7
         clear c7
         have H' := Aside0.mk H
         clear H
         have p373 : 0 ≤ (x3_1 : Int) := of_decide_eq_true tA
         have q373 : x3_1 < (l0.length : Int) := of_decide_eq_true tA
         obtain ⟨ad373, e373, hx373_0⟩ := Kd.at_int HR0.out x3_1 p373 q373
         cases e373
         replace p373 := eq_true p373
         replace q373 := eq_true q373
         have p374 : 0 ≤ ((ji4) : Int) := of_decide_eq_true tA
         have q374 : (ji4) < (l0.length : Int) := of_decide_eq_true tA
         obtain ⟨ad374, e374, hx374_0⟩ := Kd.at_int HR0.out (ji4) p374 q374
         obtain rfl : ad373 = ad374 := (by injection e374)
         replace p374 := eq_true p374
         replace q374 := eq_true q374
         go_wp2
         repeat (go_quiet (fail); try go_wp2)
         go_roundg k1
         case measure => have := HK1.out; omega
         case rel => exact ⟨(wrap64 (x3_1 + 1)), tq, H', ⟨by have := HK1.out; omega⟩, tZ⟩
       rw [if_neg c6] at H
       exact absurd H (by simp)
     rw [if_neg c5] at H
     exact absurd H (by simp)
   rw [if_neg c3] at H
   exact absurd H (by simp)
 rw [if_neg c2] at H
 have c2b0 : decide (x3_1 < (l0.length : Int)) = false := decide_eq_false c2
 clear c2
 obtain rfl := Option.some.inj H
 go_wp2
 repeat (go_quiet (fail); try go_wp2)
 go_ret
 exact ⟨by first | rfl | (simp; done) | (simp [*]; done), tZ⟩

end Go.Proofs.Ytbedlmlofnphkaa.PZ
