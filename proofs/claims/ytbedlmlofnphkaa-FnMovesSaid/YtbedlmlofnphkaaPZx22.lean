-- WRITTEN BY wip/gprint.py, a program of this session's over the kit's print, with contracts given by hand
import Derived.Test.YtbedlmlofnphkaaPZx0
import Derived.Test.YtbedlmlofnphkaaPZx17
namespace Go.Proofs.Ytbedlmlofnphkaa.PZ
open Go.RowKit Go.Proofs.YtbedlmlofnphkaaW.PrintWords Go.Proofs.YtbedlmlofnphkaaW.PrintLast Go.Proofs.YtbedlmlofnphkaaW.PrintMore
attribute [local go_sem] max2_int min2_int max_two min_two max_three min_three max_four min_four   -- for this text's walks alone
set_option linter.unusedVariables false
set_option linter.unusedSimpArgs false

/-! ### impl_ToneOf: function 57 -/
def impl_ToneOf.f (a0 : Int) : Option (Int) := some (Int.tmod (wrap64 ((Int.tmod a0 12) + 12)) 12)
set_option maxHeartbeats 8000000 in
set_option maxRecDepth 100000 in
theorem impl_ToneOf.calls (a0 : Int) (r : Int) (w : World) (h : impl_ToneOf.f a0 = some r) :
 Calls Try.prog 57 #[.int .i64 a0] w fun e w' => e = .returned (.int .i64 r) ∧ Drawn0 w w' := by
 have H : (some (Int.tmod (wrap64 ((Int.tmod a0 12) + 12)) 12)) = some r := h
 clear h
 obtain rfl := Option.some.inj H
 go_enter Try.func57, Try.ntmps57
 go_wp2
 go_ret
 exact ⟨by first | rfl | (simp; done) | (simp [*]; done), tZ⟩

/-! ### impl_abs: function 205 -/
def impl_abs.f (a0 : Int) : Option (Int) := some (mx a0 (wrap64 (-a0)))
set_option maxHeartbeats 8000000 in
set_option maxRecDepth 100000 in
theorem impl_abs.calls (a0 : Int) (r : Int) (w : World) (h : impl_abs.f a0 = some r) :
 Calls Try.prog 205 #[.int .i64 a0] w fun e w' => e = .returned (.int .i64 r) ∧ Below w.heap.size w w' := by
 have HB := Aside0.mk (Below.refl w.heap.size w)
 have H : (some (mx a0 (wrap64 (-a0)))) = some r := h
 clear h
 obtain ⟨ji2, hji2⟩ : ∃ j_ : Int, (mx a0 (wrap64 (-a0))) = j_ := ⟨_, rfl⟩
 replace H : (some ji2) = some r := by first | (rw [hji2] at H; exact H) | (simp only [hji2] at H ⊢; exact H)
 have hji2_ : (if a0 < (wrap64 (-a0)) then (wrap64 (-a0)) else a0) = ji2 := hji2
 obtain rfl := Option.some.inj H
 go_enter Try.func205, Try.ntmps205
 go_wp2
 go_ret
 exact ⟨by first | rfl | (simp [errW_none, errW_some] <;> rfl) | (simp only [← hji2]; first | rfl | (simp [errW_none, errW_some] <;> rfl)) | (simp [*, errW_none, errW_some] <;> rfl), tH HB⟩

-- NOT PRINTED: function 314 (slices_IndexFunc_int64_int64)

-- NOT PRINTED: function 296 (slices_ContainsFunc_int64_int64)

/-! ### impl_Raga_reason_1: function 297 -/
def impl_Raga_reason_1.f (l0 : List Int) (l1 : List Int) (l2 : List Int) : Option (Bool) := if 0 < (l0.length : Int) then (if (rd l0 0) = (rd l1 0) then (if 1 < (l0.length : Int) then (some ((rd l0 1) == (rd l2 0))) else (none)) else (some false)) else (none)
set_option maxHeartbeats 8000000 in
set_option maxRecDepth 100000 in
theorem impl_Raga_reason_1.calls (A0 : Option Addr) (c0 : Nat) (l0 : List Int) (A1 : Option Addr) (l1 : List Int) (A2 : Option Addr) (l2 : List Int) (r : Bool) (w : World) (hr0 : Kd.C (Kd.int .i64) w A0 l0.length l0) (hc0 : l0.length ≤ c0) (hr1 : Kd.C (Kd.int .i64) w A1 l1.length l1) (hn1 : 0 < l1.length) (hr2 : Kd.C (Kd.int .i64) w A2 l2.length l2) (hn2 : 0 < l2.length) (h : impl_Raga_reason_1.f l0 l1 l2 = some r) :
 Calls Try.prog 297 #[.slice A0 l0.length c0, .pointer A1, .pointer A2] w fun e w' => e = .returned (.bool r) ∧ Drawn0 w w' := by
 have HR0 := Aside0.mk hr0
 have HC0 := Aside0.mk hc0
 clear hr0 hc0
 have HR1 := Aside0.mk hr1
 clear hr1
 have HN1 := Aside0.mk hn1
 have hn1b0 : decide ((0 : Int) < (l1.length : Int)) = true := decide_eq_true (Int.ofNat_lt.2 hn1)
 have hn1b1 : decide (0 < l1.length) = true := decide_eq_true hn1
 clear hn1
 have HR2 := Aside0.mk hr2
 clear hr2
 have HN2 := Aside0.mk hn2
 have hn2b0 : decide ((0 : Int) < (l2.length : Int)) = true := decide_eq_true (Int.ofNat_lt.2 hn2)
 have hn2b1 : decide (0 < l2.length) = true := decide_eq_true hn2
 clear hn2
 have H : (if 0 < (l0.length : Int) then (if (rd l0 0) = (rd l1 0) then (if 1 < (l0.length : Int) then (some ((rd l0 1) == (rd l2 0))) else (none)) else (some false)) else (none)) = some r := h
 clear h
 by_cases c4 : 0 < (l0.length : Int)
 · rw [if_pos c4] at H
   have c4b0 : decide (0 < (l0.length : Int)) = true := decide_eq_true c4
   have c4b1 : decide (0 < l0.length) = true := decide_eq_true (by omega)
   clear c4
   by_cases c5 : (rd l0 0) = (rd l1 0)
   · rw [if_pos c5] at H
     have c5b0 : ((rd l0 0) == (rd l1 0)) = true := beq_iff_eq.mpr c5
     have c5b1 : ((rd l0 0) != (rd l1 0)) = false := bne_eq_false_iff_eq.mpr c5
     clear c5
     by_cases c6 : 1 < (l0.length : Int)
     · rw [if_pos c6] at H
       have c6b0 : decide (1 < (l0.length : Int)) = true := decide_eq_true c6
       have c6b1 : decide (1 < l0.length) = true := decide_eq_true (by omega)
       clear c6
       obtain rfl := Option.some.inj H
       have p405 : 0 ≤ (0 : Int) := (by omega)
       have q405 : 0 < (l0.length : Int) := of_decide_eq_true tA
       obtain ⟨ad405, e405, hx405_0⟩ := Kd.at_int HR0.out 0 p405 q405
       cases e405
       have qi405 : (0 < l0.length) = True := eq_true (by omega)
       (try rw [t0n] at hx405_0)
       (try rw [Addr.add_zero'] at hx405_0)
       replace p405 := eq_true p405
       replace q405 := eq_true q405
       have p406 : 0 ≤ (0 : Int) := (by omega)
       have q406 : 0 < (l1.length : Int) := of_decide_eq_true tA
       obtain ⟨ad406, e406, hx406_0⟩ := Kd.at_int HR1.out 0 p406 q406
       cases e406
       have qi406 : (0 < l1.length) = True := eq_true (by omega)
       (try rw [t0n] at hx406_0)
       (try rw [Addr.add_zero'] at hx406_0)
       replace p406 := eq_true p406
       replace q406 := eq_true q406
       have p407 : 0 ≤ (1 : Int) := (by omega)
       have q407 : 1 < (l0.length : Int) := of_decide_eq_true tA
       obtain ⟨ad407, e407, hx407_0⟩ := Kd.at_int HR0.out 1 p407 q407
       obtain rfl : ad405 = ad407 := (by injection e407)
       (try simp only [show (1 : Int).toNat = 1 from rfl, Nat.reduceMul, Nat.reduceEqDiff, Go.Addr.add, ↓reduceIte] at hx407_0)
       have qi407 : (1 < l0.length) = True := eq_true (by omega)
       (try rw [t1n] at hx407_0)
       replace p407 := eq_true p407
       replace q407 := eq_true q407
       have p408 : 0 ≤ (0 : Int) := (by omega)
       have q408 : 0 < (l2.length : Int) := of_decide_eq_true tA
       obtain ⟨ad408, e408, hx408_0⟩ := Kd.at_int HR2.out 0 p408 q408
       cases e408
       have qi408 : (0 < l2.length) = True := eq_true (by omega)
       (try rw [t0n] at hx408_0)
       (try rw [Addr.add_zero'] at hx408_0)
       replace p408 := eq_true p408
       replace q408 := eq_true q408
       go_enter Try.func297, Try.ntmps297
       go_wp2
       repeat (go_quiet (fail); try go_wp2)
       go_ret
       exact ⟨by first | rfl | (simp; done) | (simp [*]; done), tZ⟩
     rw [if_neg c6] at H
     exact absurd H (by simp)
   rw [if_neg c5] at H
   have c5b0 : ((rd l0 0) == (rd l1 0)) = false := beq_eq_false_iff_ne.mpr c5
   have c5b1 : ((rd l0 0) != (rd l1 0)) = true := bne_iff_ne.mpr c5
   obtain rfl := Option.some.inj H
   have p405 : 0 ≤ (0 : Int) := (by omega)
   have q405 : 0 < (l0.length : Int) := of_decide_eq_true tA
   obtain ⟨ad405, e405, hx405_0⟩ := Kd.at_int HR0.out 0 p405 q405
   cases e405
   have qi405 : (0 < l0.length) = True := eq_true (by omega)
   (try rw [t0n] at hx405_0)
   (try rw [Addr.add_zero'] at hx405_0)
   replace p405 := eq_true p405
   replace q405 := eq_true q405
   have p406 : 0 ≤ (0 : Int) := (by omega)
   have q406 : 0 < (l1.length : Int) := of_decide_eq_true tA
   obtain ⟨ad406, e406, hx406_0⟩ := Kd.at_int HR1.out 0 p406 q406
   cases e406
   have qi406 : (0 < l1.length) = True := eq_true (by omega)
   (try rw [t0n] at hx406_0)
   (try rw [Addr.add_zero'] at hx406_0)
   replace p406 := eq_true p406
   replace q406 := eq_true q406
   go_enter Try.func297, Try.ntmps297
   go_wp2
   repeat (go_quiet (fail); try go_wp2)
   go_ret
   exact ⟨by first | rfl | (simp; done) | (simp [*]; done), tZ⟩
 rw [if_neg c4] at H
 exact absurd H (by simp)

/-! ### slices_ContainsFunc_at_impl_Raga_reason_1: function 296 at closure 297 -/
set_option maxHeartbeats 4000000 in
set_option maxRecDepth 100000 in
theorem idxf_314 (g : Nat) (lb : Array Value) (p : List Int → Option Bool) (A0 : Option Addr) (c0 : Nat) (l0 : List (List Int)) (r : Int) (w : World) (hr0 : Kd.C (Kd.slice 2 (Kd.int .i64)) w A0 l0.length l0)
 (eg : ∀ args w, (callFunc g args).run Try.prog w = .ok (.enter g args) w)
 (hp : ∀ W x b Ax cx, x ∈ l0 → p x = some b → Below w.heap.size w W → Kd.C (Kd.int .i64) W Ax x.length x → x.length ≤ cx → Calls Try.prog g (#[.slice Ax x.length cx] ++ lb) W fun e w' => e = .returned (.bool b) ∧ Below w.heap.size w w') (h : idxO p l0 0 = some r) :
 Calls Try.prog 314 #[.slice A0 l0.length c0, .func (.func g) #[] lb] w fun e w' => e = .returned (.int .i64 r) ∧ Below w.heap.size w w' := by
 have hbig := hr0.2.1
 have HR0 := Aside0.mk hr0
 clear hr0
 have h' := Aside0.mk h
 clear h
 go_enter Try.func314, Try.ntmps314
 go_wp2
 go_loopg [5, 8] l0.length (fun gg _ s8 wr => ∃ kk : Nat, kk ≤ l0.length ∧ l0.length - kk ≤ gg ∧ s8 = .int .i64 kk ∧ Aside0 (Below w.heap.size w wr) ∧ Aside0 (idxO p (l0.drop kk) kk = some r))
 case atStart => exact ⟨0, Nat.zero_le _, by omega, rfl, ⟨Below.refl _ w⟩, h'⟩
 case round =>
 obtain ⟨kk, hkk, hg, rfl, BW, H⟩ := hrel
 clear h'
 by_cases hlt : kk < l0.length
 · have hltz : (kk : Int) < (l0.length : Int) := by omega
   have l1 := at_L3 HR0.out (kk : Int) (by omega) hltz
   have hmem : rd_L3 l0 kk ∈ l0 := rdm_mem l0 _ kk hlt
   obtain ⟨ad, Ax_, cx_, rfl, l2_0, hl_, hi_⟩ := l1
   replace l2_0 := tW BW l2_0
   have H2 := idxO_at p l0 kk hlt H.out
   have hdef : l0[kk] = rd_L3 l0 kk := rdm_at l0 _ kk hlt
   rw [hdef] at H2
   clear H hdef
   obtain ⟨b, hb, H2⟩ := Option.bind_eq_some_iff.mp H2
   have hcall := hp wr (rd_L3 l0 kk) b Ax_ cx_ hmem hb BW.out (Kd.C_below hi_ BW.out) hl_
   clear hp hmem hb
   try simp only [Int.toNat_natCast] at l2_0
   cases b with
   | true =>
    have HZ := Aside0.mk (Option.some.inj ((if_pos rfl).symm.trans H2))
    clear H2
    go_wp2_with (go_at_fn g; refine hcall.mono ?_; rintro e w' ⟨rfl, hb'⟩)
    go_ret
    exact ⟨(by rw [← HZ.out]; rfl), hb'⟩
   | false =>
   have HZ := Aside0.mk ((if_neg (by decide)).symm.trans H2)
   clear H2
   go_wp2_with (go_at_fn g; refine hcall.mono ?_; rintro e w' ⟨rfl, hb'⟩)
   go_roundg (l0.length - (kk + 1))
   case measure => omega
   case rel => exact ⟨kk + 1, by omega, by omega, by go_num, ⟨hb'⟩, HZ⟩
 have hltz : ¬ (kk : Int) < (l0.length : Int) := by omega
 have HZ := Aside0.mk (idxO_end p l0 kk (by omega) H.out)
 clear H
 go_wp2
 go_ret
 exact ⟨(by rw [← HZ.out]; rfl), BW.out⟩
set_option maxHeartbeats 4000000 in
set_option maxRecDepth 100000 in
theorem conf_296 (g : Nat) (lb : Array Value) (p : List Int → Option Bool) (A0 : Option Addr) (c0 : Nat) (l0 : List (List Int)) (r : Bool) (w : World) (hr0 : Kd.C (Kd.slice 2 (Kd.int .i64)) w A0 l0.length l0)
 (eg : ∀ args w, (callFunc g args).run Try.prog w = .ok (.enter g args) w)
 (hp : ∀ W x b Ax cx, x ∈ l0 → p x = some b → Below w.heap.size w W → Kd.C (Kd.int .i64) W Ax x.length x → x.length ≤ cx → Calls Try.prog g (#[.slice Ax x.length cx] ++ lb) W fun e w' => e = .returned (.bool b) ∧ Below w.heap.size w w') (h : anyO p l0 = some r) :
 Calls Try.prog 296 #[.slice A0 l0.length c0, .func (.func g) #[] lb] w fun e w' => e = .returned (.bool r) ∧ Below w.heap.size w w' := by
 obtain ⟨i, hi, rfl⟩ := idxO_any p l0 r h
 have hcall := idxf_314 g lb p A0 c0 l0 i w hr0 eg hp hi
 clear hp hr0 h hi
 go_enter Try.func296, Try.ntmps296
 go_wp2_with (go_at_call 314; refine hcall.mono ?_; rintro e w' ⟨rfl, hb'⟩)
 go_ret
 exact ⟨rfl, hb'⟩
def slices_ContainsFunc_at_impl_Raga_reason_1.f (l0 : List (List Int)) (l1 : List Int) (l2 : List Int) : Option Bool := anyO (fun x => impl_Raga_reason_1.f x l1 l2) l0
set_option maxHeartbeats 8000000 in
set_option maxRecDepth 100000 in
theorem slices_ContainsFunc_at_impl_Raga_reason_1.calls (A0 : Option Addr) (c0 : Nat) (l0 : List (List Int)) (A1 : Option Addr) (l1 : List Int) (A2 : Option Addr) (l2 : List Int) (r : Bool) (w : World) (hr0 : Kd.C (Kd.slice 2 (Kd.int .i64)) w A0 l0.length l0) (hc0 : l0.length ≤ c0) (hr1 : Kd.C (Kd.int .i64) w A1 l1.length l1) (hn1 : 0 < l1.length) (hr2 : Kd.C (Kd.int .i64) w A2 l2.length l2) (hn2 : 0 < l2.length) (h : slices_ContainsFunc_at_impl_Raga_reason_1.f l0 l1 l2 = some r) :
 Calls Try.prog 296 #[.slice A0 l0.length c0, .func (.func 297) #[] #[.pointer A1, .pointer A2]] w fun e w' => e = .returned (.bool r) ∧ Below w.heap.size w w' := by
 refine conf_296 297 #[.pointer A1, .pointer A2] (fun x => impl_Raga_reason_1.f x l1 l2) A0 c0 l0 r w hr0 (enters_of Try.func297 (by kernel_rfl) rfl) (fun W x b Ax cx _ hb hW hC_ hL_ => ?_) h
 exact (impl_Raga_reason_1.calls Ax cx x A1 l1 A2 l2 b W hC_ hL_ (Kd.C_below hr1 hW) hn1 (Kd.C_below hr2 hW) hn2 hb).mono (fun e w' h => ⟨h.1, hW.trans ((h.2.below).mono hW.size)⟩)

end Go.Proofs.Ytbedlmlofnphkaa.PZ
