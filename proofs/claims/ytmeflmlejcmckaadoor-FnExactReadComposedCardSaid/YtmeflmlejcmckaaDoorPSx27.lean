-- WRITTEN BY wip/gprint.py, a program of this session's over the kit's print, with contracts given by hand
import Derived.Test.YtmeflmlejcmckaaDoorPSx0
import Derived.Test.YtmeflmlejcmckaaDoorPSx12
import Derived.Test.YtmeflmlejcmckaaDoorPSx21
namespace Go.Proofs.YtmeflmlejcmckaaDoor.PS
open Go.RowKit Go.Proofs.YtmeflmlejcmckaaDoorW.PrintWords Go.Proofs.YtmeflmlejcmckaaDoorW.PrintLast Go.Proofs.YtmeflmlejcmckaaDoorW.PrintMore
attribute [local go_sem] max2_int min2_int max_two min_two max_three min_three max_four min_four   -- for this text's walks alone
set_option linter.unusedVariables false
set_option linter.unusedSimpArgs false

/-! ### impl_syllableNamed_1: function 164 -/
def impl_syllableNamed_1.f (a0_0 : ByteArray) (a0_1 : Int) (a0_2 : Int) (l1 : List ByteArray) : Option (Bool) := some (a0_0.toList == (rdOf ByteArray.empty l1 0).toList)
set_option maxHeartbeats 8000000 in
set_option maxRecDepth 100000 in
theorem impl_syllableNamed_1.calls (a0_0 : ByteArray) (a0_1 : Int) (a0_2 : Int) (A1 : Option Addr) (l1 : List ByteArray) (r : Bool) (w : World) (hr1 : Kd.C Kd.string w A1 l1.length l1) (hn1 : 0 < l1.length) (h : impl_syllableNamed_1.f a0_0 a0_1 a0_2 l1 = some r) :
 Calls Tryd.prog 164 #[.agg #[.string a0_0, .int .i64 a0_1, .int .i64 a0_2], .pointer A1] w fun e w' => e = .returned (.bool r) ∧ Below w.heap.size w w' := by
 have hu118 := Tryd.underlying118
 have HR1 := Aside0.mk hr1
 clear hr1
 have HN1 := Aside0.mk hn1
 have hn1b0 : decide ((0 : Int) < (l1.length : Int)) = true := decide_eq_true (Int.ofNat_lt.2 hn1)
 have hn1b1 : decide (0 < l1.length) = true := decide_eq_true hn1
 clear hn1
 have HB := Aside0.mk (Below.refl w.heap.size w)
 have H : (some (a0_0.toList == (rdOf ByteArray.empty l1 0).toList)) = some r := h
 clear h
 obtain rfl := Option.some.inj H
 go_enter Tryd.func164, Tryd.ntmps164
 go_wp2_with (first | ((with_reducible refine gate_dst (N := 2) rfl ?_); refine box_event ?hg (N := 2) ?hd (cs := #[.string a0_0, .int .i64 a0_1, .int .i64 a0_2]) (t := 118) ?hr ?_; (case hd => rfl); (case hg => rfl); (case hr => first | (go_simp; done) | (go_simp; rfl)); intro gb355 hg w3 hbox hb; have BK355 := Aside0.mk (hbox); have GW355 := Aside0.mk ((by rw [hg]; exact (below_size (tH HB)) : w.heap.size ≤ gb355)); have GE355 := Aside0.mk ((by rw [hg]; exact (below_size (tH HB)) : w.heap.size ≤ gb355)); replace HB := Aside0.mk (below_step (tH HB) hb); clear hb hbox hg; have hcz4_0 : w3.cell? ⟨gb355, 0, none⟩ = some (.string a0_0) := (blk_cell BK355.out 0).trans rfl; have hcz4_1 : w3.cell? ⟨gb355, 1, none⟩ = some (.int .i64 a0_1) := (blk_cell BK355.out 1).trans rfl; have hcz4_2 : w3.cell? ⟨gb355, 2, none⟩ = some (.int .i64 a0_2) := (blk_cell BK355.out 2).trans rfl; have hfz4_0 := blk_frozen BK355.out 0; have hfz4_1 := blk_frozen BK355.out 1; have hfz4_2 := blk_frozen BK355.out 2; have p356 : 0 ≤ (0 : Int) := (by omega); have q356 : 0 < (l1.length : Int) := of_decide_eq_true tA; obtain ⟨ad356, e356, hx356_0⟩ := Kd.at_string HR1.out 0 p356 q356; cases e356; have qi356 : (0 < l1.length) = True := eq_true (by omega); (try rw [t0n] at hx356_0); (try rw [Addr.add_zero'] at hx356_0); replace hx356_0 := tW HB hx356_0; replace p356 := eq_true p356; replace q356 := eq_true q356))
 go_ret
 exact ⟨tE, tH1 HB GE355.out⟩

/-! ### slices_IndexFunc_at_impl_syllableNamed_1: function 163 at closure 164 -/
set_option maxHeartbeats 4000000 in
set_option maxRecDepth 100000 in
theorem idxf_163 (g : Nat) (lb : Array Value) (p : S118 → Option Bool) (A0 : Option Addr) (c0 : Nat) (l0 : List (S118)) (r : Int) (w : World) (hr0 : Kd.C k118 w A0 l0.length l0)
 (eg : ∀ args w, (callFunc g args).run Tryd.prog w = .ok (.enter g args) w)
 (hp : ∀ W x b, x ∈ l0 → p x = some b → Below w.heap.size w W → Calls Tryd.prog g (#[.agg #[.string x.f0, .int .i64 x.f1, .int .i64 x.f2]] ++ lb) W fun e w' => e = .returned (.bool b) ∧ Below w.heap.size w w') (h : idxO p l0 0 = some r) :
 Calls Tryd.prog 163 #[.slice A0 l0.length c0, .func (.func g) #[] lb] w fun e w' => e = .returned (.int .i64 r) ∧ Below w.heap.size w w' := by
 have hbig := hr0.2.1
 have HR0 := Aside0.mk hr0
 clear hr0
 have h' := Aside0.mk h
 clear h
 go_enter Tryd.func163, Tryd.ntmps163
 go_wp2
 go_loopg [5, 8] l0.length (fun gg _ s8 wr => ∃ kk : Nat, kk ≤ l0.length ∧ l0.length - kk ≤ gg ∧ s8 = .int .i64 kk ∧ Aside0 (Below w.heap.size w wr) ∧ Aside0 (idxO p (l0.drop kk) kk = some r))
 case atStart => exact ⟨0, Nat.zero_le _, by omega, rfl, ⟨Below.refl _ w⟩, h'⟩
 case round =>
 obtain ⟨kk, hkk, hg, rfl, BW, H⟩ := hrel
 clear h'
 by_cases hlt : kk < l0.length
 · have hltz : (kk : Int) < (l0.length : Int) := by omega
   have l1 := at_T118 HR0.out (kk : Int) (by omega) hltz
   have hmem : rd_T118 l0 kk ∈ l0 := rdm_mem l0 _ kk hlt
   obtain ⟨ad, rfl, l2_0, l2_1, l2_2⟩ := l1
   replace l2_0 := tW BW l2_0
   replace l2_1 := tW BW l2_1
   replace l2_2 := tW BW l2_2
   have H2 := idxO_at p l0 kk hlt H.out
   have hdef : l0[kk] = rd_T118 l0 kk := rdm_at l0 _ kk hlt
   rw [hdef] at H2
   clear H hdef
   obtain ⟨b, hb, H2⟩ := Option.bind_eq_some_iff.mp H2
   have hcall := hp wr (rd_T118 l0 kk) b hmem hb BW.out
   clear hp hmem hb
   try simp only [Int.toNat_natCast] at l2_0 l2_1 l2_2
   cases b with
   | true =>
    have HZ := Aside0.mk (Option.some.inj ((if_pos rfl).symm.trans H2))
    clear H2
    go_wp2_with (go_at_fn g; refine hcall.mono ?_; rintro e w' ⟨rfl, hb'⟩)
    go_ret
    exact ⟨(by rw [← HZ.out]; rfl), hb'⟩
   | false =>
   have HZ := Aside0.mk ((if_neg (by decide)).symm.trans H2)
   clear H2
   go_wp2_with (go_at_fn g; refine hcall.mono ?_; rintro e w' ⟨rfl, hb'⟩)
   go_roundg (l0.length - (kk + 1))
   case measure => omega
   case rel => exact ⟨kk + 1, by omega, by omega, by go_num, ⟨hb'⟩, HZ⟩
 have hltz : ¬ (kk : Int) < (l0.length : Int) := by omega
 have HZ := Aside0.mk (idxO_end p l0 kk (by omega) H.out)
 clear H
 go_wp2
 go_ret
 exact ⟨(by rw [← HZ.out]; rfl), BW.out⟩
def slices_IndexFunc_at_impl_syllableNamed_1.f (l0 : List (S118)) (l1 : List ByteArray) : Option Int := idxO (fun x => impl_syllableNamed_1.f x.f0 x.f1 x.f2 l1) l0 0
set_option maxHeartbeats 8000000 in
set_option maxRecDepth 100000 in
theorem slices_IndexFunc_at_impl_syllableNamed_1.calls (A0 : Option Addr) (c0 : Nat) (l0 : List (S118)) (A1 : Option Addr) (l1 : List ByteArray) (r : Int) (w : World) (hr0 : Kd.C k118 w A0 l0.length l0) (hc0 : l0.length ≤ c0) (hr1 : Kd.C Kd.string w A1 l1.length l1) (hn1 : 0 < l1.length) (h : slices_IndexFunc_at_impl_syllableNamed_1.f l0 l1 = some r) :
 Calls Tryd.prog 163 #[.slice A0 l0.length c0, .func (.func 164) #[] #[.pointer A1]] w fun e w' => e = .returned (.int .i64 r) ∧ Below w.heap.size w w' := by
 refine idxf_163 164 #[.pointer A1] (fun x => impl_syllableNamed_1.f x.f0 x.f1 x.f2 l1) A0 c0 l0 r w hr0 (enters_of Tryd.func164 (by kernel_rfl) rfl) (fun W x b _ hb hW => ?_) h
 exact (impl_syllableNamed_1.calls x.f0 x.f1 x.f2 A1 l1 b W (Kd.C_below hr1 hW) hn1 hb).mono (fun e w' h => ⟨h.1, hW.trans ((h.2).mono hW.size)⟩)

/-! ### impl_syllableNamed: function 103 -/
def impl_syllableNamed.f (l0 : List (S118)) (a1 : ByteArray) : Option (Int) := (slices_IndexFunc_at_impl_syllableNamed_1.f l0 [a1]).bind fun t358 => (some t358)
set_option maxHeartbeats 8000000 in
set_option maxRecDepth 100000 in
theorem impl_syllableNamed.calls (A0 : Option Addr) (c0 : Nat) (l0 : List (S118)) (a1 : ByteArray) (r : Int) (w : World) (hr0 : Kd.C k118 w A0 l0.length l0) (hc0 : l0.length ≤ c0) (h : impl_syllableNamed.f l0 a1 = some r) :
 Calls Tryd.prog 103 #[.slice A0 l0.length c0, .string a1] w fun e w' => e = .returned (.int .i64 r) ∧ Below w.heap.size w w' := by
 have HR0 := Aside0.mk hr0
 have HC0 := Aside0.mk hc0
 clear hr0 hc0
 have HB := Aside0.mk (Below.refl w.heap.size w)
 have H : ((slices_IndexFunc_at_impl_syllableNamed_1.f l0 [a1]).bind fun t358 => (some t358)) = some r := h
 clear h
 replace H := Option.bind_eq_some_iff.mp H
 obtain ⟨t358, A30, H⟩ := H
 replace H : (some t358) = some r := H
 have A3 := Aside0.mk A30
 clear A30
 obtain rfl := Option.some.inj H
 go_enter Tryd.func103, Tryd.ntmps103
 go_wp2_with (first | ((with_reducible refine gate_dst (N := 3) rfl ?_); refine box_event ?hg (N := 3) ?hd (cs := #[.string a1]) (t := 9) ?hr ?_; (case hd => rfl); (case hg => rfl); (case hr => first | (go_simp; done) | (go_simp; rfl)); intro gb357 hg w4 hbox hb; have BK357 := Aside0.mk (hbox); have GW357 := Aside0.mk ((by rw [hg]; exact (below_size (tH HB)) : w.heap.size ≤ gb357)); have GE357 := Aside0.mk ((by rw [hg]; exact (below_size (tH HB)) : w.heap.size ≤ gb357)); replace HB := Aside0.mk (below_step (tH HB) hb); clear hb hbox hg) | ((with_reducible refine gate_callee (f := 163) rfl ?_); refine gL_ (some 7) rfl rfl Tryd.func163 #[.slice A0 l0.length c0, .func (.func 164) #[] #[.pointer (some ⟨gb357, 0, none⟩)]] rfl ?_; (with_reducible refine (slices_IndexFunc_at_impl_syllableNamed_1.calls _ _ l0 _ [a1] t358 _ ?side1 ?side2 ?side3 ?side4 A3.out).mono ?_); (case side1 => exact tC (Kd.C_below HR0.out HB.out)); (case side2 => exact HC0.out); (case side3 => exact Kd.C_box rfl (tB BK357)); (case side4 => exact Nat.one_pos); rintro e w5 ⟨rfl, hb⟩; refine ⟨_, rfl, ?_⟩; replace BK357 := tbB BK357 hb; replace HB := Aside0.mk (below_step (tH1 HB GE357.out) hb); (try clear hb); (try clear hb2); (try clear hk); (try clear hi)))
 go_ret
 exact ⟨tE, tH1 HB GE357.out⟩

/-! ### impl_composedOk: function 165 -/
def impl_composedOk.f (l0 : List (S118)) (l1 : List Int) : Option (Bool) := if (l1.length : Int) ≤ 64 then ((impl_allWithin.f l1 0 (wrap64 ((l0.length : Int) - 1))).bind fun t359 => (some t359)) else (some false)
set_option maxHeartbeats 8000000 in
set_option maxRecDepth 100000 in
theorem impl_composedOk.calls (A0 : Option Addr) (c0 : Nat) (l0 : List (S118)) (A1 : Option Addr) (c1 : Nat) (l1 : List Int) (r : Bool) (w : World) (hr0 : Kd.C k118 w A0 l0.length l0) (hc0 : l0.length ≤ c0) (hr1 : Kd.C (Kd.int .i64) w A1 l1.length l1) (hc1 : l1.length ≤ c1) (h : impl_composedOk.f l0 l1 = some r) :
 Calls Tryd.prog 165 #[.slice A0 l0.length c0, .slice A1 l1.length c1] w fun e w' => e = .returned (.bool r) ∧ Below w.heap.size w w' := by
 have HR0 := Aside0.mk hr0
 have HC0 := Aside0.mk hc0
 clear hr0 hc0
 have HR1 := Aside0.mk hr1
 have HC1 := Aside0.mk hc1
 clear hr1 hc1
 have HB := Aside0.mk (Below.refl w.heap.size w)
 have H : (if (l1.length : Int) ≤ 64 then ((impl_allWithin.f l1 0 (wrap64 ((l0.length : Int) - 1))).bind fun t359 => (some t359)) else (some false)) = some r := h
 clear h
 by_cases c3 : (l1.length : Int) ≤ 64
 · rw [if_pos c3] at H
   have c3b0 : decide ((l1.length : Int) ≤ 64) = true := decide_eq_true c3
   have c3b1 : decide (l1.length ≤ 64) = true := decide_eq_true (by omega)
   clear c3
   replace H := Option.bind_eq_some_iff.mp H
   obtain ⟨t359, A40, H⟩ := H
   replace H : (some t359) = some r := H
   have A4 := Aside0.mk A40
   clear A40
   obtain rfl := Option.some.inj H
   go_enter Tryd.func165, Tryd.ntmps165
   go_wp2_with (first | (go_at_call 160; (with_reducible refine (impl_allWithin.calls _ _ l1 0 (wrap64 ((l0.length : Int) - 1)) t359 _ ?side1 ?side2 A4.out).mono ?_); (case side1 => exact tC HR1.out); (case side2 => exact HC1.out); rintro e w5 ⟨rfl, hb⟩; replace HB := Aside0.mk (below_step (tH HB) hb); (try clear hb); (try clear hb2); (try clear hk); (try clear hi)))
   go_ret
   exact ⟨tE, tH HB⟩
 rw [if_neg c3] at H
 have c3b0 : decide ((l1.length : Int) ≤ 64) = false := decide_eq_false c3
 have c3b1 : decide (l1.length ≤ 64) = false := decide_eq_false (by omega)
 clear c3
 obtain rfl := Option.some.inj H
 go_enter Tryd.func165, Tryd.ntmps165
 go_wp2
 go_ret
 exact ⟨tE, tH HB⟩

/-! ### impl_composedCode: function 104 -/
def impl_composedCode.f (k : Nat) (l0 : List (S118)) (l1 : List Int) : Option (Int) := (impl_ValidSyllables.f k l0).bind fun t360 => (if t360 = true then ((impl_composedOk.f l0 l1).bind fun t361 => (if t361 = true then (some 0) else (some 7))) else (some 1))
theorem impl_composedCode.mono : ∀ a0 a1 k, LeO (impl_composedCode.f k a0 a1) (impl_composedCode.f (k + 1) a0 a1) := by
 intro a0 a1 k
 unfold impl_composedCode.f
 repeat' first
  | (with_reducible exact impl_ValidSyllables.mono _ _)
  | (with_reducible exact LeO.refl _)
  | (with_reducible exact LeO.none _)
  | (with_reducible refine LeO.ite ?_ ?_)
  | (with_reducible refine LeO.bind ?_ (fun _ => ?_))
  | exact impl_ValidSyllables.mono _ _
  | exact LeO.none _
  | refine LeO.ite ?_ ?_
  | refine LeO.bind ?_ (fun _ => ?_)
set_option maxHeartbeats 8000000 in
set_option maxRecDepth 100000 in
theorem impl_composedCode.calls (k : Nat) (A0 : Option Addr) (c0 : Nat) (l0 : List (S118)) (A1 : Option Addr) (c1 : Nat) (l1 : List Int) (r : Int) (w : World) (hr0 : Kd.C k118 w A0 l0.length l0) (hc0 : l0.length ≤ c0) (hr1 : Kd.C (Kd.int .i64) w A1 l1.length l1) (hc1 : l1.length ≤ c1) (h : impl_composedCode.f k l0 l1 = some r) :
 Calls Tryd.prog 104 #[.slice A0 l0.length c0, .slice A1 l1.length c1] w fun e w' => e = .returned (.int .i64 r) ∧ Below w.heap.size w w' := by
 have HR0 := Aside0.mk hr0
 have HC0 := Aside0.mk hc0
 clear hr0 hc0
 have HR1 := Aside0.mk hr1
 have HC1 := Aside0.mk hc1
 clear hr1 hc1
 have HB := Aside0.mk (Below.refl w.heap.size w)
 have H : ((impl_ValidSyllables.f k l0).bind fun t360 => (if t360 = true then ((impl_composedOk.f l0 l1).bind fun t361 => (if t361 = true then (some 0) else (some 7))) else (some 1))) = some r := h
 clear h
 replace H := Option.bind_eq_some_iff.mp H
 obtain ⟨t360, A30, H⟩ := H
 replace H : (if t360 = true then ((impl_composedOk.f l0 l1).bind fun t361 => (if t361 = true then (some 0) else (some 7))) else (some 1)) = some r := H
 have A3 := Aside0.mk A30
 clear A30
 by_cases c4 : t360 = true
 · subst c4
   have H1 : ((impl_composedOk.f l0 l1).bind fun t361 => (if t361 = true then (some 0) else (some 7))) = some r := by rw [if_pos rfl] at H; exact H
   clear H
   have H := H1
   clear H1
   replace H := Option.bind_eq_some_iff.mp H
   obtain ⟨t361, A50, H⟩ := H
   replace H : (if t361 = true then (some 0) else (some 7)) = some r := H
   have A5 := Aside0.mk A50
   clear A50
   by_cases c6 : t361 = true
   · subst c6
     have H1 : (some 0) = some r := by rw [if_pos rfl] at H; exact H
     clear H
     have H := H1
     clear H1
     obtain rfl := Option.some.inj H
     go_enter Tryd.func104, Tryd.ntmps104
     go_wp2_with (first | ((with_reducible refine gate_callee (f := 91) rfl ?_); refine gL_ (some 7) rfl rfl Tryd.func91 #[.slice A0 l0.length c0] rfl ?_; (with_reducible refine (impl_ValidSyllables.calls k _ _ l0 true _ ?side1 ?side2 A3.out).mono ?_); (case side1 => exact tC HR0.out); (case side2 => exact HC0.out); rintro e w7 ⟨rfl, hb⟩; refine ⟨_, rfl, ?_⟩; replace HB := Aside0.mk (below_step (tH HB) hb); (try clear hb); (try clear hb2); (try clear hk); (try clear hi)) | ((with_reducible refine gate_callee (f := 165) rfl ?_); refine gL_ (some 12) rfl rfl Tryd.func165 #[.slice A0 l0.length c0, .slice A1 l1.length c1] rfl ?_; (with_reducible refine (impl_composedOk.calls _ _ l0 _ _ l1 true _ ?side1 ?side2 ?side3 ?side4 A5.out).mono ?_); (case side1 => exact tC (Kd.C_below HR0.out HB.out)); (case side2 => exact HC0.out); (case side3 => exact tC (Kd.C_below HR1.out HB.out)); (case side4 => exact HC1.out); rintro e w8 ⟨rfl, hb⟩; refine ⟨_, rfl, ?_⟩; replace HB := Aside0.mk (below_step (tH HB) hb); (try clear hb); (try clear hb2); (try clear hk); (try clear hi)))
     go_ret
     exact ⟨tE, tH HB⟩
   replace c6 := Bool.eq_false_iff.mpr c6
   subst c6
   have H1 : (some 7) = some r := by rw [if_neg (show ¬ (false = true) by decide)] at H; exact H
   clear H
   have H := H1
   clear H1
   obtain rfl := Option.some.inj H
   go_enter Tryd.func104, Tryd.ntmps104
   go_wp2_with (first | ((with_reducible refine gate_callee (f := 91) rfl ?_); refine gL_ (some 7) rfl rfl Tryd.func91 #[.slice A0 l0.length c0] rfl ?_; (with_reducible refine (impl_ValidSyllables.calls k _ _ l0 true _ ?side1 ?side2 A3.out).mono ?_); (case side1 => exact tC HR0.out); (case side2 => exact HC0.out); rintro e w9 ⟨rfl, hb⟩; refine ⟨_, rfl, ?_⟩; replace HB := Aside0.mk (below_step (tH HB) hb); (try clear hb); (try clear hb2); (try clear hk); (try clear hi)) | ((with_reducible refine gate_callee (f := 165) rfl ?_); refine gL_ (some 12) rfl rfl Tryd.func165 #[.slice A0 l0.length c0, .slice A1 l1.length c1] rfl ?_; (with_reducible refine (impl_composedOk.calls _ _ l0 _ _ l1 false _ ?side1 ?side2 ?side3 ?side4 A5.out).mono ?_); (case side1 => exact tC (Kd.C_below HR0.out HB.out)); (case side2 => exact HC0.out); (case side3 => exact tC (Kd.C_below HR1.out HB.out)); (case side4 => exact HC1.out); rintro e w10 ⟨rfl, hb⟩; refine ⟨_, rfl, ?_⟩; replace HB := Aside0.mk (below_step (tH HB) hb); (try clear hb); (try clear hb2); (try clear hk); (try clear hi)))
   go_ret
   exact ⟨tE, tH HB⟩
 replace c4 := Bool.eq_false_iff.mpr c4
 subst c4
 have H1 : (some 1) = some r := by rw [if_neg (show ¬ (false = true) by decide)] at H; exact H
 clear H
 have H := H1
 clear H1
 obtain rfl := Option.some.inj H
 go_enter Tryd.func104, Tryd.ntmps104
 go_wp2_with (first | ((with_reducible refine gate_callee (f := 91) rfl ?_); refine gL_ (some 7) rfl rfl Tryd.func91 #[.slice A0 l0.length c0] rfl ?_; (with_reducible refine (impl_ValidSyllables.calls k _ _ l0 false _ ?side1 ?side2 A3.out).mono ?_); (case side1 => exact tC HR0.out); (case side2 => exact HC0.out); rintro e w11 ⟨rfl, hb⟩; refine ⟨_, rfl, ?_⟩; replace HB := Aside0.mk (below_step (tH HB) hb); (try clear hb); (try clear hb2); (try clear hk); (try clear hi)))
 go_ret
 exact ⟨tE, tH HB⟩

end Go.Proofs.YtmeflmlejcmckaaDoor.PS
