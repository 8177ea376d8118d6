-- WRITTEN BY wip/gprint.py, a program of this session's over the kit's print, with contracts given by hand
import Derived.Test.YtbedlmlofnphkaaPOx0
import Derived.Test.YtbedlmlofnphkaaPOx4
namespace Go.Proofs.Ytbedlmlofnphkaa.PO
open Go.RowKit Go.Proofs.YtbedlmlofnphkaaW.PrintWords Go.Proofs.YtbedlmlofnphkaaW.PrintLast Go.Proofs.YtbedlmlofnphkaaW.PrintMore
attribute [local go_sem] max2_int min2_int max_two min_two max_three min_three max_four min_four   -- for this text's walks alone
set_option linter.unusedVariables false
set_option linter.unusedSimpArgs false

/-! ### impl_ToneNamed: function 60 (a contract given by hand) -/
def lays143_ren : Go.Shelf.Ren := ⟨fun | 143 => 161 | 219 => 244 | 217 => 290 | 225 => 291 | 224 => 292 | 267 => 293 | 266 => 312 | 314 => 313 | n => n, fun | 9 => 9 | 3 => 3 | 4 => 4 | 5 => 5 | 46 => 223 | 146 => 277 | 51 => 257 | n => n, fun | 1 => 0 | n => n⟩
theorem lays143 : Lays.n143 Try.prog lays143_ren := { mixed := by kernel_rfl, f143 := Try.func161.trans (congrArg some (by kernel_rfl)), f217 := Try.func290.trans (congrArg some (by kernel_rfl)), f219 := Try.func244.trans (congrArg some (by kernel_rfl)), f224 := Try.func292.trans (congrArg some (by kernel_rfl)), f225 := Try.func291.trans (congrArg some (by kernel_rfl)), f266 := Try.func312.trans (congrArg some (by kernel_rfl)), f267 := Try.func293.trans (congrArg some (by kernel_rfl)), f314 := Try.func313.trans (congrArg some (by kernel_rfl)), t3 := Try.underlying3, a3 := Try.isAgg3, z3 := Try.sizeOf3, v3 := Try.zeroValue3, t4 := Try.underlying4, a4 := Try.isAgg4, z4 := Try.sizeOf4, v4 := Try.zeroValue4, t5 := Try.underlying5, a5 := Try.isAgg5, z5 := Try.sizeOf5, v5 := Try.zeroValue5, t9 := Try.underlying9, a9 := Try.isAgg9, z9 := Try.sizeOf9, v9 := Try.zeroValue9, t46 := Try.underlying223, a46 := Try.isAgg223, z46 := Try.sizeOf223, v46 := Try.zeroValue223, t51 := Try.underlying257, a51 := Try.isAgg257, z51 := Try.sizeOf257, v51 := Try.zeroValue257, t146 := Try.underlying277, a146 := Try.isAgg277, z146 := Try.sizeOf277, v146 := Try.zeroValue277, g1 := by kernel_rfl }
def toneNames_ : ByteArray := ⟨#[83, 114, 82, 103, 71, 109, 77, 80, 100, 68, 110, 78]⟩
/-- The place of a byte among the names, or -1. -/
def toneIx_ (c : UInt8) : Int := Go.Lib.indexByte toneNames_.data.toList c
def impl_ToneNamed.f (a0 : ByteArray) : Option (Int × Bool) := if h : a0.size = 1 then some (if toneIx_ (a0[0]'(by omega)) < 0 then (0, false) else (toneIx_ (a0[0]'(by omega)), true)) else none
set_option maxHeartbeats 8000000 in
set_option maxRecDepth 100000 in
theorem impl_ToneNamed.calls (a0 : ByteArray) (r1 : Int) (r2 : Bool) (w : World) (h : impl_ToneNamed.f a0 = some (r1, r2)) :
 Calls Try.prog 60 #[.string a0] w fun e w' => e = .returned (.tuple #[.int .i64 r1, .bool r2]) ∧ Drawn0 w w' := by
 unfold impl_ToneNamed.f at h
 by_cases hs : a0.size = 1
 · rw [dif_pos hs] at h
   have ea : a0 = ⟨#[a0[0]'(by omega)]⟩ := by
    cases a0 with
    | mk d =>
    have hd : d.size = 1 := hs
    obtain ⟨l⟩ := d
    match l, hd with
    | [c], _ => rfl
   generalize a0[0]'(by omega) = c at h ea
   subst ea
   have hcall := Any.strings_Index_one lays143 toneNames_ c w
   change Calls Try.prog 161 #[.string toneNames_, .string ⟨#[c]⟩] w _ at hcall
   have hi : Go.Lib.indexByte toneNames_.data.toList c = toneIx_ c := rfl
   rw [hi] at hcall
   have hn : toneNames_ = ⟨#[83, 114, 82, 103, 71, 109, 77, 80, 100, 68, 110, 78]⟩ := rfl
   rw [hn] at hcall
   generalize toneIx_ c = i at h hcall
   have hz : (⟨#[c]⟩ : ByteArray).size = 1 := rfl
   generalize (⟨#[c]⟩ : ByteArray) = s at hcall hz ⊢
   by_cases hi0 : i < 0
   · rw [if_pos hi0] at h
     injection h with h
     injection h with h1 h2
     subst h1; subst h2
     go_enter Try.func60, Try.ntmps60
     go_wp2_with (go_at_call 161; refine hcall.mono ?_; rintro e w' ⟨rfl, rfl⟩)
     go_ret2
     exact ⟨by first | rfl | (simp; done) | (simp [*]; done), tZ⟩
   rw [if_neg hi0] at h
   injection h with h
   injection h with h1 h2
   subst h1; subst h2
   go_enter Try.func60, Try.ntmps60
   go_wp2_with (go_at_call 161; refine hcall.mono ?_; rintro e w' ⟨rfl, rfl⟩)
   go_ret2
   exact ⟨by first | rfl | (simp; done) | (simp [*]; done), tZ⟩
 rw [dif_neg hs] at h; cases h

/-! ### impl_ReadScale: function 51 -/
def impl_ReadScale.l0 : Nat → ByteArray → List Int → Int → Int → Option (List Int × Bool)
 | 0, _, _, _, _ => none
 | k + 1, x0, x4, x9, x10 => if x10 < x9 then (if 0 ≤ x10 then (if x10 ≤ (wrap64 (x10 + 1)) then (if (wrap64 (x10 + 1)) ≤ (x0.size : Int) then ((impl_ToneNamed.f (x0.extract (x10 : Int).toNat ((wrap64 (x10 + 1)) : Int).toNat)).bind fun bt182 => (if bt182.2 = true then (if x4.length < 17592186044416 then (impl_ReadScale.l0 k x0 (x4 ++ [bt182.1]) x9 (wrap64 (x10 + 1))) else (none)) else (some (([] : List Int), false)))) else (none)) else (none)) else (none)) else ((impl_ValidScale.f k x4).bind fun t187 => (if t187 = true then (some (x4, true)) else (some (([] : List Int), false))))
def impl_ReadScale.f (k : Nat) (a0 : ByteArray) : Option (List Int × Bool) := impl_ReadScale.l0 k a0 ([] : List Int) (a0.size : Int) 0
theorem impl_ReadScale.mono_l : ∀ k, (∀ y0 y1 y2 y3, LeO (impl_ReadScale.l0 k y0 y1 y2 y3) (impl_ReadScale.l0 (k + 1) y0 y1 y2 y3))
 | 0 => fun _ _ _ _ r h => by simp [impl_ReadScale.l0] at h
 | k + 1 => by
  have ih0 := impl_ReadScale.mono_l k
  · intro y0 y1 y2 y3
    unfold impl_ReadScale.l0
    repeat' first
    | (with_reducible exact ih0 _ _ _ _)
    | (with_reducible exact impl_ValidScale.mono _ _)
    | (with_reducible exact LeO.refl _)
    | (with_reducible exact LeO.none _)
    | (with_reducible refine LeO.ite ?_ ?_)
    | (with_reducible refine LeO.bind ?_ (fun _ => ?_))
    | exact ih0 _ _ _ _
    | exact impl_ValidScale.mono _ _
    | exact LeO.none _
    | refine LeO.ite ?_ ?_
    | refine LeO.bind ?_ (fun _ => ?_)
theorem impl_ReadScale.mono : ∀ a0 k, LeO (impl_ReadScale.f k a0) (impl_ReadScale.f (k + 1) a0) := by
 intro a0 k
 have ih0 := impl_ReadScale.mono_l k
 unfold impl_ReadScale.f
 repeat' first
  | (with_reducible exact ih0 _ _ _ _)
  | (with_reducible exact impl_ValidScale.mono _ _)
  | (with_reducible exact LeO.refl _)
  | (with_reducible exact LeO.none _)
  | (with_reducible refine LeO.ite ?_ ?_)
  | (with_reducible refine LeO.bind ?_ (fun _ => ?_))
  | exact ih0 _ _ _ _
  | exact impl_ValidScale.mono _ _
  | exact LeO.none _
  | refine LeO.ite ?_ ?_
  | refine LeO.bind ?_ (fun _ => ?_)
set_option maxHeartbeats 8000000 in
set_option maxRecDepth 100000 in
theorem impl_ReadScale.calls (k : Nat) (a0 : ByteArray) (r1 : List Int) (r2 : Bool) (w : World) (h : impl_ReadScale.f k a0 = some (r1, r2)) :
 Calls Try.prog 51 #[.string a0] w fun e w' => ∃ v0_ : Value, e = .returned (.tuple #[v0_, .bool r2]) ∧ Kd.R (Kd.int .i64) 2 w' w.heap.size (fun _ => True) v0_ r1 ∧ Below w.heap.size w w' := by
 have HB := Aside0.mk (Below.refl w.heap.size w)
 have H : (impl_ReadScale.l0 k a0 ([] : List Int) (a0.size : Int) 0) = some (r1, r2) := h
 clear h
 have H' := Aside0.mk H
 clear H
 go_enter Try.func51, Try.ntmps51
 go_wp2
 go_loopg [4, 10] k (fun kq v4 v10 w' => ∃ (x4_1 : List Int) (x10_1 : Int), v10 = .int .i64 x10_1 ∧ Aside0 (impl_ReadScale.l0 kq a0 x4_1 (a0.size : Int) x10_1 = some (r1, r2)) ∧ Aside0 (kq ≤ k) ∧ Aside0 (Kd.R (Kd.int .i64) 2 w' w.heap.size (fun _ => True) v4 x4_1) ∧ Aside0 (Below w.heap.size w w'))
 case atStart => exact ⟨(([] : List Int)), (0), tq, H', ⟨Nat.le_refl _⟩, ⟨by first | exact Kd.R_nil _ _ _ _ _ | exact Kd.N_nil _ _ _ _ _ | exact Kd.V_nil _ _ _ _ _ | exact Kd.Q_nil _ _ _ _ _ | exact Kd.S_nil _ _ _ _ _⟩, ⟨tH HB⟩⟩
 case round =>
 clear H'
 obtain ⟨x4_1, x10_1, rfl, HA, HK1, HO_4, HB⟩ := hrel
 cases gk with
 | zero => exact absurd HA.out (by simp [impl_ReadScale.l0])
 | succ k1 =>
 have H := HA.out
 clear HA
 simp only [impl_ReadScale.l0] at H
 by_cases c2 : x10_1 < (a0.size : Int)
 · rw [if_pos c2] at H
   have c2b0 : decide (x10_1 < (a0.size : Int)) = true := decide_eq_true c2
   clear c2
   by_cases c3 : 0 ≤ x10_1
   · rw [if_pos c3] at H
     have c3b0 := eq_true c3
     have c3b1 : decide (0 ≤ x10_1) = true := decide_eq_true c3
     clear c3
     by_cases c4 : x10_1 ≤ (wrap64 (x10_1 + 1))
     · rw [if_pos c4] at H
       have c4b0 := eq_true c4
       have c4b1 : decide (x10_1 ≤ (wrap64 (x10_1 + 1))) = true := decide_eq_true c4
       by_cases c5 : (wrap64 (x10_1 + 1)) ≤ (a0.size : Int)
       · rw [if_pos c5] at H
         have c5b0 := eq_true c5
         have c5b1 : decide ((wrap64 (x10_1 + 1)) ≤ (a0.size : Int)) = true := decide_eq_true c5
         replace H := Option.bind_eq_some_iff.mp H
         obtain ⟨⟨t182, t183⟩, A60, H⟩ := H
         replace H : (if t183 = true then (if x4_1.length < 17592186044416 then (impl_ReadScale.l0 k1 a0 (x4_1 ++ [t182]) (a0.size : Int) (wrap64 (x10_1 + 1))) else (none)) else (some (([] : List Int), false))) = some (r1, r2) := H
         have A6 := Aside0.mk A60
         clear A60
         by_cases c7 : t183 = true
         · subst c7
           have H1 : (if x4_1.length < 17592186044416 then (impl_ReadScale.l0 k1 a0 (x4_1 ++ [t182]) (a0.size : Int) (wrap64 (x10_1 + 1))) else (none)) = some (r1, r2) := by rw [if_pos rfl] at H; exact H
           clear H
           have H := H1
           clear H1
           by_cases c8 : x4_1.length < 17592186044416
           · rw [if_pos c8] at H
             have LMc8 := Aside0.mk c8
             clear c8
             obtain ⟨y184, hy184⟩ : ∃ y_ : List Int, y_ = (x4_1 ++ [t182]) := ⟨_, rfl⟩
             replace H : (impl_ReadScale.l0 k1 a0 y184 (a0.size : Int) (wrap64 (x10_1 + 1))) = some (r1, r2) := by first | (rw [hy184]; with_reducible exact H) | (have H2_ := (Option.bind_some _ _).symm.trans H; rw [hy184]; with_reducible exact H2_) | (have H2_ := (Option.bind_some _ _).symm.trans H; with_reducible exact H2_) | with_reducible exact H | (rw [hy184]; exact H) | exact H
             have Ny184 := Aside0.mk hy184
             clear hy184
             have H' := Aside0.mk H
             clear H
             go_wp2_with (first | ((with_reducible refine gate_callee (f := 60) rfl ?_); refine gL_ (some 19) rfl rfl Try.func60 #[.string (a0.extract (x10_1 : Int).toNat ((wrap64 (x10_1 + 1)) : Int).toNat)] rfl ?_; (with_reducible refine (impl_ToneNamed.calls (a0.extract (x10_1 : Int).toNat ((wrap64 (x10_1 + 1)) : Int).toNat) t182 true _ A6.out).mono ?_); rintro e w' ⟨rfl, ⟨nd, rfl⟩⟩; refine ⟨_, rfl, ?_⟩) | ((with_reducible refine gate_builtin (b := .append) (xs := #[.tmp 24, .tmp 26]) rfl ?_); at_builtin; refine Kd.R_append (Kd.int .i64) (w0 := w) w.heap.size rfl (.tmp 24) (.tmp 26) 24 2 (.int .i64 0) 8 rfl Try.underlying24 info2 rfl (by decide) (by omega) u4 x4_1 t182 [.int .i64 t182] (fun _ => True) (fun _ => False) rfl rfl ?aP (fun _ hk => hk.elim) ?aF ?aO ?aB ?aS ?aL ?_; (case aP => exact rfl); (case aB => exact (tH HB)); (case aF => exact (fun _ _ => trivial)); (case aO => exact (tR HO_4)); (case aS => exact (below_size (tH HB))); (case aL => have := LMc8.out; omega); intro v185 w9 ho hb hg hat; rw [← Ny184.out] at ho; replace HB := Aside0.mk (hb); have HO186 := Aside0.mk (ho); clear HO_4; clear ho hb hg hat))
             go_roundg k1
             case measure => have := HK1.out; omega
             case rel => exact ⟨(y184), (wrap64 (x10_1 + 1)), tq, H', ⟨by have := HK1.out; omega⟩, ⟨tR HO186⟩, ⟨tH HB⟩⟩
           rw [if_neg c8] at H
           exact absurd H (by simp)
         replace c7 := Bool.eq_false_iff.mpr c7
         subst c7
         have H1 : (some (([] : List Int), false)) = some (r1, r2) := by rw [if_neg (show ¬ (false = true) by decide)] at H; exact H
         clear H
         have H := H1
         clear H1
         simp only [Option.some.injEq, Prod.mk.injEq] at H
         obtain ⟨rfl, rfl⟩ := H
         go_wp2_with (first | ((with_reducible refine gate_callee (f := 60) rfl ?_); refine gL_ (some 19) rfl rfl Try.func60 #[.string (a0.extract (x10_1 : Int).toNat ((wrap64 (x10_1 + 1)) : Int).toNat)] rfl ?_; (with_reducible refine (impl_ToneNamed.calls (a0.extract (x10_1 : Int).toNat ((wrap64 (x10_1 + 1)) : Int).toNat) t182 false _ A6.out).mono ?_); rintro e w' ⟨rfl, ⟨nd, rfl⟩⟩; refine ⟨_, rfl, ?_⟩))
         go_ret2
         exact ⟨_, tE, by first | exact Kd.R_nil _ _ _ _ _ | exact Kd.N_nil _ _ _ _ _ | exact Kd.V_nil _ _ _ _ _ | exact Kd.Q_nil _ _ _ _ _ | exact Kd.S_nil _ _ _ _ _, tH HB⟩
       rw [if_neg c5] at H
       exact absurd H (by simp)
     rw [if_neg c4] at H
     exact absurd H (by simp)
   rw [if_neg c3] at H
   exact absurd H (by simp)
 rw [if_neg c2] at H
 have c2b0 : decide (x10_1 < (a0.size : Int)) = false := decide_eq_false c2
 clear c2
 replace H := Option.bind_eq_some_iff.mp H
 obtain ⟨t187, A100, H⟩ := H
 replace H : (if t187 = true then (some (x4_1, true)) else (some (([] : List Int), false))) = some (r1, r2) := H
 have A10 := Aside0.mk A100
 clear A100
 by_cases c11 : t187 = true
 · subst c11
   have H1 : (some (x4_1, true)) = some (r1, r2) := by rw [if_pos rfl] at H; exact H
   clear H
   have H := H1
   clear H1
   simp only [Option.some.injEq, Prod.mk.injEq] at H
   obtain ⟨rfl, rfl⟩ := H
   obtain ⟨Ao12, co12, eo12⟩ := Kd.R_slice HO_4.out
   subst eo12
   go_wp2_with (first | ((with_reducible refine gate_callee (f := 156) rfl ?_); refine gL_ (some 30) rfl rfl Try.func156 #[.slice Ao12 x4_1.length co12] rfl ?_; (with_reducible refine (impl_ValidScale.calls k1 _ _ x4_1 true _ ?side1 ?side2 A10.out).mono ?_); (case side1 => exact tC (Kd.R_reads' HO_4.out).2.2); (case side2 => exact (Kd.R_reads' HO_4.out).2.1); rintro e w' ⟨rfl, ⟨nd, rfl⟩⟩; refine ⟨_, rfl, ?_⟩))
   go_ret2
   exact ⟨_, tE, tR HO_4, tH HB⟩
 replace c11 := Bool.eq_false_iff.mpr c11
 subst c11
 have H1 : (some (([] : List Int), false)) = some (r1, r2) := by rw [if_neg (show ¬ (false = true) by decide)] at H; exact H
 clear H
 have H := H1
 clear H1
 simp only [Option.some.injEq, Prod.mk.injEq] at H
 obtain ⟨rfl, rfl⟩ := H
 obtain ⟨Ao13, co13, eo13⟩ := Kd.R_slice HO_4.out
 subst eo13
 go_wp2_with (first | ((with_reducible refine gate_callee (f := 156) rfl ?_); refine gL_ (some 30) rfl rfl Try.func156 #[.slice Ao13 x4_1.length co13] rfl ?_; (with_reducible refine (impl_ValidScale.calls k1 _ _ x4_1 false _ ?side1 ?side2 A10.out).mono ?_); (case side1 => exact tC (Kd.R_reads' HO_4.out).2.2); (case side2 => exact (Kd.R_reads' HO_4.out).2.1); rintro e w' ⟨rfl, ⟨nd, rfl⟩⟩; refine ⟨_, rfl, ?_⟩))
 go_ret2
 exact ⟨_, tE, by first | exact Kd.R_nil _ _ _ _ _ | exact Kd.N_nil _ _ _ _ _ | exact Kd.V_nil _ _ _ _ _ | exact Kd.Q_nil _ _ _ _ _ | exact Kd.S_nil _ _ _ _ _, tH HB⟩

/-! ### impl_toneOk: function 162 -/
def impl_toneOk.f (a0 : Int) : Option (Bool) := (impl_within.f a0 0 11).bind fun t188 => (some t188)
set_option maxHeartbeats 8000000 in
set_option maxRecDepth 100000 in
theorem impl_toneOk.calls (a0 : Int) (r : Bool) (w : World) (h : impl_toneOk.f a0 = some r) :
 Calls Try.prog 162 #[.int .i64 a0] w fun e w' => e = .returned (.bool r) ∧ Drawn0 w w' := by
 have H : ((impl_within.f a0 0 11).bind fun t188 => (some t188)) = some r := h
 clear h
 replace H := Option.bind_eq_some_iff.mp H
 obtain ⟨t188, A20, H⟩ := H
 replace H : (some t188) = some r := H
 have A2 := Aside0.mk A20
 clear A20
 obtain rfl := Option.some.inj H
 go_enter Try.func162, Try.ntmps162
 go_wp2_with (first | ((with_reducible refine gate_callee (f := 117) rfl ?_); refine gL_ (some 4) rfl rfl Try.func117 #[.int .i64 a0, .int .i64 0, .int .i64 11] rfl ?_; (with_reducible refine (impl_within.calls a0 0 11 t188 _ A2.out).mono ?_); rintro e w' ⟨rfl, ⟨nd, rfl⟩⟩; refine ⟨_, rfl, ?_⟩))
 go_ret
 exact ⟨by first | rfl | (simp; done) | (simp [*]; done), tZ⟩

/-! ### impl_ToneName: function 61 -/
def impl_ToneName.f (a0 : Int) : Option (ByteArray) := (impl_toneOk.f a0).bind fun t189 => (if t189 = true then (if 0 ≤ a0 then (if a0 ≤ (wrap64 (a0 + 1)) then (if (wrap64 (a0 + 1)) ≤ 12 then (some ((⟨#[83, 114, 82, 103, 71, 109, 77, 80, 100, 68, 110, 78]⟩ : ByteArray).extract (a0 : Int).toNat ((wrap64 (a0 + 1)) : Int).toNat)) else (none)) else (none)) else (none)) else (some (⟨#[]⟩ : ByteArray)))
set_option maxHeartbeats 8000000 in
set_option maxRecDepth 100000 in
theorem impl_ToneName.calls (a0 : Int) (r : ByteArray) (w : World) (h : impl_ToneName.f a0 = some r) :
 Calls Try.prog 61 #[.int .i64 a0] w fun e w' => e = .returned (.string r) ∧ Drawn0 w w' := by
 have H : ((impl_toneOk.f a0).bind fun t189 => (if t189 = true then (if 0 ≤ a0 then (if a0 ≤ (wrap64 (a0 + 1)) then (if (wrap64 (a0 + 1)) ≤ 12 then (some ((⟨#[83, 114, 82, 103, 71, 109, 77, 80, 100, 68, 110, 78]⟩ : ByteArray).extract (a0 : Int).toNat ((wrap64 (a0 + 1)) : Int).toNat)) else (none)) else (none)) else (none)) else (some (⟨#[]⟩ : ByteArray)))) = some r := h
 clear h
 replace H := Option.bind_eq_some_iff.mp H
 obtain ⟨t189, A20, H⟩ := H
 replace H : (if t189 = true then (if 0 ≤ a0 then (if a0 ≤ (wrap64 (a0 + 1)) then (if (wrap64 (a0 + 1)) ≤ 12 then (some ((⟨#[83, 114, 82, 103, 71, 109, 77, 80, 100, 68, 110, 78]⟩ : ByteArray).extract (a0 : Int).toNat ((wrap64 (a0 + 1)) : Int).toNat)) else (none)) else (none)) else (none)) else (some (⟨#[]⟩ : ByteArray))) = some r := H
 have A2 := Aside0.mk A20
 clear A20
 by_cases c3 : t189 = true
 · subst c3
   have H1 : (if 0 ≤ a0 then (if a0 ≤ (wrap64 (a0 + 1)) then (if (wrap64 (a0 + 1)) ≤ 12 then (some ((⟨#[83, 114, 82, 103, 71, 109, 77, 80, 100, 68, 110, 78]⟩ : ByteArray).extract (a0 : Int).toNat ((wrap64 (a0 + 1)) : Int).toNat)) else (none)) else (none)) else (none)) = some r := by rw [if_pos rfl] at H; exact H
   clear H
   have H := H1
   clear H1
   by_cases c4 : 0 ≤ a0
   · rw [if_pos c4] at H
     have c4b0 := eq_true c4
     have c4b1 : decide (0 ≤ a0) = true := decide_eq_true c4
     clear c4
     by_cases c5 : a0 ≤ (wrap64 (a0 + 1))
     · rw [if_pos c5] at H
       have c5b0 := eq_true c5
       have c5b1 : decide (a0 ≤ (wrap64 (a0 + 1))) = true := decide_eq_true c5
       by_cases c6 : (wrap64 (a0 + 1)) ≤ 12
       · rw [if_pos c6] at H
         have c6b0 := eq_true c6
         have c6b1 : decide ((wrap64 (a0 + 1)) ≤ 12) = true := decide_eq_true c6
         obtain rfl := Option.some.inj H
         go_enter Try.func61, Try.ntmps61
         go_wp2_with (first | ((with_reducible refine gate_callee (f := 162) rfl ?_); refine gL_ (some 4) rfl rfl Try.func162 #[.int .i64 a0] rfl ?_; (with_reducible refine (impl_toneOk.calls a0 true _ A2.out).mono ?_); rintro e w' ⟨rfl, ⟨nd, rfl⟩⟩; refine ⟨_, rfl, ?_⟩))
         go_ret
         exact ⟨by first | rfl | (simp; done) | (simp [*]; done), tZ⟩
       rw [if_neg c6] at H
       exact absurd H (by simp)
     rw [if_neg c5] at H
     exact absurd H (by simp)
   rw [if_neg c4] at H
   exact absurd H (by simp)
 replace c3 := Bool.eq_false_iff.mpr c3
 subst c3
 have H1 : (some (⟨#[]⟩ : ByteArray)) = some r := by rw [if_neg (show ¬ (false = true) by decide)] at H; exact H
 clear H
 have H := H1
 clear H1
 obtain rfl := Option.some.inj H
 go_enter Try.func61, Try.ntmps61
 go_wp2_with (first | ((with_reducible refine gate_callee (f := 162) rfl ?_); refine gL_ (some 4) rfl rfl Try.func162 #[.int .i64 a0] rfl ?_; (with_reducible refine (impl_toneOk.calls a0 false _ A2.out).mono ?_); rintro e w' ⟨rfl, ⟨nd, rfl⟩⟩; refine ⟨_, rfl, ?_⟩))
 go_ret
 exact ⟨by first | rfl | (simp; done) | (simp [*]; done), tZ⟩

end Go.Proofs.Ytbedlmlofnphkaa.PO
