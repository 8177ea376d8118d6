-- WRITTEN BY wip/gprint.py, a program of this session's over the kit's print, with contracts given by hand
import Derived.Test.YtcfcohfniibpdaaPRx0
import Derived.Test.YtcfcohfniibpdaaPRx4
import Derived.Test.YtcfcohfniibpdaaPRx9
namespace Go.Proofs.Ytcfcohfniibpdaa.PR
open Go.RowKit Go.Proofs.YtcfcohfniibpdaaW.PrintWords Go.Proofs.YtcfcohfniibpdaaW.PrintLast Go.Proofs.YtcfcohfniibpdaaW.PrintMore
attribute [local go_sem] max2_int min2_int max_two min_two max_three min_three max_four min_four   -- for this text's walks alone
set_option linter.unusedVariables false
set_option linter.unusedSimpArgs false

/-! ### slices_Index_int64_int64: function 37 -/
def slices_Index_int64_int64.l0 : Nat → List Int → Int → Int → Int → Option (Int)
  | 0, _, _, _, _ => none
  | k + 1, x0, x1, x7, x8 => if x8 < x7 then (if 0 ≤ x8 then (if x8 < (x0.length : Int) then (if x1 = (rd x0 x8) then (some x8) else (slices_Index_int64_int64.l0 k x0 x1 x7 (wrap64 (x8 + 1)))) else (none)) else (none)) else (some (-1))
def slices_Index_int64_int64.f (k : Nat) (l0 : List Int) (a1 : Int) : Option (Int) := slices_Index_int64_int64.l0 k l0 a1 (l0.length : Int) 0
theorem slices_Index_int64_int64.mono_l : ∀ k, (∀ y0 y1 y2 y3, LeO (slices_Index_int64_int64.l0 k y0 y1 y2 y3) (slices_Index_int64_int64.l0 (k + 1) y0 y1 y2 y3))
  | 0 => fun _ _ _ _ r h => by simp [slices_Index_int64_int64.l0] at h
  | k + 1 => by
    have ih0 := slices_Index_int64_int64.mono_l k
    · intro y0 y1 y2 y3
      unfold slices_Index_int64_int64.l0
      repeat' first
      | (with_reducible exact ih0 _ _ _ _)
      | (with_reducible exact LeO.refl _)
      | (with_reducible exact LeO.none _)
      | (with_reducible refine LeO.ite ?_ ?_)
      | (with_reducible refine LeO.bind ?_ (fun _ => ?_))
      | exact ih0 _ _ _ _
      | exact LeO.none _
      | refine LeO.ite ?_ ?_
      | refine LeO.bind ?_ (fun _ => ?_)
theorem slices_Index_int64_int64.mono : ∀ a0 a1 k, LeO (slices_Index_int64_int64.f k a0 a1) (slices_Index_int64_int64.f (k + 1) a0 a1) := by
  intro a0 a1 k
  have ih0 := slices_Index_int64_int64.mono_l k
  unfold slices_Index_int64_int64.f
  repeat' first
      | (with_reducible exact ih0 _ _ _ _)
      | (with_reducible exact LeO.refl _)
      | (with_reducible exact LeO.none _)
      | (with_reducible refine LeO.ite ?_ ?_)
      | (with_reducible refine LeO.bind ?_ (fun _ => ?_))
      | exact ih0 _ _ _ _
      | exact LeO.none _
      | refine LeO.ite ?_ ?_
      | refine LeO.bind ?_ (fun _ => ?_)
set_option maxHeartbeats 8000000 in
set_option maxRecDepth 100000 in
theorem slices_Index_int64_int64.calls (k : Nat) (A0 : Option Addr) (c0 : Nat) (l0 : List Int) (a1 : Int) (r : Int) (w : World) (hr0 : Kd.C (Kd.int .i64) w A0 l0.length l0) (hc0 : l0.length ≤ c0) (h : slices_Index_int64_int64.f k l0 a1 = some r) :
    Calls Try.prog 37 #[.slice A0 l0.length c0, .int .i64 a1] w fun e w' => e = .returned (.int .i64 r) ∧ Drawn0 w w' := by
  have HR0 := Aside0.mk hr0
  have HC0 := Aside0.mk hc0
  clear hr0 hc0
  have H : (slices_Index_int64_int64.l0 k l0 a1 (l0.length : Int) 0) = some r := h
  clear h
  have H' := Aside0.mk H
  clear H
  go_enter Try.func37, Try.ntmps37
  go_wp2
  go_loopg [8] k (fun kq v8 w' => ∃ (x8_1 : Int), v8 = .int .i64 x8_1 ∧ Aside0 (slices_Index_int64_int64.l0 kq l0 a1 (l0.length : Int) x8_1 = some r) ∧ Aside0 (kq ≤ k) ∧ Drawn0 w w')
  case atStart => exact ⟨(0), tq, H', ⟨Nat.le_refl _⟩, tZ⟩
  case round =>
    clear H'
    try clear p2
    obtain ⟨x8_1, rfl, HA, HK1, ⟨m1, rfl⟩⟩ := hrel
    cases gk with
    | zero => exact absurd HA.out (by simp [slices_Index_int64_int64.l0])
    | succ k1 =>
      have H := HA.out
      clear HA
      simp only [slices_Index_int64_int64.l0] at H
      by_cases c3 : x8_1 < (l0.length : Int)
      · rw [if_pos c3] at H
        have c3b0 : decide (x8_1 < (l0.length : Int)) = true := decide_eq_true c3
        clear c3
        by_cases c4 : 0 ≤ x8_1
        · rw [if_pos c4] at H
          have c4b0 : decide (0 ≤ x8_1) = true := decide_eq_true c4
          clear c4
          by_cases c5 : x8_1 < (l0.length : Int)
          · rw [if_pos c5] at H
            have c5b0 : decide (x8_1 < (l0.length : Int)) = true := decide_eq_true c5
            clear c5
            by_cases c6 : a1 = (rd l0 x8_1)
            · rw [if_pos c6] at H
              have c6b0 : (a1 == (rd l0 x8_1)) = true := beq_iff_eq.mpr c6
              have c6b1 : (a1 != (rd l0 x8_1)) = false := bne_eq_false_iff_eq.mpr c6
              clear c6
              obtain rfl := Option.some.inj H
              have p214 : 0 ≤ (x8_1 : Int) := of_decide_eq_true tA
              have q214 : x8_1 < (l0.length : Int) := of_decide_eq_true tA
              obtain ⟨ad214, e214, hx214_0⟩ := Kd.at_int HR0.out x8_1 p214 q214
              cases e214
              replace p214 := eq_true p214
              replace q214 := eq_true q214
              go_wp2
              go_ret
              exact ⟨by first | rfl | (simp; done) | (simp [*]; done), tZ⟩
            · rw [if_neg c6] at H
              have c6b0 : (a1 == (rd l0 x8_1)) = false := beq_eq_false_iff_ne.mpr c6
              have c6b1 : (a1 != (rd l0 x8_1)) = true := bne_iff_ne.mpr c6
              have H' := Aside0.mk H
              clear H
              have p214 : 0 ≤ (x8_1 : Int) := of_decide_eq_true tA
              have q214 : x8_1 < (l0.length : Int) := of_decide_eq_true tA
              obtain ⟨ad214, e214, hx214_0⟩ := Kd.at_int HR0.out x8_1 p214 q214
              cases e214
              replace p214 := eq_true p214
              replace q214 := eq_true q214
              go_wp2
              go_roundg k1
              case measure => have := HK1.out; omega
              case rel => exact ⟨(wrap64 (x8_1 + 1)), tq, H', ⟨by have := HK1.out; omega⟩, tZ⟩
          · rw [if_neg c5] at H
            exact absurd H (by simp)
        · rw [if_neg c4] at H
          exact absurd H (by simp)
      · rw [if_neg c3] at H
        have c3b0 : decide (x8_1 < (l0.length : Int)) = false := decide_eq_false c3
        clear c3
        obtain rfl := Option.some.inj H
        go_wp2
        go_ret
        exact ⟨by first | rfl | (simp; done) | (simp [*]; done), tZ⟩

/-! ### slices_Contains_int64_int64: function 27 -/
def slices_Contains_int64_int64.f (k : Nat) (l0 : List Int) (a1 : Int) : Option (Bool) := (slices_Index_int64_int64.f k l0 a1).bind fun t215 => (some (decide (t215 ≥ 0)))
theorem slices_Contains_int64_int64.mono : ∀ a0 a1 k, LeO (slices_Contains_int64_int64.f k a0 a1) (slices_Contains_int64_int64.f (k + 1) a0 a1) := by
  intro a0 a1 k
  unfold slices_Contains_int64_int64.f
  repeat' first
      | (with_reducible exact slices_Index_int64_int64.mono _ _ _)
      | (with_reducible exact LeO.refl _)
      | (with_reducible exact LeO.none _)
      | (with_reducible refine LeO.ite ?_ ?_)
      | (with_reducible refine LeO.bind ?_ (fun _ => ?_))
      | exact slices_Index_int64_int64.mono _ _ _
      | exact LeO.none _
      | refine LeO.ite ?_ ?_
      | refine LeO.bind ?_ (fun _ => ?_)
set_option maxHeartbeats 8000000 in
set_option maxRecDepth 100000 in
theorem slices_Contains_int64_int64.calls (k : Nat) (A0 : Option Addr) (c0 : Nat) (l0 : List Int) (a1 : Int) (r : Bool) (w : World) (hr0 : Kd.C (Kd.int .i64) w A0 l0.length l0) (hc0 : l0.length ≤ c0) (h : slices_Contains_int64_int64.f k l0 a1 = some r) :
    Calls Try.prog 27 #[.slice A0 l0.length c0, .int .i64 a1] w fun e w' => e = .returned (.bool r) ∧ Drawn0 w w' := by
  have HR0 := Aside0.mk hr0
  have HC0 := Aside0.mk hc0
  clear hr0 hc0
  have H : ((slices_Index_int64_int64.f k l0 a1).bind fun t215 => (some (decide (t215 ≥ 0)))) = some r := h
  clear h
  replace H := Option.bind_eq_some_iff.mp H
  obtain ⟨t215, A30, H⟩ := H
  replace H : (some (decide (t215 ≥ 0))) = some r := H
  have A3 := Aside0.mk A30
  clear A30
  obtain rfl := Option.some.inj H
  go_enter Try.func27, Try.ntmps27
  go_wp2_with (first | ((with_reducible refine gate_callee (f := 37) rfl ?_); refine goesL_ (some 7) rfl rfl Try.func37 (by kernel_rfl) rfl #[.slice A0 l0.length c0, .int .i64 a1] rfl (by (try simp only [List.map_toArray, List.map_cons, List.map_nil]); first | done | rfl | (simp only [List.length_drop, List.length_take]; rfl)) ?_; (with_reducible refine (slices_Index_int64_int64.calls k _ _ l0 a1 t215 _ ?side1 ?side2 A3.out).mono ?_); (case side1 => exact tC HR0.out); (case side2 => exact HC0.out); rintro e w' ⟨rfl, ⟨nd, rfl⟩⟩; refine ⟨_, rfl, ?_⟩))
  go_ret
  exact ⟨by first | rfl | (simp; done) | (simp [*]; done), tZ⟩

-- NOT PRINTED: function 2500000 (slices_DeleteFunc_int64_int64_at_impl_CommonTones_1)

/-! ### impl_CommonTones: function 10 (a contract given by hand) -/
theorem index_up (l : List Int) (x : Int) (hl : l.length ≤ 9223372036854775806) : ∀ (d : Nat) (i : Int), 0 ≤ i → i + d = l.length → ∀ k, d < k → ∃ r, slices_Index_int64_int64.l0 k l x (l.length : Int) i = some r ∧ decide (r ≥ 0) = (l.drop i.toNat).contains x := by
  intro d
  induction d with
  | zero =>
    intro i h0 h1 k hk
    obtain ⟨k, rfl⟩ : ∃ m, k = m + 1 := ⟨k - 1, by omega⟩
    refine ⟨-1, ?_, ?_⟩
    · simp only [slices_Index_int64_int64.l0]; rw [if_neg (by omega)]
    rw [List.drop_eq_nil_of_le (by omega)]; rfl
  | succ d ih =>
  intro i h0 h1 k hk
  obtain ⟨k, rfl⟩ : ∃ m, k = m + 1 := ⟨k - 1, by omega⟩
  have hi : i.toNat < l.length := by omega
  have e : rd l i = l[i.toNat] := by simp [rd, List.getD_eq_getElem?_getD, List.getElem?_eq_getElem hi]
  have hw : wrap64 (i + 1) = i + 1 := by unfold wrap64; omega
  simp only [slices_Index_int64_int64.l0]
  rw [if_pos (by omega), if_pos h0, if_pos (by omega), List.drop_eq_getElem_cons hi, e, hw]
  by_cases g : x = l[i.toNat]
  · rw [if_pos g]
    exact ⟨i, rfl, by rw [decide_eq_true h0, List.contains_cons, ← g]; simp⟩
  rw [if_neg g]
  obtain ⟨r, hr, hd⟩ := ih (i + 1) (by omega) (by omega) k (by omega)
  refine ⟨r, hr, ?_⟩
  rw [hd, show (i + 1).toNat = i.toNat + 1 by omega, List.contains_cons]
  simp [g]
theorem contains_up (l : List Int) (x : Int) (hl : l.length ≤ 9223372036854775806) : slices_Contains_int64_int64.f (l.length + 1) l x = some (l.contains x) := by
  obtain ⟨r, hr, hd⟩ := index_up l x hl l.length 0 (by omega) (by omega) (l.length + 1) (by omega)
  simp only [slices_Contains_int64_int64.f, slices_Index_int64_int64.f]
  rw [hr, Option.bind_some, hd]
  rfl
theorem common_cl (B c1 : Nat) (A1 : Option Addr) (l1 : List Int) (x : Int) (W : World) (hc : W.cell? ⟨B, 0, none⟩ = some (.slice A1 l1.length c1)) (hr : Kd.C (Kd.int .i64) W A1 l1.length l1) (hc1 : l1.length ≤ c1) (hl : l1.length ≤ 9223372036854775806) :
    Calls Try.prog 26 (#[.int .i64 x] ++ #[.pointer (some ⟨B, 0, none⟩)]) W fun e w' => e = .returned (.bool (!l1.contains x)) ∧ ∃ q, w' = W.drewN q := by
  have hcall := slices_Contains_int64_int64.calls (l1.length + 1) A1 c1 l1 x (l1.contains x) W hr hc1 (contains_up l1 x hl)
  clear hr hc1 hl
  show Calls Try.prog 26 #[.int .i64 x, .pointer (some ⟨B, 0, none⟩)] W _
  generalize l1.contains x = b at hcall ⊢
  generalize l1.length = m at hcall hc ⊢
  go_enter Try.func26, Try.ntmps26
  go_wp2_with (go_at_call 27; refine hcall.mono ?_; rintro e w' ⟨rfl, ⟨q, rfl⟩⟩)
  go_ret
  exact ⟨rfl, q, rfl⟩
theorem put_row {base base2 g q cap : Nat} {w : World} {ok : Nat → Prop} {xs : List Int} (hb2 : base2 ≤ g) (h : Kd.R (Kd.int .i64) 2 w base ok (.slice (some ⟨g, 0, none⟩) xs.length cap) xs) (ys zs : List Int) (hl : (ys ++ zs).length = xs.length) :
    Kd.R (Kd.int .i64) 2 (Go.Sort.putRow (Value.int .i64) (Go.Sort.ahead w q) g 0 (ys ++ zs).toArray) base2 ok (.slice (some ⟨g, 0, none⟩) ys.length cap) ys := by
  have ho := Kd.own_of_R h
  obtain ⟨_, hn | ⟨g', cap', cur, hv, hb, hg, h1, h2, h3, h4⟩⟩ := ho
  · cases hn.1
  · injection hv with e1 e2 e3
    injection e1 with e1
    injection e1 with e1 _ _
    subst e1; subst e3
    refine Kd.R_of_own ⟨by simp [encs], .inr ⟨g, cap, Go.Sort.putCells (Value.int .i64) 0 (ys ++ zs).toArray cur, rfl, hb2, ?_, by simp at hl; omega, h2, by simp [Go.Sort.putCells]; omega, ?_⟩⟩ (fun k hk => h.1 k hk)
    · show (Go.Sort.mapBlock (Go.Sort.ahead w q) g _).heap[g]? = _
      simp [Go.Sort.mapBlock, Array.getElem?_modify, hg, Go.Sort.onCells]
    · apply List.ext_getElem?
      intro j
      rw [Nat.mul_one, List.getElem?_take]
      have hlen : ys.length + zs.length = xs.length := by simpa using hl
      by_cases hj : j < ys.length
      · rw [if_pos hj]
        have hc : j < cur.size := by rw [h3]; omega
        simp only [Go.Sort.putCells, Array.getElem?_toList, Array.getElem?_mapIdx, Array.getElem?_eq_getElem hc, Option.map_some]
        rw [if_pos ⟨by omega, by simp; omega⟩]
        have e5 : (ys ++ zs).toArray[j - 0]! = ys[j] := by
          rw [Nat.sub_zero, getElem!_pos _ j (by simp; omega)]
          simp [List.getElem_append_left hj]
        rw [e5]
        simp [encs, List.getElem?_eq_getElem hj]
      · rw [if_neg hj]
        exact (List.getElem?_eq_none (by simp only [encs, List.length_map]; omega)).symm
theorem below_put {base g q : Nat} {w0 w : World} (d : Array Int) (hb : Below base w0 w) (hg : base ≤ g) : Below base w0 (Go.Sort.putRow (Value.int .i64) (Go.Sort.ahead w q) g 0 d) := by
  refine ⟨hb.os, hb.tape, hb.output, by rw [Go.Sort.size_putRow]; exact hb.size, fun i hi => ?_⟩
  rw [← hb.block i hi]
  show (Go.Sort.mapBlock (Go.Sort.ahead w q) g _).heap[i]? = _
  simp only [Go.Sort.mapBlock, Array.getElem?_modify]
  rw [if_neg (by omega)]
  rfl
theorem kept_put {g q : Nat} {w : World} (d : Array Int) (os : Array Obj) (i : Nat) (hi : i < w.heap.size) (hne : i ≠ g) : (Go.Sort.grow (Go.Sort.putRow (Value.int .i64) (Go.Sort.ahead w q) g 0 d) os).heap[i]? = w.heap[i]? := by
  have h1 : (Go.Sort.grow (Go.Sort.putRow (Value.int .i64) (Go.Sort.ahead w q) g 0 d) os).heap[i]? = (Go.Sort.putRow (Value.int .i64) (Go.Sort.ahead w q) g 0 d).heap[i]? := Go.Sort.heap_grow_old _ os (by rw [Go.Sort.size_putRow]; exact hi)
  rw [h1]
  show (Go.Sort.mapBlock (Go.Sort.ahead w q) g _).heap[i]? = _
  simp only [Go.Sort.mapBlock, Array.getElem?_modify]
  rw [if_neg (fun h => hne h.symm)]
  rfl
def laysDF_ren : Go.Shelf.Ren := ⟨fun | 10 => 24 | 6 => 36 | n => n, fun | 22 => 24 | 23 => 2 | 25 => 44 | 3 => 3 | 4 => 4 | 0 => 0 | n => n, fun  | n => n⟩
theorem laysDF : SlLaysH.n10 Try.prog laysDF_ren := { mixed := by kernel_rfl, f6 := ⟨Try.f36.name, by kernel_rfl, Try.func36.trans (congrArg some (by kernel_rfl))⟩, f10 := ⟨Try.f24.name, by kernel_rfl, Try.func24.trans (congrArg some (by kernel_rfl))⟩, t0 := Try.underlying0, a0 := Try.isAgg0, z0 := Try.sizeOf0, v0 := Try.zeroValue0, t3 := Try.underlying3, a3 := Try.isAgg3, z3 := Try.sizeOf3, v3 := Try.zeroValue3, t4 := Try.underlying4, a4 := Try.isAgg4, z4 := Try.sizeOf4, v4 := Try.zeroValue4, t22 := Try.underlying24, a22 := Try.isAgg24, z22 := Try.sizeOf24, v22 := Try.zeroValue24, a23 := Try.isAgg2, z23 := Try.sizeOf2, t25 := Try.underlying44, a25 := Try.isAgg44, z25 := Try.sizeOf44, v25 := Try.zeroValue44 }
theorem common_row {base e : Nat} {w : World} {ok : Nat → Prop} {v : Value} {xs : List Int} (h : Kd.R (Kd.int .i64) e w base ok v xs) (hne : 0 < xs.length) : ∃ g cap, v = .slice (some ⟨g, 0, none⟩) xs.length cap ∧ base ≤ g ∧ g < w.heap.size ∧ xs.length ≤ cap ∧ Go.Sort.Holds (Value.int .i64) w g 0 xs.toArray := by
  obtain ⟨_, hn | ⟨g, cap, cur, hv, hb, hg, h1, h2, h3, h4⟩⟩ := Kd.own_of_R h
  · have := hn.2
    simp at this
    omega
  · subst hv
    refine ⟨g, cap, rfl, hb, blk_lt hg, by omega, fun j hj => ?_⟩
    have hj' : j < xs.length := by simpa using hj
    have hc := Kd.R_cell (0 : Int) h (j : Int) (by omega) (by omega)
    rw [show ((j : Int).toNat) = j by omega] at hc
    rw [Nat.zero_add]
    refine ⟨?_, hc.2⟩
    rw [hc.1]
    congr 2
    rw [getElem!_pos _ j hj]
    simp [rdOf, List.getD_eq_getElem?_getD, List.getElem?_eq_getElem hj']
theorem common_del {ys : List Int} {w0 w : World} {B c1 g cap : Nat} {A1 : Option Addr} {l0 l1 : List Int} (hb : Below w0.heap.size w0 w) (hH : Go.Sort.Holds (Value.int .i64) w g 0 l0.toArray) (hg : w0.heap.size ≤ g) (hBg : B ≠ g) (hBs : B < w.heap.size) (hgs : g < w.heap.size) (hc : w.cell? ⟨B, 0, none⟩ = some (.slice A1 l1.length c1)) (hr : Kd.C (Kd.int .i64) w0 A1 l1.length l1) (hc1 : l1.length ≤ c1) (hl1 : l1.length < 17592186044416) (hl0 : l0.length < 17592186044416) (hcap : l0.length ≤ cap) (hys : (l0.filter fun x => l1.contains x) = ys) :
    Calls Try.prog 24 #[.slice (some ⟨g, 0, none⟩) l0.length cap, .func (.func 26) #[] #[.pointer (some ⟨B, 0, none⟩)]] w fun e w' => e = .returned (.slice (some ⟨g, 0, none⟩) ys.length cap) ∧ ∃ (q : Nat) (zs : List Int), (ys ++ zs).length = l0.length ∧ w' = Go.Sort.putRow (Value.int .i64) (Go.Sort.ahead w q) g 0 (ys ++ zs).toArray := by
  subst hys
  have eg : ∀ args w, (callFunc 26 args).run Try.prog w = .ok (.enter 26 args) w := enters_of Try.func26 (by kernel_rfl) rfl
  have hcon := AnyE.slices_DeleteFunc laysDF (Value.int .i64) (fun _ => rfl) (fun x => !l1.contains x) 26 #[.pointer (some ⟨B, 0, none⟩)] eg 0 Try.zeroValue2 g 0 cap l0.toArray w
    (fun W x hW => common_cl B c1 A1 l1 x W ((hW.cell (p := ⟨B, 0, none⟩) hBs).trans hc) (Kd.C_below (Kd.C_below hr hb) hW) hc1 (by omega))
    (fun n os dk x _ => common_cl B c1 A1 l1 x _ (by
        unfold sortWorld
        rw [Go.Sort.cell?_grow _ _ _ (by show B < (Go.Sort.putRow _ _ _ _ _).heap.size; rw [Go.Sort.size_putRow]; exact hBs), Go.Sort.cell?_putRow_other _ _ g 0 _ _ (Or.inl hBg)]
        exact hc) (Kd.C_below hr (by
        unfold sortWorld
        have h2 := below_put (q := n) dk hb hg
        refine ⟨h2.os, h2.tape, h2.output, ?_, fun i hi => ?_⟩
        · show _ ≤ (_ ++ os).size
          rw [Array.size_append]
          have := h2.size
          omega
        · rw [Go.Sort.heap_grow_old _ os (Nat.lt_of_lt_of_le hi h2.size)]
          exact h2.block i hi)) hc1 (by omega))
    hH (by simp; omega) (by simp; omega)
  simp only [List.toList_toArray, Bool.not_not, List.size_toArray] at hcon
  refine Calls.mono hcon ?_
  rintro e w' ⟨rfl, q, rfl⟩
  refine ⟨rfl, q, _, ?_, rfl⟩
  have := List.length_filter_le (fun x => l1.contains x) l0
  simp only [List.length_append, List.length_replicate]
  omega
def impl_CommonTones.f (k : Nat) (l0 : List Int) (l1 : List Int) : Option (List Int × Int) := (impl_ValidScale.f k l0).bind fun t => (if t = true then ((impl_ValidScale.f k l1).bind fun u => (if u = true then (if 0 < l0.length ∧ l0.length < 17592186044416 ∧ l1.length < 17592186044416 then some (l0.filter fun x => l1.contains x, 0) else none) else (some (([] : List Int), 1)))) else (some (([] : List Int), 1)))
theorem impl_CommonTones.mono : ∀ a0 a1 k, LeO (impl_CommonTones.f k a0 a1) (impl_CommonTones.f (k + 1) a0 a1) := fun a0 a1 k => LeO.bind (impl_ValidScale.mono a0 k) (fun _ => LeO.ite (LeO.bind (impl_ValidScale.mono a1 k) (fun _ => LeO.ite (LeO.refl _) (LeO.refl _))) (LeO.refl _))
set_option maxHeartbeats 8000000 in
set_option maxRecDepth 100000 in
theorem impl_CommonTones.calls (k : Nat) (A0 : Option Addr) (c0 : Nat) (l0 : List Int) (A1 : Option Addr) (c1 : Nat) (l1 : List Int) (r1 : List Int) (r2 : Int) (w : World) (hr0 : Kd.C (Kd.int .i64) w A0 l0.length l0) (hc0 : l0.length ≤ c0) (hr1 : Kd.C (Kd.int .i64) w A1 l1.length l1) (hc1 : l1.length ≤ c1) (h : impl_CommonTones.f k l0 l1 = some (r1, r2)) :
    Calls Try.prog 10 #[.slice A0 l0.length c0, .slice A1 l1.length c1] w fun e w' => ∃ v0_ : Value, e = .returned (.tuple #[v0_, .int .i64 r2]) ∧ Kd.R (Kd.int .i64) 2 w' w.heap.size (fun _ => True) v0_ r1 ∧ Below w.heap.size w w' := by
  have HR0 := Aside0.mk hr0
  have HC0 := Aside0.mk hc0
  clear hr0 hc0
  have HR1 := Aside0.mk hr1
  have HC1 := Aside0.mk hc1
  clear hr1 hc1
  have HB := Aside0.mk (Below.refl w.heap.size w)
  have H := Aside0.mk h
  clear h
  go_enter Try.func10, Try.ntmps10
  go_upto_region 1 with ((with_reducible refine gate_dst (N := 3) rfl ?_); refine box_event ?hg (N := 3) ?hd (cs := #[.slice A1 l1.length c1]) (t := 24) ?hr ?_; (case hd => rfl); (case hg => rfl); (case hr => first | (go_simp; done) | (go_simp; rfl)); intro gb192 hg w5 hbox hb; have BK192 := Aside0.mk (hbox); have GE192 := Aside0.mk ((by rw [hg]; exact (below_size HB.out)) : w.heap.size ≤ gb192); replace HB := Aside0.mk (below_step HB.out hb); clear hb hbox hg)
  (try simp only [Act.put, List.setIfInBounds_toArray, List.set_cons_zero, List.set_cons_succ])
  obtain ⟨t, A60, H⟩ := Option.bind_eq_some_iff.mp H.out
  have A6 := Aside0.mk A60
  clear A60
  have hcz11_0 : w5.cell? ⟨gb192, 0, none⟩ = some (.slice A1 l1.length c1) := (blk_cell BK192.out 0).trans rfl
  have hfz11_0 := blk_frozen BK192.out 0
  cases t with
  | false =>
    replace H : some (([] : List Int), (1 : Int)) = some (r1, r2) := H
    simp only [Option.some.injEq, Prod.mk.injEq] at H
    obtain ⟨rfl, rfl⟩ := H
    go_wp2_with ((with_reducible refine gate_callee (f := 17) rfl ?_); refine goesL_ (some 7) rfl rfl Try.func17 (by kernel_rfl) rfl #[.slice A0 l0.length c0] rfl (by (try simp only [List.map_toArray, List.map_cons, List.map_nil]); first | done | rfl) ?_; (with_reducible refine (impl_ValidScale.calls k _ _ l0 false _ ?side1 ?side2 A6.out).mono ?_); (case side1 => exact tC (Kd.C_below HR0.out HB.out)); (case side2 => exact HC0.out); rintro e w' ⟨rfl, ⟨nd, rfl⟩⟩; refine ⟨_, rfl, ?_⟩)
    go_ret2
    exact ⟨_, tE, Kd.R_nil _ _ _ _ _, by repeat (first | (with_reducible first | exact HB.out | apply below_alloc | apply pw_below_drewN | apply below_drew1) | exact HB.out)⟩
  | true =>
    obtain ⟨u, A80, H⟩ := Option.bind_eq_some_iff.mp (show ((impl_ValidScale.f k l1).bind fun u => (if u = true then (if 0 < l0.length ∧ l0.length < 17592186044416 ∧ l1.length < 17592186044416 then some (l0.filter fun x => l1.contains x, 0) else none) else (some (([] : List Int), 1)))) = some (r1, r2) from H)
    have A8 := Aside0.mk A80
    clear A80
    cases u with
    | false =>
      replace H : some (([] : List Int), (1 : Int)) = some (r1, r2) := H
      simp only [Option.some.injEq, Prod.mk.injEq] at H
      obtain ⟨rfl, rfl⟩ := H
      go_wp2_with (first | ((with_reducible refine gate_callee (f := 17) rfl ?_); refine goesL_ (some 7) rfl rfl Try.func17 (by kernel_rfl) rfl #[.slice A0 l0.length c0] rfl (by (try simp only [List.map_toArray, List.map_cons, List.map_nil]); first | done | rfl) ?_; (with_reducible refine (impl_ValidScale.calls k _ _ l0 true _ ?side1 ?side2 A6.out).mono ?_); (case side1 => exact tC (Kd.C_below HR0.out HB.out)); (case side2 => exact HC0.out); rintro e w' ⟨rfl, ⟨nd, rfl⟩⟩; refine ⟨_, rfl, ?_⟩) | (go_at_call 17; (with_reducible refine (impl_ValidScale.calls k _ _ l1 false _ ?side1 ?side2 A8.out).mono ?_); (case side1 => exact tC (Kd.C_below HR1.out HB.out)); (case side2 => exact HC1.out); rintro e w' ⟨rfl, ⟨nd, rfl⟩⟩))
      go_ret2
      exact ⟨_, tE, Kd.R_nil _ _ _ _ _, by repeat (first | (with_reducible first | exact HB.out | apply below_alloc | apply pw_below_drewN | apply below_drew1) | exact HB.out)⟩
    | true =>
      replace H : (if 0 < l0.length ∧ l0.length < 17592186044416 ∧ l1.length < 17592186044416 then some (l0.filter fun x => l1.contains x, (0 : Int)) else none) = some (r1, r2) := H
      by_cases g : 0 < l0.length ∧ l0.length < 17592186044416 ∧ l1.length < 17592186044416
      · rw [if_pos g] at H
        simp only [Option.some.injEq, Prod.mk.injEq] at H
        obtain ⟨hys, rfl⟩ := H
        have HYS := Aside0.mk hys
        clear hys
        have G := Aside0.mk g
        clear g
        go_upto_region 3 with (first | ((with_reducible refine gate_callee (f := 17) rfl ?_); refine goesL_ (some 7) rfl rfl Try.func17 (by kernel_rfl) rfl #[.slice A0 l0.length c0] rfl (by (try simp only [List.map_toArray, List.map_cons, List.map_nil]); first | done | rfl) ?_; (with_reducible refine (impl_ValidScale.calls k _ _ l0 true _ ?side1 ?side2 A6.out).mono ?_); (case side1 => exact tC (Kd.C_below HR0.out HB.out)); (case side2 => exact HC0.out); rintro e w' ⟨rfl, ⟨nd, rfl⟩⟩; refine ⟨_, rfl, ?_⟩) | (go_at_call 17; (with_reducible refine (impl_ValidScale.calls k _ _ l1 true _ ?side1 ?side2 A8.out).mono ?_); (case side1 => exact tC (Kd.C_below HR1.out HB.out)); (case side2 => exact HC1.out); rintro e w' ⟨rfl, ⟨nd, rfl⟩⟩))
        (try simp only [Act.put, List.setIfInBounds_toArray, List.set_cons_zero, List.set_cons_succ])
        have hcl : slices_Clone_int64_int64.f l0 = some l0 := by
          simp only [slices_Clone_int64_int64.f, Option.bind_some, List.length_nil, Nat.zero_add, List.nil_append]
          rw [if_pos G.out.2.1]
        go_wp2_with (first | (go_at_call 25; (with_reducible refine (slices_Clone_int64_int64.calls _ _ l0 l0 _ ?side1 ?side2 hcl).mono ?_); (case side1 => exact tC (Kd.C_below HR0.out HB.out)); (case side2 => exact HC0.out); rintro e w6 ⟨v, rfl, hR, hb⟩; obtain ⟨g, cap, rfl, hg, hgs, hcap, hH⟩ := common_row hR G.out.1; have hs : w.heap.size ≤ g := Nat.le_trans (below_size HB.out) hg; have hne : gb192 ≠ g := Nat.ne_of_lt (Nat.lt_of_lt_of_le (blk_lt BK192.out) hg); have BK192 := Aside0.mk (show w6.heap[gb192]? = some (.cells #[.slice A1 l1.length c1] 24 (0, 0)) from by first | exact (hb.block gb192 (blk_lt BK192.out)).trans BK192.out | exact tbB BK192 hb |>.out); have hHB : Below w.heap.size w w6 := below_step (by repeat (first | (with_reducible first | exact HB.out | apply below_alloc | apply pw_below_drewN | apply below_drew1) | exact HB.out)) hb) | (go_at_call 24; refine (common_del (w0 := w) hHB hH hs hne (blk_lt BK192.out) hgs ((blk_cell BK192.out 0).trans rfl) HR1.out HC1.out G.out.2.2 G.out.2.1 hcap HYS.out).mono ?_; rintro e w' ⟨rfl, q, zs, hl, rfl⟩))
        go_ret2
        refine ⟨.slice (some ⟨g, 0, none⟩) r1.length cap, ?_, ?_, ?_⟩
        · rfl
        · exact put_row hs hR r1 zs hl
        · exact below_put _ hHB hs
      · rw [if_neg g] at H
        cases H

end Go.Proofs.Ytcfcohfniibpdaa.PR
