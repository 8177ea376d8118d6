-- WRITTEN BY wip/gprint.py, a program of this session's over the kit's print, with contracts given by hand
import Derived.Test.YtcfcohfniibpdaaPRx0
import Derived.Test.YtcfcohfniibpdaaPRx5
import Derived.Test.YtcfcohfniibpdaaPRx6
namespace Go.Proofs.Ytcfcohfniibpdaa.PR
open Go.RowKit Go.Proofs.YtcfcohfniibpdaaW.PrintWords Go.Proofs.YtcfcohfniibpdaaW.PrintLast Go.Proofs.YtcfcohfniibpdaaW.PrintMore
attribute [local go_sem] max2_int min2_int max_two min_two max_three min_three max_four min_four   -- for this text's walks alone
set_option linter.unusedVariables false
set_option linter.unusedSimpArgs false

/-! ### impl_RotationTo_1: function 22 -/
def impl_RotationTo_1.f (k : Nat) (a0 : Int) (l1 : List (List Int)) (l2 : List (List Int)) : Option (Bool) := (impl_rotated.f k (rd_L3 l1 0) a0).bind fun t186 => ((slices_Equal_int64_int64.f k t186 (rd_L3 l2 0)).bind fun t190 => (some t190))
theorem impl_RotationTo_1.mono : ∀ a0 a1 a2 k, LeO (impl_RotationTo_1.f k a0 a1 a2) (impl_RotationTo_1.f (k + 1) a0 a1 a2) := by
  intro a0 a1 a2 k
  unfold impl_RotationTo_1.f
  repeat' first
      | (with_reducible exact impl_rotated.mono _ _ _)
      | (with_reducible exact slices_Equal_int64_int64.mono _ _ _)
      | (with_reducible exact LeO.refl _)
      | (with_reducible exact LeO.none _)
      | (with_reducible refine LeO.ite ?_ ?_)
      | (with_reducible refine LeO.bind ?_ (fun _ => ?_))
      | exact impl_rotated.mono _ _ _
      | exact slices_Equal_int64_int64.mono _ _ _
      | exact LeO.none _
      | refine LeO.ite ?_ ?_
      | refine LeO.bind ?_ (fun _ => ?_)
set_option maxHeartbeats 8000000 in
set_option maxRecDepth 100000 in
theorem impl_RotationTo_1.calls (k : Nat) (a0 : Int) (A1 : Option Addr) (l1 : List (List Int)) (A2 : Option Addr) (l2 : List (List Int)) (r : Bool) (w : World) (hr1 : Kd.C (Kd.slice 2 (Kd.int .i64)) w A1 l1.length l1) (hn1 : 0 < l1.length) (hr2 : Kd.C (Kd.slice 2 (Kd.int .i64)) w A2 l2.length l2) (hn2 : 0 < l2.length) (h : impl_RotationTo_1.f k a0 l1 l2 = some r) :
    Calls Try.prog 22 #[.int .i64 a0, .pointer A1, .pointer A2] w fun e w' => e = .returned (.bool r) ∧ Below w.heap.size w w' := by
  have HR1 := Aside0.mk hr1
  clear hr1
  have HN1 := Aside0.mk hn1
  have hn1b0 : decide ((0 : Int) < (l1.length : Int)) = true := decide_eq_true (Int.ofNat_lt.2 hn1)
  have hn1b1 : decide (0 < l1.length) = true := decide_eq_true hn1
  clear hn1
  have HR2 := Aside0.mk hr2
  clear hr2
  have HN2 := Aside0.mk hn2
  have hn2b0 : decide ((0 : Int) < (l2.length : Int)) = true := decide_eq_true (Int.ofNat_lt.2 hn2)
  have hn2b1 : decide (0 < l2.length) = true := decide_eq_true hn2
  clear hn2
  have HB := Aside0.mk (Below.refl w.heap.size w)
  have H : ((impl_rotated.f k (rd_L3 l1 0) a0).bind fun t186 => ((slices_Equal_int64_int64.f k t186 (rd_L3 l2 0)).bind fun t190 => (some t190))) = some r := h
  clear h
  replace H := Option.bind_eq_some_iff.mp H
  obtain ⟨t186, A40, H⟩ := H
  replace H : ((slices_Equal_int64_int64.f k t186 (rd_L3 l2 0)).bind fun t190 => (some t190)) = some r := H
  have A4 := Aside0.mk A40
  clear A40
  replace H := Option.bind_eq_some_iff.mp H
  obtain ⟨t190, A50, H⟩ := H
  replace H : (some t190) = some r := H
  have A5 := Aside0.mk A50
  clear A50
  obtain rfl := Option.some.inj H
  go_enter Try.func22, Try.ntmps22
  try go_wp2
  replace HB := Aside0.mk (below_drew1 HB.out)
  have p185 : 0 ≤ (0 : Int) := (by omega)
  have q185 : 0 < (l1.length : Int) := of_decide_eq_true tA
  obtain ⟨ad185, A185_0, c185_0, e185, hx185_0, hl185_0, hi185_0⟩ := at_L3 HR1.out 0 p185 q185
  have hw185_0 := hx185_0
  (try rw [t0n] at hw185_0)
  (try rw [show 0 * 1 = 0 from rfl] at hw185_0)
  (try rw [Addr.add_zero'] at hw185_0)
  cases e185
  have qi185 : (0 < l1.length) = True := eq_true (by omega)
  (try rw [t0n] at hx185_0)
  (try rw [Addr.add_zero'] at hx185_0)
  replace hx185_0 := tW HB hx185_0
  have HR185_0 := Aside0.mk hi185_0
  have HC185_0 := Aside0.mk hl185_0
  clear hi185_0 hl185_0
  replace p185 := eq_true p185
  replace q185 := eq_true q185
  have p189 : 0 ≤ (0 : Int) := (by omega)
  have q189 : 0 < (l2.length : Int) := of_decide_eq_true tA
  obtain ⟨ad189, A189_0, c189_0, e189, hx189_0, hl189_0, hi189_0⟩ := at_L3 HR2.out 0 p189 q189
  have hw189_0 := hx189_0
  (try rw [t0n] at hw189_0)
  (try rw [show 0 * 1 = 0 from rfl] at hw189_0)
  (try rw [Addr.add_zero'] at hw189_0)
  cases e189
  have qi189 : (0 < l2.length) = True := eq_true (by omega)
  (try rw [t0n] at hx189_0)
  (try rw [Addr.add_zero'] at hx189_0)
  replace hx189_0 := tW HB hx189_0
  have HR189_0 := Aside0.mk hi189_0
  have HC189_0 := Aside0.mk hl189_0
  clear hi189_0 hl189_0
  replace p189 := eq_true p189
  replace q189 := eq_true q189
  refine start_ (n := 6) (S := fun w' => w'.cell? ad185 = some (.slice A185_0 (rd_L3 l1 0).length c185_0) ∧ w'.cell? ad189 = some (.slice A189_0 (rd_L3 l2 0).length c189_0)) (ds := []) #[false, false, false, false, false, false] (by kernel_rfl) rfl rfl ⟨(tW HB hw185_0), (tW HB hw189_0)⟩ (fun hHeld => ?_)
  generalize w.drew = w6 at HB HR185_0 HR189_0 hx185_0 hx189_0 hHeld ⊢
  refine pure_ (i := 1) (N := some 6) (v := ?_) (a' := ?_) #[false, true, false, false, false, false] rfl rfl (by kernel_rfl) (fun _ _ _ h => h) (Or.inl ⟨by rfl, ?_⟩) ?_ ?_
  rotate_left
  · intro w'
    go_simp
    with_reducible rfl
  rotate_left
  · simp only [Act.put, List.setIfInBounds_toArray, List.set_cons_zero, List.set_cons_succ, i64_w, i32_w]
    rfl
  refine take_ (i := 0) (N := some 5) (v := ?_) (a' := ?_) #[true, true, false, false, false, false] rfl rfl (by kernel_rfl) (fun _ _ _ h => h) (Or.inl ⟨by rfl, ?_⟩) hHeld ?_ ?_
  rotate_left
  · rintro w' ⟨s0, s1⟩
    go_simp
    with_reducible rfl
  rotate_left
  · simp only [Act.put, List.setIfInBounds_toArray, List.set_cons_zero, List.set_cons_succ, i64_w, i32_w]
    rfl
  refine take_ (i := 3) (N := some 8) (v := ?_) (a' := ?_) #[true, true, false, true, false, false] rfl rfl (by kernel_rfl) (fun _ _ _ h => h) (Or.inl ⟨by rfl, ?_⟩) hHeld ?_ ?_
  rotate_left
  · rintro w' ⟨s0, s1⟩
    go_simp
    with_reducible rfl
  rotate_left
  · simp only [Act.put, List.setIfInBounds_toArray, List.set_cons_zero, List.set_cons_succ, i64_w, i32_w]
    rfl
  refine one_ (i := 2) (N := some 7) #[true, true, true, true, false, false] rfl rfl (by kernel_rfl) (by decide) (fun K hK => ?_)
  refine goes_ Try.func19 (by kernel_rfl) rfl #[.slice A185_0 (rd_L3 l1 0).length c185_0, .int .i64 a0] (by rfl) rfl rfl (by (try simp only [List.map_toArray, List.map_cons, List.map_nil]); first | done | rfl | (simp only [List.length_drop, List.length_take]; rfl)) ?_
  with_reducible refine (impl_rotated.calls k _ _ (rd_L3 l1 0) a0 t186 _ ?side1 ?side2 A4.out).mono ?_
  (case side1 => exact tC (Kd.C_below HR185_0.out HB.out))
  (case side2 => exact HC185_0.out)
  rintro e w7 ⟨v187, rfl, ho0, hb⟩
  refine ⟨_, rfl, ?_⟩
  have HO188 := Aside0.mk (Kd.R_lower ho0 (below_size (by repeat (first | (with_reducible first | exact HB.out | apply below_alloc | apply pw_below_drewN | apply below_drew1) | exact HB.out))))
  replace HB := Aside0.mk (below_step (by repeat (first | (with_reducible first | exact HB.out | apply below_alloc | apply pw_below_drewN | apply below_drew1) | exact HB.out)) hb)
  (try clear hb)
  (try clear hb2)
  (try clear hk)
  (try clear hi)
  (try clear ho0)
  obtain ⟨Ao8, co8, eo8⟩ := Kd.R_slice HO188.out
  (first | subst eo8 | (injection eo8 with f1_ f2_ f3_; have f4_ := f1_.symm; have f5_ := f3_.symm; clear f1_ f2_ f3_; subst f4_; subst f5_))
  refine hK.out _ _ ⟨(tW HB hw185_0), (tW HB hw189_0)⟩ (fun hHeld => ?_)
  clear hK K
  refine norm_ (a' := ?_) ?_ ?_
  rotate_left
  · show Act.put _ (some 7) _ = _
    simp only [Act.put, List.setIfInBounds_toArray, List.set_cons_zero, List.set_cons_succ, i64_w, i32_w]
    rfl
  refine one_ (i := 4) (N := some 9) #[true, true, true, true, true, false] rfl rfl (by kernel_rfl) (by decide) (fun K hK => ?_)
  refine goes_ Try.func23 (by kernel_rfl) rfl #[.slice Ao8 t186.length co8, .slice A189_0 (rd_L3 l2 0).length c189_0] (by rfl) rfl rfl (by (try simp only [List.map_toArray, List.map_cons, List.map_nil]); first | done | rfl | (simp only [List.length_drop, List.length_take]; rfl)) ?_
  with_reducible refine (slices_Equal_int64_int64.calls k _ _ t186 _ _ (rd_L3 l2 0) t190 _ ?side1 ?side2 ?side3 ?side4 A5.out).mono ?_
  (case side1 => exact tC (Kd.R_reads' HO188.out).2.2)
  (case side2 => exact (Kd.R_reads' HO188.out).2.1)
  (case side3 => exact tC (Kd.C_below HR189_0.out HB.out))
  (case side4 => exact HC189_0.out)
  rintro e w' ⟨rfl, ⟨nd, rfl⟩⟩
  refine ⟨_, rfl, ?_⟩
  refine hK.out _ _ ⟨(tW HB hw185_0), (tW HB hw189_0)⟩ (fun hHeld => ?_)
  clear hK K
  refine norm_ (a' := ?_) ?_ ?_
  rotate_left
  · show Act.put _ (some 9) _ = _
    simp only [Act.put, List.setIfInBounds_toArray, List.set_cons_zero, List.set_cons_succ, i64_w, i32_w]
    rfl
  refine pure_ (i := 5) (N := some 4) (v := ?_) (a' := ?_) #[true, true, true, true, true, true] rfl rfl (by kernel_rfl) (fun _ _ _ h => h) (Or.inl ⟨by rfl, ?_⟩) ?_ ?_
  rotate_left
  · intro w'
    go_simp
    with_reducible rfl
  rotate_left
  · simp only [Act.put, List.setIfInBounds_toArray, List.set_cons_zero, List.set_cons_succ, i64_w, i32_w]
    rfl
  refine done_ (by kernel_rfl) ?_
  try go_wp2
  go_ret
  exact ⟨tE, by repeat (first | (with_reducible first | exact HB.out | apply below_alloc | apply pw_below_drewN | apply below_drew1) | exact HB.out)⟩

/-! ### impl_least_at_impl_RotationTo_1: function 21 at closure 22 -/
def idxO {α : Type} (p : α → Option Bool) : List α → Int → Option Int
  | [], _ => some (-1)
  | x :: xs, i => (p x).bind fun b => if b = true then some i else idxO p xs (i + 1)
def anyO {α : Type} (p : α → Option Bool) : List α → Option Bool
  | [] => some false
  | x :: xs => (p x).bind fun b => if b = true then some true else anyO p xs
theorem idxO_at {α : Type} (p : α → Option Bool) (l : List α) (k : Nat) (hk : k < l.length) {r : Int} (h : idxO p (l.drop k) k = some r) :
    ((p l[k]).bind fun b => if b = true then some (k : Int) else idxO p (l.drop (k + 1)) ((k + 1 : Nat) : Int)) = some r := by
  rw [List.drop_eq_getElem_cons hk] at h
  exact h
theorem idxO_end {α : Type} (p : α → Option Bool) (l : List α) (k : Nat) (hk : l.length ≤ k) {r : Int} (h : idxO p (l.drop k) k = some r) : (-1 : Int) = r := by
  rw [List.drop_eq_nil_of_le hk] at h
  exact Option.some.inj h
theorem idxO_any' {α : Type} (p : α → Option Bool) : ∀ (l : List α) (j : Nat) (r : Bool), anyO p l = some r → ∃ i : Int, idxO p l j = some i ∧ decide (0 ≤ i) = r
  | [], _, r, h => ⟨-1, rfl, by simp [anyO] at h; subst h; rfl⟩
  | x :: xs, j, r, h => by
    simp only [anyO] at h
    obtain ⟨b, hb, h⟩ := Option.bind_eq_some_iff.mp h
    cases b with
    | true => exact ⟨j, by simp [idxO, hb], by simp at h; subst h; simp⟩
    | false =>
      obtain ⟨i, h1, h2⟩ := idxO_any' p xs (j + 1) r (by simpa using h)
      exact ⟨i, by simp only [idxO, hb, Option.bind_some]; rw [if_neg (by decide)]; exact h1, h2⟩
theorem idxO_any {α : Type} (p : α → Option Bool) (l : List α) (r : Bool) (h : anyO p l = some r) : ∃ i : Int, idxO p l 0 = some i ∧ decide (0 ≤ i) = r := idxO_any' p l 0 r h
theorem rdm_at {α : Type} (l : List α) (d : α) (k : Nat) (h : k < l.length) : l[k] = l.getD ((k : Int)).toNat d := by
  simp [List.getD_eq_getElem?_getD, List.getElem?_eq_getElem h]
theorem rdm_mem {α : Type} (l : List α) (d : α) (k : Nat) (h : k < l.length) : l.getD ((k : Int)).toNat d ∈ l := by
  rw [← rdm_at l d k h]; exact List.getElem_mem h
theorem anyO_some {α : Type} (p : α → Bool) : ∀ l : List α, anyO (fun x => some (p x)) l = some (l.any p)
  | [] => rfl
  | x :: xs => by simp only [anyO, Option.bind_some, List.any_cons]; cases p x <;> simp [anyO_some p xs]
theorem anyO_mono {α : Type} {p q : α → Option Bool} (h : ∀ x, LeO (p x) (q x)) : ∀ l : List α, LeO (anyO p l) (anyO q l)
  | [] => LeO.refl _
  | x :: xs => LeO.bind (h x) (fun b => LeO.ite (LeO.refl _) (anyO_mono h xs))
theorem idxO_mono {α : Type} {p q : α → Option Bool} (h : ∀ x, LeO (p x) (q x)) : ∀ (l : List α) (i : Int), LeO (idxO p l i) (idxO q l i)
  | [], _ => LeO.refl _
  | x :: xs, i => LeO.bind (h x) (fun b => LeO.ite (LeO.refl _) (idxO_mono h xs (i + 1)))
def leastO (p : Int → Option Bool) : Nat → Int → Option (Int × Bool)
  | 0, _ => some (0, false)
  | d + 1, n => (p n).bind fun b => if b = true then some (n, true) else leastO p d (n + 1)
theorem leastO_mono {p q : Int → Option Bool} (h : ∀ x, LeO (p x) (q x)) : ∀ (d : Nat) (n : Int), LeO (leastO p d n) (leastO q d n)
  | 0, _ => LeO.refl _
  | d + 1, n => LeO.bind (h n) (fun b => LeO.ite (LeO.refl _) (leastO_mono h d (n + 1)))
set_option maxHeartbeats 4000000 in
set_option maxRecDepth 100000 in
theorem leastf_21 (g : Nat) (lb : Array Value) (p : Int → Option Bool) (a0 a1 : Int) (r1 : Int) (r2 : Bool) (w : World) (hlim : a1 < 9223372036854775807) (hlow : -9223372036854775808 ≤ a0)
    (eg : ∀ args w, (callFunc g args).run Try.prog w = .ok (.enter g args) w)
    (hp : ∀ W x b, a0 ≤ x → x ≤ a1 → p x = some b → Below w.heap.size w W → Calls Try.prog g (#[.int .i64 x] ++ lb) W fun e w' => e = .returned (.bool b) ∧ Below w.heap.size w w') (h : leastO p (a1 - a0 + 1).toNat a0 = some (r1, r2)) :
    Calls Try.prog 21 #[.int .i64 a0, .int .i64 a1, .func (.func g) #[] lb] w fun e w' => e = .returned (.tuple #[.int .i64 r1, .bool r2]) ∧ Below w.heap.size w w' := by
  have h' := Aside0.mk h
  have hlow' := Aside0.mk hlow
  clear h hlow
  go_enter Try.func21, Try.ntmps21
  go_wp2
  go_loopg [8] (a1 - a0 + 1).toNat (fun gg s8 wr => ∃ x : Int, s8 = .int .i64 x ∧ Aside0 (a0 ≤ x) ∧ Aside0 ((a1 - x + 1).toNat ≤ gg) ∧ Aside0 (Below w.heap.size w wr) ∧ Aside0 (leastO p (a1 - x + 1).toNat x = some (r1, r2)))
  case atStart => exact ⟨a0, rfl, ⟨Int.le_refl _⟩, ⟨Nat.le_refl _⟩, ⟨Below.refl _ w⟩, h'⟩
  case round =>
    obtain ⟨x, rfl, hx, hg, BW, H⟩ := hrel
    clear h'
    by_cases hlt : x ≤ a1
    · have hd : decide (x ≤ a1) = true := decide_eq_true hlt
      have H2 := H.out
      rw [show (a1 - x + 1).toNat = (a1 - (x + 1) + 1).toNat + 1 by omega] at H2
      simp only [leastO] at H2
      obtain ⟨b, hb, H2⟩ := Option.bind_eq_some_iff.mp H2
      have hcall := hp wr x b hx.out hlt hb BW.out
      have hx2 := Aside0.mk (show a0 ≤ x + 1 by have := hx.out; omega)
      have hg2 := Aside0.mk (show (a1 - (x + 1) + 1).toNat + 1 ≤ gk by have := hg.out; omega)
      have hu := Aside0.mk (show x + 1 ≤ 9223372036854775807 by omega)
      have hl := Aside0.mk (show -9223372036854775808 ≤ x by have := hx.out; have := hlow'.out; omega)
      have hw : IntKind.i64.wrap (x + 1) = x + 1 := IntWalk.i64_in _ (by have := hu.out; have := hl.out; omega)
      clear hp hb hlow' H hlt
      cases b with
      | true =>
        have HZ := Aside0.mk (Option.some.inj ((if_pos rfl).symm.trans H2))
        clear H2
        go_wp2_with (go_at_fn g; refine hcall.mono ?_; rintro e w' ⟨rfl, hb'⟩)
        go_ret2
        have HZ2 := HZ.out
        simp only [Prod.mk.injEq] at HZ2
        obtain ⟨rfl, rfl⟩ := HZ2
        exact ⟨rfl, hb'⟩
      | false =>
        have HZ := Aside0.mk ((if_neg (by decide)).symm.trans H2)
        clear H2
        go_wp2_with (go_at_fn g; refine hcall.mono ?_; rintro e w' ⟨rfl, hb'⟩)
        go_roundg (a1 - (x + 1) + 1).toNat
        case measure => have := hg2.out; omega
        case rel => exact ⟨x + 1, by first | rfl | rw [hw] | simp [hw], hx2, ⟨Nat.le_refl _⟩, ⟨hb'⟩, HZ⟩
    · have hd : decide (x ≤ a1) = false := decide_eq_false hlt
      have H2 := H.out
      rw [show (a1 - x + 1).toNat = 0 by omega] at H2
      have HZ := Aside0.mk (Option.some.inj H2)
      clear H H2 hlt hp
      go_wp2
      go_ret2
      have HZ2 := HZ.out
      simp only [Prod.mk.injEq] at HZ2
      obtain ⟨rfl, rfl⟩ := HZ2
      exact ⟨rfl, BW.out⟩
def impl_least_at_impl_RotationTo_1.f (k : Nat) (a0 : Int) (a1 : Int) (l2 : List (List Int)) (l3 : List (List Int)) : Option (Int × Bool) := if a1 < 9223372036854775807 ∧ -9223372036854775808 ≤ a0 then leastO (fun x => impl_RotationTo_1.f k x l2 l3) (a1 - a0 + 1).toNat a0 else none
theorem impl_least_at_impl_RotationTo_1.mono : ∀ a0 a1 a2 a3 k, LeO (impl_least_at_impl_RotationTo_1.f k a0 a1 a2 a3) (impl_least_at_impl_RotationTo_1.f (k + 1) a0 a1 a2 a3) := fun a0 a1 a2 a3 k => LeO.ite (leastO_mono (fun x => impl_RotationTo_1.mono _ _ _ k) _ _) (LeO.none _)
set_option maxHeartbeats 8000000 in
set_option maxRecDepth 100000 in
theorem impl_least_at_impl_RotationTo_1.calls (k : Nat) (a0 : Int) (a1 : Int) (A2 : Option Addr) (l2 : List (List Int)) (A3 : Option Addr) (l3 : List (List Int)) (r1 : Int) (r2 : Bool) (w : World) (hr2 : Kd.C (Kd.slice 2 (Kd.int .i64)) w A2 l2.length l2) (hn2 : 0 < l2.length) (hr3 : Kd.C (Kd.slice 2 (Kd.int .i64)) w A3 l3.length l3) (hn3 : 0 < l3.length) (h : impl_least_at_impl_RotationTo_1.f k a0 a1 l2 l3 = some (r1, r2)) :
    Calls Try.prog 21 #[.int .i64 a0, .int .i64 a1, .func (.func 22) #[] #[.pointer A2, .pointer A3]] w fun e w' => e = .returned (.tuple #[.int .i64 r1, .bool r2]) ∧ Below w.heap.size w w' := by
  unfold impl_least_at_impl_RotationTo_1.f at h
  split at h
  · rename_i hlim
    refine leastf_21 22 #[.pointer A2, .pointer A3] (fun x => impl_RotationTo_1.f k x l2 l3) a0 a1 r1 r2 w hlim.1 hlim.2 (enters_of Try.func22 (by kernel_rfl) rfl) (fun W x b _ _ hb hW => ?_) h
    exact (impl_RotationTo_1.calls k x A2 l2 A3 l3 b W (Kd.C_below hr2 hW) hn2 (Kd.C_below hr3 hW) hn3 hb).mono (fun e w' h => ⟨h.1, hW.trans ((h.2).mono hW.size)⟩)
  · cases h

end Go.Proofs.Ytcfcohfniibpdaa.PR
