/- The law. -/
import Derived.Test.YticifedehhnjhaaQ4
namespace Go.Proofs.Yticifedehhnjhaa.F
open Go Go.Proofs.Yticifedehhnjhaa.Eng
set_option linter.unusedSimpArgs false
set_option linter.unusedVariables false
set_option maxRecDepth 100000
theorem sone_wp {x : It} (h : VIt x) : Wp (fun k => spec_l08One k x) (fun r => r = true) := by
  refine Wp.step ?_
  simp only [spec_l08One_eq, vLt, vLe, vEq, vNot, inR, decide_eq_true_eq, Bool.not_eq_true', decide_eq_false_iff_not, Bool.not_eq_eq_eq_not, Bool.not_true]
  obtain ⟨h1, h2, h3, h4, h5, h6, h7⟩ := h
  refine Wp.call (sname_wp h1) (fun r e => Wp.pos e (Wp.call sminute_wp (fun r e => Wp.pos (e.2 h2) (Wp.call sminute_wp (fun r e => Wp.pos (e.2 h3) (Wp.pos (by simpa using h4) (Wp.call in_wp (fun r e => Wp.pos (e.2 h5) (Wp.call in_wp (fun r e => Wp.pos (e.2 h6) (Wp.call in_wp (fun r e => Wp.now (e.2 h7)))))))))))))
theorem sok_wp {l : List It} (hv : VL l) : Wp (fun k => spec_l08Ok k l) (fun r => r = true) := by
  have hl := hv.1
  have lp : ∀ (d : Nat) {i : Int}, 0 ≤ i → i + d = l.length → Wp (fun k => spec_l08Ok_r2 k l i) (fun r => r = true) := by
    intro d
    induction d with
    | zero =>
      intro i h0 hd
      refine Wp.step ?_
      simp only [spec_l08Ok_r2_eq, vLt, vLe, vEq, vNot, inR, decide_eq_true_eq, Bool.not_eq_true', decide_eq_false_iff_not, Bool.not_eq_eq_eq_not, Bool.not_true]
      exact Wp.neg (by simp only [vLen]; omega) (Wp.now (decide_eq_true (by simp only [vLen]; omega)))
    | succ d ih =>
      intro i h0 hd
      have hi : i < (l.length : Int) := by omega
      have ih := ih (i := i + 1) (by omega) (by omega)
      have hx := hv.2 i h0 hi
      refine Wp.step ?_
      simp (disch := omega) only [spec_l08Ok_r2_eq, vLt, vLe, vEq, vNot, inR, decide_eq_true_eq, Bool.not_eq_true', decide_eq_false_iff_not, Bool.not_eq_eq_eq_not, Bool.not_true, it0_eq, add64, sub64]
      refine Wp.pos hi (Wp.pos ⟨h0, hi⟩ (Wp.call (sone_wp hx.1) (fun r e => Wp.neg (by rw [e]; decide) (Wp.ite (fun hp => Wp.pos ⟨by omega, by simp only [vLen]; omega⟩ (Wp.pos ⟨h0, hi⟩ (Wp.neg (by rw [lt_of_not_le (hx.2 hp)]; decide) ih))) (fun _ => ih)))))
  refine Wp.step ?_
  simp only [spec_l08Ok_eq]
  exact lp l.length (by omega) (by omega)
theorem bud_wp {x : Int} : Wp (fun k => impl_budgetValid k x) (fun r => r = true ↔ 1 ≤ x ∧ x ≤ 20000) := by
  refine Wp.step ?_
  simp only [impl_budgetValid_eq]
  exact Wp.call within_wp (fun r h => Wp.now h)
abbrev Pr := List It × Int × Int × Int × List Int × List Int × Int × Int
structure Fine (l : List It) (A T S b : Int) (r : Pr) : Prop where
  hv : VL l
  hA : 0 ≤ A ∧ A ≤ 1439
  hS : 0 ≤ S ∧ S ≤ 5
  hT : A ≤ T ∧ T ≤ A + 1440
  hb : 1 ≤ b ∧ b ≤ 20000
  lo : 0 ≤ r.2.2.2.1
  hi : r.2.2.2.1 ≤ b
  best : BestW l S A T r.2.2.2.2.2.1 r.2.2.2.2.2.2.1
  up : 0 ≤ r.2.2.2.2.2.2.1
  len : (r.2.2.2.2.2.1.length : Int) ≤ b - r.2.2.2.1
  kid : ∀ j, 0 ≤ j → j < (l.length : Int) → Kid l S T [] A j → (vGet l j it0).2.2.2.2.2 ≤ r.2.2.2.2.2.2.1
  cnt : kids (Kid l S T [] A) l.length 0 ≤ b - r.2.2.2.1
theorem progs_wp {l : List It} {A T S b : Int} (hA : -10 ≤ A ∧ A ≤ 2000) : Wp (fun k => impl_programmes k l A T S b) (fun r => ¬ r.2.2.2.2.2.2.2 = 0 ∨ r.2.2.2.2.2.2.2 = 0 ∧ Fine l A T S b r) := by
  refine Wp.step ?_
  simp (disch := omega) only [impl_programmes_eq, vLt, vLe, vEq, vNot, inR, decide_eq_true_eq, Bool.not_eq_true', decide_eq_false_iff_not, Bool.not_eq_eq_eq_not, Bool.not_true, add64]
  refine Wp.call items_wp (fun r1 k1 => Wp.ite (fun _ => Wp.now (.inl (by dsimp only; omega))) (fun h1 => Wp.call minute_wp (fun r2 k2 => Wp.ite (fun _ => Wp.now (.inl (by dsimp only; omega))) (fun h2 => Wp.call season_wp (fun r3 k3 => Wp.ite (fun _ => Wp.now (.inl (by dsimp only; omega))) (fun h3 => Wp.call within_wp (fun r4 k4 => Wp.ite (fun _ => Wp.now (.inl (by dsimp only; omega))) (fun h4 => Wp.call bud_wp (fun r5 k5 => Wp.ite (fun _ => Wp.now (.inl (by dsimp only; omega))) (fun h5 => ?_))))))))))
  have hv := k1.1 (by simpa using h1)
  have hA := k2.1 (by simpa using h2)
  have hS := k3.1 (by simpa using h3)
  have hT := k4.1 (by simpa using h4)
  have hb := k5.1 (by simpa using h5)
  have c0 : Ch l S A T [] A := ⟨fun i hi => by simp at hi, by simp, rfl, hT.1⟩
  have vis := visit_wp hv hA hT (B := b.toNat) b [] A [] 0 (by omega) (by omega) (by omega) c0 ⟨⟨A, c0⟩, rfl⟩
  simp only [sum] at vis
  refine Wp.call vis (fun r ⟨h, _⟩ => Wp.ite (fun _ => Wp.now (.inl (by dsimp only; omega))) (fun hp => Wp.now (.inr ⟨rfl, ?_⟩)))
  have g := h.good (by omega)
  have l1 := g.len
  have hi := h.hi
  simp only [List.length_nil] at l1
  exact ⟨hv, hA, hS, hT, hb, by dsimp only; omega, h.hi, g.best, g.up, by dsimp only; omega, fun j h0 h1 k => by have := g.kid j h0 h1 k; simp only [sum] at this; dsimp only; omega, g.cnt⟩
theorem isProg_wp {l : List It} (hv : VL l) {A T S : Int} (hA : 0 ≤ A ∧ A ≤ 1439) (hS : 0 ≤ S ∧ S ≤ 5) (hT : A ≤ T ∧ T ≤ A + 1440) {o : List Int} (ho : o.length ≤ 2000) (hr : InR l.length o) (hn : o.Nodup) : Wp (fun k => spec_IsProgramme k l o A T S) (fun r => r = true ↔ ∃ e, run l S A o = some e ∧ e ≤ T) := by
  refine Wp.step ?_
  have un : Wp (fun k => spec_l08Until k A T) (fun r => r = true) := by
    refine Wp.step ?_
    simp (disch := omega) only [spec_l08Until_eq, add64]
    exact Wp.call in_wp (fun r h => Wp.now (h.2 hT))
  simp only [spec_IsProgramme_eq, vLt, vLe, vEq, vNot, inR, decide_eq_true_eq, Bool.not_eq_true', decide_eq_false_iff_not, Bool.not_eq_eq_eq_not, Bool.not_true]
  refine Wp.call (sok_wp hv) (fun r1 k1 => Wp.neg (by rw [k1]; decide) (Wp.call sminute_wp (fun r2 k2 => Wp.neg (by rw [k2.2 hA]; decide) (Wp.call sseason_wp (fun r3 k3 => Wp.neg (by rw [k3.2 hS]; decide) (Wp.call un (fun r4 k4 => Wp.neg (by rw [k4]; decide) (Wp.call (sorder_wp hv.1 ho hr hn) (fun r5 k5 => Wp.neg (by rw [k5]; decide) (Wp.call (send_wp hv ho hr hS.1 hA.1 (by omega)) (fun r6 k6 => Wp.ite (fun h => Wp.now ?_) (fun h => Wp.now ?_))))))))))))
  · rw [k6.1 h]
    simp
  · refine ⟨fun e => (by cases e), fun ⟨e, he, _⟩ => ?_⟩
    rw [k6.2 e he] at h
    exact absurd rfl h
theorem run_one {l : List It} {S A T j : Int} (h : ∃ e, run l S A [j] = some e ∧ e ≤ T) : Kid l S T [] A j := by
  obtain ⟨e, h1, h2⟩ := h
  simp only [run] at h1
  split at h1
  · rename_i hf
    simp only [Option.some.injEq] at h1
    exact ⟨by simp, hf, by omega⟩
  · cases h1
theorem kids_nn {C : Int → Prop} : ∀ {d : Nat} {i : Int}, 0 ≤ kids C d i
  | 0, i => Int.le_refl _
  | d + 1, i => by
    have := @kids_nn C d (i + 1)
    simp only [kids]; split <;> omega
theorem count_wp {l : List It} {A T S b : Int} {r : Pr} (F : Fine l A T S b r) : ∀ (d : Nat) {i x : Int}, 0 ≤ i → i + d = l.length → 0 ≤ x → x + kids (Kid l S T [] A) d i ≤ b - r.2.2.2.1 + 1 → Wp (fun k => laws_FnProgrammes_r16 k l A T S r.2.2.2.2.2.2.1 (b - r.2.2.2.1 + 1) x i) (fun r => r = true)
  | 0, i, x, h0, hd, hx, hk => by
    refine Wp.step ?_
    simp only [laws_FnProgrammes_r16_eq, vLt, vLe, vEq, vNot, inR, decide_eq_true_eq, Bool.not_eq_true', decide_eq_false_iff_not, Bool.not_eq_eq_eq_not, Bool.not_true]
    refine Wp.neg (by simp only [vLen]; omega) (Wp.now ?_)
    simp only [kids] at hk
    simp only [decide_eq_true_eq]; omega
  | d + 1, i, x, h0, hd, hx, hk => by
    have hi : i < (l.length : Int) := by omega
    have hl := F.hv.1
    have hb := F.hb
    have lo := F.lo
    have kn := @kids_nn (Kid l S T [] A) d (i + 1)
    simp only [kids] at hk
    refine Wp.step ?_
    have hx2 : x ≤ 30000 := by split at hk <;> omega
    simp (disch := omega) only [laws_FnProgrammes_r16_eq, vLt, vLe, vEq, vNot, inR, decide_eq_true_eq, Bool.not_eq_true', decide_eq_false_iff_not, Bool.not_eq_eq_eq_not, Bool.not_true, it0_eq, add64]
    refine Wp.pos hi (Wp.call (isProg_wp F.hv F.hA F.hS F.hT (by simp) (fun j hj => by simp only [List.mem_singleton] at hj; subst hj; exact ⟨h0, hi⟩) (by simp)) (fun r1 k1 => Wp.ite (fun h => ?_) (fun h => count_wp F d (by omega) (by omega) hx (by split at hk <;> omega))))
    have kd := run_one (k1.1 h)
    rw [if_pos kd] at hk
    exact Wp.pos ⟨h0, hi⟩ (Wp.neg (fun e => by have := of_decide_eq_true e; have := F.kid i h0 hi kd; omega) (count_wp F d (by omega) (by omega) (by omega) (by omega)))
set_option maxHeartbeats 4000000 in
theorem law_wp {c : List Int} (hb : Bytes c) : Wp (fun k => laws_FnProgrammes k c) (fun r => r = true) := by
  refine Wp.step ?_
  simp only [laws_FnProgrammes_eq, vLt, vLe, vEq, vNot, inR, decide_eq_true_eq, Bool.not_eq_true', decide_eq_false_iff_not, Bool.not_eq_eq_eq_not, Bool.not_true]
  have lg : Wp (fun k => laws_b10Long k c) (fun r => True) := by
    refine Wp.step ?_
    simp only [laws_b10Long_eq]
    exact Wp.now trivial
  refine Wp.call lg (fun r0 _ => Wp.ite (fun _ => Wp.now rfl) (fun _ => Wp.call (drawn_wp hb) (fun r hr => ?_)))
  obtain ⟨l, A, T, S, b⟩ := r
  obtain ⟨_, hA, hT, hb⟩ := hr
  dsimp only at hA hT hb ⊢
  obtain ⟨v, hv, hw⟩ := progs_wp (l := l) (A := A) (T := T) (S := S) (b := b) hA
  have pv : Wp (fun k => impl_programmes k l A T S b) (fun x => x = v) := ⟨v, rfl, hw⟩
  rcases hv with he | ⟨he, F⟩
  · have b1 : Wp (fun k => impl_BestProgramme k l A T S b) (fun x => x = ([], 0, v.2.2.2.2.2.2.2)) := by
      refine Wp.step ?_
      simp only [impl_BestProgramme_eq, vLt, vLe, vEq, vNot, inR, decide_eq_true_eq, Bool.not_eq_true', decide_eq_false_iff_not, Bool.not_eq_eq_eq_not, Bool.not_true]
      exact Wp.val pv (Wp.pos (by simpa using he) (Wp.now rfl))
    have b2 : Wp (fun k => impl_CountProgrammes k l A T S b) (fun x => x = (0, v.2.2.2.2.2.2.2)) := by
      refine Wp.step ?_
      simp only [impl_CountProgrammes_eq, vLt, vLe, vEq, vNot, inR, decide_eq_true_eq, Bool.not_eq_true', decide_eq_false_iff_not, Bool.not_eq_eq_eq_not, Bool.not_true]
      exact Wp.val pv (Wp.pos (by simpa using he) (Wp.now rfl))
    refine Wp.val b1 (Wp.val b2 (Wp.neg (by simp) (Wp.pos (by simpa using he) (Wp.pos (by simp [vLen]) (Wp.now (by simp))))))
  · have lo := F.lo
    have hi := F.hi
    have hbb := F.hb
    have b1 : Wp (fun k => impl_BestProgramme k l A T S b) (fun x => x = (v.2.2.2.2.2.1, v.2.2.2.2.2.2.1, 0)) := by
      refine Wp.step ?_
      simp only [impl_BestProgramme_eq, vLt, vLe, vEq, vNot, inR, decide_eq_true_eq, Bool.not_eq_true', decide_eq_false_iff_not, Bool.not_eq_eq_eq_not, Bool.not_true]
      exact Wp.val pv (Wp.neg (by simpa using he) (Wp.now rfl))
    have b2 : Wp (fun k => impl_CountProgrammes k l A T S b) (fun x => x = (b - v.2.2.2.1 + 1, 0)) := by
      refine Wp.step ?_
      simp (disch := omega) only [impl_CountProgrammes_eq, vLt, vLe, vEq, vNot, inR, decide_eq_true_eq, Bool.not_eq_true', decide_eq_false_iff_not, Bool.not_eq_eq_eq_not, Bool.not_true]
      refine Wp.val pv (Wp.neg (by simpa using he) (Wp.now ?_))
      rw [sub64 (by omega) (by omega), add64 (by omega) (by omega)]
    obtain ⟨⟨m, ch⟩, hsum⟩ := F.best
    have bd := ch.bd F.hv F.hA F.hT
    have low := run_low F.hv ch.inr ch.run
    have top := ch.top
    have ho : v.2.2.2.2.2.1.length ≤ 2000 := by omega
    have eo : Wp (fun k => impl_EndOf k l v.2.2.2.2.2.1 A S) (fun x => x = (m, 0)) := by
      refine Wp.step ?_
      simp only [impl_EndOf_eq, vLt, vLe, vEq, vNot, inR, decide_eq_true_eq, Bool.not_eq_true', decide_eq_false_iff_not, Bool.not_eq_eq_eq_not, Bool.not_true]
      refine Wp.call items_wp (fun r1 k1 => Wp.neg (by rw [k1.2 F.hv]; decide) (Wp.call minute_wp (fun r2 k2 => Wp.neg (by rw [k2.2 F.hA]; decide) (Wp.call season_wp (fun r3 k3 => Wp.neg (by rw [k3.2 F.hS]; decide) (Wp.call (order_wp F.hv.1 ho ch.inr ch.nd) (fun r4 k4 => Wp.neg (by rw [k4]; decide) (Wp.call (end_wp F.hv ho ch.inr F.hA.1 (by have := F.hA; omega)) (fun r5 k5 => ?_)))))))))
      rw [k5.2 m ch.run]
      exact Wp.neg (by simp) (Wp.now rfl)
    refine Wp.val b1 (Wp.val b2 (Wp.neg (by simp) (Wp.neg (by simp) (Wp.val (worth_wp F.hv ho ch.inr ch.nd) (Wp.val eo (Wp.call (isProg_wp F.hv F.hA F.hS F.hT ho ch.inr ch.nd) (fun r k => Wp.neg (by rw [k.2 ⟨m, ch.run, top⟩]; decide) ?_)))))))
    have fl := F.len
    have kc := F.cnt
    dsimp only
    rw [add64 (by simp only [vLen]; omega) (by simp only [vLen]; omega)]
    exact Wp.neg (by simp) (Wp.neg (by simp [hsum]) (Wp.neg (by simp) (Wp.neg (by omega) (Wp.neg (by omega) (Wp.neg (by simp only [vLen]; omega) (count_wp F l.length (by omega) (by omega) (by omega) (by omega)))))))
end Go.Proofs.Yticifedehhnjhaa.F
