/- The search for the best programme. -/
import Derived.Test.YticifedehhnjhaaQ3
namespace Go.Proofs.Yticifedehhnjhaa.F
open Go Go.Proofs.Yticifedehhnjhaa.Eng
set_option linter.unusedSimpArgs false
set_option linter.unusedVariables false
set_option maxRecDepth 100000
theorem clone_wp {L : List Int} (hL : L.length ≤ 100000) : Wp (fun k => slices_Clone_int64_int64 k L) (fun r => r = L) := by
  cases L with
  | nil =>
    refine ⟨[], rfl, 1, fun k hk => ?_⟩
    obtain ⟨m, rfl⟩ : ∃ m, k = m + 1 := ⟨k - 1, by omega⟩
    show slices_Clone_int64_int64 (m + 1) [] = some []
    rw [slices_Clone_int64_int64_eq]
    rfl
  | cons x L =>
    refine Wp.step ?_
    simp only [slices_Clone_int64_int64_eq, vLt, vLe, vEq, vNot, inR, decide_eq_true_eq, Bool.not_eq_true', decide_eq_false_iff_not, Bool.not_eq_eq_eq_not, Bool.not_true]
    refine Wp.neg (by simp only [vLen, List.length_cons]; omega) (Wp.pos ?_ (Wp.now rfl))
    unfold appOk
    apply Nat.ble_eq_true_of_le
    simp only [vLen, List.length_nil]
    omega
/-- An order that begins at A and ends at m. -/
structure Ch (l : List It) (S A T : Int) (o : List Int) (m : Int) : Prop where
  inr : InR l.length o
  nd : o.Nodup
  run : run l S A o = some m
  top : m ≤ T
def Kid (l : List It) (S T : Int) (o : List Int) (m j : Int) : Prop := j ∉ o ∧ FitQ S (vRem m 1440) (vGet l j it0) ∧ m + (vGet l j it0).2.2.2.2.1 ≤ T
open Classical in
noncomputable def kids (C : Int → Prop) : Nat → Int → Int
  | 0, _ => 0
  | d + 1, i => (if C i then 1 else 0) + kids C d (i + 1)
theorem Ch.snoc {l : List It} {S A T : Int} {o : List Int} {m j : Int} (h : Ch l S A T o m) (h0 : 0 ≤ j) (h1 : j < (l.length : Int)) (k : Kid l S T o m j) : Ch l S A T (o ++ [j]) (m + (vGet l j it0).2.2.2.2.1) := by
  refine ⟨fun i hi => ?_, ?_, ?_, k.2.2⟩
  · rcases List.mem_append.1 hi with hi | hi
    · exact h.inr i hi
    · simp only [List.mem_singleton] at hi; subst hi; exact ⟨h0, h1⟩
  · rw [List.nodup_append]
    refine ⟨h.nd, by simp, fun a ha b hb e => ?_⟩
    simp only [List.mem_singleton] at hb
    subst hb; subst e
    exact k.1 ha
  · rw [run_app, h.run]
    simp only [Option.bind_some, F.run]
    rw [if_pos k.2.1]
abbrev Vr := List It × Int × Int × Int × List Int × List Int × Int
def BestW (l : List It) (S A T : Int) (o : List Int) (w : Int) : Prop := (∃ e, Ch l S A T o e) ∧ w = sum l o
structure Good (l : List It) (S A T : Int) (o : List Int) (m i : Int) (d : Nat) (b : Int) (bst : List Int) (w : Int) (r : Vr) : Prop where
  best : BestW l S A T r.2.2.2.2.2.1 r.2.2.2.2.2.2
  up : w ≤ r.2.2.2.2.2.2
  len : (r.2.2.2.2.2.1.length : Int) ≤ bst.length ∨ (r.2.2.2.2.2.1.length : Int) ≤ o.length + (b - r.2.2.2.1)
  kid : ∀ j, i ≤ j → j < (l.length : Int) → Kid l S T o m j → sum l o + (vGet l j it0).2.2.2.2.2 ≤ r.2.2.2.2.2.2
  cnt : kids (Kid l S T o m) d i ≤ b - r.2.2.2.1
structure Res (l : List It) (S A T : Int) (o : List Int) (m i : Int) (d : Nat) (b : Int) (bst : List Int) (w : Int) (r : Vr) : Prop where
  e1 : r.1 = l
  e2 : r.2.1 = T
  e3 : r.2.2.1 = S
  e5 : r.2.2.2.2.1 = o
  lo : -1 ≤ r.2.2.2.1
  hi : r.2.2.2.1 ≤ b
  good : 0 ≤ r.2.2.2.1 → Good l S A T o m i d b bst w r
section
variable {l : List It} (hv : VL l) {S A T : Int} (hA : 0 ≤ A ∧ A ≤ 1439) (hT : A ≤ T ∧ T ≤ A + 1440)
include hv hA hT
theorem Ch.bd {o : List Int} {m : Int} (h : Ch l S A T o m) : (0 ≤ m ∧ m ≤ 2879) ∧ o.length ≤ 1440 ∧ (0 ≤ sum l o ∧ sum l o ≤ 1440000) := by
  have h1 := run_low hv h.inr h.run
  have h2 := sum_low hv h.inr
  have h3 := h.top
  omega
set_option maxHeartbeats 4000000 in
theorem loop_wp {B : Int} (hB : B ≤ 20000) (H : ∀ (b : Int) (o : List Int) (m : Int) (bst : List Int) (w : Int), 0 ≤ b → b < B → Ch l S A T o m → BestW l S A T bst w → Wp (fun k => impl_programmeSearch_visit k l T S b o bst w m (sum l o)) (fun r => Res l S A T o m 0 l.length b bst w r ∧ (0 ≤ r.2.2.2.1 → sum l o ≤ r.2.2.2.2.2.2))) :
    ∀ (d : Nat) {i b : Int} {o : List Int} {m : Int} {bst : List Int} {w : Int}, 0 ≤ i → i + d = l.length → 0 ≤ b → b ≤ B → Ch l S A T o m → BestW l S A T bst w → Wp (fun k => impl_programmeSearch_visit_r3 k m (sum l o) l (vLen l) i l T S b o bst w) (Res l S A T o m i d b bst w)
  | 0, i, b, o, m, bst, w, h0, hd, hb, hbB, hc, hw => by
    refine Wp.step ?_
    simp only [impl_programmeSearch_visit_r3_eq, vLt, vLe, vEq, vNot, inR, decide_eq_true_eq, Bool.not_eq_true', decide_eq_false_iff_not, Bool.not_eq_eq_eq_not, Bool.not_true]
    refine Wp.neg (by simp only [vLen]; omega) (Wp.now ⟨rfl, rfl, rfl, rfl, by dsimp only; omega, Int.le_refl _, fun _ => ⟨hw, Int.le_refl _, .inl (Int.le_refl _), fun j h1 h2 => by omega, ?_⟩⟩)
    simp [kids]
  | d + 1, i, b, o, m, bst, w, h0, hd, hb, hbB, hc, hw => by
    have hi : i < (l.length : Int) := by omega
    have bd := hc.bd hv hA hT
    have hx := (hv.at h0 hi).2.2.2.2.2
    have hl := hv.1
    have skip : ¬ Kid l S T o m i → Wp (fun k => impl_programmeSearch_visit_r3 k m (sum l o) l (vLen l) (i + 1) l T S b o bst w) (Res l S A T o m i (d + 1) b bst w) := fun hk => (loop_wp hB H d (i := i + 1) (by omega) (by omega) hb hbB hc hw).mono fun r h => ⟨h.e1, h.e2, h.e3, h.e5, h.lo, h.hi, fun hp => by
      have g := h.good hp
      refine ⟨g.best, g.up, g.len, fun j h1 h2 k => ?_, ?_⟩
      · by_cases e : j = i
        · subst e; exact absurd k hk
        · exact g.kid j (by omega) h2 k
      · simp only [kids, if_neg hk]; have := g.cnt; omega⟩
    refine Wp.step ?_
    simp (config := { maxSteps := 10000000 }) (disch := omega) only [impl_programmeSearch_visit_r3_eq, vLt, vLe, vEq, vNot, inR, decide_eq_true_eq, Bool.not_eq_true', decide_eq_false_iff_not, Bool.not_eq_eq_eq_not, Bool.not_true, it0_eq, add64, sub64]
    refine Wp.pos (by simp only [vLen]; omega) (Wp.pos ⟨h0, hi⟩ (Wp.call (contains_wp (by omega)) (fun r1 k1 => Wp.ite (fun e => skip fun k => k.1 (k1.1 e)) (fun e1 => Wp.neg (by decide) (Wp.call fits_wp (fun r2 k2 => Wp.ite (fun e => skip fun k => ?_) (fun e2 => Wp.ite (fun e => skip fun k => ?_) (fun e3 => ?_))))))))
    · have := k2.2 k.2.1; rw [e] at this; cases this
    · have := k.2.2; omega
    have hk : Kid l S T o m i := ⟨fun q => e1 (k1.2 q), k2.1 (by simpa using e2), by omega⟩
    refine Wp.ite (fun e => Wp.now ⟨rfl, rfl, rfl, rfl, by dsimp only; omega, by dsimp only; omega, fun q => by dsimp only at q; omega⟩) (fun e4 => Wp.pos (app_ok (by simp [vLen]) (by simp only [vLen]; omega) (by omega)) ?_)
    have hv' := H (b - 1) (o ++ [i]) _ bst w (by omega) (by omega) (hc.snoc h0 hi hk) hw
    rw [sum_app] at hv'
    refine Wp.call hv' (fun r ⟨k, up⟩ => ?_)
    have hcut : cut r.2.2.2.2.1 0 (wSub .i64 (vLen r.2.2.2.2.1) 1) = o := by
      have : vLen r.2.2.2.2.1 = o.length + 1 := by rw [k.e5]; simp [vLen]
      rw [this, sub64 (by omega) (by omega), k.e5]
      simp [cut, show (↑o.length + 1 - 1 : Int).toNat = o.length by omega]
    have hok : cutOk 0 (wSub .i64 (vLen r.2.2.2.2.1) 1) (vLen r.2.2.2.2.1) = true := by
      have : vLen r.2.2.2.2.1 = o.length + 1 := by rw [k.e5]; simp [vLen]
      rw [this, sub64 (by omega) (by omega)]
      simp only [cutOk, decide_eq_true_eq]; omega
    refine Wp.pos hok ?_
    rw [hcut]
    have h1 := k.lo
    have h2 := k.hi
    refine Wp.ite (fun e => Wp.now ⟨k.e1, k.e2, k.e3, rfl, h1, by dsimp only; omega, fun q => by dsimp only at q; omega⟩) (fun e5 => ?_)
    have g := k.good (by omega)
    rw [k.e1, k.e2, k.e3]
    refine (loop_wp hB H d (i := i + 1) (b := r.2.2.2.1) (bst := r.2.2.2.2.2.1) (w := r.2.2.2.2.2.2) (by omega) (by omega) (by omega) (by omega) hc g.best).mono fun q h => ⟨h.e1, h.e2, h.e3, h.e5, h.lo, by have := h.hi; omega, fun hp => ?_⟩
    have g' := h.good hp
    have u1 := g'.up
    have u2 := g.up
    refine ⟨g'.best, by omega, ?_, fun j j1 j2 kj => ?_, ?_⟩
    · have l1 := g.len
      have l2 := g'.len
      have := h.hi
      simp only [List.length_append, List.length_singleton, Int.natCast_add] at l1
      omega
    · by_cases e : j = i
      · subst e; have := up (by omega); omega
      · exact g'.kid j (by omega) j2 kj
    · simp only [kids, if_pos hk]; have := g'.cnt; omega
theorem visit_of {B b : Int} {o : List Int} {m : Int} {bst : List Int} {w : Int} (h0 : 0 ≤ b) (h1 : b ≤ B) (hc : Ch l S A T o m) (hw : BestW l S A T bst w) (L : ∀ (d : Nat) {i b : Int} {o : List Int} {m : Int} {bst : List Int} {w : Int}, 0 ≤ i → i + d = l.length → 0 ≤ b → b ≤ B → Ch l S A T o m → BestW l S A T bst w → Wp (fun k => impl_programmeSearch_visit_r3 k m (sum l o) l (vLen l) i l T S b o bst w) (Res l S A T o m i d b bst w)) :
    Wp (fun k => impl_programmeSearch_visit k l T S b o bst w m (sum l o)) (fun r => Res l S A T o m 0 l.length b bst w r ∧ (0 ≤ r.2.2.2.1 → sum l o ≤ r.2.2.2.2.2.2)) := by
  have bd := hc.bd hv hA hT
  refine Wp.step ?_
  simp only [impl_programmeSearch_visit_eq, vLt, vLe, vEq, vNot, inR, decide_eq_true_eq, Bool.not_eq_true', decide_eq_false_iff_not, Bool.not_eq_eq_eq_not, Bool.not_true]
  refine Wp.ite (fun e => Wp.val (clone_wp (by omega)) ?_) (fun e => ?_)
  · refine (L l.length (by omega) (by omega) h0 h1 hc ⟨⟨m, hc⟩, rfl⟩).mono fun r h => ⟨⟨h.e1, h.e2, h.e3, h.e5, h.lo, h.hi, fun q => ?_⟩, fun q => (h.good q).up⟩
    have g := h.good q
    have := g.up
    have := h.hi
    exact ⟨g.best, by omega, by have := g.len; omega, g.kid, g.cnt⟩
  · exact (L l.length (by omega) (by omega) h0 h1 hc hw).mono fun r h => ⟨h, fun q => by have := (h.good q).up; omega⟩
theorem visit_wp {B : Nat} : ∀ (b : Int) (o : List Int) (m : Int) (bst : List Int) (w : Int), 0 ≤ b → b ≤ B → (B : Int) ≤ 20000 → Ch l S A T o m → BestW l S A T bst w → Wp (fun k => impl_programmeSearch_visit k l T S b o bst w m (sum l o)) (fun r => Res l S A T o m 0 l.length b bst w r ∧ (0 ≤ r.2.2.2.1 → sum l o ≤ r.2.2.2.2.2.2)) := by
  induction B with
  | zero =>
    intro b o m bst w h0 h1 hB hc hw
    exact visit_of hv hA hT h0 (by omega) hc hw (loop_wp hv hA hT (B := 0) (by omega) (fun b o m bst w h0 h1 => by omega))
  | succ B ih =>
    intro b o m bst w h0 h1 hB hc hw
    exact visit_of hv hA hT h0 h1 hc hw (loop_wp hv hA hT (B := (B + 1 : Nat)) hB (fun b o m bst w h0 h1 hc hw => ih b o m bst w h0 (by omega) (by omega) hc hw))
end
end Go.Proofs.Yticifedehhnjhaa.F
