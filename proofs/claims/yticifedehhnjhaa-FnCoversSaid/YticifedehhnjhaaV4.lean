/- The search for the fewest phrases. -/
import Derived.Test.YticifedehhnjhaaV3
namespace Go.Proofs.Yticifedehhnjhaa.F
open Go Go.Proofs.Yticifedehhnjhaa.Eng
set_option linter.unusedSimpArgs false
set_option linter.unusedVariables false
set_option maxRecDepth 100000
def Up (n : Int) : Int → List Int → Prop
  | _, [] => True
  | f, i :: r => f ≤ i ∧ i < n ∧ Up n (i + 1) r
def orM (M : List Int) : Int → List Int → Int
  | h, [] => h
  | h, i :: r => orM M (wOr .u64 h (vGet M i 0)) r
theorem Up.le {n : Int} : ∀ {f g : Int} {l : List Int}, Up n f l → g ≤ f → Up n g l
  | _, _, [], _, _ => trivial
  | _, _, i :: r, h, e => ⟨by have := h.1; omega, h.2⟩
theorem up_len {n : Int} : ∀ {f : Int} {l : List Int}, Up n f l → l = [] ∨ f + l.length ≤ n
  | _, [], _ => .inl rfl
  | f, i :: r, h => by
    right
    have := h.1; have := h.2.1
    rcases up_len h.2.2 with e | e
    · subst e; simp; omega
    · simp only [List.length_cons]; omega
theorem up_mem {n : Int} {i : Int} : ∀ {f : Int} {l : List Int}, Up n f l → i ∈ l → f ≤ i ∧ i < n
  | _, [], _, h => by simp at h
  | f, k :: r, h, hi => by
    have h1 := h.1; have h2 := h.2.1
    rcases List.mem_cons.1 hi with e | e
    · subst e; omega
    · have := up_mem h.2.2 e; omega
structure ResE (n : Int) (M : List Int) (W b : Int) (ch : List Int) (f : Int) (s : Nat) (h : Int) (r : Bool × List Int × Int × Int × List Int) : Prop where
  e1 : r.2.1 = M
  e2 : r.2.2.1 = W
  lo : -1 ≤ r.2.2.2.1
  hi : r.2.2.2.1 ≤ b
  yes : r.1 = true → ∃ ext, Up n f ext ∧ ext.length = s ∧ orM M h ext = W ∧ r.2.2.2.2 = ch ++ ext
  no : r.1 = false → r.2.2.2.2 = ch ∧ (0 ≤ r.2.2.2.1 → ∀ ext, Up n f ext → ext.length = s → ¬ orM M h ext = W)
theorem extend_wp {M : List Int} (hM : M.length ≤ 12) {W : Int} : ∀ (s : Nat) {b : Int} {ch : List Int} {f h : Int}, 0 ≤ b → b ≤ 20000 → 0 ≤ f → f ≤ M.length → ch.length + s ≤ 12 → Wp (fun k => impl_phraseSearch_extend k M W b ch f s h) (ResE M.length M W b ch f s h)
  | 0, b, ch, f, h, hb, hb2, hf, hf2, hc => by
    refine Wp.step ?_
    simp (disch := omega) only [impl_phraseSearch_extend_eq, vLt, vLe, vEq, vNot, inR, decide_eq_true_eq, Bool.not_eq_true', decide_eq_false_iff_not, Bool.not_eq_eq_eq_not, Bool.not_true, sub64]
    refine Wp.pos (by simp) (Wp.ite (fun q => Wp.now ⟨rfl, rfl, by dsimp only; omega, by dsimp only; omega, fun e => ?_, fun e => ?_⟩) (fun q => Wp.now ⟨rfl, rfl, by dsimp only; omega, by dsimp only; omega, fun e => (by cases e), fun e => ⟨rfl, fun p => (by dsimp only at p; omega)⟩⟩))
    · exact ⟨[], trivial, rfl, of_decide_eq_true e, by simp⟩
    · refine ⟨rfl, fun _ ext _ el => ?_⟩
      rw [List.length_eq_zero_iff.1 el]
      exact of_decide_eq_false e
  | s + 1, b, ch, f, h, hb, hb2, hf, hf2, hc => by
    have lp : ∀ (d : Nat) {i b : Int}, 0 ≤ i → i + d = M.length → 0 ≤ b → b ≤ 20000 → Wp (fun k => impl_phraseSearch_extend_r5 k (s + 1 : Nat) h i M W b ch) (ResE M.length M W b ch i (s + 1) h) := by
      intro d
      induction d with
      | zero =>
        intro i b h0 hd hb hb2
        refine Wp.step ?_
        simp (disch := omega) only [impl_phraseSearch_extend_r5_eq, vLt, vLe, vEq, vNot, inR, decide_eq_true_eq, Bool.not_eq_true', decide_eq_false_iff_not, Bool.not_eq_eq_eq_not, Bool.not_true, add64]
        refine Wp.neg (by simp only [vLen]; omega) (Wp.now ⟨rfl, rfl, by dsimp only; omega, Int.le_refl _, fun e => (by cases e), fun _ => ⟨rfl, fun _ ext u el => ?_⟩⟩)
        rcases up_len u with q | q
        · subst q; simp at el
        · omega
      | succ d ih =>
        intro i b h0 hd hb hb2
        have hi : i < (M.length : Int) := by omega
        refine Wp.step ?_
        simp (disch := omega) only [impl_phraseSearch_extend_r5_eq, vLt, vLe, vEq, vNot, inR, decide_eq_true_eq, Bool.not_eq_true', decide_eq_false_iff_not, Bool.not_eq_eq_eq_not, Bool.not_true, add64, sub64]
        refine Wp.ite (fun q => Wp.pos (app_ok (by simp [vLen]) (by simp only [vLen]; omega) (by omega)) (Wp.pos ⟨h0, hi⟩ ?_)) (fun q => Wp.now ⟨rfl, rfl, by dsimp only; omega, Int.le_refl _, fun e => (by cases e), fun _ => ⟨rfl, fun _ ext u el => ?_⟩⟩)
        · have sub := extend_wp hM (W := W) s (b := b) (ch := ch ++ [i]) (f := i + 1) (h := wOr .u64 h (vGet M i 0)) hb hb2 (by omega) (by omega) (by simp only [List.length_append, List.length_singleton]; omega)
          rw [show ((s + 1 : Nat) : Int) - 1 = (s : Int) by omega]
          refine Wp.call sub (fun r R => Wp.ite (fun e => Wp.now ⟨R.e1, R.e2, R.lo, R.hi, fun _ => ?_, fun e => (by cases e)⟩) (fun e => ?_))
          · obtain ⟨ext, u, el, eo, ec⟩ := R.yes e
            exact ⟨i :: ext, ⟨Int.le_refl _, hi, u⟩, by simp [el], eo, by rw [ec]; simp⟩
          · have e : r.1 = false := by simpa using e
            obtain ⟨ec, no⟩ := R.no e
            have el : vLen r.2.2.2.2 = ch.length + 1 := by rw [ec]; simp [vLen]
            have hcut : cut r.2.2.2.2 0 (wSub .i64 (vLen r.2.2.2.2) 1) = ch := by
              rw [el, sub64 (by omega) (by omega), ec]
              simp [cut, show (↑ch.length + 1 - 1 : Int).toNat = ch.length by omega]
            have hok : cutOk 0 (wSub .i64 (vLen r.2.2.2.2) 1) (vLen r.2.2.2.2) = true := by
              rw [el, sub64 (by omega) (by omega)]
              simp only [cutOk, decide_eq_true_eq]; omega
            refine Wp.pos hok ?_
            rw [hcut]
            have r1 := R.lo
            have r2 := R.hi
            refine Wp.ite (fun q => Wp.now ⟨R.e1, R.e2, R.lo, R.hi, fun e => (by cases e), fun _ => ⟨rfl, fun p => (by dsimp only at p; omega)⟩⟩) (fun q => ?_)
            rw [R.e1, R.e2]
            refine (ih (i := i + 1) (b := r.2.2.2.1) (by omega) (by omega) (by omega) (by omega)).mono fun z Z => ⟨Z.e1, Z.e2, Z.lo, by have := Z.hi; omega, fun e => ?_, fun e => ?_⟩
            · obtain ⟨ext, u, el, eo, ec⟩ := Z.yes e
              exact ⟨ext, u.le (by omega), el, eo, ec⟩
            · obtain ⟨zc, zn⟩ := Z.no e
              refine ⟨zc, fun p ext u el => ?_⟩
              cases ext with
              | nil => simp at el
              | cons j ext =>
                by_cases ej : j = i
                · subst ej
                  exact no (by omega) ext u.2.2 (by simpa using el)
                · exact zn p (j :: ext) ⟨by have := u.1; omega, u.2⟩ el
        · rcases up_len u with p | p
          · subst p; simp at el
          · simp only [vLen] at q; omega
    refine Wp.step ?_
    simp only [impl_phraseSearch_extend_eq, vLt, vLe, vEq, vNot, inR, decide_eq_true_eq, Bool.not_eq_true', decide_eq_false_iff_not, Bool.not_eq_eq_eq_not, Bool.not_true]
    exact Wp.neg (by omega) (lp (M.length - f.toNat) hf (by omega) hb hb2)
/-! ### what picked phrases cover -/
def picks (L : List (List Int)) (ext : List Int) : List (List Int) := ext.map fun i => vGet L i []
def Covers (P : List Int) (L : List (List Int)) (ext : List Int) : Prop := ∀ j, Cov P (picks L ext) j ↔ Cov P L j
theorem cov_picks {P : List Int} {L : List (List Int)} {ext : List Int} {j : Int} : Cov P (picks L ext) j ↔ ∃ i ∈ ext, Cov P [vGet L i []] j := by
  simp only [Cov, picks, List.mem_map, List.mem_singleton, exists_eq_left]
  constructor
  · rintro ⟨ph, ⟨a, ha, rfl⟩, h⟩; exact ⟨a, ha, h⟩
  · rintro ⟨a, ha, h⟩; exact ⟨_, ⟨a, ha, rfl⟩, h⟩
theorem cov_of_nat {P : List Int} {L L' : List (List Int)} (h : ∀ j : Nat, Cov P L j ↔ Cov P L' j) (j : Int) : Cov P L j ↔ Cov P L' j := by
  constructor
  · intro c
    have := (cov_rng c).1
    obtain ⟨k, rfl⟩ : ∃ k : Nat, j = k := ⟨j.toNat, by omega⟩
    exact (h k).1 c
  · intro c
    have := (cov_rng c).1
    obtain ⟨k, rfl⟩ : ∃ k : Nat, j = k := ⟨j.toNat, by omega⟩
    exact (h k).2 c
theorem orM_set {M : List Int} {B : Int → Int → Prop} : ∀ {ext : List Int} {h : Int} {A : Int → Prop}, SetM h A → (∀ i ∈ ext, SetM (vGet M i 0) (B i)) → SetM (orM M h ext) (fun j => A j ∨ ∃ i ∈ ext, B i j)
  | [], h, A, ha, _ => ha.congr fun j => by simp
  | i :: r, h, A, ha, hb => (orM_set (setM_or ha (hb i (by simp))) (fun k hk => hb k (List.mem_cons_of_mem _ hk))).congr fun j => by
    simp only [List.mem_cons, exists_eq_or_imp, or_assoc]
structure Masks (P : List Int) (L : List (List Int)) (M : List Int) : Prop where
  len : M.length = L.length
  set : ∀ i, 0 ≤ i → i < (L.length : Int) → SetM (vGet M i 0) (Cov P [vGet L i []])
theorem covers_iff {P : List Int} {L : List (List Int)} {M : List Int} {W : Int} (hM : Masks P L M) (hW : SetM W (Cov P L)) {ext : List Int} (u : Up L.length 0 ext) : orM M 0 ext = W ↔ Covers P L ext := by
  have s := orM_set (M := M) (B := fun i => Cov P [vGet L i []]) (ext := ext) setM_zero (fun i hi => hM.set i (up_mem u hi).1 (up_mem u hi).2)
  rw [setM_eq s hW]
  constructor
  · intro h j
    exact cov_of_nat (fun j => by rw [← h j, cov_picks]; simp) j
  · intro h j
    rw [← h j, cov_picks]; simp
def upto : Nat → Int → List Int
  | 0, _ => []
  | d + 1, i => i :: upto d (i + 1)
theorem upto_up {n : Int} : ∀ {d : Nat} {i : Int}, i + d ≤ n → Up n i (upto d i)
  | 0, i, h => trivial
  | d + 1, i, h => ⟨Int.le_refl _, by omega, upto_up (by omega)⟩
theorem upto_len : ∀ {d : Nat} {i : Int}, (upto d i).length = d
  | 0, i => rfl
  | d + 1, i => by simp [upto, upto_len]
theorem mem_upto {j : Int} : ∀ {d : Nat} {i : Int}, i ≤ j → j < i + d → j ∈ upto d i
  | 0, i, h, k => by omega
  | d + 1, i, h, k => by
    by_cases e : j = i
    · subst e; simp [upto]
    · exact List.mem_cons_of_mem _ (mem_upto (by omega) (by omega))
theorem full_covers {P : List Int} {L : List (List Int)} : Covers P L (upto L.length 0) := fun j => by
  rw [cov_picks]
  constructor
  · rintro ⟨i, hi, c⟩
    have m := up_mem (upto_up (n := L.length) (d := L.length) (i := 0) (by omega)) hi
    obtain ⟨ph, hp, c⟩ := c
    simp only [List.mem_singleton] at hp
    subst hp
    exact ⟨_, vGet_mem m.1 m.2, c⟩
  · rintro ⟨ph, hp, c⟩
    obtain ⟨i, hi, e⟩ := List.getElem_of_mem hp
    refine ⟨(i : Int), mem_upto (by omega) (by omega), ph, ?_, c⟩
    rw [vGet_get (by omega) (by omega)]
    simp [e]
def Best (P : List Int) (L : List (List Int)) (ch : List Int) : Prop := Up L.length 0 ch ∧ Covers P L ch ∧ ∀ ext, Up L.length 0 ext → ext.length < ch.length → ¬ Covers P L ext
theorem sizes_wp {P : List Int} {L : List (List Int)} {M : List Int} {W : Int} (hL : L.length ≤ 12) (hM : Masks P L M) (hW : SetM W (Cov P L)) : ∀ (d : Nat) {x b : Int}, 0 ≤ x → x + d = L.length → 0 ≤ b → b ≤ 20000 → (∀ ext, Up L.length 0 ext → (ext.length : Int) < x → ¬ Covers P L ext) → Wp (fun k => impl_FewestPhrases_r15 k x M W b []) (fun r => r.2 = 0 → Best P L r.1)
  | d, x, b, h0, hd, hb, hb2, H => by
    have hl := hM.len
    have ex := extend_wp (M := M) (by omega) (W := W) x.toNat (b := b) (ch := []) (f := 0) (h := 0) hb hb2 (by omega) (by omega) (by simp; omega)
    rw [show ((x.toNat : Nat) : Int) = x by omega] at ex
    refine Wp.step ?_
    simp (disch := omega) only [impl_FewestPhrases_r15_eq, vLt, vLe, vEq, vNot, inR, decide_eq_true_eq, Bool.not_eq_true', decide_eq_false_iff_not, Bool.not_eq_eq_eq_not, Bool.not_true, add64]
    refine Wp.call ex (fun r R => Wp.ite (fun e => Wp.now fun _ => ?_) (fun e => ?_))
    · obtain ⟨ext, u, el, eo, ec⟩ := R.yes e
      rw [hl] at u
      simp only [List.nil_append] at ec
      dsimp only
      rw [ec]
      refine ⟨u, (covers_iff hM hW u).1 eo, fun ext' u' hlt => H ext' u' (by omega)⟩
    · have e : r.1 = false := by simpa using e
      obtain ⟨ec, no⟩ := R.no e
      refine Wp.ite (fun q => Wp.now fun p => (by dsimp only at p; omega)) (fun q => ?_)
      have no := no (by omega)
      rw [R.e1, R.e2, ec]
      have H' : ∀ ext, Up L.length 0 ext → (ext.length : Int) < x + 1 → ¬ Covers P L ext := fun ext u hlt => by
        by_cases el : ext.length = x.toNat
        · exact fun c => no ext (by rw [hl]; exact u) el ((covers_iff hM hW u).2 c)
        · exact H ext u (by omega)
      cases d with
      | zero => exact (H' (upto L.length 0) (upto_up (by omega)) (by rw [upto_len]; omega) full_covers).elim
      | succ d =>
        have := R.hi
        exact sizes_wp hL hM hW d (by omega) (by omega) (by omega) (by omega) H'
theorem bud_wp {x : Int} : Wp (fun k => impl_budgetValid k x) (fun r => r = true ↔ 1 ≤ x ∧ x ≤ 20000) := by
  refine Wp.step ?_
  simp only [impl_budgetValid_eq]
  exact Wp.call within_wp (fun r h => Wp.now h)
theorem vGet_app {α : Type} {l : List α} {x d : α} {j : Int} (h0 : 0 ≤ j) (h1 : j < l.length) : vGet (l ++ [x]) j d = vGet l j d := by
  rw [vGet_get h0 h1, vGet_get h0 (by simp; omega), List.getElem_append_left]
theorem vGet_last {α : Type} {l : List α} {x d : α} : vGet (l ++ [x]) (l.length : Int) d = x := by
  rw [vGet_get (by omega) (by simp; omega)]; simp
theorem VP.mem {L : List (List Int)} (h : VP L) {p : List Int} (hp : p ∈ L) : PhOk p := by
  obtain ⟨i, hi, e⟩ := List.getElem_of_mem hp
  have := h.ok i (by omega) (by omega)
  rw [vGet_get (by omega) (by omega)] at this
  simpa [e] using this
theorem fewest_wp {P : List Int} {L : List (List Int)} {b : Int} : Wp (fun k => impl_FewestPhrases k P L b) (fun r => r.2 = 0 → (PtOk P ∧ VP L) ∧ Best P L r.1) := by
  refine Wp.step ?_
  simp only [impl_FewestPhrases_eq, vLt, vLe, vEq, vNot, inR, decide_eq_true_eq, Bool.not_eq_true', decide_eq_false_iff_not, Bool.not_eq_eq_eq_not, Bool.not_true]
  refine Wp.call valid_wp (fun r1 k1 => Wp.ite (fun _ => Wp.now fun q => (by dsimp only at q; omega)) (fun h1 => Wp.call ptOk_wp (fun r2 k2 => Wp.ite (fun _ => Wp.now fun q => (by dsimp only at q; omega)) (fun h2 => Wp.call bud_wp (fun r3 k3 => Wp.ite (fun _ => Wp.now fun q => (by dsimp only at q; omega)) (fun h3 => ?_))))))
  have hv := k1 (by simpa using h1)
  have hP := k2.1 (by simpa using h2)
  have hb := k3.1 (by simpa using h3)
  have hl := hv.len
  have hpl : ∀ p ∈ L, 1 ≤ p.length ∧ p.length ≤ 100 := fun p hp => by have := (hv.mem hp).1; omega
  refine Wp.call (covered_wp hP.1 hl hpl) (fun W hW => ?_)
  have lp : ∀ (d : Nat) {i : Int} {M : List Int}, 0 ≤ i → i + d = L.length → M.length = i → (∀ j, 0 ≤ j → j < i → SetM (vGet M j 0) (Cov P [vGet L j []])) → Wp (fun k => impl_FewestPhrases_r9 k P L (vLen L) i M W b []) (fun r => r.2 = 0 → (PtOk P ∧ VP L) ∧ Best P L r.1) := by
    intro d
    induction d with
    | zero =>
      intro i M h0 hd hm H
      refine Wp.step ?_
      simp only [impl_FewestPhrases_r9_eq, vLt, vLe, vEq, vNot, inR, decide_eq_true_eq, Bool.not_eq_true', decide_eq_false_iff_not, Bool.not_eq_eq_eq_not, Bool.not_true]
      refine Wp.neg (by simp only [vLen]; omega) ((sizes_wp hl ⟨by omega, fun j h0 h1 => H j h0 (by omega)⟩ hW L.length (by omega) (by omega) (by omega) hb.2 (fun ext _ q => by omega)).mono fun r h q => ⟨⟨hP, hv⟩, h q⟩)
    | succ d ih =>
      intro i M h0 hd hm H
      have hi : i < (L.length : Int) := by omega
      refine Wp.step ?_
      simp (disch := omega) only [impl_FewestPhrases_r9_eq, vLt, vLe, vEq, vNot, inR, decide_eq_true_eq, Bool.not_eq_true', decide_eq_false_iff_not, Bool.not_eq_eq_eq_not, Bool.not_true, add64]
      refine Wp.pos hi (Wp.pos ⟨h0, hi⟩ (Wp.call (covered_wp hP.1 (L := [vGet L i []]) (by simp) (fun p hp => by simp only [List.mem_singleton] at hp; subst hp; exact hpl _ (vGet_mem h0 hi))) (fun m hm2 => Wp.pos (app_ok (by simp [vLen]) (by simp only [vLen]; omega) (by omega)) (ih (by omega) (by omega) (by simp only [vApp, List.length_append, List.length_singleton]; omega) fun j j0 j1 => ?_))))
      simp only [vApp]
      by_cases e : j = i
      · subst e
        have : vGet (M ++ [m]) j 0 = m := by
          have := @vGet_last _ M m 0
          rwa [hm] at this
        rw [this]; exact hm2
      · rw [vGet_app j0 (by omega)]; exact H j j0 (by omega)
  exact lp L.length (by omega) (by omega) (by simp) (fun j h0 h1 => by omega)
end Go.Proofs.Yticifedehhnjhaa.F
