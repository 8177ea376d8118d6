-- WRITTEN BY wip/gprint.py, a program of this session's over the kit's print, with contracts given by hand
import Derived.Test.YtepodajmfcjjkaaRows
import Derived.Test.YtepodajmfcjjkaaPLx14
import Derived.Test.YtepodajmfcjjkaaPureFnExactListCadences
import Derived.WalkKit
import Derived.ProofKit
import Derived.OpenShut
import Derived.ShutString
import Derived.ChangeOld
import Derived.Below
import Derived.SizedLaws
import Derived.Deep.Slices
import Derived.DataReads
import Derived.Lib.SmallJoins
import Derived.ChangeArms
import Derived.Test.YtepodajmfcjjkaaWSized
namespace Go.Proofs.Ytepodajmfcjjkaa.fnExactListCadences
open Go.ChangeShapes Go.WideShapes Go.ChangeAt Go.RowKit
open Go.ChangeMaps (open_string shut_string)
set_option linter.unusedVariables false
theorem own : ownKnob Try.prog.godebug = none := by kernel_rfl
theorem laidOut : laidOutB Try.prog = true := by kernel_rfl
open Go.Proofs.Ytepodajmfcjjkaa.PL Go.Proofs.YtepodajmfcjjkaaW.PrintWords Go.Proofs.YtepodajmfcjjkaaW.PrintLast
def Op {α : Type} (P : Program) (t : TypeId) (d : Kd α) (ok : α → Prop) : Prop :=
  ∀ (H : Type) (enc : TypeId × Value → H) (w : World) (base : Nat) (spare : Nat → Bool) (held : Bool) (fuel : Nat) (cs : List Value) (x : DataW H × List MemPlace), DataW.trod enc P w base spare held fuel t cs = some x → ∃ y : α, d.K w y cs ∧ ok y
theorem op_int {P : Program} {t : TypeId} {k : IntKind} (ht : P.underlying t = some (.int k)) : Op P t (Kd.int k) (fun n => (Lit.int k n).wf = true) := fun _ _ _ _ _ _ _ _ _ h => by
  obtain ⟨n, rfl, _, hw⟩ := DataW.trod_int ht h
  exact ⟨n, rfl, hw⟩
theorem op_bool {P : Program} {t : TypeId} (ht : P.underlying t = some .bool) : Op P t Kd.bool (fun _ => True) := fun _ _ _ _ _ _ _ _ _ h => by
  obtain ⟨n, rfl, _⟩ := DataW.trod_bool ht h
  exact ⟨n, rfl, trivial⟩
theorem op_string {P : Program} {t : TypeId} (ht : P.underlying t = some .string) : Op P t Kd.string (fun s => s.size ≤ maxLen) := fun _ _ _ _ _ _ _ _ _ h => by
  obtain ⟨n, rfl, _, hw⟩ := DataW.trod_string ht h
  exact ⟨n, rfl, hw⟩
theorem op_slice {P : Program} {α : Type} {d : Kd α} {ok : α → Prop} {t e : TypeId} (ht : P.underlying t = some (.slice e)) (hsz : P.cellsOf e = d.sz) (he : Op P e d ok) : Op P t (Kd.slice e d) (fun l => l.length ≤ maxLen ∧ ∀ x ∈ l, ok x) := fun H enc w base spare held fuel cs x h => by
  rcases Go.Deep.open_slice ht h with ⟨rfl, _⟩ | ⟨a, len, cap, m, n, D, Pl, rfl, _, hl, hm, hmeq, _, hel⟩
  · exact ⟨[], ⟨none, 0, rfl, Nat.le_refl _, Kd.C_nil _ _⟩, Nat.zero_le _, fun _ h => by cases h⟩
  · have hlm : len ≤ m := by rw [hmeq]; split <;> omega
    have key : ∀ i, i < len → ∃ y : α, ok y ∧ ∃ c : List Value, c.length = d.sz ∧ d.K w y c ∧ ∀ j u, c[j]? = some u → w.cell? (a.add (i * d.sz + j)) = some u := fun i hi => by
      obtain ⟨cs', h1, h2⟩ := hel i (by omega)
      obtain ⟨y, hK, hok⟩ := he _ _ _ _ _ _ _ _ _ h2
      refine ⟨y, hok, cs', d.K_len hK, hK, fun j u hj => ?_⟩
      rw [hsz] at h1
      unfold World.cells? at h1
      split at h1
      · have hjl : j < d.sz := by rw [← d.K_len hK]; exact (List.getElem?_eq_some_iff.1 hj).1
        have := mapM_some_get h1 j j (by simp [hjl])
        rw [add_add] at this
        rw [this, hj]
      · cases h1
    refine ⟨List.ofFn (n := len) fun i => Classical.choose (key i.1 i.2), ⟨some a, cap, by simp, by simp; omega, by simp, by simp only [List.length_ofFn]; unfold maxLen at hm; omega, fun _ => ⟨a, rfl, fun j p hj => ?_⟩⟩, by simp; omega, fun x hx => ?_⟩
    · rw [List.getElem?_ofFn] at hj
      split at hj
      · rename_i hjl
        injection hj with hj
        subst hj
        exact (Classical.choose_spec (key j hjl)).2
      · cases hj
    · obtain ⟨i, rfl⟩ := List.mem_ofFn.1 hx
      exact (Classical.choose_spec (key i.1 i.2)).1
set_option maxRecDepth 100000 in
theorem op_T24 : Op Try.prog 24 k24 (fun x => (x.f0.size ≤ maxLen ∧ (x.f1.length ≤ maxLen ∧ ∀ y0 ∈ x.f1, (Lit.int .i64 y0).wf = true) ∧ (x.f2.length ≤ maxLen ∧ ∀ y0 ∈ x.f2, (Lit.int .i64 y0).wf = true))) := by
  intro H enc w base spare held fuel cs x h
  obtain ⟨xs, n, _, _, hl, hlen, hf⟩ := DataW.trod_struct Try.underlying24 h
  rw [show Try.prog.cellsOf 24 = 3 by kernel_rfl] at hl
  match cs, hl with
  | [c0, c1, c2], _ =>
  match xs, hlen with
  | [y0, y1, y2], _ =>
  have e0 : DataW.trod enc Try.prog w base spare held n 9 [c0] = some y0 := by
    have g := hf 0 _ rfl
    simpa [show Try.prog.cellsOf 9 = 1 by kernel_rfl] using g
  obtain ⟨z0, k0, o0⟩ := (op_string Try.underlying9) _ _ _ _ _ _ _ _ _ e0
  have e1 : DataW.trod enc Try.prog w base spare held n 22 [c1] = some y1 := by
    have g := hf 1 _ rfl
    simpa [show Try.prog.cellsOf 22 = 1 by kernel_rfl] using g
  obtain ⟨z1, k1, o1⟩ := (op_slice Try.underlying22 (by kernel_rfl) (op_int Try.underlying2)) _ _ _ _ _ _ _ _ _ e1
  have e2 : DataW.trod enc Try.prog w base spare held n 22 [c2] = some y2 := by
    have g := hf 2 _ rfl
    simpa [show Try.prog.cellsOf 22 = 1 by kernel_rfl] using g
  obtain ⟨z2, k2, o2⟩ := (op_slice Try.underlying22 (by kernel_rfl) (op_int Try.underlying2)) _ _ _ _ _ _ _ _ _ e2
  exact ⟨⟨z0, z1, z2⟩, ⟨_, _, rfl, k0, ⟨_, _, rfl, k1, k2⟩⟩, ⟨o0, o1, o2⟩⟩
set_option maxRecDepth 100000 in
theorem lifted (os : Os) (started : os.Started) (H : Type) (enc : TypeId × Value → H) :
    ReturnsInHanded {} Try.checked os 3 .any (Rows.fnExactListCadencesSpec.pre6 enc Try.prog Try.f3 Rows.fnExactListCadencesRow.domain false) (Rows.fnExactListCadencesSpec.post enc Try.prog Try.f3 false true false false) := by
  refine returnsInHanded_of_change_sized (C := Try.checked) own started (by kernel_rfl) Try.func3
    (ChangeSpec.witness6 (enc := enc) (C := Try.checked) false ⟨#[], #[.agg #[.string ByteArray.empty, .slice none 0 0, .slice none 0 0], .int .i64 0, .int .i64 0, .int .i64 0, .int .i64 0], []⟩ 8 (by kernel_rfl) (by kernel_rfl) (by kernel_rfl) (by kernel_rfl)) ?_
  intro W base args ds gs before hval0 hW hcnd hsz0 _
  have hsz : (DataW.weightsEach Try.prog (Try.f3.params.toList ++ Rows.fnExactListCadencesSpec.plain.varTypes Try.prog) (ds ++ gs)).all (· ≤ reachBytes) = true := hsz0
  have hval : ∀ (j : Nat) t v, Try.f3.params[j]? = some t → args[j]? = some v → Value.okWide Try.prog W .any base t v := hval0
  have hW' := hW
  obtain ⟨p, q, hA0, hV, rfl, hfz, hnd⟩ := hW
  have hA : DataW.TrodAll enc Try.prog W 0 (fun _ => true) true Try.f3.params.toList args.toList ds p := hA0
  rw [Try.params3] at hA hval hsz
  obtain ⟨v0, vs0, d0, ds0, p0, q0, hargs, rfl, rfl, h0, r0⟩ := trodAll_cons hA
  obtain ⟨v1, vs1, d1, ds1, p1, q1, rfl, rfl, rfl, h1, r1⟩ := trodAll_cons r0
  obtain ⟨v2, vs2, d2, ds2, p2, q2, rfl, rfl, rfl, h2, r2⟩ := trodAll_cons r1
  obtain ⟨v3, vs3, d3, ds3, p3, q3, rfl, rfl, rfl, h3, r3⟩ := trodAll_cons r2
  obtain ⟨v4, vs4, d4, ds4, p4, q4, rfl, rfl, rfl, h4, r4⟩ := trodAll_cons r3
  obtain ⟨rfl, rfl, rfl⟩ := trodAll_nil r4
  obtain rfl : args = #[v0, v1, v2, v3, v4] := by cases args; simp_all
  obtain ⟨rfl, rfl⟩ := trodVars_none hV
  obtain ⟨cs0, rfl, hsz0⟩ := okWide_struct Try.underlying24 (hval 0 24 v0 rfl rfl)
  have k0 := h0
  have lt0 : ∀ x ∈ p0, x.block < W.heap.size := by obtain ⟨m, hm⟩ := k0; exact DataW.trod_lt m _ _ _ hm
  obtain ⟨fuel0, hf0⟩ := h0
  obtain ⟨x0, hK0, ok0⟩ := op_T24 _ _ _ _ _ _ _ _ _ hf0
  obtain ⟨A0_1, c0_1, A0_2, c0_2, e0, hc0_1, hr0_1, hc0_2, hr0_2⟩ := k24_open hK0
  obtain rfl : cs0 = #[.string (x0.f0), .slice A0_1 x0.f1.length c0_1, .slice A0_2 x0.f2.length c0_2] := by
    apply Array.toList_inj.mp; exact e0
  obtain ⟨ok0_0, ok0_1, ok0_2⟩ := ok0
  obtain ⟨a1, rfl, rfl, rfl, w1⟩ := open_int Try.underlying2 (hval 1 2 v1 rfl rfl) h1
  obtain ⟨a2, rfl, rfl, rfl, w2⟩ := open_int Try.underlying2 (hval 2 2 v2 rfl rfl) h2
  obtain ⟨a3, rfl, rfl, rfl, w3⟩ := open_int Try.underlying2 (hval 3 2 v3 rfl rfl) h3
  obtain ⟨a4, rfl, rfl, rfl, w4⟩ := open_int Try.underlying2 (hval 4 2 v4 rfl rfl) h4
  clear hA0 hval0 hsz0 hsz
  refine (PL.laws_FnExactListCadences.walk Pure.FnExactListCadences x0.f0 A0_1 c0_1 x0.f1 A0_2 c0_2 x0.f2 a1 a2 a3 a4 W hr0_1 hc0_1 hr0_2 hc0_2 ok0_0 ok0_1 ok0_2 w1 w2 w3 w4).mono fun e W' ⟨he, bel⟩ => ?_
  subst he
  exact ⟨_, rfl, _, _, _, [], _, [], hW', trodAll_mk1 (shut_bool Try.underlying4 _), (trodAll_cons_mk (Below.trod laidOut (by kernel_rfl) (of_decide_eq_true (by kernel_rfl)) k0 bel lt0) (trodAll_cons_mk (shut_int Try.underlying2 w1) (trodAll_cons_mk (shut_int Try.underlying2 w2) (trodAll_cons_mk (shut_int Try.underlying2 w3) (trodAll_cons_mk (shut_int Try.underlying2 w4) trodAll_mk0))))), rfl, bel.frame _, fun h => by cases h⟩
theorem over : Rows.fnExactListCadencesRow.holds Try.pinned (OpenSpec.ofChange Rows.fnExactListCadencesSpec) :=
  OpenClaim.holds_of_wide 3 Try.f3 rfl rfl rfl rfl rfl rfl rfl ⟨rfl, rfl, rfl, rfl, rfl⟩ rfl rfl rfl rfl rfl (by kernel_rfl) Try.func3 (by kernel_rfl)
    (of_decide_eq_true (by kernel_rfl)) (by unfold Func.isWrapper; first | (rw [if_pos (by decide +kernel)]; kernel_rfl) | (rw [if_neg (by decide +kernel)]; exact ⟨rfl, rfl⟩))
    (fun os started H enc _ => lifted os started H enc)
theorem proved : Rows.FnExactListCadencesSaid := over
#print axioms proved
end Go.Proofs.Ytepodajmfcjjkaa.fnExactListCadences
namespace Go.Proofs.Ytepodajmfcjjkaa
/-- The row, under a short name, for the claim. -/
theorem fnExactListCadences_holds : Rows.FnExactListCadencesSaid := fnExactListCadences.proved
end Go.Proofs.Ytepodajmfcjjkaa
