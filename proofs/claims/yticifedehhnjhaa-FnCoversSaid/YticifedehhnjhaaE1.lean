/- A reading of Go functions as functions on plain values, and the proof that it is right, part 1. -/
import Derived.Test.YticifedehhnjhaaE0
import Derived.Below
import Derived.Laws.AppendOwn
import Derived.Laws.CopyRow
import Derived.Laws.MakeOwn
import Derived.Laws.Tables
import Derived.Lib.SliceRun
import Derived.Laws.Append
import Derived.Laws.BytesArg
import Derived.Great.BuildSlice
/- What it means that values of the machine stand for values of the reading: stable ones, owned ones, boxes; and that this is kept when other memory changes. -/
namespace Go.Proofs.Yticifedehhnjhaa.Eng
set_option linter.unusedVariables false
set_option linter.unusedSimpArgs false
open Go Go.RowKit

inductive Lbl where
  | st | no | own (r : Ref) | box (b g : Nat)
def RepTy (lab : Nat → Lbl) (w : World) : (t : Ty) → List Value → t.den → Prop
  | .int k, cs, n => cs = [.int k n]
  | .bool, cs, b => cs = [.bool b]
  | .str, cs, s => cs = [.string s]
  | .unit, cs, _ => cs = []
  | .pair a b, cs, x => ∃ c r, cs = c :: r ∧ RepTy lab w a [c] x.1 ∧ RepTy lab w b r x.2
  | .sl e, cs, xs => ∃ A c, cs = [.slice A xs.length c] ∧ xs.length ≤ c ∧ ∀ j x, xs[j]? = some x → ∃ ad, A = some ad ∧ ∃ cells, RepTy lab w e cells x ∧
      ∀ i u, cells[i]? = some u → lab ad.block = .st ∧ w.cell? (ad.add (j * e.sz + i)) = some u
theorem RepTy.len {lab : Nat → Lbl} {w : World} : ∀ {t : Ty} {cs : List Value} {x : t.den}, RepTy lab w t cs x → cs.length = t.sz := by
  intro t
  induction t with
  | int k => intro cs x h; simp [RepTy] at h; simp [h, Ty.sz]
  | bool => intro cs x h; simp [RepTy] at h; simp [h, Ty.sz]
  | str => intro cs x h; simp [RepTy] at h; simp [h, Ty.sz]
  | unit => intro cs x h; simp [RepTy] at h; simp [h, Ty.sz]
  | sl e _ => intro cs x h; obtain ⟨A, c, rfl, _⟩ := h; simp [Ty.sz]
  | pair a b iha ihb => intro cs x h; obtain ⟨c, r, rfl, h1, h2⟩ := h; simp [Ty.sz, ihb h2]
/-- Stable memory stays stable, and as it is. -/
def StKeep (lab : Nat → Lbl) (w : World) (lab' : Nat → Lbl) (w' : World) : Prop := ∀ blk, blk < w.heap.size → lab blk = .st → lab' blk = .st ∧ w'.heap[blk]? = w.heap[blk]?
theorem cell_keep {w w' : World} {a : Addr} (h : w'.heap[a.block]? = w.heap[a.block]?) : w'.cell? a = w.cell? a := by unfold World.cell?; rw [h]
theorem add_blk (a : Addr) (i : Nat) : (a.add i).block = a.block := by unfold Addr.add; split <;> rfl
theorem add_add' (a : Addr) (i j : Nat) : (a.add i).add j = a.add (i + j) := by
  unfold Addr.add
  by_cases hi : i = 0
  · subst hi; simp
  · by_cases hj : j = 0
    · subst hj; simp
    · have : i + j ≠ 0 := by omega
      simp [hi, hj, Nat.add_assoc]
theorem cell_lt {w : World} {a : Addr} {v : Value} (h : w.cell? a = some v) : a.block < w.heap.size := World.block_lt_of_cell? w a h
theorem RepTy.mono {lab lab' : Nat → Lbl} {w w' : World} (k : StKeep lab w lab' w') : ∀ {t : Ty} {cs : List Value} {x : t.den}, RepTy lab w t cs x → RepTy lab' w' t cs x := by
  intro t
  induction t with
  | int k => intro cs x h; exact h
  | bool => intro cs x h; exact h
  | str => intro cs x h; exact h
  | unit => intro cs x h; exact h
  | pair a b iha ihb => intro cs x h; obtain ⟨c, r, rfl, h1, h2⟩ := h; exact ⟨c, r, rfl, iha h1, ihb h2⟩
  | sl e ih =>
    intro cs x h
    obtain ⟨A, c, rfl, hc, h⟩ := h
    refine ⟨A, c, rfl, hc, fun j y hy => ?_⟩
    obtain ⟨ad, hA, cells, hr, hcell⟩ := h j y hy
    refine ⟨ad, hA, cells, ih hr, fun i u hu => ?_⟩
    obtain ⟨h1, h2⟩ := hcell i u hu
    have hlt : ad.block < w.heap.size := by have := cell_lt h2; rwa [add_blk] at this
    obtain ⟨k1, k2⟩ := k _ hlt h1
    exact ⟨k1, (cell_keep (by rw [add_blk]; exact k2)).trans h2⟩

structure Env where
  lab : Nat → Lbl
  hdr : Ref → Option Value
  ga : Nat → Nat → Option Nat
/-- A row of its own: the elements lie in one block that bears its name. -/
def OwnRow (lab : Nat → Lbl) (w : World) (r : Ref) (e : Ty) (val : Value) (xs : List e.den) : Prop :=
  ∃ A c, val = .slice A xs.length c ∧ xs.length ≤ c ∧ (c = 0 ∨ ∃ blk off cells ty, A = some ⟨blk, off, none⟩ ∧ lab blk = .own r ∧ w.heap[blk]? = some (.cells cells ty (0, 0)) ∧
    off + c * e.sz ≤ cells.size ∧ ∀ j x, xs[j]? = some x → ∃ cs, RepTy lab w e cs x ∧ ∀ i u, cs[i]? = some u → cells[off + (j * e.sz + i)]? = some u)
def RepPs (lab : Nat → Lbl) (w : World) (t : Ty) (x : t.den) (val : Value) : Prop :=
  ∃ ad, val = .pointer (some ad) ∧ ∃ cells, RepTy lab w t cells x ∧ ∀ i u, cells[i]? = some u → lab ad.block = .st ∧ w.cell? (ad.add i) = some u
def RepLeaf (ρ : Env) (w : World) (here : Ref) : Leaf → Value → Prop
  | .v t x, val => RepTy ρ.lab w t [val] x
  | .own e xs, val => ρ.hdr here = some val ∧ OwnRow ρ.lab w here e val xs
  | .al r, val => ρ.hdr r = some val ∧ ∃ A n c, val = .slice A n c
  | .sub r s lo hi, val => ∃ A n c, ρ.hdr r = some (.slice A n c) ∧ 0 ≤ lo ∧ lo ≤ hi ∧ hi ≤ n ∧ n ≤ c ∧
      ∃ A', val = .slice A' (hi - lo).toNat (c - lo.toNat) ∧ (c - lo.toNat ≠ 0 → A' = A.map (·.add (lo.toNat * s)))
  | .pb b g off, val => ∃ blk, ρ.ga b g = some blk ∧ val = .pointer (some ⟨blk, off, none⟩)
  | .pe r s i off, val => ∃ ad n c, ρ.hdr r = some (.slice (some ad) n c) ∧ 0 ≤ i ∧ i < n ∧ val = .pointer (some (ad.add (i.toNat * s + off)))
  | .ps t x, val => RepPs ρ.lab w t x val
  | .fn f caps, val => ∃ vs : Array Value, val = .func (.func f) #[] vs ∧ vs.size = caps.length ∧ ∀ (i : Nat) (s : SV) (u : Value), caps[i]? = some s → vs[i]? = some u → RepPs ρ.lab w s.t s.x u
  | .fnp f caps, val => ∃ vs : Array Value, val = .func (.func f) #[] vs ∧ vs.size = caps.length ∧ ∀ (i : Nat) (q : Nat × Nat × Nat) (u : Value), caps[i]? = some q → vs[i]? = some u → ∃ blk, ρ.ga q.1 q.2.1 = some blk ∧ u = .pointer (some ⟨blk, q.2.2, none⟩)
  | .nil _, val => val = .slice none 0 0
  | .nilp, val => val = .pointer none
  | .nq b, val => ∃ c, val = .bool c ∧ (b = false → c = false)
  | .undef, val => (∀ b, val ≠ .bool b) ∧ val.cells = #[val]

/-- What changes: rows whose name is in X, boxes whose name is in Y. -/
structure Keep (X : Ref → Prop) (Y : Nat → Nat → Prop) (ρ : Env) (w : World) (ρ' : Env) (w' : World) : Prop where
  hdr : ∀ r v, ρ.hdr r = some v → ρ'.hdr r = some v
  st : StKeep ρ.lab w ρ'.lab w'
  own : ∀ blk r, blk < w.heap.size → ρ.lab blk = .own r → ¬ X r → ρ'.lab blk = .own r ∧ w'.heap[blk]? = w.heap[blk]?
  box : ∀ blk b g, blk < w.heap.size → ρ.lab blk = .box b g → ¬ Y b g → ρ'.lab blk = .box b g ∧ w'.heap[blk]? = w.heap[blk]?
  ga : ∀ b g x, ρ.ga b g = some x → ρ'.ga b g = some x
theorem blk_lt' {w : World} {g : Nat} {o : Obj} (h : w.heap[g]? = some o) : g < w.heap.size := (Array.getElem?_eq_some_iff.1 h).1
theorem OwnRow.mono {X : Ref → Prop} {Y : Nat → Nat → Prop} {ρ ρ' : Env} {w w' : World} (k : Keep X Y ρ w ρ' w') {r : Ref} {e : Ty} {val : Value} {xs : List e.den} (hr : ¬ X r)
    (h : OwnRow ρ.lab w r e val xs) : OwnRow ρ'.lab w' r e val xs := by
  obtain ⟨A, c, hv, hc, h⟩ := h
  refine ⟨A, c, hv, hc, h.imp id ?_⟩
  rintro ⟨blk, off, cells, ty, hA, hl, hb, ho, hx⟩
  obtain ⟨k1, k2⟩ := k.own blk r (blk_lt' hb) hl hr
  exact ⟨blk, off, cells, ty, hA, k1, k2.trans hb, ho, fun j x hj => let ⟨cs, h1, h2⟩ := hx j x hj; ⟨cs, h1.mono k.st, h2⟩⟩
theorem RepPs.mono {lab lab' : Nat → Lbl} {w w' : World} (k : StKeep lab w lab' w') {t : Ty} {x : t.den} {val : Value} (h : RepPs lab w t x val) : RepPs lab' w' t x val := by
  obtain ⟨ad, hv, cells, hr, hc⟩ := h
  refine ⟨ad, hv, cells, hr.mono k, fun i u hu => ?_⟩
  obtain ⟨h1, h2⟩ := hc i u hu
  have hlt : ad.block < w.heap.size := by have := cell_lt h2; rwa [add_blk] at this
  obtain ⟨k1, k2⟩ := k _ hlt h1
  exact ⟨k1, (cell_keep (by rw [add_blk]; exact k2)).trans h2⟩
def Leaf.isOwn : Leaf → Bool | .own _ _ => true | _ => false
theorem RepLeaf.mono {X : Ref → Prop} {Y : Nat → Nat → Prop} {ρ ρ' : Env} {w w' : World} (k : Keep X Y ρ w ρ' w') {here : Ref} {l : Leaf} {val : Value} (hr : l.isOwn = true → ¬ X here)
    (h : RepLeaf ρ w here l val) : RepLeaf ρ' w' here l val := by
  cases l with
  | v t x => exact RepTy.mono k.st h
  | own e xs => exact ⟨k.hdr _ _ h.1, h.2.mono k (hr rfl)⟩
  | al r => exact ⟨k.hdr _ _ h.1, h.2⟩
  | sub r s lo hi => obtain ⟨A, n, c, h1, h⟩ := h; exact ⟨A, n, c, k.hdr _ _ h1, h⟩
  | pb b g off => obtain ⟨blk, h1, h2⟩ := h; exact ⟨blk, k.ga _ _ _ h1, h2⟩
  | pe r s i off => obtain ⟨ad, n, c, h1, h⟩ := h; exact ⟨ad, n, c, k.hdr _ _ h1, h⟩
  | ps t x => exact RepPs.mono k.st h
  | fn f caps => obtain ⟨vs, h1, h2, h3⟩ := h; exact ⟨vs, h1, h2, fun i s u a b => (h3 i s u a b).mono k.st⟩
  | fnp f caps => obtain ⟨vs, h1, h2, h3⟩ := h; exact ⟨vs, h1, h2, fun i q u a b => let ⟨blk, p1, p2⟩ := h3 i q u a b; ⟨blk, k.ga _ _ _ p1, p2⟩⟩
  | nil e => exact h
  | nilp => exact h
  | nq b => exact h
  | undef => exact h
def Leaf.cell (l : Leaf) : Prop := match l with | .v t _ => t.sz = 1 | _ => True
/-- A value of a temporary. -/
def RepCV (ρ : Env) (w : World) (here : Ref) (agg : Bool) (ls : List Leaf) (val : Value) : Prop :=
  match agg, ls with
  | false, [l] => RepLeaf ρ w here l val
  | false, _ => False
  | true, ls => ∃ cs : Array Value, val = .agg cs ∧ cs.size = ls.length ∧ ∀ (i : Nat) l u, ls[i]? = some l → cs[i]? = some u → RepLeaf ρ w here l u ∧ l.isOwn = false
def RepAV (ρ : Env) (w : World) (t g : Nat) (a : AV) (val : Value) : Prop :=
  match a with
  | .cv agg ls => RepCV ρ w (.tm t g) agg ls val
  | .tup cs => cs = [] ∨ ∃ vs : Array Value, val = .tuple vs ∧ vs.size = cs.length ∧ ∀ (i : Nat) c u, cs[i]? = some c → vs[i]? = some u → RepCV ρ w (.tp t g i) c.1 c.2 u
def RepBox (ρ : Env) (w : World) (b g : Nat) (ls : List (Nat × Leaf)) : Prop :=
  ∃ (blk : Nat) (cs : Array Value) (ty : Nat), ρ.ga b g = some blk ∧ w.heap[blk]? = some (.cells cs ty (0, 0)) ∧ ρ.lab blk = .box b g ∧ cs.size = ls.length ∧
    ∀ (i lg : Nat) l u, ls[i]? = some (lg, l) → cs[i]? = some u → RepLeaf ρ w (.bf b g i lg) l u
/-- What a reference was given out for is what lies there, as long as the place has its age. -/
def CurT (ρ : Env) (a : Act) (t g : Nat) : Prop := ∀ v, ρ.hdr (.tm t g) = some v → a.tmps.getD t undef = v
def CurB (ρ : Env) (w : World) (b g : Nat) (ls : List (Nat × Leaf)) : Prop := ∀ o lg l v, ls[o]? = some (lg, l) → ρ.hdr (.bf b g o lg) = some v →
  ∃ (blk : Nat) (cs : Array Value) (ty : Nat), ρ.ga b g = some blk ∧ w.heap[blk]? = some (.cells cs ty (0, 0)) ∧ cs[o]? = some v
/-- The state of the reading stands for the machine's. -/
structure Sim (ρ : Env) (st : St) (a : Act) (w : World) (N : Nat) : Prop where
  size : N ≤ a.tmps.size
  defers : a.defers = []
  tm : ∀ t, ∃ g av, st (.tm t) = .tm g av ∧ RepAV ρ w t g av (a.tmps.getD t undef) ∧ CurT ρ a t g
  bx : ∀ b, ∃ g ls, st (.bx b) = .bx g ls ∧ (ls = [] ∨ RepBox ρ w b g ls) ∧ CurB ρ w b g ls
  gao : ∀ b g x, ρ.ga b g = some x → ∃ g' ls, st (.bx b) = .bx g' ls ∧ g ≤ g'
  htm : ∀ t g v, ρ.hdr (.tm t g) = some v → ∃ g' av, st (.tm t) = .tm g' av ∧ g ≤ g'
  htp : ∀ t g i v, ρ.hdr (.tp t g i) = some v → ∃ g' av, st (.tm t) = .tm g' av ∧ g ≤ g'
  hbf : ∀ b g o lg v, ρ.hdr (.bf b g o lg) = some v → ∃ g' ls, st (.bx b) = .bx g' ls ∧ (g < g' ∨ g = g' ∧ ∀ lg' l, ls[o]? = some (lg', l) → lg ≤ lg')
theorem RepCV.mono {X : Ref → Prop} {Y : Nat → Nat → Prop} {ρ ρ' : Env} {w w' : World} (k : Keep X Y ρ w ρ' w') {here : Ref} {agg : Bool} {ls : List Leaf} {val : Value} (hr : ¬ X here ∨ ∀ l ∈ ls, l.isOwn = false)
    (h : RepCV ρ w here agg ls val) : RepCV ρ' w' here agg ls val := by
  have hl : ∀ l ∈ ls, l.isOwn = true → ¬ X here := fun l hl ho => hr.elim id fun h => by simp [h l hl] at ho
  cases agg with
  | true =>
    obtain ⟨cs, h1, h2, h3⟩ := h
    exact ⟨cs, h1, h2, fun i l u a b => ⟨(h3 i l u a b).1.mono k (hl l (List.mem_of_getElem? a)), (h3 i l u a b).2⟩⟩
  | false =>
    match ls, hl, h with
    | [l], hl, h => exact RepLeaf.mono k (hl _ (by simp)) h
    | [], _, h => exact h
    | _ :: _ :: _, _, h => exact h
end Go.Proofs.Yticifedehhnjhaa.Eng
/- The reading's steps one by one; the first changes of state. -/
namespace Go.Proofs.Yticifedehhnjhaa.Eng
set_option linter.unusedVariables false
set_option linter.unusedSimpArgs false
open Go Go.RowKit

section
variable {α β R : Type} {D : Nat → Sh} (rec : (q : Req) → Option (D q.f).den)
/-- A step of the reading, with what it looked at and wrote. -/
def evT : G α → St → List (Bool × Key) → Option (α × St × List (Bool × Key))
  | .ret a, st, tr => some (a, st, tr)
  | .fail, _, _ => none
  | .get k f, st, tr => evT (f (st k)) st ((false, k) :: tr)
  | .set k c g, st, tr => evT g (upd st k c) ((true, k) :: tr)
  | .call q f, st, tr => match rec q with | none => none | some x => evT (f ((D q.f).enc x)) st tr
  | .ite c a b, st, tr => if c = true then evT a st tr else evT b st tr
  | .br t a b u, st, tr => match st (.tm t) with
    | .tm _ (.cv false [.v .bool x]) => if x = true then evT a st ((false, .tm t) :: tr) else evT b st ((false, .tm t) :: tr)
    | .tm _ (.cv false [.undef]) => evT u st ((false, .tm t) :: tr)
    | _ => none
def ev : G α → St → Option (α × St)
  | .ret a, st => some (a, st)
  | .fail, _ => none
  | .get k f, st => ev (f (st k)) st
  | .set k c g, st => ev g (upd st k c)
  | .call q f, st => match rec q with | none => none | some x => ev (f ((D q.f).enc x)) st
  | .ite c a b, st => if c = true then ev a st else ev b st
  | .br t a b u, st => match st (.tm t) with
    | .tm _ (.cv false [.v .bool x]) => if x = true then ev a st else ev b st
    | .tm _ (.cv false [.undef]) => ev u st
    | _ => none
theorem Key.beq_iff {k k' : Key} : Key.beq k k' = true ↔ k = k' := by
  cases k <;> cases k' <;> simp [Key.beq]
theorem upd_same (st : St) (k : Key) (c : Cell) : upd st k c k = c := by simp [upd, Key.beq_iff.2]
theorem upd_ne (st : St) {k k' : Key} (c : Cell) (h : k' ≠ k) : upd st k c k' = st k' := by
  unfold upd
  cases hb : Key.beq k k' with
  | false => rfl
  | true => exact absurd (Key.beq_iff.1 hb).symm h
theorem upd_id {st : St} {k : Key} {c : Cell} (h : st k = c) : upd st k c = st := by
  funext k'
  by_cases hk : k' = k
  · subst hk; rw [upd_same, h]
  · exact upd_ne _ _ hk
variable {rec}
theorem runG_evT : ∀ (g : G α) (st : St) (tr : List (Bool × Key)) (K : α → St → List (Bool × Key) → Option R) (r : R),
    runG rec g st tr K = some r → ∃ a st' tr', evT rec g st tr = some (a, st', tr') ∧ K a st' tr' = some r := by
  intro g
  induction g with
  | ret a => intro st tr K r h; exact ⟨a, st, tr, rfl, h⟩
  | fail => intro st tr K r h; cases h
  | get k f ih => intro st tr K r h; exact ih _ _ _ _ _ h
  | set k c g ih => intro st tr K r h; exact ih _ _ _ _ h
  | call q f ih =>
    intro st tr K r h
    simp only [runG, gBind] at h
    cases hq : rec q with
    | none => rw [hq] at h; cases h
    | some x =>
      rw [hq] at h
      obtain ⟨a, st', tr', h1, h2⟩ := ih _ _ _ _ _ h
      exact ⟨a, st', tr', by simp only [evT, hq]; exact h1, h2⟩
  | ite c a b iha ihb =>
    intro st tr K r h
    simp only [runG, gIf] at h
    cases c with
    | true => simp at h; obtain ⟨x, st', tr', h1, h2⟩ := iha _ _ _ _ h; exact ⟨x, st', tr', by simpa [evT] using h1, h2⟩
    | false => simp at h; obtain ⟨x, st', tr', h1, h2⟩ := ihb _ _ _ _ h; exact ⟨x, st', tr', by simpa [evT] using h1, h2⟩
  | br t a b u iha ihb ihu =>
    intro st tr K r h
    simp only [runG, gIf] at h
    simp only [evT]
    split at h
    · rename_i g x hs
      rw [hs]
      cases x with
      | true =>
        simp only [if_true] at h
        rw [upd_id hs] at h
        exact iha _ _ _ _ h
      | false =>
        simp only [Bool.false_eq_true, if_false] at h
        rw [upd_id hs] at h
        exact ihb _ _ _ _ h
    · rename_i g hs
      rw [hs]
      exact ihu _ _ _ _ h
    · cases h
theorem evT_ev : ∀ (g : G α) (st : St) (tr : List (Bool × Key)) (a : α) (st' : St) (tr' : List (Bool × Key)), evT rec g st tr = some (a, st', tr') → ev rec g st = some (a, st') := by
  intro g
  induction g with
  | ret a => intro st tr a' st' tr' h; simp [evT] at h; simp [ev, h]
  | fail => intro st tr a' st' tr' h; cases h
  | get k f ih => intro st tr a' st' tr' h; exact ih _ _ _ _ _ _ h
  | set k c g ih => intro st tr a' st' tr' h; exact ih _ _ _ _ _ h
  | call q f ih =>
    intro st tr a' st' tr' h
    simp only [evT] at h
    simp only [ev]
    split at h
    · cases h
    · rename_i x hx
      try rw [hx]
      exact ih _ _ _ _ _ _ h
  | ite c a b iha ihb =>
    intro st tr a' st' tr' h
    simp only [evT] at h
    simp only [ev]
    split at h
    · rename_i hc; rw [if_pos hc]; exact iha _ _ _ _ _ h
    · rename_i hc; rw [if_neg hc]; exact ihb _ _ _ _ _ h
  | br t a b u iha ihb ihu =>
    intro st tr a' st' tr' h
    simp only [evT] at h
    simp only [ev]
    split at h
    · rename_i g x hs
      try rw [hs]
      try simp only
      split at h
      · rename_i hc; rw [if_pos hc]; exact iha _ _ _ _ _ h
      · rename_i hc; rw [if_neg hc]; exact ihb _ _ _ _ _ h
    · rename_i g hs
      try rw [hs]
      exact ihu _ _ _ _ _ h
    · cases h
theorem ev_bind : ∀ (g : G α) (f : α → G β) (st : St) (r : β × St), ev rec (g.bind f) st = some r → ∃ a st1, ev rec g st = some (a, st1) ∧ ev rec (f a) st1 = some r := by
  intro g
  induction g with
  | ret a => intro f st r h; exact ⟨a, st, rfl, h⟩
  | fail => intro f st r h; cases h
  | get k f ih => intro f' st r h; exact ih _ _ _ _ h
  | set k c g ih => intro f' st r h; exact ih _ _ _ h
  | call q f ih =>
    intro f' st r h
    simp only [G.bind, ev] at h
    split at h
    · cases h
    · rename_i x hx
      obtain ⟨a, st1, h1, h2⟩ := ih _ _ _ _ h
      exact ⟨a, st1, by simp only [ev, hx]; exact h1, h2⟩
  | ite c a b iha ihb =>
    intro f' st r h
    simp only [G.bind, ev] at h
    simp only [ev]
    split at h
    · rename_i hc; simp only [if_pos hc]; exact iha _ _ _ h
    · rename_i hc; simp only [if_neg hc]; exact ihb _ _ _ h
  | br t a b u iha ihb ihu =>
    intro f' st r h
    simp only [G.bind, ev] at h
    simp only [ev]
    split at h
    · rename_i g x hs
      try rw [hs]
      try simp only
      split at h
      · rename_i hc; simp only [if_pos hc]; exact iha _ _ _ h
      · rename_i hc; simp only [if_neg hc]; exact ihb _ _ _ h
    · rename_i g hs
      try rw [hs]
      exact ihu _ _ _ h
    · cases h
theorem ev_ret {a : α} {st : St} {r : α × St} (h : ev rec (.ret a) st = some r) : r = (a, st) := by simp [ev] at h; exact h.symm
theorem ev_opt {x : Option α} {st : St} {r : α × St} (h : ev rec (G.opt x) st = some r) : ∃ a, x = some a ∧ r = (a, st) := by
  cases x with
  | none => cases h
  | some a => exact ⟨a, rfl, ev_ret h⟩
theorem ev_ite {c : Bool} {a b : G α} {st : St} {r : α × St} (h : ev rec (.ite c a b) st = some r) : c = true ∧ ev rec a st = some r ∨ c = false ∧ ev rec b st = some r := by
  cases c
  · exact .inr ⟨rfl, by simpa [ev] using h⟩
  · exact .inl ⟨rfl, by simpa [ev] using h⟩
theorem ev_getTm {t : Nat} {f : Nat → AV → G α} {st : St} {r : α × St} (h : ev rec (getTm t f) st = some r) : ∃ g a, st (.tm t) = .tm g a ∧ ev rec (f g a) st = some r := by
  simp only [getTm, ev] at h
  split at h
  · rename_i g a hs; exact ⟨g, a, hs, h⟩
  · cases h
theorem ev_getBx {b : Nat} {f : Nat → List (Nat × Leaf) → G α} {st : St} {r : α × St} (h : ev rec (getBx b f) st = some r) : ∃ g ls, st (.bx b) = .bx g ls ∧ ev rec (f g ls) st = some r := by
  simp only [getBx, ev] at h
  split at h
  · rename_i g a hs; exact ⟨g, a, hs, h⟩
  · cases h
theorem ev_put {d : Nat} {a : AV} {st : St} {r : Unit × St} (h : ev rec (put d a) st = some r) : ∃ g a0, st (.tm d) = .tm g a0 ∧ r = ((), upd st (.tm d) (.tm (g + 1) a)) := by
  obtain ⟨g, a0, hs, h⟩ := ev_getTm h
  simp only [ev] at h
  exact ⟨g, a0, hs, by simpa using h.symm⟩
end

/-- From one point of a call to a later one: stable and foreign memory is as it was. -/
structure Ext (ρ : Env) (w : World) (ρ' : Env) (w' : World) : Prop where
  size : w.heap.size ≤ w'.heap.size
  st : StKeep ρ.lab w ρ'.lab w'
  no : ∀ blk, blk < w.heap.size → ρ.lab blk = .no → ρ'.lab blk = .no ∧ w'.heap[blk]? = w.heap[blk]?
  os : w'.os = w.os
  tape : w'.tape = w.tape
  output : w'.output = w.output
theorem StKeep.refl (lab : Nat → Lbl) (w : World) : StKeep lab w lab w := fun _ _ h => ⟨h, rfl⟩
theorem StKeep.trans {l1 l2 l3 : Nat → Lbl} {w1 w2 w3 : World} (hs : w1.heap.size ≤ w2.heap.size) (h : StKeep l1 w1 l2 w2) (k : StKeep l2 w2 l3 w3) : StKeep l1 w1 l3 w3 :=
  fun b hb hl => let ⟨a1, a2⟩ := h b hb hl; let ⟨b1, b2⟩ := k b (Nat.lt_of_lt_of_le hb hs) a1; ⟨b1, b2.trans a2⟩
theorem Ext.refl (ρ : Env) (w : World) : Ext ρ w ρ w := ⟨Nat.le_refl _, .refl _ _, fun _ _ h => ⟨h, rfl⟩, rfl, rfl, rfl⟩
theorem Ext.trans {ρ1 ρ2 ρ3 : Env} {w1 w2 w3 : World} (h : Ext ρ1 w1 ρ2 w2) (k : Ext ρ2 w2 ρ3 w3) : Ext ρ1 w1 ρ3 w3 :=
  ⟨Nat.le_trans h.size k.size, h.st.trans h.size k.st, fun b hb hl => let ⟨a1, a2⟩ := h.no b hb hl; let ⟨b1, b2⟩ := k.no b (Nat.lt_of_lt_of_le hb h.size) a1; ⟨b1, b2.trans a2⟩,
    k.os.trans h.os, k.tape.trans h.tape, k.output.trans h.output⟩
theorem Keep.refl (X : Ref → Prop) (Y : Nat → Nat → Prop) (ρ : Env) (w : World) : Keep X Y ρ w ρ w := ⟨fun _ _ h => h, .refl _ _, fun _ _ _ h _ => ⟨h, rfl⟩, fun _ _ _ _ h _ => ⟨h, rfl⟩, fun _ _ _ h => h⟩

/-! ### addresses of references -/
/-- A reference that was given out: its place has reached that age. -/
def RefOk (st : St) : Ref → Prop
  | .tm t g => ∃ g' av, st (.tm t) = .tm g' av ∧ g ≤ g'
  | .tp t g _ => ∃ g' av, st (.tm t) = .tm g' av ∧ g ≤ g'
  | .bf b g o lg => ∃ g' ls, st (.bx b) = .bx g' ls ∧ (g < g' ∨ g = g' ∧ ∀ lg' l, ls[o]? = some (lg', l) → lg ≤ lg')
theorem Sim.ref {ρ : Env} {st : St} {a : Act} {w : World} {N : Nat} (h : Sim ρ st a w N) {r : Ref} {v : Value} (hr : ρ.hdr r = some v) : RefOk st r := by
  cases r with
  | tm t g => exact h.htm t g v hr
  | tp t g i => exact h.htp t g i v hr
  | bf b g o lg => exact h.hbf b g o lg v hr
theorem Act.getD_put {a : Act} {d : Nat} (v : Value) (h : d < a.tmps.size) (t : Nat) : (a.put (some d) v).tmps.getD t undef = if t = d then v else a.tmps.getD t undef := by
  simp only [Act.put, Array.getD_eq_getD_getElem?, Array.getElem?_setIfInBounds]
  by_cases ht : d = t
  · subst ht; simp [h]
  · rw [if_neg ht, if_neg (fun h => ht h.symm)]
def NewIn (T B : Nat → Prop) : Ref → Prop
  | .tm t _ => T t | .tp t _ _ => T t | .bf b _ _ _ => B b
/-- Rows named in X are not owned by what stands here. -/
def KeepsT (X : Ref → Prop) (t g : Nat) : AV → Prop
  | .cv _ ls => ¬ X (.tm t g) ∨ ∀ l ∈ ls, l.isOwn = false
  | .tup cs => ∀ i c, cs[i]? = some c → ¬ X (.tp t g i) ∨ ∀ l ∈ c.2, l.isOwn = false
def KeepsB (X : Ref → Prop) (b g : Nat) (ls : List (Nat × Leaf)) : Prop := ∀ (i lg : Nat) (l : Leaf), ls[i]? = some (lg, l) → ¬ X (.bf b g i lg) ∨ l.isOwn = false
theorem KeepsT.of {X : Ref → Prop} {t g : Nat} (h1 : ¬ X (.tm t g)) (h2 : ∀ i, ¬ X (.tp t g i)) (av : AV) : KeepsT X t g av := by
  cases av with
  | cv a ls => exact .inl h1
  | tup cs => exact fun i c _ => .inl (h2 i)
/-- A temporary gets a value; rows named in X and boxes named in Y may have changed, and stand nowhere else. -/
theorem Sim.step {X : Ref → Prop} {Y : Nat → Nat → Prop} {ρ ρ' : Env} {st st' : St} {a a' : Act} {w w' : World} {N : Nat} (h : Sim ρ st a w N) (k : Keep X Y ρ w ρ' w')
    (hsz : N ≤ a'.tmps.size) (hdf : a'.defers = []) (T B : Nat → Prop)
    (htS : ∀ t, ¬ T t → st' (.tm t) = st (.tm t) ∧ a'.tmps.getD t undef = a.tmps.getD t undef ∧ ∀ g av, st (.tm t) = .tm g av → KeepsT X t g av)
    (htN : ∀ t, T t → ∃ g g' av av', st (.tm t) = .tm g av ∧ st' (.tm t) = .tm g' av' ∧ g ≤ g' ∧ RepAV ρ' w' t g' av' (a'.tmps.getD t undef) ∧ CurT ρ' a' t g')
    (hbS : ∀ b, ¬ B b → st' (.bx b) = st (.bx b) ∧ ∀ g ls, st (.bx b) = .bx g ls → ¬ Y b g ∧ KeepsB X b g ls)
    (hbN : ∀ b, B b → ∃ g g' ls ls', st (.bx b) = .bx g ls ∧ st' (.bx b) = .bx g' ls' ∧ (g < g' ∨ g = g' ∧ ls.length = ls'.length ∧ ∀ (i lg lg' : Nat) (l l' : Leaf), ls[i]? = some (lg, l) → ls'[i]? = some (lg', l') → lg ≤ lg') ∧ (ls' = [] ∨ RepBox ρ' w' b g' ls') ∧ CurB ρ' w' b g' ls')
    (hh : ∀ r v, ρ'.hdr r = some v → ρ.hdr r = some v ∨ RefOk st' r ∧ NewIn T B r)
    (hg : ∀ b g x, ρ'.ga b g = some x → ρ.ga b g = some x ∨ ∃ g' ls, st' (.bx b) = .bx g' ls ∧ g ≤ g') : Sim ρ' st' a' w' N := by
  have refs : ∀ r v, ρ'.hdr r = some v → RefOk st' r := by
    intro r v hv
    rcases hh r v hv with h1 | h1
    · have := h.ref h1
      cases r with
      | tm t g =>
        obtain ⟨g', av, e, le⟩ := this
        by_cases ht : T t
        · obtain ⟨g1, g2, av1, av2, e1, e2, l1, _⟩ := htN t ht
          rw [e] at e1; cases e1
          exact ⟨g2, av2, e2, Nat.le_trans le l1⟩
        · exact ⟨g', av, (htS t ht).1.trans e, le⟩
      | tp t g i =>
        obtain ⟨g', av, e, le⟩ := this
        by_cases ht : T t
        · obtain ⟨g1, g2, av1, av2, e1, e2, l1, _⟩ := htN t ht
          rw [e] at e1; cases e1
          exact ⟨g2, av2, e2, Nat.le_trans le l1⟩
        · exact ⟨g', av, (htS t ht).1.trans e, le⟩
      | bf b g o lg =>
        obtain ⟨g', ls, e, le⟩ := this
        by_cases hb : B b
        · obtain ⟨g1, g2, ls1, ls2, e1, e2, l1, _⟩ := hbN b hb
          rw [e] at e1; cases e1
          refine ⟨g2, ls2, e2, ?_⟩
          rcases l1 with l1 | ⟨rfl, hlen, l1⟩
          · left; rcases le with le | ⟨rfl, _⟩ <;> omega
          · rcases le with le | ⟨rfl, le⟩
            · exact .inl le
            · refine .inr ⟨rfl, fun lg' l hl => ?_⟩
              have : o < ls.length := by rw [hlen]; exact (List.getElem?_eq_some_iff.1 hl).1
              obtain ⟨q, hq⟩ : ∃ q, ls[o]? = some q := ⟨_, List.getElem?_eq_getElem this⟩
              exact Nat.le_trans (le q.1 q.2 hq) (l1 o q.1 lg' q.2 l hq hl)
        · exact ⟨g', ls, (hbS b hb).1.trans e, le⟩
    · exact h1.1
  refine ⟨hsz, hdf, fun t => ?_, fun b => ?_, fun b g x hx => ?_, fun t g v hv => refs (.tm t g) v hv, fun t g i v hv => refs (.tp t g i) v hv, fun b g o lg v hv => refs (.bf b g o lg) v hv⟩
  · by_cases ht : T t
    · obtain ⟨_, g, _, av, _, e, _, r, c⟩ := htN t ht
      exact ⟨g, av, e, r, c⟩
    · obtain ⟨e1, e2, e3⟩ := htS t ht
      obtain ⟨g, av, e, r, c⟩ := h.tm t
      have x1 := e3 g av e
      refine ⟨g, av, e1.trans e, ?_, fun v hv => ?_⟩
      · rw [e2]
        cases av with
        | cv agg ls => exact RepCV.mono k x1 r
        | tup cs => exact r.imp id (fun ⟨vs, r1, r2, r3⟩ => ⟨vs, r1, r2, fun i c u p q => (r3 i c u p q).mono k (x1 i c p)⟩)
      · rw [e2]
        exact c v ((hh _ _ hv).elim id fun q => (ht q.2).elim)
  · by_cases hb : B b
    · obtain ⟨_, g, _, ls, _, e, _, r⟩ := hbN b hb
      exact ⟨g, ls, e, r⟩
    · obtain ⟨e1, e3⟩ := hbS b hb
      obtain ⟨g, ls, e, r, c⟩ := h.bx b
      obtain ⟨y, x⟩ := e3 g ls e
      refine ⟨g, ls, e1.trans e, r.imp id ?_, fun o lg l v hl hv => ?_⟩
      · rintro ⟨blk, cs, ty, r0, r1, r2, r3, r4⟩
        obtain ⟨k1, k2⟩ := k.box _ b g (blk_lt' r1) r2 y
        refine ⟨blk, cs, ty, k.ga _ _ _ r0, by rw [k2]; exact r1, k1, r3, fun i lg l u p q => (r4 i lg l u p q).mono k (fun ho => (x i lg l p).elim id fun h => by rw [h] at ho; cases ho)⟩
      · obtain ⟨blk, cs, ty, c0, c1, c2⟩ := c o lg l v hl ((hh _ _ hv).elim id fun q => (hb q.2).elim)
        refine ⟨blk, cs, ty, k.ga _ _ _ c0, ?_, c2⟩
        rcases r with rfl | ⟨blk', cs', ty', r0, r1, r2, _⟩
        · simp at hl
        · rw [c0] at r0; cases r0
          rw [(k.box _ b g (blk_lt' r1) r2 y).2]; exact c1
  · rcases hg b g x hx with h1 | h1
    · obtain ⟨g', ls, e, le⟩ := h.gao b g x h1
      by_cases hb : B b
      · obtain ⟨g1, g2, ls1, ls2, e1, e2, l1, _⟩ := hbN b hb
        rw [e] at e1; cases e1
        exact ⟨g2, ls2, e2, by rcases l1 with l1 | ⟨rfl, _⟩ <;> omega⟩
      · exact ⟨g', ls, (hbS b hb).1.trans e, le⟩
    · exact h1
/-- A temporary gets a value that owns nothing. -/
theorem Sim.put {ρ : Env} {st : St} {a : Act} {w : World} {N : Nat} (h : Sim ρ st a w N) {d g : Nat} {a0 av : AV} {v : Value} (hd : d < N) (hs : st (.tm d) = .tm g a0)
    (hr : RepAV ρ w d (g + 1) av v) : Sim ρ (upd st (.tm d) (.tm (g + 1) av)) (a.put (some d) v) w N := by
  refine h.step (X := fun _ => False) (Y := fun _ _ => False) (.refl _ _ _ _) (by simp [Act.put]; exact h.size) h.defers (· = d) (fun _ => False) (fun t ht => ?_) (fun t ht => ?_) (fun b _ => ?_) (fun b hb => hb.elim) (fun r v hv => .inl hv) (fun _ _ _ h => .inl h)
  · exact ⟨upd_ne _ _ (by simpa using ht), by rw [Act.getD_put v (Nat.lt_of_lt_of_le hd h.size), if_neg ht], fun _ _ _ => KeepsT.of id (fun _ => id) _⟩
  · subst ht
    exact ⟨g, g + 1, a0, av, hs, upd_same _ _ _, Nat.le_succ _, by rw [Act.getD_put v (Nat.lt_of_lt_of_le hd h.size), if_pos rfl]; exact hr, fun v' hv => by
      obtain ⟨g', av', e, le⟩ := h.htm _ _ _ hv
      rw [hs] at e; cases e; omega⟩
  · exact ⟨upd_ne _ _ (by simp), fun _ _ _ => ⟨id, fun _ _ _ _ => .inl id⟩⟩
end Go.Proofs.Yticifedehhnjhaa.Eng
/- Operands, references, rows that are read where they lie, rows that are made stable. -/
namespace Go.Proofs.Yticifedehhnjhaa.Eng
set_option linter.unusedVariables false
set_option linter.unusedSimpArgs false
open Go Go.RowKit

theorem RepLeaf.any {ρ : Env} {w : World} {r r' : Ref} {l : Leaf} {v : Value} (hl : l.isOwn = false) (h : RepLeaf ρ w r l v) : RepLeaf ρ w r' l v := by
  cases l <;> first | exact h | cases hl
/-- Where a leaf lies. -/
def At (ρ : Env) (st : St) (a : Act) (w : World) : Ref → Leaf → Value → Prop
  | .tm t g, l, v => st (.tm t) = .tm g (.cv false [l]) ∧ a.tmps.getD t undef = v
  | .bf b g o lg, l, v => ∃ (ls : List (Nat × Leaf)) (blk : Nat) (cs : Array Value) (ty : Nat), st (.bx b) = .bx g ls ∧ ls[o]? = some (lg, l) ∧ ρ.ga b g = some blk ∧ w.heap[blk]? = some (.cells cs ty (0, 0)) ∧ cs[o]? = some v
  | .tp _ _ _, _, _ => False
theorem At.rep {ρ : Env} {st : St} {a : Act} {w : World} {N : Nat} (h : Sim ρ st a w N) {r : Ref} {l : Leaf} {v : Value} (hr : At ρ st a w r l v) : RepLeaf ρ w r l v := by
  cases r with
  | tm t g =>
    obtain ⟨e1, rfl⟩ := hr
    obtain ⟨g', av, e, r, _⟩ := h.tm t
    rw [e1] at e; cases e
    exact r
  | tp t g i => exact hr.elim
  | bf b g o lg =>
    obtain ⟨ls, blk, cs, ty, e1, e2, e0, e3, e4⟩ := hr
    obtain ⟨g', ls', e, r, _⟩ := h.bx b
    rw [e1] at e; cases e
    rcases r with rfl | ⟨blk', cs', ty', r0, r1, r2, r3, r4⟩
    · simp at e2
    · rw [e0] at r0; cases r0
      rw [e3] at r1; cases r1
      exact r4 o lg l v e2 e4
theorem At.cur {ρ : Env} {st : St} {a : Act} {w : World} {N : Nat} (h : Sim ρ st a w N) {r : Ref} {l : Leaf} {v u : Value} (hr : At ρ st a w r l v) (hh : ρ.hdr r = some u) : u = v := by
  cases r with
  | tm t g =>
    obtain ⟨e1, rfl⟩ := hr
    obtain ⟨g', av, e, _, c⟩ := h.tm t
    rw [e1] at e; cases e
    exact (c u hh).symm
  | tp t g i => exact hr.elim
  | bf b g o lg =>
    obtain ⟨ls, blk, cs, ty, e1, e2, e0, e3, e4⟩ := hr
    obtain ⟨g', ls', e, _, c⟩ := h.bx b
    rw [e1] at e; cases e
    obtain ⟨blk', cs', ty', c0, c1, c2⟩ := c o lg l u e2 hh
    rw [e0] at c0; cases c0
    rw [e3] at c1; cases c1
    rw [e4] at c2; cases c2
    rfl
section
variable {D : Nat → Sh} {rec : (q : Req) → Option (D q.f).den} {ρ : Env} {st : St} {a : Act} {w : World} {N : Nat}
/-- A value that an operand has. -/
def OpdOk (ρ : Env) (w : World) (av : AV) (v : Value) : Prop := match av with
  | .cv agg ls => (∀ l ∈ ls, l.isOwn = false) ∧ ∀ r, RepCV ρ w r agg ls v
  | .tup _ => True
theorem RepCV.any {r : Ref} {agg : Bool} {ls : List Leaf} {v : Value} (hl : ∀ l ∈ ls, l.isOwn = false) (h : RepCV ρ w r agg ls v) (r' : Ref) : RepCV ρ w r' agg ls v := by
  cases agg with
  | true => obtain ⟨cs, h1, h2, h3⟩ := h; exact ⟨cs, h1, h2, fun i l u p q => ⟨(h3 i l u p q).1.any (h3 i l u p q).2, (h3 i l u p q).2⟩⟩
  | false =>
    match ls, hl, h with
    | [l], hl, h => exact RepLeaf.any (hl _ (by simp)) h
    | [], _, h => exact h
    | _ :: _ :: _, _, h => exact h
theorem ev_opd {o : Operand} {av : AV} {st' : St} (h : ev rec (opd o) st = some (av, st')) (S : Sim ρ st a w N) : st' = st ∧ OpdOk ρ w av (a.eval o) := by
  cases o with
  | tmp t =>
    simp only [opd, ev] at h
    obtain ⟨g, av0, e, r, _⟩ := S.tm t
    rw [e] at h
    split at h
    · rename_i g' e' xs heq
      cases heq
      cases ev_ret h
      refine ⟨rfl, fun l hl => ?_, fun r' => ?_⟩
      · simp at hl; subst hl; rfl
      · obtain ⟨r1, A, c, r2, _⟩ := r; exact ⟨r1, A, _, c, r2⟩
    · rename_i g' agg ls hne heq
      cases heq
      cases ev_ret h
      refine ⟨rfl, ?_⟩
      have key := r
      clear key
      focus
        have hno : ∀ l ∈ ls, l.isOwn = false := by
          intro l hl
          cases agg with
          | true =>
            obtain ⟨cs, h1, h2, h3⟩ := r
            obtain ⟨i, hi, rfl⟩ := List.getElem_of_mem hl
            obtain ⟨u, hu⟩ : ∃ u, cs[i]? = some u := ⟨_, Array.getElem?_eq_getElem (by omega)⟩
            exact (h3 i _ u (List.getElem?_eq_getElem hi) hu).2
          | false =>
            match ls, hl, r, hne with
            | [l'], hl, _, hne =>
              simp at hl; subst hl
              cases l with
              | own e xs => exact (hne _ xs rfl rfl).elim
              | _ => rfl
            | [], _, r, _ => exact r.elim
            | _ :: _ :: _, _, r, _ => exact r.elim
        exact ⟨hno, fun r' => RepCV.any hno r r'⟩
    · cases h
  | const v =>
    simp only [opd] at h
    split at h
    · rename_i l hl
      cases ev_ret h
      refine ⟨rfl, ?_⟩
      have : l.isOwn = false ∧ ∀ r, RepLeaf ρ w r l v := by
        unfold constLeaf at hl
        split at hl <;> cases hl <;> exact ⟨rfl, fun _ => by simp [RepLeaf, RepTy]⟩
      exact ⟨fun x hx => by simp at hx; subst hx; exact this.1, this.2⟩
    · cases h
  | global g => cases h
  | func f =>
    cases ev_ret h
    exact ⟨rfl, fun x hx => by simp at hx; subst hx; rfl, fun r => ⟨#[], rfl, rfl, fun i s u hs => by simp at hs⟩⟩
theorem ev_one {av : AV} {l : Leaf} {st' : St} (h : ev rec (one av) st = some (l, st')) : st' = st ∧ av = .cv false [l] := by
  unfold one at h
  split at h
  · cases ev_ret h; exact ⟨rfl, rfl⟩
  · cases h
theorem ev_opd1 {o : Operand} {l : Leaf} {st' : St} (h : ev rec (opd1 o) st = some (l, st')) (S : Sim ρ st a w N) : st' = st ∧ l.isOwn = false ∧ ∀ r, RepLeaf ρ w r l (a.eval o) := by
  obtain ⟨av, st1, h1, h2⟩ := ev_bind _ _ _ _ h
  obtain ⟨rfl, ok⟩ := ev_opd h1 S
  obtain ⟨rfl, rfl⟩ := ev_one h2
  exact ⟨rfl, ok.1 _ (by simp), ok.2⟩
theorem ev_content {r : Ref} {l : Leaf} {st' : St} (h : ev rec (content r) st = some (l, st')) (S : Sim ρ st a w N) : st' = st ∧ ∃ v, At ρ st a w r l v := by
  cases r with
  | tp t g i => cases h
  | tm t g =>
    obtain ⟨g', av, e, h⟩ := ev_getTm h
    cases hb : Nat.beq g g' with
    | false => rw [hb] at h; cases h
    | true =>
      rw [hb] at h
      obtain ⟨rfl, rfl⟩ := ev_one h
      have : g = g' := Nat.eq_of_beq_eq_true hb
      subst this
      exact ⟨rfl, _, e, rfl⟩
  | bf b g o lg =>
    obtain ⟨g', ls, e, h⟩ := ev_getBx h
    cases hb : Nat.beq g g' with
    | false => rw [hb] at h; cases h
    | true =>
      rw [hb] at h
      have : g = g' := Nat.eq_of_beq_eq_true hb
      subst this
      simp only [cond_true] at h
      split at h
      · rename_i lg' l' hl
        cases hb : Nat.beq lg lg' with
        | false => rw [hb] at h; cases h
        | true =>
          rw [hb] at h
          have : lg = lg' := Nat.eq_of_beq_eq_true hb
          subst this
          cases ev_ret h
          refine ⟨rfl, ?_⟩
          obtain ⟨g', ls', e', r, _⟩ := S.bx b
          rw [e] at e'; cases e'
          rcases r with rfl | ⟨blk, cs, ty, r0, r1, r2, r3, r4⟩
          · simp at hl
          · have ho : o < cs.size := by rw [r3]; exact (List.getElem?_eq_some_iff.1 hl).1
            exact ⟨cs[o], ls, blk, cs, ty, e, hl, r0, r1, Array.getElem?_eq_getElem ho⟩
      · cases h
theorem ev_resolve : ∀ (n : Nat) (r : Ref) {x : Ref × Leaf} {st' : St}, ev rec (resolve n r) st = some (x, st') → Sim ρ st a w N →
    st' = st ∧ ∃ v, At ρ st a w x.1 x.2 v ∧ ∀ u, ρ.hdr r = some u → u = v ∧ ρ.hdr x.1 = some v := by
  intro n
  induction n with
  | zero => intro r x st' h; cases h
  | succ n ih =>
    intro r x st' h S
    obtain ⟨l, st1, h1, h2⟩ := ev_bind _ _ _ _ h
    obtain ⟨rfl, v, hv⟩ := ev_content h1 S
    split at h2
    · rename_i r'
      obtain ⟨e, v', p1, p2⟩ := ih r' h2 S
      have hal : ρ.hdr r' = some v := (hv.rep S).1
      obtain ⟨q1, q2⟩ := p2 v hal
      refine ⟨e, v', p1, fun u hu => ?_⟩
      have hc := hv.cur S hu
      subst hc; subst q1
      exact ⟨rfl, q2⟩
    · cases ev_ret h2
      refine ⟨rfl, v, hv, fun u hu => ?_⟩
      have hc := hv.cur S hu
      subst hc
      exact ⟨rfl, hu⟩
end
theorem cell_off {w : World} {blk off : Nat} {cells : Array Value} {ty : Nat} {f : Nat × Nat} (h : w.heap[blk]? = some (.cells cells ty f)) (n : Nat) : w.cell? ((⟨blk, off, none⟩ : Addr).add n) = cells[off + n]? := by
  unfold Addr.add
  by_cases hn : n = 0
  · subst hn; simp [World.cell?, h]
  · simp [hn, World.cell?, h]
/-- The elements of a row, wherever it lies: stable ones. -/
def RowAt (lab : Nat → Lbl) (w : World) (e : Ty) (A : Option Addr) (xs : List e.den) : Prop :=
  ∀ j x, xs[j]? = some x → ∃ ad, A = some ad ∧ ∃ cells, RepTy lab w e cells x ∧ ∀ i u, cells[i]? = some u → w.cell? (ad.add (j * e.sz + i)) = some u
theorem RepTy.row {lab : Nat → Lbl} {w : World} {e : Ty} {v : Value} {xs : List e.den} (h : RepTy lab w (.sl e) [v] xs) : ∃ A c, v = .slice A xs.length c ∧ xs.length ≤ c ∧ RowAt lab w e A xs := by
  obtain ⟨A, c, hv, hc, h⟩ := h
  refine ⟨A, c, by simpa using hv, hc, fun j x hx => ?_⟩
  obtain ⟨ad, hA, cells, h1, h2⟩ := h j x hx
  exact ⟨ad, hA, cells, h1, fun i u hu => (h2 i u hu).2⟩
theorem OwnRow.row {lab : Nat → Lbl} {w : World} {r : Ref} {e : Ty} {v : Value} {xs : List e.den} (h : OwnRow lab w r e v xs) : ∃ A c, v = .slice A xs.length c ∧ xs.length ≤ c ∧ RowAt lab w e A xs := by
  obtain ⟨A, c, hv, hc, h⟩ := h
  refine ⟨A, c, hv, hc, fun j x hx => ?_⟩
  rcases h with rfl | ⟨blk, off, cells, ty, hA, hl, hb, ho, h⟩
  · have := (List.getElem?_eq_some_iff.1 hx).1; omega
  · obtain ⟨cs, h1, h2⟩ := h j x hx
    exact ⟨_, hA, cs, h1, fun i u hu => by rw [cell_off hb]; exact h2 i u hu⟩
/-- A row that is made stable: all that bore its name, and what was stable, is stable. -/
theorem OwnRow.stable {lab lab' : Nat → Lbl} {w w' : World} {r : Ref} {e : Ty} {v : Value} {xs : List e.den} (h : OwnRow lab w r e v xs) (k : StKeep lab w lab' w')
    (ho : ∀ blk, blk < w.heap.size → lab blk = .own r → lab' blk = .st ∧ w'.heap[blk]? = w.heap[blk]?) : RepTy lab' w' (.sl e) [v] xs := by
  obtain ⟨A, c, hv, hc, h⟩ := h
  subst hv
  refine ⟨A, c, rfl, hc, fun j x hx => ?_⟩
  rcases h with rfl | ⟨blk, off, cells, ty, hA, hl, hb, hsz, h⟩
  · have := (List.getElem?_eq_some_iff.1 hx).1; omega
  · obtain ⟨cs, h1, h2⟩ := h j x hx
    obtain ⟨l1, l2⟩ := ho blk (blk_lt' hb) hl
    exact ⟨_, hA, cs, h1.mono k, fun i u hu => ⟨l1, by rw [cell_off (l2.trans hb)]; exact h2 i u hu⟩⟩
theorem RowAt.cut {lab : Nat → Lbl} {w : World} {e : Ty} {A : Option Addr} {xs : List e.den} (h : RowAt lab w e A xs) {lo hi : Int} :
    RowAt lab w e (A.map (·.add (lo.toNat * e.sz))) (cut xs lo hi) := fun j x hx => by
  simp only [Eng.cut, List.getElem?_drop, List.getElem?_take] at hx
  split at hx
  · obtain ⟨ad, rfl, cells, c1, c2⟩ := h _ x hx
    refine ⟨_, rfl, cells, c1, fun i u hu => ?_⟩
    rw [add_add']
    have := c2 i u hu
    rwa [show lo.toNat * e.sz + (j * e.sz + i) = (lo.toNat + j) * e.sz + i by rw [Nat.add_mul]; omega]
  · cases hx
theorem cut_len {α : Type} {xs : List α} {lo hi : Int} (h0 : 0 ≤ lo) (h1 : lo ≤ hi) (h2 : hi ≤ xs.length) : (cut xs lo hi).length = (hi - lo).toNat := by
  simp only [Eng.cut, List.length_drop, List.length_take]; omega
section
variable {D : Nat → Sh} {rec : (q : Req) → Option (D q.f).den} {ρ : Env} {st : St} {a : Act} {w : World} {N : Nat}
/-- What a slice's leaf stands for. -/
def SlOk (ρ : Env) (st : St) (a : Act) (w : World) (val : Value) : SlV → Prop
  | .st e xs => RepTy ρ.lab w (.sl e) [val] xs
  | .ow r e xs => At ρ st a w r (.own e xs) val
  | .sub r e xs lo hi => ∃ V, At ρ st a w r (.own e xs) V ∧ RepLeaf ρ w r (.sub r e.sz lo hi) val
  | .nil => val = .slice none 0 0
theorem sub_stable {V val : Value} {e : Ty} {xs : List e.den} {lo hi : Int} {A A' : Option Addr} {n c : Nat} (hV : RepTy ρ.lab w (.sl e) [V] xs) (hs : V = .slice A n c) (h0 : 0 ≤ lo) (h1 : lo ≤ hi) (h2 : hi ≤ n)
    (hv : val = .slice A' (hi - lo).toNat (c - lo.toNat)) (hA' : c - lo.toNat ≠ 0 → A' = A.map (·.add (lo.toNat * e.sz))) : RepTy ρ.lab w (.sl e) [val] (cut xs lo hi) := by
  obtain ⟨A0, c', e', hc, h⟩ := hV
  simp at e'
  rw [hs] at e'
  cases e'
  refine ⟨_, _, by rw [hv, cut_len h0 h1 h2], by rw [cut_len h0 h1 h2]; omega, fun j x hx => ?_⟩
  have hx' := hx
  simp only [Eng.cut, List.getElem?_drop, List.getElem?_take] at hx
  split at hx
  · rename_i hj
    obtain ⟨ad, rfl, cells, c1, c2⟩ := h _ x hx
    have hne : ¬ (c - lo.toNat = 0) := by omega
    refine ⟨ad.add (lo.toNat * e.sz), hA' hne, cells, c1, fun i u hu => ?_⟩
    obtain ⟨l1, l2⟩ := c2 i u hu
    refine ⟨by rw [add_blk]; exact l1, ?_⟩
    rw [add_add']
    rwa [show lo.toNat * e.sz + (j * e.sz + i) = (lo.toNat + j) * e.sz + i by rw [Nat.add_mul]; omega]
  · cases hx
theorem ev_slv {l : Leaf} {sv : SlV} {st' : St} {val : Value} (h : ev rec (slv l) st = some (sv, st')) (S : Sim ρ st a w N) (hl : ∀ r, RepLeaf ρ w r l val) : st' = st ∧ SlOk ρ st a w val sv := by
  unfold slv at h
  split at h
  · cases ev_ret h; exact ⟨rfl, hl (.tm 0 0)⟩
  · rename_i r
    obtain ⟨x, st1, h1, h2⟩ := ev_bind _ _ _ _ h
    obtain ⟨rfl, v, p1, p2⟩ := ev_resolve _ _ h1 S
    obtain ⟨rfl, q2⟩ := p2 _ (hl (.tm 0 0)).1
    split at h2
    · cases ev_ret h2; exact ⟨rfl, p1⟩
    · cases ev_ret h2; exact ⟨rfl, p1.rep S⟩
    · cases ev_ret h2
      have := p1.rep S
      simp only [RepLeaf] at this
      subst this
      exact ⟨rfl, none, 0, rfl, Nat.le_refl _, fun j x hx => by simp at hx⟩
    · cases h2
  · rename_i r s lo hi
    obtain ⟨x, st1, h1, h2⟩ := ev_bind _ _ _ _ h
    obtain ⟨rfl, V, p1, p2⟩ := ev_resolve _ _ h1 S
    obtain ⟨A, n, c, hal, z0, z1, z2, z3, A', z4, z5⟩ := hl (.tm 0 0)
    obtain ⟨q1, q2⟩ := p2 _ hal
    split at h2
    · rename_i r' e xs
      cases hb : Nat.beq s e.sz with
      | false => rw [hb] at h2; cases h2
      | true =>
        rw [hb] at h2
        cases ev_ret h2
        have : s = e.sz := Nat.eq_of_beq_eq_true hb
        subst this
        exact ⟨rfl, _, p1, A, n, c, by rw [q2, ← q1], z0, z1, z2, z3, A', z4, z5⟩
    · rename_i r' e xs
      cases hb : Nat.beq s e.sz with
      | false => rw [hb] at h2; cases h2
      | true =>
        rw [hb] at h2
        cases ev_ret h2
        have : s = e.sz := Nat.eq_of_beq_eq_true hb
        subst this
        exact ⟨rfl, sub_stable (p1.rep S) q1.symm z0 z1 z2 z4 z5⟩
    · cases h2
  · cases ev_ret h; exact ⟨rfl, hl (.tm 0 0)⟩
  · cases h
end
end Go.Proofs.Yticifedehhnjhaa.Eng
/- Rows get other names; a place gets other contents; values that stay. -/
namespace Go.Proofs.Yticifedehhnjhaa.Eng
set_option linter.unusedVariables false
set_option linter.unusedSimpArgs false
open Go Go.RowKit

/-- The row that bore the name r bears the name l. -/
noncomputable def Env.rl (ρ : Env) (r : Ref) (l : Lbl) : Env := { ρ with lab := fun b => by classical exact if ρ.lab b = .own r then l else ρ.lab b }
theorem rl_own {ρ : Env} {r : Ref} {l : Lbl} {b : Nat} (h : ρ.lab b = .own r) : (ρ.rl r l).lab b = l := by simp [Env.rl, h]
theorem rl_ne {ρ : Env} {r : Ref} {l : Lbl} {b : Nat} (h : ρ.lab b ≠ .own r) : (ρ.rl r l).lab b = ρ.lab b := by simp [Env.rl, h]
theorem rl_keep (ρ : Env) (r : Ref) (l : Lbl) (w : World) : Keep (· = r) (fun _ _ => False) ρ w (ρ.rl r l) w :=
  ⟨fun _ _ h => h, fun b _ hb => ⟨by rw [rl_ne (by rw [hb]; simp)]; exact hb, rfl⟩, fun b q _ hb hq => ⟨by rw [rl_ne (by rw [hb]; simpa using hq)]; exact hb, rfl⟩,
    fun b _ _ _ hb _ => ⟨by rw [rl_ne (by rw [hb]; simp)]; exact hb, rfl⟩, fun _ _ _ h => h⟩
theorem rl_ext (ρ : Env) (r : Ref) (l : Lbl) (w : World) : Ext ρ w (ρ.rl r l) w :=
  ⟨Nat.le_refl _, (rl_keep ρ r l w).st, fun b _ hb => ⟨by rw [rl_ne (by rw [hb]; simp)]; exact hb, rfl⟩, rfl, rfl, rfl⟩
section
variable {D : Nat → Sh} {rec : (q : Req) → Option (D q.f).den} {ρ ρ' : Env} {st : St} {a : Act} {w w' : World} {N : Nat}
/-- Other contents at a place, under the same header. -/
theorem Sim.setRef (S : Sim ρ st a w N) {r : Ref} {l l' : Leaf} {v : Value} (hat : At ρ st a w r l v) (k : Keep (· = r) (fun _ _ => False) ρ w ρ' w') (hh : ρ'.hdr = ρ.hdr) (hga : ρ'.ga = ρ.ga)
    (hr : RepLeaf ρ' w' r l' v) {st' : St} (h : ev rec (Eng.setRef r l') st = some ((), st')) : Sim ρ' st' a w' N ∧ At ρ' st' a w' r l' v := by
  cases r with
  | tp t g i => cases h
  | tm t g =>
    obtain ⟨e1, e2⟩ := hat
    simp only [Eng.setRef, ev] at h
    cases h
    have S' : Sim ρ' (upd st (.tm t) (.tm g (.cv false [l']))) a w' N := by
      refine S.step k S.size S.defers (· = t) (fun _ => False) (fun t' ht => ?_) (fun t' ht => ?_) (fun b _ => ?_) (fun b hb => hb.elim) (fun r v hv => .inl (by rw [← hh]; exact hv)) (fun b g x hx => .inl (by rw [← hga]; exact hx))
      · exact ⟨upd_ne _ _ (by simpa using ht), rfl, fun g' av _ => KeepsT.of (by simp [ht]) (fun i => by simp) _⟩
      · subst ht
        refine ⟨g, g, _, _, e1, upd_same _ _ _, Nat.le_refl _, by rw [e2]; exact hr, fun u hu => ?_⟩
        obtain ⟨g', av, e, _, c⟩ := S.tm t'
        rw [e1] at e; cases e
        exact c u (by rw [← hh]; exact hu)
      · exact ⟨upd_ne _ _ (by simp), fun _ _ _ => ⟨id, fun _ _ _ _ => .inl (by simp)⟩⟩
    exact ⟨S', upd_same _ _ _, e2⟩
  | bf b g o lg =>
    obtain ⟨ls, blk, cs, ty, e1, e2, e0, e3, e4⟩ := hat
    obtain ⟨g', ls', e, h⟩ := ev_getBx h
    rw [e1] at e; cases e
    simp only [ev] at h
    cases h
    obtain ⟨g', ls', e, rb, cb⟩ := S.bx b
    rw [e1] at e; cases e
    rcases rb with rfl | ⟨blk', cs', ty', r0, r1, r2, r3, r4⟩
    · simp at e2
    rw [e0] at r0; cases r0
    rw [e3] at r1; cases r1
    obtain ⟨k1, k2⟩ := k.box _ b g (blk_lt' e3) r2 id
    have S' : Sim ρ' (upd st (.bx b) (.bx g (ls.set o (lg, l')))) a w' N := by
      refine S.step k S.size S.defers (fun _ => False) (· = b) (fun t' _ => ?_) (fun t' ht => ht.elim) (fun b' hb => ?_) (fun b' hb => ?_) (fun r v hv => .inl (by rw [← hh]; exact hv)) (fun b g x hx => .inl (by rw [← hga]; exact hx))
      · exact ⟨upd_ne _ _ (by simp), rfl, fun _ _ _ => KeepsT.of (by simp) (fun _ => by simp) _⟩
      · exact ⟨upd_ne _ _ (by simpa using hb), fun _ _ _ => ⟨id, fun _ _ _ _ => .inl (by simp [hb])⟩⟩
      · subst hb
        refine ⟨g, g, ls, _, e1, upd_same _ _ _, .inr ⟨rfl, by simp, fun i l1 l2 x y h1 h2 => ?_⟩, .inr ⟨blk, cs, ty, k.ga _ _ _ e0, by rw [k2]; exact e3, k1, by simp [r3], fun i l2 y u hi hu => ?_⟩, fun i l2 y u hi hu => ?_⟩
        · rw [List.getElem?_set] at h2
          split at h2
          · rename_i hio; subst hio
            rw [e2] at h1; cases h1
            split at h2 <;> simp at h2
            omega
          · rw [h1] at h2; cases h2; exact Nat.le_refl _
        · rw [List.getElem?_set] at hi
          split at hi
          · rename_i hio; subst hio
            split at hi <;> simp at hi
            obtain ⟨rfl, rfl⟩ := hi
            rw [e4] at hu; cases hu
            exact hr
          · rename_i hne
            exact (r4 i l2 y u hi hu).mono k (fun _ => by simp; omega)
        · rw [hh] at hu
          have hc : ∃ lg0 l0, ls[i]? = some (lg0, l0) ∧ ρ.hdr (.bf b' g i lg0) = some u := by
            rw [List.getElem?_set] at hi
            split at hi
            · rename_i hio; subst hio
              split at hi <;> simp at hi
              obtain ⟨rfl, rfl⟩ := hi
              exact ⟨_, _, e2, hu⟩
            · exact ⟨_, _, hi, hu⟩
          obtain ⟨lg0, l0, q1, q2⟩ := hc
          obtain ⟨blk', cs', ty', c0, c1, c2⟩ := cb _ _ _ u q1 q2
          rw [e0] at c0; cases c0
          exact ⟨blk, cs', ty', k.ga _ _ _ e0, by rw [k2]; exact c1, c2⟩
    exact ⟨S', _, blk, cs, ty, upd_same _ _ _, by rw [List.getElem?_set]; simp [(List.getElem?_eq_some_iff.1 e2).1], k.ga _ _ _ e0, by rw [k2]; exact e3, e4⟩
/-- A row is made stable. -/
theorem Sim.freeze (S : Sim ρ st a w N) {r : Ref} {e : Ty} {xs : List e.den} {v : Value} (hat : At ρ st a w r (.own e xs) v) {st' : St} (h : ev rec (Eng.setRef r (.v (.sl e) xs)) st = some ((), st')) :
    Sim (ρ.rl r .st) st' a w N ∧ RepTy (ρ.rl r .st).lab w (.sl e) [v] xs := by
  have hr := (hat.rep S).2.stable (rl_keep ρ r .st w).st (fun b _ hb => ⟨rl_own hb, rfl⟩)
  exact ⟨(S.setRef (l' := .v (.sl e) xs) hat (rl_keep _ _ _ _) rfl rfl hr h).1, hr⟩
/-- What stays true of values that own nothing, and of references. -/
structure Still (ρ : Env) (w : World) (ρ' : Env) (w' : World) : Prop extends Ext ρ w ρ' w' where
  hdr : ∀ r v, ρ.hdr r = some v → ρ'.hdr r = some v
  ga : ∀ b g x, ρ.ga b g = some x → ρ'.ga b g = some x
theorem Still.refl (ρ : Env) (w : World) : Still ρ w ρ w := ⟨.refl _ _, fun _ _ h => h, fun _ _ _ h => h⟩
theorem Still.trans {ρ1 ρ2 ρ3 : Env} {w1 w2 w3 : World} (h : Still ρ1 w1 ρ2 w2) (k : Still ρ2 w2 ρ3 w3) : Still ρ1 w1 ρ3 w3 :=
  ⟨h.toExt.trans k.toExt, fun r v p => k.hdr r v (h.hdr r v p), fun b g x p => k.ga b g x (h.ga b g x p)⟩
theorem Still.of_keep {X : Ref → Prop} {Y : Nat → Nat → Prop} (e : Ext ρ w ρ' w') (k : Keep X Y ρ w ρ' w') : Still ρ w ρ' w' := ⟨e, k.hdr, k.ga⟩
theorem rl_still (ρ : Env) (r : Ref) (l : Lbl) (w : World) : Still ρ w (ρ.rl r l) w := .of_keep (rl_ext _ _ _ _) (rl_keep _ _ _ _)
theorem RepLeaf.still (k : Still ρ w ρ' w') {here : Ref} {l : Leaf} {val : Value} (hl : l.isOwn = false) (h : RepLeaf ρ w here l val) : RepLeaf ρ' w' here l val := by
  cases l with
  | v t x => exact RepTy.mono k.st h
  | own e xs => cases hl
  | al r => exact ⟨k.hdr _ _ h.1, h.2⟩
  | sub r s lo hi => obtain ⟨A, n, c, h1, h⟩ := h; exact ⟨A, n, c, k.hdr _ _ h1, h⟩
  | pb b g off => obtain ⟨blk, h1, h2⟩ := h; exact ⟨blk, k.ga _ _ _ h1, h2⟩
  | pe r s i off => obtain ⟨ad, n, c, h1, h⟩ := h; exact ⟨ad, n, c, k.hdr _ _ h1, h⟩
  | ps t x => exact RepPs.mono k.st h
  | fn f caps => obtain ⟨vs, h1, h2, h3⟩ := h; exact ⟨vs, h1, h2, fun i s u a b => (h3 i s u a b).mono k.st⟩
  | fnp f caps => obtain ⟨vs, h1, h2, h3⟩ := h; exact ⟨vs, h1, h2, fun i q u a b => let ⟨blk, p1, p2⟩ := h3 i q u a b; ⟨blk, k.ga _ _ _ p1, p2⟩⟩
  | nil e => exact h
  | nilp => exact h
  | nq b => exact h
  | undef => exact h
theorem ev_stab {want : Ty} {l : Leaf} {s : SV} {st' : St} {val : Value} (h : ev rec (stab want l) st = some (s, st')) (S : Sim ρ st a w N) (hl : ∀ r, RepLeaf ρ w r l val) :
    ∃ ρ', Still ρ w ρ' w ∧ Sim ρ' st' a w N ∧ RepTy ρ'.lab w s.t [val] s.x := by
  have key : ∀ {s : SV} {st' : St}, ev rec ((slv l).bind stabSl) st = some (s, st') → ∃ ρ', Still ρ w ρ' w ∧ Sim ρ' st' a w N ∧ RepTy ρ'.lab w s.t [val] s.x := by
    intro s st' h
    obtain ⟨sv, st1, h1, h2⟩ := ev_bind _ _ _ _ h
    obtain ⟨rfl, ok⟩ := ev_slv h1 S hl
    unfold stabSl at h2
    split at h2
    · cases ev_ret h2; exact ⟨ρ, .refl _ _, S, ok⟩
    · rename_i r e xs
      obtain ⟨_, st2, h3, h4⟩ := ev_bind _ _ _ _ h2
      cases ev_ret h4
      obtain ⟨S', hr⟩ := S.freeze ok h3
      exact ⟨_, rl_still _ _ _ _, S', hr⟩
    · rename_i r e xs lo hi
      obtain ⟨_, st2, h3, h4⟩ := ev_bind _ _ _ _ h2
      cases ev_ret h4
      obtain ⟨V, hat, A, n, c, q, z0, z1, z2, z3, A', z4, z5⟩ := ok
      obtain ⟨S', hr⟩ := S.freeze hat h3
      have hV := hat.cur S q
      exact ⟨_, rl_still _ _ _ _, S', sub_stable hr hV.symm z0 z1 z2 z4 z5⟩
    · cases h2
  unfold stab at h
  split at h
  · cases ev_ret h; exact ⟨ρ, .refl _ _, S, hl (.tm 0 0)⟩
  · split at h
    · cases ev_ret h
      have := hl (.tm 0 0)
      simp only [RepLeaf] at this
      subst this
      exact ⟨ρ, .refl _ _, S, none, 0, rfl, Nat.le_refl _, fun j x hx => by simp at hx⟩
    · cases h
  · exact key h
/-- Leaves and their values, one by one. -/
def RepLs (ρ : Env) (w : World) : List Leaf → List Value → Prop
  | [], [] => True
  | l :: ls, v :: vs => (l.isOwn = false ∧ ∀ r, RepLeaf ρ w r l v) ∧ RepLs ρ w ls vs
  | _, _ => False
theorem RepLs.still (k : Still ρ w ρ' w') : ∀ {ls : List Leaf} {vs : List Value}, RepLs ρ w ls vs → RepLs ρ' w' ls vs
  | [], [], h => h
  | _ :: _, _ :: _, h => ⟨⟨h.1.1, fun r => (h.1.2 r).still k h.1.1⟩, h.2.still k⟩
  | [], _ :: _, h => h.elim
  | _ :: _, [], h => h.elim
theorem RepTy.cells {lab : Nat → Lbl} : ∀ {t : Ty} {v : Value} {x : t.den}, RepTy lab w t [v] x → v.cells = #[v] := by
  intro t
  induction t with
  | int k => intro v x h; simp [RepTy] at h; subst h; rfl
  | bool => intro v x h; simp [RepTy] at h; subst h; rfl
  | str => intro v x h; simp [RepTy] at h; subst h; rfl
  | unit => intro v x h; simp [RepTy] at h
  | sl e _ => intro v x h; obtain ⟨A, c, e, _⟩ := h; simp at e; subst e; rfl
  | pair a b iha ihb => intro v x h; obtain ⟨c, r, e, h1, _⟩ := h; cases e; exact iha h1
theorem RepLeaf.cells {r : Ref} {l : Leaf} {v : Value} (hl : l.isOwn = false) (h : RepLeaf ρ w r l v) : v.cells = #[v] := by
  cases l with
  | v t x => exact RepTy.cells h
  | own e xs => cases hl
  | al r => obtain ⟨_, A, n, c, rfl⟩ := h; rfl
  | sub r s lo hi => obtain ⟨A, n, c, _, _, _, _, _, A', rfl, _⟩ := h; rfl
  | pb b g off => obtain ⟨_, _, rfl⟩ := h; rfl
  | pe r s i off => obtain ⟨ad, n, c, _, _, _, rfl⟩ := h; rfl
  | ps t x => obtain ⟨ad, rfl, _⟩ := h; rfl
  | fn f caps => obtain ⟨vs, rfl, _⟩ := h; rfl
  | fnp f caps => obtain ⟨vs, rfl, _⟩ := h; rfl
  | nil e => simp only [RepLeaf] at h; subst h; rfl
  | nilp => simp only [RepLeaf] at h; subst h; rfl
  | nq b => obtain ⟨c, rfl, _⟩ := h; rfl
  | undef => exact h.2
theorem OpdOk.leaves {agg : Bool} {ls : List Leaf} {v : Value} (h : OpdOk ρ w (.cv agg ls) v) : RepLs ρ w ls v.cells.toList := by
  obtain ⟨ho, h⟩ := h
  cases agg with
  | false =>
    match ls, ho, h with
    | [l], ho, h =>
      have hl : l.isOwn = false := ho l (by simp)
      have : v.cells = #[v] := RepLeaf.cells hl (h (.tm 0 0))
      rw [this]
      exact ⟨⟨hl, h⟩, trivial⟩
    | [], _, h => exact (h (.tm 0 0)).elim
    | _ :: _ :: _, _, h => exact (h (.tm 0 0)).elim
  | true =>
    obtain ⟨cs, rfl, h2, h9⟩ := h (.tm 0 0)
    have h3 : ∀ (i : Nat) l u, ls[i]? = some l → cs[i]? = some u → (∀ r, RepLeaf ρ w r l u) ∧ l.isOwn = false := fun i l u p q => by
      refine ⟨fun r => ?_, ?_⟩
      · obtain ⟨cs', e, _, h4⟩ := h r
        cases e
        exact (h4 i l u p q).1
      · exact ho l (List.mem_of_getElem? p)
    simp only [Value.cells]
    obtain ⟨cl⟩ := cs
    simp at h2 h3 ⊢
    have h3' := h3
    clear ho h h3 h9
    induction ls generalizing cl with
    | nil => cases cl with
      | nil => trivial
      | cons _ _ => simp at h2
    | cons l ls ih => cases cl with
      | nil => simp at h2
      | cons c cl =>
        refine ⟨⟨(h3' 0 l c rfl rfl).2, (h3' 0 l c rfl rfl).1⟩, ih cl (by simpa using h2) (fun i l u p q => h3' (i + 1) l u (by simpa using p) (by simpa using q))⟩
end
end Go.Proofs.Yticifedehhnjhaa.Eng
/- Operations that make no memory and write none. -/
namespace Go.Proofs.Yticifedehhnjhaa.Eng
set_option linter.unusedVariables false
set_option linter.unusedSimpArgs false
open Go Go.RowKit

def zero1 : Ty → Value
  | .int k => .int k 0 | .bool => .bool false | .str => .string ByteArray.empty | .sl _ => .slice none 0 0 | .unit => undef | .pair a _ => zero1 a
def zeroCells : Ty → List Value
  | .pair a b => zero1 a :: zeroCells b
  | .unit => []
  | t => [zero1 t]
def Ty.leaf : Ty → Bool | .pair _ _ => false | .unit => false | _ => true
def Ty.flat : Ty → Bool
  | .pair a b => a.leaf && b.flat
  | .unit => false
  | _ => true
def isAggD : TypeDesc → Bool | .struct _ => true | .array _ _ => true | _ => false
/-- What the table tells of a type is so. -/
structure TdVal (P : Program) (t : Nat) (td : TD) : Prop where
  info : ∃ i z, P.info? t = some i ∧ i.size = td.ty.sz ∧ i.bytes = td.bytes ∧ i.zero = some z ∧ z.cells.toList = zeroCells td.ty
  desc : ∃ d, P.underlying t = some d ∧ isAggD d = td.agg
  flat : td.ty.flat = true
  bytes : 0 < td.bytes
  slice : ∀ e, td.ty = .sl e → P.underlying t = some (.slice td.elem)
  field : ∀ (k o ft : Nat), td.offs[k]? = some o → td.ftys[k]? = some ft → ∃ (fs : Array Field) (f : Field) (i : TypeInfo), P.underlying t = some (.struct fs) ∧ fs[(k : Nat)]? = some f ∧ f.offset = o ∧ P.info? f.type = some i ∧ i.size ≠ 0
  int : ∀ k, td.ty = .int k → P.underlying t = some (.int k)
  str : td.ty = .str → P.underlying t = some .string
  bool : td.ty = .bool → P.underlying t = some .bool
  built : td.agg = true → ∃ (place : Nat → Option (Nat × Nat)) (z : Value), (∀ i, P.info? t = some i → i.zero = some z) ∧ (∀ parts, P.built t parts = Instr.fill place z.cells parts) ∧
    (∀ (k o ft : Nat), td.offs[k]? = some o → td.ftys[k]? = some ft → ∃ i : TypeInfo, P.info? ft = some i ∧ place k = some (o, i.size)) ∧
    (td.offs = [] → ∃ i : TypeInfo, P.info? td.elem = some i ∧ ∀ k, place k = some (k * i.size, i.size))
  single : td.agg = false → td.ty.sz = 1
def TtOk (C : Cfg) : Prop := ∀ t td, C.tt t = some td → isUnit td.ty = false → TdVal C.P t td
section
variable {C : Cfg} {D : Nat → Sh} {rec : (q : Req) → Option (D q.f).den} {ρ ρ' : Env} {st : St} {a : Act} {w w' : World} {N : Nat}
theorem ev_tdOf {t : Nat} {td : TD} {st' : St} (h : ev rec (tdOf C t) st = some (td, st')) : st' = st ∧ C.tt t = some td ∧ isUnit td.ty = false := by
  obtain ⟨td', st1, h1, h2⟩ := ev_bind _ _ _ _ h
  obtain ⟨td', e, e2⟩ := ev_opt h1
  cases e2
  cases hu : isUnit td'.ty with
  | true => rw [hu] at h2; cases h2
  | false => rw [hu] at h2; cases ev_ret h2; exact ⟨rfl, e, hu⟩
theorem ev_elemTy {t : Nat} {ed : TD} {st' : St} (h : ev rec (elemTy C t) st = some (ed, st')) : st' = st ∧ ∃ td, C.tt t = some td ∧ C.tt td.elem = some ed ∧ isUnit ed.ty = false := by
  obtain ⟨td, st1, h1, h2⟩ := ev_bind _ _ _ _ h
  obtain ⟨td', e, e2⟩ := ev_opt h1
  cases e2
  obtain ⟨rfl, p, q⟩ := ev_tdOf h2
  exact ⟨rfl, _, e, p, q⟩
/-- An operation's machine step reaches states that the reading's next state stands for. -/
def OpOk (P : Program) (N : Nat) (ρ : Env) (w : World) (st' : St) (o : Oper) (a : Act) : Prop :=
  ∀ (K : Act → World → Prop) (Q : Exit → Act → World → Prop), (∀ ρ' a' w', Still ρ w ρ' w' → Sim ρ' st' a' w' N → K a' w') → o.wp P a w K Q
theorem OpOk.value {o : Oper} {v : Value} {st' : St} (hrun : (execOp a.eval o).run C.P w = .ok (.value v) w') (k : Still ρ w ρ' w') (S : Sim ρ' st' (a.put o.dst v) w' N) : OpOk C.P N ρ w st' o a :=
  fun K Q hK => by unfold Oper.wp; rw [hrun]; exact hK _ _ _ k S
theorem OpOk.skip {o : Oper} {st' : St} (hrun : (execOp a.eval o).run C.P w = .ok .skip w') (hd : o.dst = none) (k : Still ρ w ρ' w') (S : Sim ρ' st' a w' N) : OpOk C.P N ρ w st' o a :=
  fun K Q hK => by
    unfold Oper.wp; rw [hrun]
    show K (a.put o.dst undef) w'
    rw [hd]
    exact hK _ _ _ k S
/-- The result of an operation goes into its temporary. -/
theorem ev_putO {d : Option Nat} {av : AV} {st' : St} {v : Value} (h : ev rec (putO d av) st = some ((), st')) (S : Sim ρ st a w N) (hd : ∀ x, d = some x → x < N)
    (hr : OpdOk ρ w av v) (hc : ∀ cs, av ≠ .tup cs) : Sim ρ st' (a.put d v) w N := by
  cases d with
  | none => cases ev_ret h; exact S
  | some d =>
    obtain ⟨g, a0, hs, e⟩ := ev_put h
    cases e
    refine S.put (hd d rfl) hs ?_
    cases av with
    | cv agg ls => exact hr.2 _
    | tup cs => exact (hc cs rfl).elim
theorem OpdOk.leaf {l : Leaf} {v : Value} (h1 : l.isOwn = false) (h2 : ∀ r, RepLeaf ρ w r l v) : OpdOk ρ w (.cv false [l]) v := ⟨fun x hx => by simp at hx; subst hx; exact h1, h2⟩
theorem OpdOk.still {av : AV} {v : Value} (k : Still ρ w ρ' w') (h : OpdOk ρ w av v) : OpdOk ρ' w' av v := by
  cases av with
  | tup cs => trivial
  | cv agg ls =>
    refine ⟨h.1, fun r => ?_⟩
    have := h.2 r
    cases agg with
    | true => obtain ⟨cs, h1, h2, h3⟩ := this; exact ⟨cs, h1, h2, fun i l u p q => ⟨(h3 i l u p q).1.still k (h3 i l u p q).2, (h3 i l u p q).2⟩⟩
    | false =>
      match ls, h.1, this with
      | [l], ho, this => exact RepLeaf.still k (ho _ (by simp)) this
      | [], _, this => exact this
      | _ :: _ :: _, _, this => exact this
theorem ev_moveCV {o : Oper} {x : Operand} {st' : St} (ho : o.op = .move x) (h : ev rec ((opd x).bind fun a => putO o.dst a) st = some ((), st')) (S : Sim ρ st a w N) (hd : ∀ x, o.dst = some x → x < N) : OpOk C.P N ρ w st' o a := by
  obtain ⟨av, st1, h1, h2⟩ := ev_bind _ _ _ _ h
  obtain ⟨rfl, ok⟩ := ev_opd h1 S
  have hne : ∀ cs, av ≠ .tup cs := by
    rintro cs rfl
    cases x with
    | tmp t =>
      simp only [opd, ev] at h1
      split at h1
      · cases ev_ret h1
      · cases ev_ret h1
      · cases h1
    | const v => simp only [opd] at h1; split at h1 <;> cases h1
    | global g => cases h1
    | func f => cases h1
  exact .value (v := a.eval x) (by simp [execOp, ho]) (.refl _ _) (ev_putO h2 S hd ok hne)
theorem op_pick {o : Oper} {c x y : Operand} {st' : St} (ho : o.op = .pick c x y) (h : ev rec (execG C o) st = some ((), st')) (S : Sim ρ st a w N) (hd : ∀ x, o.dst = some x → x < N) : OpOk C.P N ρ w st' o a := by
  simp only [execG, ho] at h
  obtain ⟨l, st1, h1, h2⟩ := ev_bind _ _ _ _ h
  obtain ⟨rfl, hno, hl⟩ := ev_opd1 h1 S
  split at h2
  · rename_i b
    have hb : a.eval c = .bool b := by simpa [RepLeaf, RepTy] using hl (.tm 0 0)
    have key : ∀ z, ev rec ((opd z).bind fun v => putO o.dst v) st1 = some ((), st') → Sim ρ st' (a.put o.dst (a.eval z)) w N := by
      intro z hz
      obtain ⟨av, st2, h3, h4⟩ := ev_bind _ _ _ _ hz
      obtain ⟨rfl, ok⟩ := ev_opd h3 S
      have hne : ∀ cs, av ≠ .tup cs := by
        rintro cs rfl
        cases z with
        | tmp t =>
          simp only [opd, ev] at h3
          split at h3
          · cases ev_ret h3
          · cases ev_ret h3
          · cases h3
        | const v => simp only [opd] at h3; split at h3 <;> cases h3
        | global g => cases h3
        | func f => cases h3
      exact ev_putO h4 S hd ok hne
    rcases ev_ite h2 with ⟨rfl, h3⟩ | ⟨rfl, h3⟩
    · exact .value (v := a.eval x) (by simp [execOp, ho, hb, asBool]) (.refl _ _) (key x h3)
    · exact .value (v := a.eval y) (by simp [execOp, ho, hb, asBool]) (.refl _ _) (key y h3)
  · cases h2
theorem op_leaf {o : Oper} {l : Leaf} {v : Value} {st1 st' : St} (h : ev rec (putO o.dst (.cv false [l])) st1 = some ((), st')) (S : Sim ρ st1 a w N) (hd : ∀ x, o.dst = some x → x < N)
    (hrun : (execOp a.eval o).run C.P w = .ok (.value v) w) (h1 : l.isOwn = false) (h2 : ∀ r, RepLeaf ρ w r l v) : OpOk C.P N ρ w st' o a :=
  .value hrun (.refl _ _) (ev_putO h S hd (.leaf h1 h2) (fun _ => by simp))
theorem op_nilCheck {o : Oper} {x : Operand} {st' : St} (ho : o.op = .nilCheck x) (h : ev rec (execG C o) st = some ((), st')) (S : Sim ρ st a w N) (hd : ∀ x, o.dst = some x → x < N) : OpOk C.P N ρ w st' o a := by
  simp only [execG, ho] at h
  obtain ⟨l, st1, h1, h2⟩ := ev_bind _ _ _ _ h
  obtain ⟨rfl, hno, hl⟩ := ev_opd1 h1 S
  split at h2
  · obtain ⟨blk, _, e⟩ := hl (.tm 0 0)
    exact op_leaf h2 S hd (v := a.eval x) (by simp [execOp, ho, e]) rfl hl
  · obtain ⟨ad, e, _⟩ := hl (.tm 0 0)
    exact op_leaf h2 S hd (v := a.eval x) (by simp [execOp, ho, e]) rfl hl
  · obtain ⟨ad, n, c, _, _, _, e⟩ := hl (.tm 0 0)
    exact op_leaf h2 S hd (v := a.eval x) (by simp [execOp, ho, e]) rfl hl
  · obtain ⟨vs, e, _⟩ := hl (.tm 0 0)
    exact op_leaf h2 S hd (v := a.eval x) (by simp [execOp, ho, e]) rfl hl
  · obtain ⟨vs, e, _⟩ := hl (.tm 0 0)
    exact op_leaf h2 S hd (v := a.eval x) (by simp [execOp, ho, e]) rfl hl
  · cases h2
theorem rep_int {k : IntKind} {n : Int} (r : Ref) : RepLeaf ρ w r (.v (.int k) n) (.int k n) := rfl
theorem rep_bool {b : Bool} (r : Ref) : RepLeaf ρ w r (.v .bool b) (.bool b) := rfl
theorem rep_str {s : ByteArray} (r : Ref) : RepLeaf ρ w r (.v .str s) (.string s) := rfl
theorem bin_int {op : BinOp} {k k' : IntKind} {i j : Int} {l : Leaf} {u v : Value} {st' : St} (h : ev rec (bin op (.v (.int k) i) (.v (.int k') j)) st = some (l, st'))
    (hx : RepLeaf ρ w (.tm 0 0) (.v (.int k) i) u) (hy : RepLeaf ρ w (.tm 0 0) (.v (.int k') j) v) (P : Program) (t : TypeId) :
    st' = st ∧ l.isOwn = false ∧ ∃ z, (Go.binOp op t u v).run P w = .ok z w ∧ (∀ r, RepLeaf ρ w r l z) ∧ ((∃ k i, u = .int k i) ∨ ∃ s, u = .string s) := by
  have hu : u = .int k i := by simpa [RepLeaf, RepTy] using hx
  have hv : v = .int k' j := by simpa [RepLeaf, RepTy] using hy
  subst hu; subst hv
  simp only [bin] at h
  split at h
  · rcases ev_ite h with ⟨c, h⟩ | ⟨c, h⟩
    · cases h
    · cases ev_ret h
      have : ¬ j < 0 := by simpa [vLt] using c
      exact ⟨rfl, rfl, _, by simp [Go.binOp, Op.shift, this] <;> rfl, fun r => rfl, .inl ⟨_, _, rfl⟩⟩
  · rcases ev_ite h with ⟨c, h⟩ | ⟨c, h⟩
    · cases h
    · cases ev_ret h
      have : ¬ j < 0 := by simpa [vLt] using c
      exact ⟨rfl, rfl, _, by simp [Go.binOp, Op.shift, this] <;> rfl, fun r => rfl, .inl ⟨_, _, rfl⟩⟩
  · rename_i hns1 hns2
    cases hk : decide (k = k') with
    | false => rw [hk] at h; cases h
    | true =>
      rw [hk] at h
      have hk : k = k' := by simpa using hk
      subst hk
      simp only [cond_true] at h
      split at h
      all_goals first
        | (cases ev_ret h; exact ⟨rfl, rfl, _, by first | rfl | (simp [Go.binOp, Op.intArith, Op.intBits, Op.intCmp] <;> rfl), fun r => rfl, .inl ⟨_, _, rfl⟩⟩)
        | (rcases ev_ite h with ⟨c, h⟩ | ⟨c, h⟩
           · cases h
           · cases ev_ret h
             have hz : ¬ j = 0 := by simpa [vEq] using c
             exact ⟨rfl, rfl, _, by simp [Go.binOp, Op.intDiv, hz] <;> rfl, fun r => rfl, .inl ⟨_, _, rfl⟩⟩)
        | cases h
theorem bin_str {op : BinOp} {s s' : ByteArray} {l : Leaf} {u v : Value} {st' : St} (h : ev rec (bin op (.v .str s) (.v .str s')) st = some (l, st'))
    (hx : RepLeaf ρ w (.tm 0 0) (.v .str s) u) (hy : RepLeaf ρ w (.tm 0 0) (.v .str s') v) (P : Program) (t : TypeId) :
    st' = st ∧ l.isOwn = false ∧ ∃ z, (Go.binOp op t u v).run P w = .ok z w ∧ (∀ r, RepLeaf ρ w r l z) ∧ ((∃ k i, u = .int k i) ∨ ∃ s, u = .string s) := by
  have hu : u = .string s := by simpa [RepLeaf, RepTy] using hx
  have hv : v = .string s' := by simpa [RepLeaf, RepTy] using hy
  subst hu; subst hv
  simp only [bin] at h
  split at h
  all_goals first
    | (cases ev_ret h; exact ⟨rfl, rfl, _, by first | rfl | (simp [Go.binOp, Op.stringOp] <;> rfl), fun r => rfl, .inr ⟨_, rfl⟩⟩)
    | (rcases ev_ite h with ⟨c, h⟩ | ⟨c, h⟩
       · cases h
       · cases ev_ret h
         have hz : ¬ ((s.size + s'.size : Nat) : Int) > IntKind.i64.max := by
           have h1 : Nat.ble (s.size + s'.size) 9223372036854775807 = true := by simpa [sBig] using c
           have h2 := Nat.le_of_ble_eq_true h1
           have h3 : ((s.size + s'.size : Nat) : Int) ≤ 9223372036854775807 := Int.ofNat_le.2 h2
           exact fun h => absurd h (Int.not_lt.2 h3)
         exact ⟨rfl, rfl, _, by simp only [Go.binOp, Op.stringOp, if_neg hz]; rfl, fun r => rfl, .inr ⟨_, rfl⟩⟩)
    | cases h
theorem bin_run {op : BinOp} {x y l : Leaf} {u v : Value} {st' : St} (h : ev rec (bin op x y) st = some (l, st')) (hx : ∀ r, RepLeaf ρ w r x u) (hy : ∀ r, RepLeaf ρ w r y v) (P : Program) (t : TypeId) :
    st' = st ∧ l.isOwn = false ∧ ∃ z, (Go.binOp op t u v).run P w = .ok z w ∧ (∀ r, RepLeaf ρ w r l z) ∧ ((∃ k i, u = .int k i) ∨ ∃ s, u = .string s) := by
  have h0 := h
  unfold bin at h
  split at h
  · exact bin_int h0 (hx _) (hy _) P t
  · exact bin_str h0 (hx _) (hy _) P t
  · cases h
theorem run_equal_bool {P : Program} {t : TypeId} (hT : P.underlying t = some .bool) (p q : Bool) (w : World) : (Op.equal t (.bool p) (.bool q)).run P w = .ok (p == q) w := by
  simp only [Op.equal, Op.maxDepth]
  unfold Op.equalIn
  simp [run_underlying hT]
theorem run_eql_bool {P : Program} {t : TypeId} (hT : P.underlying t = some .bool) (p q : Bool) (w : World) : (Go.binOp .eql t (.bool p) (.bool q)).run P w = .ok (.bool (vBq p q)) w := by
  have : Go.binOp .eql t (.bool p) (.bool q) = (do pure (.bool (← Op.equal t (.bool p) (.bool q)))) := rfl
  rw [this]; simp [run_equal_bool hT, vBq]
theorem run_neq_bool {P : Program} {t : TypeId} (hT : P.underlying t = some .bool) (p q : Bool) (w : World) : (Go.binOp .neq t (.bool p) (.bool q)).run P w = .ok (.bool (vNot (vBq p q))) w := by
  have : Go.binOp .neq t (.bool p) (.bool q) = (do pure (.bool (!(← Op.equal t (.bool p) (.bool q))))) := rfl
  rw [this]; simp [run_equal_bool hT, vBq, vNot]
theorem run_guard_bool {P : Program} {t : TypeId} (op : BinOp) (x y : Operand) (p q : Bool) (w : World) : (eqGuard op t x y (.bool p) (.bool q)).run P w = .ok () w := by
  unfold eqGuard; split <;> rfl
theorem op_bin {o : Oper} {op : BinOp} {t t' : TypeId} {x y : Operand} {st' : St} (T : TtOk C) (ho : o.op = .binOp op t x y t') (h : ev rec (execG C o) st = some ((), st')) (S : Sim ρ st a w N) (hd : ∀ x, o.dst = some x → x < N) : OpOk C.P N ρ w st' o a := by
  simp only [execG, ho] at h
  obtain ⟨l1, st1, h1, h2⟩ := ev_bind _ _ _ _ h
  obtain ⟨rfl, hn1, hl1⟩ := ev_opd1 h1 S
  obtain ⟨l2, st2, h3, h4⟩ := ev_bind _ _ _ _ h2
  obtain ⟨rfl, hn2, hl2⟩ := ev_opd1 h3 S
  split at h4
  · rename_i p q
    obtain ⟨td, st3, h5, h6⟩ := ev_bind _ _ _ _ h4
    obtain ⟨rfl, e1, e2⟩ := ev_tdOf h5
    obtain ⟨l, st4, h7, h8⟩ := ev_bind _ _ _ _ h6
    have hu : a.eval x = .bool p := by simpa [RepLeaf, RepTy] using hl1 (.tm 0 0)
    have hv : a.eval y = .bool q := by simpa [RepLeaf, RepTy] using hl2 (.tm 0 0)
    have tv := T _ _ e1 e2
    unfold binB at h7
    split at h7
    · rename_i hb
      cases ev_ret h7
      have hT := tv.bool hb
      exact op_leaf h8 S hd (v := .bool (vBq p q)) (by unfold execOp; simp only [ho, hu, hv, Sem.run_bind, run_guard_bool, Result.andThen_ok, run_eql_bool hT]; rfl) rfl (fun _ => rfl)
    · rename_i hb
      cases ev_ret h7
      have hT := tv.bool hb
      exact op_leaf h8 S hd (v := .bool (vNot (vBq p q))) (by unfold execOp; simp only [ho, hu, hv, Sem.run_bind, run_guard_bool, Result.andThen_ok, run_neq_bool hT]; rfl) rfl (fun _ => rfl)
    · cases h7
  · obtain ⟨td, st3, h5, h6⟩ := ev_bind _ _ _ _ h4
    obtain ⟨rfl, e1, e2⟩ := ev_tdOf h5
    obtain ⟨l, st4, h7, h8⟩ := ev_bind _ _ _ _ h6
    have tv := T _ _ e1 e2
    have hv : a.eval y = .slice none 0 0 := hl2 (.tm 0 0)
    unfold nilQ at h7
    split at h7
    · rename_i ee hty
      obtain ⟨sv, s5, h9, h10⟩ := ev_bind _ _ _ _ h7
      obtain ⟨rfl, ok⟩ := ev_slv h9 S hl1
      have hu := tv.slice _ hty
      have run : ∀ (A : Option Addr) (n c : Nat), a.eval x = .slice A n c → (execOp a.eval o).run C.P w = .ok (.value (.bool A.isNone)) w := by
        intro A n c e
        have hg : (eqGuard .eql t x y (a.eval x) (a.eval y)).run C.P w = .ok () w := by
          rw [e, hv]; unfold eqGuard; split <;> rfl
        have hb := Go.Lib.run_eql_slice_nil (P := C.P) w t td.elem A n c 0 0 hu
        rw [e, hv] at hg
        unfold execOp
        simp only [ho, e, hv, Sem.run_bind, hg, Result.andThen_ok, hb]; rfl
      split at h10
      · rename_i e xs
        cases ev_ret h10
        obtain ⟨A, c, hA, hc, hx⟩ := ok
        simp only [List.cons.injEq, and_true] at hA
        refine op_leaf h8 S hd (run _ _ _ hA) rfl (fun _ => ⟨_, rfl, fun hb => ?_⟩)
        have hb : ¬ (vLen xs = 0) := of_decide_eq_false hb
        have hlt : 0 < xs.length := by unfold vLen at hb; omega
        obtain ⟨ad, rfl, _⟩ := hx 0 _ (List.getElem?_eq_getElem hlt)
        rfl
      · rename_i r e xs
        cases ev_ret h10
        obtain ⟨_, A, c, hA, hc, hx⟩ := ok.rep S
        refine op_leaf h8 S hd (run _ _ _ hA) rfl (fun _ => ⟨_, rfl, fun hb => ?_⟩)
        have hb : ¬ (vLen xs = 0) := of_decide_eq_false hb
        rcases hx with rfl | ⟨blk, off, cells, ty, rfl, _⟩
        · unfold vLen at hb; omega
        · rfl
      · cases ev_ret h10
        exact op_leaf h8 S hd (run _ _ _ ok) rfl (fun _ => rfl)
      · cases h10
    · cases h7
  · obtain ⟨l, st4, h7, h8⟩ := ev_bind _ _ _ _ h4
    obtain ⟨rfl, n1, z, n2, n3, n4⟩ := bin_run h7 hl1 hl2 C.P t
    refine op_leaf h8 S hd (v := z) ?_ n1 n3
    have hg : (eqGuard op t x y (a.eval x) (a.eval y)).run C.P w = .ok () w := by
      rcases n4 with ⟨k, i, e⟩ | ⟨s, e⟩ <;> rw [e] <;> unfold eqGuard <;> split <;> rfl
    unfold execOp; simp only [ho, Sem.run_bind, hg, Result.andThen_ok, n2]; rfl
end
end Go.Proofs.Yticifedehhnjhaa.Eng
/- Reading: fields, elements, loads, parts, lengths. -/
namespace Go.Proofs.Yticifedehhnjhaa.Eng
set_option linter.unusedVariables false
set_option linter.unusedSimpArgs false
open Go Go.RowKit

/-- Values of one cell each. -/
def RepSVs (lab : Nat → Lbl) (w : World) : List SV → List Value → Prop
  | [], [] => True
  | s :: r, v :: q => RepTy lab w s.t [v] s.x ∧ RepSVs lab w r q
  | _, _ => False
section
variable {lab : Nat → Lbl} {w : World}
theorem RepSVs.drop : ∀ {l : List SV} {c : List Value} (n : Nat), RepSVs lab w l c → RepSVs lab w (l.drop n) (c.drop n)
  | _, _, 0, h => h
  | [], [], n + 1, _ => trivial
  | _ :: _, _ :: _, n + 1, h => RepSVs.drop n h.2
  | [], _ :: _, _ + 1, h => h.elim
  | _ :: _, [], _ + 1, h => h.elim
theorem RepSVs.take : ∀ {l : List SV} {c : List Value} (n : Nat), RepSVs lab w l c → RepSVs lab w (l.take n) (c.take n)
  | _, _, 0, _ => by simp [RepSVs]
  | [], [], n + 1, _ => trivial
  | _ :: _, _ :: _, n + 1, h => ⟨h.1, RepSVs.take n h.2⟩
  | [], _ :: _, _ + 1, h => h.elim
  | _ :: _, [], _ + 1, h => h.elim
theorem RepSVs.len : ∀ {l : List SV} {c : List Value}, RepSVs lab w l c → l.length = c.length
  | [], [], _ => rfl
  | _ :: _, _ :: _, h => by simp [RepSVs.len h.2]
  | [], _ :: _, h => h.elim
  | _ :: _, [], h => h.elim
theorem RepSVs.append : ∀ {l l' : List SV} {c c' : List Value}, RepSVs lab w l c → RepSVs lab w l' c' → RepSVs lab w (l ++ l') (c ++ c')
  | [], _, [], _, _, h => h
  | _ :: _, _, _ :: _, _, h, k => ⟨h.1, RepSVs.append h.2 k⟩
  | [], _, _ :: _, _, h, _ => h.elim
  | _ :: _, _, [], _, h, _ => h.elim
theorem RepTy.svs : ∀ {t : Ty} {c : List Value} {x : t.den}, RepTy lab w t c x → RepSVs lab w (svOf t x) c := by
  intro t
  induction t with
  | int k => intro c x h; simp [RepTy] at h; subst h; exact ⟨rfl, trivial⟩
  | bool => intro c x h; simp [RepTy] at h; subst h; exact ⟨rfl, trivial⟩
  | str => intro c x h; simp [RepTy] at h; subst h; exact ⟨rfl, trivial⟩
  | unit => intro c x h; simp [RepTy] at h; subst h; trivial
  | sl e _ => intro c x h; obtain ⟨A, n, rfl, h⟩ := h; exact ⟨⟨A, n, rfl, h⟩, trivial⟩
  | pair a b _ ihb => intro c x h; obtain ⟨v, r, rfl, h1, h2⟩ := h; exact ⟨h1, ihb h2⟩
theorem cast_some {a b : Ty} {x : a.den} {y : b.den} (h : Ty.cast a b x = some y) : ∃ e : a = b, y = e ▸ x := by
  unfold Ty.cast at h
  split at h
  · rename_i hb
    exact ⟨Ty.eq_of_beq _ _ hb, by cases h; rfl⟩
  · cases h
theorem RepTy.cast {a b : Ty} {x : a.den} {y : b.den} {c : List Value} (h : Ty.cast a b x = some y) (r : RepTy lab w a c x) : RepTy lab w b c y := by
  obtain ⟨rfl, rfl⟩ := cast_some h
  exact r
theorem toTy_rep : ∀ {t : Ty} {l : List SV} {c : List Value} {y : t.den}, toTy t l = some y → RepSVs lab w l c → RepTy lab w t c y := by
  intro t
  induction t with
  | pair a b _ ihb =>
    intro l c y h r
    match l, c, r with
    | [], _, _ => simp [toTy] at h
    | s :: q, v :: c, r =>
      simp only [toTy, Option.bind_eq_some_iff, Option.map_eq_some_iff] at h
      obtain ⟨x, h1, z, h2, rfl⟩ := h
      exact ⟨v, c, rfl, r.1.cast h1, ihb h2 r.2⟩
    | _ :: _, [], r => exact r.elim
  | unit =>
    intro l c y h r
    match l, c, r with
    | [], [], _ => rfl
    | _ :: _, _, _ => simp [toTy] at h
    | [], _ :: _, r => exact r.elim
  | _ =>
    intro l c y h r
    match l, c, r with
    | [], _, _ => simp [toTy] at h
    | [s], [v], r => exact r.1.cast h
    | _ :: _ :: _, _, _ => simp [toTy] at h
    | [_], [], r => exact r.elim
    | [_], _ :: _ :: _, r => exact r.2.elim
theorem RepTy.part {t t2 : Ty} {x : t.den} {c : List Value} {off n : Nat} {y : t2.den} (r : RepTy lab w t c x) (h : toTy t2 (((svOf t x).drop off).take n) = some y) : RepTy lab w t2 ((c.drop off).take n) y :=
  toTy_rep h ((r.svs.drop off).take n)
end
section
variable {C : Cfg} {D : Nat → Sh} {rec : (q : Req) → Option (D q.f).den} {ρ ρ' : Env} {st : St} {a : Act} {w w' : World} {N : Nat}
/-- The leaves of a typed value. -/
theorem ofTy_ok {t : Ty} {x : t.den} {c : List Value} (h : RepTy ρ.lab w t c x) : (ofTy t x).length = c.length ∧ (∀ l ∈ ofTy t x, l.isOwn = false) ∧
    ∀ (i : Nat) l u, (ofTy t x)[i]? = some l → c[i]? = some u → ∀ r, RepLeaf ρ w r l u := by
  have hs := h.svs
  refine ⟨by simp [ofTy, hs.len], fun l hl => ?_, ?_⟩
  · simp only [ofTy, List.mem_map] at hl
    obtain ⟨s, _, rfl⟩ := hl
    rfl
  · unfold ofTy
    generalize svOf t x = l at hs
    clear h
    induction l generalizing c with
    | nil => intro i l u hi; simp at hi
    | cons s q ih =>
      match c, hs with
      | v :: c, hs =>
        intro i l u hi hu r
        cases i with
        | zero => simp at hi hu; subst hi; subst hu; exact hs.1
        | succ i => exact ih hs.2 i l u (by simpa using hi) (by simpa using hu) r
theorem ofTy_opd {t : Ty} {x : t.den} {c : List Value} (agg : Bool) (h : RepTy ρ.lab w t c x) {v : Value} (hv : if agg = true then v = .agg c.toArray else c = [v]) : OpdOk ρ w (.cv agg (ofTy t x)) v := by
  obtain ⟨h1, h2, h3⟩ := ofTy_ok h
  refine ⟨h2, fun r => ?_⟩
  cases agg with
  | true =>
    simp at hv
    exact ⟨_, hv, by simp [h1], fun i l u p q => ⟨h3 i l u p (by simpa using q) r, h2 l (List.mem_of_getElem? p)⟩⟩
  | false =>
    simp at hv
    subst hv
    match hl : ofTy t x, h1 with
    | [l], _ => exact h3 0 l v (by rw [hl]; rfl) rfl r
theorem run_isAgg {P : Program} {t : Nat} {td : TD} (tv : TdVal P t td) (w : World) : (isAgg t).run P w = .ok td.agg w := by
  obtain ⟨d, h1, h2⟩ := tv.desc
  simp only [isAgg, Sem.run_bind, run_underlying h1, Result.andThen_ok]
  rw [← h2]
  cases d <;> rfl
theorem run_sizeOf {P : Program} {t : Nat} {td : TD} (tv : TdVal P t td) (w : World) : (sizeOf t).run P w = .ok td.ty.sz w := by
  obtain ⟨i, z, h1, h2, _⟩ := tv.info
  simp [sizeOf, typeInfo, h1, h2]
theorem run_loadVar {P : Program} {t : Nat} {td : TD} (tv : TdVal P t td) {ad : Addr} {c : List Value} (hc : c.length = td.ty.sz) (h : ∀ i u, c[i]? = some u → w.cell? (ad.add i) = some u) :
    ∃ v, (loadVar t ad).run P w = .ok v w ∧ if td.agg = true then v = .agg c.toArray else c = [v] := by
  simp only [loadVar, Sem.run_bind, run_isAgg tv, Result.andThen_ok]
  cases ha : td.agg with
  | true =>
    refine ⟨.agg c.toArray, ?_, by simp⟩
    simp [run_sizeOf tv, ← hc, run_loadCells_list w ad c h]
  | false =>
    have := tv.single ha
    rw [this] at hc
    match c, hc with
    | [v], _ =>
      refine ⟨v, ?_, by simp⟩
      have := h 0 v rfl
      simp [load, Sem.run, show ad.add 0 = ad from rfl] at this ⊢
      simp [this]
theorem loadG_ok {t : Nat} {l : Leaf} {av : AV} {st' : St} {val : Value} (T : TtOk C) (h : ev rec (loadG C t l) st = some (av, st')) (S : Sim ρ st a w N) (hl : ∀ r, RepLeaf ρ w r l val) :
    st' = st ∧ ∃ v, (Instr.loadAt t val).run C.P w = .ok v w ∧ OpdOk ρ w av v ∧ ∀ cs, av ≠ .tup cs := by
  obtain ⟨td, st1, h1, h2⟩ := ev_bind _ _ _ _ h
  obtain ⟨rfl, e1, e2⟩ := ev_tdOf h1
  have tv := T _ _ e1 e2
  split at h2
  · rename_i b g off
    obtain ⟨g', ls, e, h3⟩ := ev_getBx h2
    cases hb : (Nat.beq g g' && Nat.ble (off + td.ty.sz) ls.length) with
    | false => rw [hb] at h3; cases h3
    | true =>
      rw [hb] at h3
      cases ev_ret h3
      simp only [Bool.and_eq_true] at hb
      have hg : g = g' := Nat.eq_of_beq_eq_true hb.1
      have hle : off + td.ty.sz ≤ ls.length := Nat.le_of_ble_eq_true hb.2
      subst hg
      obtain ⟨blk, hga, rfl⟩ := hl (.tm 0 0)
      obtain ⟨g', ls', e', r, _⟩ := S.bx b
      rw [e] at e'; cases e'
      have hpos : 0 < td.ty.sz := by
        have := tv.flat
        cases hty : td.ty <;> rw [hty] at this e2 <;> first | (simp [Ty.sz]; done) | (simp [isUnit] at e2)
      rcases r with rfl | ⟨blk', cs, ty, r0, r1, r2, r3, r4⟩
      · simp at hle; omega
      rw [hga] at r0; cases r0
      have hc : ∀ i u, ((cs.toList.drop off).take td.ty.sz)[i]? = some u → w.cell? ((⟨blk, off, none⟩ : Addr).add i) = some u := fun i u hu => by
        rw [cell_off r1]
        rw [List.getElem?_take] at hu
        split at hu
        · simpa using hu
        · cases hu
      have hlen : ((cs.toList.drop off).take td.ty.sz).length = td.ty.sz := by simp; omega
      obtain ⟨v, hr, hv⟩ := run_loadVar tv hlen hc
      refine ⟨rfl, v, by simp [Instr.loadAt, Instr.sureAddr, hr], ?_, by simp⟩
      have hleaf : ∀ (i : Nat) l u, ((List.range' off td.ty.sz).map (leafAt b g ls))[i]? = some l → ((cs.toList.drop off).take td.ty.sz)[i]? = some u → l.isOwn = false ∧ ∀ r, RepLeaf ρ w r l u := by
        intro i l u hi hu
        simp only [List.getElem?_map, Option.map_eq_some_iff] at hi
        obtain ⟨j, hj, rfl⟩ := hi
        have hlt : i < td.ty.sz := by have := (List.getElem?_eq_some_iff.1 hj).1; simpa using this
        rw [List.getElem?_range' hlt] at hj
        simp at hj
        subst hj
        rw [List.getElem?_take] at hu
        simp [hlt] at hu
        obtain ⟨q, hq⟩ : ∃ q, ls[off + i]? = some q := ⟨_, List.getElem?_eq_getElem (by omega)⟩
        obtain ⟨lg, l⟩ := q
        have hrep := r4 (off + i) lg l u hq hu
        unfold leafAt
        rw [hq]
        cases l with
        | own ee xs =>
          obtain ⟨p1, A, c, p2, _⟩ := hrep
          exact ⟨rfl, fun _ => ⟨p1, A, _, c, p2⟩⟩
        | _ => exact ⟨rfl, fun r => RepLeaf.any rfl hrep⟩
      have hno : ∀ l ∈ (List.range' off td.ty.sz).map (leafAt b g ls), l.isOwn = false := fun l hl => by
        obtain ⟨i, hi, rfl⟩ := List.getElem_of_mem hl
        obtain ⟨u, hu⟩ : ∃ u, ((cs.toList.drop off).take td.ty.sz)[i]? = some u := ⟨_, List.getElem?_eq_getElem (by rw [hlen]; simpa using hi)⟩
        exact (hleaf i _ u (List.getElem?_eq_getElem hi) hu).1
      refine ⟨hno, fun r => ?_⟩
      cases ha : td.agg with
      | true =>
        simp [ha] at hv
        exact ⟨_, hv, by simp; omega, fun i l u p q => ⟨(hleaf i l u p (by simpa using q)).2 r, hno l (List.mem_of_getElem? p)⟩⟩
      | false =>
        simp [ha] at hv
        have hs1 := tv.single ha
        rw [hs1] at hv hleaf ⊢
        exact (hleaf 0 _ v rfl (by rw [hv]; rfl)).2 r
  · rename_i t' x
    obtain ⟨y, st2, h3, h4⟩ := ev_bind _ _ _ _ h2
    obtain ⟨y', hy, e⟩ := ev_opt h3
    cases e
    cases ev_ret h4
    obtain ⟨ad, rfl, cells, c1, c2⟩ := hl (.tm 0 0)
    have c1' := c1.cast hy
    obtain ⟨v, hr, hv⟩ := run_loadVar tv c1'.len (fun i u hu => (c2 i u hu).2)
    exact ⟨rfl, v, by simp [Instr.loadAt, Instr.sureAddr, hr], ofTy_opd _ c1' hv, by simp⟩
  · rename_i r s i off
    obtain ⟨x, st2, h3, h4⟩ := ev_bind _ _ _ _ h2
    obtain ⟨rfl, V, p1, p2⟩ := ev_resolve _ _ h3 S
    obtain ⟨ad, n, c, hh, z0, z1, rfl⟩ := hl (.tm 0 0)
    obtain ⟨q1, q2⟩ := p2 _ hh
    split at h4
    · rename_i r' e xs
      cases hb : Nat.beq s e.sz with
      | false => rw [hb] at h4; cases h4
      | true =>
        rw [hb] at h4
        have : s = e.sz := Nat.eq_of_beq_eq_true hb
        subst this
        obtain ⟨y, st3, h5, h6⟩ := ev_bind _ _ _ _ h4
        obtain ⟨y', hy, e'⟩ := ev_opt h5
        cases e'
        cases ev_ret h6
        obtain ⟨A, c', hV, hc', row⟩ := (p1.rep S).2.row
        rw [← q1] at hV
        cases hV
        have hlt : i.toNat < xs.length := by omega
        obtain ⟨ad', hA, cells, r1, r2⟩ := row i.toNat (xs[i.toNat]) (List.getElem?_eq_getElem hlt)
        cases hA
        have hx : vGet xs i e.dflt = xs[i.toNat] := by simp [vGet, List.getD, List.getElem?_eq_getElem hlt]
        rw [hx] at hy
        have hp := r1.part hy
        obtain ⟨v, hr, hv⟩ := run_loadVar (w := w) (ad := ad.add (i.toNat * e.sz + off)) tv hp.len (fun j u hu => by
          rw [List.getElem?_take] at hu
          split at hu
          · rw [List.getElem?_drop] at hu
            rw [add_add', Nat.add_assoc]
            exact r2 (off + j) u hu
          · cases hu)
        exact ⟨rfl, v, by simp [Instr.loadAt, Instr.sureAddr, hr], ofTy_opd _ hp hv, by simp⟩
    · cases h4
  · cases h2
theorem op_load {o : Oper} {t : TypeId} {x : Operand} {st' : St} (T : TtOk C) (ho : o.op = .load t x) (h : ev rec (execG C o) st = some ((), st')) (S : Sim ρ st a w N) (hd : ∀ x, o.dst = some x → x < N) : OpOk C.P N ρ w st' o a := by
  simp only [execG, ho] at h
  obtain ⟨l, st1, h1, h2⟩ := ev_bind _ _ _ _ h
  obtain ⟨rfl, hno, hl⟩ := ev_opd1 h1 S
  obtain ⟨av, st2, h3, h4⟩ := ev_bind _ _ _ _ h2
  obtain ⟨rfl, v, hr, ok, hne⟩ := loadG_ok T h3 S hl
  exact .value (v := v) (by unfold execOp; simp only [ho, Sem.run_bind, hr, Result.andThen_ok]; rfl) (.refl _ _) (ev_putO h4 S hd ok hne)
end
end Go.Proofs.Yticifedehhnjhaa.Eng
/- More operations that make no memory and write none. -/
namespace Go.Proofs.Yticifedehhnjhaa.Eng
set_option linter.unusedVariables false
set_option linter.unusedSimpArgs false
open Go Go.RowKit
section
variable {C : Cfg} {D : Nat → Sh} {rec : (q : Req) → Option (D q.f).den} {ρ ρ' : Env} {st : St} {a : Act} {w w' : World} {N : Nat}
theorem inR_of {i n : Int} (h : inR i n = true) : 0 ≤ i ∧ i < n := of_decide_eq_true h
theorem cutOk_of {l h n : Int} (c : cutOk l h n = true) : 0 ≤ l ∧ l ≤ h ∧ h ≤ n := of_decide_eq_true c
theorem op_un {o : Oper} {op : UnOp} {t : TypeId} {x : Operand} {st' : St} (ho : o.op = .unOp op t x) (h : ev rec (execG C o) st = some ((), st')) (S : Sim ρ st a w N) (hd : ∀ x, o.dst = some x → x < N) : OpOk C.P N ρ w st' o a := by
  simp only [execG, ho] at h
  obtain ⟨l, st1, h1, h2⟩ := ev_bind _ _ _ _ h
  obtain ⟨rfl, hno, hl⟩ := ev_opd1 h1 S
  obtain ⟨l2, st2, h3, h4⟩ := ev_bind _ _ _ _ h2
  have hl0 := hl (.tm 0 0)
  unfold un at h3
  split at h3
  · split at h3
    · cases ev_ret h3
      simp only [RepLeaf, RepTy, List.cons.injEq, and_true] at hl0
      exact op_leaf h4 S hd (v := .bool (vNot _)) (by unfold execOp; simp only [ho, hl0]; rfl) rfl (fun _ => rfl)
    · cases h3
  · split at h3
    · cases ev_ret h3
      simp only [RepLeaf, RepTy, List.cons.injEq, and_true] at hl0
      exact op_leaf h4 S hd (v := .int _ (wSub _ 0 _)) (by unfold execOp; simp only [ho, hl0]; rfl) rfl (fun _ => rfl)
    · cases h3
  · cases h3
theorem byteAt_get {s : ByteArray} {n : Int} (h0 : 0 ≤ n) (h1 : n < (s.size : Int)) : ∃ b, s[n.toNat]? = some b ∧ (b.toNat : Int) = byteAt s n := by
  have hlt : n.toNat < s.size := by omega
  exact ⟨s[n.toNat], getElem?_pos s _ hlt, by simp [byteAt, hlt]⟩
theorem op_index {o : Oper} {t : TypeId} {x i : Operand} {st' : St} (T : TtOk C) (ho : o.op = .index t x i) (h : ev rec (execG C o) st = some ((), st')) (S : Sim ρ st a w N) (hd : ∀ x, o.dst = some x → x < N) : OpOk C.P N ρ w st' o a := by
  simp only [execG, ho] at h
  obtain ⟨td, st1, h0, hB⟩ := ev_bind _ _ _ _ h
  obtain ⟨rfl, e1, e2⟩ := ev_tdOf h0
  have tv := T _ _ e1 e2
  obtain ⟨l, st1, h1, h2⟩ := ev_bind _ _ _ _ hB
  obtain ⟨rfl, hno, hl⟩ := ev_opd1 h1 S
  obtain ⟨av, st1, h3, h4⟩ := ev_bind _ _ _ _ h2
  obtain ⟨rfl, ok⟩ := ev_opd h3 S
  split at h4
  · rename_i hty
    have hu := tv.str hty
    have hi0 := hl (.tm 0 0)
    have hs0 := ok.2 (.tm 0 0)
    simp only [RepLeaf, RepTy, RepCV, List.cons.injEq, and_true] at hi0 hs0
    rcases ev_ite h4 with ⟨c, h5⟩ | ⟨c, h5⟩
    · replace c := inR_of c
      unfold sLen at c
      obtain ⟨b, hb, hb2⟩ := byteAt_get c.1 c.2
      refine op_leaf h5 S hd (v := .int .u8 (byteAt _ _)) ?_ rfl (fun _ => rfl)
      unfold execOp
      simp only [ho, Instr.index, Sem.run_bind, hi0, hs0, asIntOf, run_underlying hu, Result.andThen_ok, Sem.run_pure, if_pos c.1, hb, hb2]
    · cases h5
  · cases h4
theorem run_fieldPlace {P : Program} {f : Field} {i : TypeInfo} (h : P.info? f.type = some i) (hi : i.size ≠ 0) (ad : Addr) (w : World) : (fieldPlace ad f).run P w = .ok (ad.add f.offset) w := by
  simp [fieldPlace, sizeOf, typeInfo, h, hi]
theorem add_mk (blk off k : Nat) : (⟨blk, off, none⟩ : Addr).add k = ⟨blk, off + k, none⟩ := by unfold Addr.add; split <;> simp_all
theorem op_field {o : Oper} {t : TypeId} {x : Operand} {k : Nat} {st' : St} (T : TtOk C) (ho : o.op = .fieldAddr t x k) (h : ev rec (execG C o) st = some ((), st')) (S : Sim ρ st a w N) (hd : ∀ x, o.dst = some x → x < N) : OpOk C.P N ρ w st' o a := by
  simp only [execG, ho] at h
  obtain ⟨td, st1, h0, hB⟩ := ev_bind _ _ _ _ h
  obtain ⟨rfl, e1, e2⟩ := ev_tdOf h0
  have tv := T _ _ e1 e2
  obtain ⟨l, st1, h1, h2⟩ := ev_bind _ _ _ _ hB
  obtain ⟨rfl, hno, hl⟩ := ev_opd1 h1 S
  obtain ⟨l2, st1, h3, h4⟩ := ev_bind _ _ _ _ h2
  have hl0 := hl (.tm 0 0)
  unfold fieldG at h3
  split at h3
  · rename_i off ft ho1 ho2
    obtain ⟨fs, f, i, p1, p2, rfl, p4, p5⟩ := tv.field k off ft ho1 ho2
    have run : ∀ ad : Addr, a.eval x = .pointer (some ad) → (execOp a.eval o).run C.P w = .ok (.value (.pointer (some (ad.add f.offset)))) w := by
      intro ad e
      unfold execOp
      simp [ho, Instr.fieldAt, run_underlying p1, p2, e, Instr.sureAddr, run_fieldPlace p4 p5]
    split at h3
    · cases ev_ret h3
      obtain ⟨blk, g1, g2⟩ := hl0
      exact op_leaf h4 S hd (run _ g2) rfl (fun r => ⟨blk, g1, by rw [add_mk]⟩)
    · cases ev_ret h3
      obtain ⟨ad, n, c, g1, g2, g3, g4⟩ := hl0
      exact op_leaf h4 S hd (run _ g4) rfl (fun r => ⟨ad, n, c, g1, g2, g3, by rw [add_add', Nat.add_assoc]⟩)
    · obtain ⟨fd, st2, h5, h6⟩ := ev_bind _ _ _ _ h3
      obtain ⟨rfl, f1, f2⟩ := ev_tdOf h5
      obtain ⟨y, st3, h7, h8⟩ := ev_bind _ _ _ _ h6
      obtain ⟨y', hy, e'⟩ := ev_opt h7
      cases e'
      cases ev_ret h8
      obtain ⟨ad, g1, cells, g2, g3⟩ := hl0
      refine op_leaf h4 S hd (run _ g1) rfl (fun r => ⟨_, rfl, _, g2.part hy, fun j u hu => ?_⟩)
      rw [List.getElem?_take] at hu
      split at hu
      · rw [List.getElem?_drop] at hu
        rw [add_blk, add_add']
        exact g3 _ u hu
      · cases hu
    · cases h3
  · cases h3
theorem op_indexAddr {o : Oper} {t : TypeId} {x i : Operand} {st' : St} (T : TtOk C) (ho : o.op = .indexAddr t x i) (h : ev rec (execG C o) st = some ((), st')) (S : Sim ρ st a w N) (hd : ∀ x, o.dst = some x → x < N) : OpOk C.P N ρ w st' o a := by
  simp only [execG, ho] at h
  obtain ⟨l, st1, h1, h2⟩ := ev_bind _ _ _ _ h
  obtain ⟨rfl, hno, hl⟩ := ev_opd1 h1 S
  obtain ⟨j, st1, h3, h4⟩ := ev_bind _ _ _ _ h2
  obtain ⟨rfl, hno2, hj⟩ := ev_opd1 h3 S
  obtain ⟨l2, st2, h5, h6⟩ := ev_bind _ _ _ _ h4
  have hj0 := hj (.tm 0 0)
  unfold indexG at h5
  split at h5
  · rename_i k n
    simp only [RepLeaf, RepTy, List.cons.injEq, and_true] at hj0
    split at h5
    · rename_i len e hu
      obtain ⟨ed, st4, h9, h10⟩ := ev_bind _ _ _ _ h5
      obtain ⟨rfl, f1, f2⟩ := ev_tdOf h9
      have ev' := T _ _ f1 f2
      rcases ev_ite h10 with ⟨c, h13⟩ | ⟨c, h13⟩
      · replace c := inR_of c
        have run : ∀ ad : Addr, a.eval x = .pointer (some ad) → (execOp a.eval o).run C.P w = .ok (.value (.pointer (some (ad.add (n.toNat * ed.ty.sz))))) w := by
          intro ad e
          unfold execOp
          simp [ho, Instr.indexAt, hj0, asIntOf, run_underlying hu, e, c.1, c.2, run_sizeOf ev', Instr.sureAddr]
        have hl0 := hl (.tm 0 0)
        split at h13
        · cases ev_ret h13
          obtain ⟨ad, m, c', g1, g2, g3, g4⟩ := hl0
          exact op_leaf h6 S hd (run _ g4) rfl (fun r => ⟨ad, m, c', g1, g2, g3, by rw [add_add', Nat.add_assoc]⟩)
        · cases ev_ret h13
          obtain ⟨blk, g1, g2⟩ := hl0
          exact op_leaf h6 S hd (run _ g2) rfl (fun r => ⟨blk, g1, by rw [add_mk]⟩)
        · cases h13
      · cases h13
    · obtain ⟨td, st3, h7, h8⟩ := ev_bind _ _ _ _ h5
      obtain ⟨rfl, e1, e2⟩ := ev_tdOf h7
      have tv := T _ _ e1 e2
      cases hagg : td.agg with
      | true =>
        rw [hagg] at h8
        cases h8
      | false =>
        rw [hagg] at h8
        simp only [cond_false] at h8
        split at h8
        · rename_i ee hty
          have hu := tv.slice _ hty
          obtain ⟨ed, st4, h9, h10⟩ := ev_bind _ _ _ _ h8
          obtain ⟨rfl, f1, f2⟩ := ev_tdOf h9
          have ev' := T _ _ f1 f2
          obtain ⟨sv, st5, h11, h12⟩ := ev_bind _ _ _ _ h10
          obtain ⟨rfl, ok⟩ := ev_slv h11 S hl
          have run : ∀ (ad : Addr) (len c : Nat), a.eval x = .slice (some ad) len c → 0 ≤ n → n < len → (execOp a.eval o).run C.P w = .ok (.value (.pointer (some (ad.add (n.toNat * ed.ty.sz))))) w := by
            intro ad len c e z0 z1
            unfold execOp
            simp [ho, Instr.indexAt, hj0, asIntOf, run_underlying hu, e, z0, z1, run_sizeOf ev']
          split at h12
          · rename_i e xs
            cases hb : Nat.beq ed.ty.sz e.sz with
            | false => rw [hb] at h12; cases h12
            | true =>
              rw [hb] at h12
              have hsz : ed.ty.sz = e.sz := Nat.eq_of_beq_eq_true hb
              rcases ev_ite h12 with ⟨c, h13⟩ | ⟨c, h13⟩
              · cases ev_ret h13
                replace c := inR_of c
                unfold vLen at c
                obtain ⟨A, cp, hv, hcp, row⟩ := ok
                simp at hv
                have hlt : n.toNat < xs.length := by omega
                obtain ⟨ad, rfl, cells, r1, r2⟩ := row n.toNat xs[n.toNat] (List.getElem?_eq_getElem hlt)
                have hx : vGet xs n e.dflt = xs[n.toNat] := by simp [vGet, List.getD, List.getElem?_eq_getElem hlt]
                rw [hx] at h6
                refine op_leaf h6 S hd (run ad _ _ hv c.1 c.2) rfl (fun r => ⟨_, rfl, cells, r1, fun i u hu => ?_⟩)
                rw [add_blk, add_add', hsz]
                exact r2 i u hu
              · cases h13
          · rename_i r e xs
            cases hb : Nat.beq ed.ty.sz e.sz with
            | false => rw [hb] at h12; cases h12
            | true =>
              rw [hb] at h12
              have hsz : ed.ty.sz = e.sz := Nat.eq_of_beq_eq_true hb
              rcases ev_ite h12 with ⟨c, h13⟩ | ⟨c, h13⟩
              · cases ev_ret h13
                replace c := inR_of c
                unfold vLen at c
                obtain ⟨hh, A, cp, hv, hcp, row⟩ := At.rep S ok
                rcases row with rfl | ⟨blk, off, cells, ty, rfl, _⟩
                · omega
                · exact op_leaf h6 S hd (run _ _ _ hv c.1 c.2) rfl (fun r' => ⟨_, _, _, by rw [hh, hv], c.1, c.2, by rw [hsz, Nat.add_zero]⟩)
              · cases h13
          · rename_i r e xs lo hi
            cases hb : Nat.beq ed.ty.sz e.sz with
            | false => rw [hb] at h12; cases h12
            | true =>
              rw [hb] at h12
              have hsz : ed.ty.sz = e.sz := Nat.eq_of_beq_eq_true hb
              rcases ev_ite h12 with ⟨c, h13⟩ | ⟨c, h13⟩
              · cases ev_ret h13
                replace c := inR_of c
                unfold vSub at c
                obtain ⟨V, hat, A, m, cp, hh, z0, z1, z2, z3, A0, hv, hA0⟩ := ok
                obtain ⟨hh', A', cp', hv', hcp, row⟩ := At.rep S hat
                have hV := hat.cur S hh
                rw [hv'] at hV
                cases hV
                rcases row with rfl | ⟨blk, off, cells, ty, rfl, _⟩
                · omega
                · have hne : ¬ (cp - lo.toNat = 0) := by omega
                  have hrun : a.eval x = .slice (some ((⟨blk, off, none⟩ : Addr).add (lo.toNat * e.sz))) (hi - lo).toNat (cp - lo.toNat) := by
                    rw [hv, hA0 hne]; rfl
                  refine op_leaf h6 S hd (run _ _ _ hrun c.1 (Int.lt_of_lt_of_le c.2 (Int.self_le_toNat _))) rfl (fun r' => ⟨_, _, _, hh, by unfold vAdd; omega, by unfold vAdd; omega, ?_⟩)
                  rw [add_add', hsz, Nat.add_zero, ← Nat.add_mul]
                  simp only [vAdd]
                  have c1 : (0 : Int) ≤ n := c.1
                  rw [Int.toNat_add z0 c1]
              · cases h13
          · cases h12
        · cases h8
  · cases h5
end
end Go.Proofs.Yticifedehhnjhaa.Eng
/- Parts of rows and texts, lengths, least and greatest, closures, parts of results. -/
namespace Go.Proofs.Yticifedehhnjhaa.Eng
set_option linter.unusedVariables false
set_option linter.unusedSimpArgs false
open Go Go.RowKit
section
variable {C : Cfg} {D : Nat → Sh} {rec : (q : Req) → Option (D q.f).den} {ρ ρ' : Env} {st : St} {a : Act} {w w' : World} {N : Nat}
/-- A bound that may be given. -/
def BdOk (dft : Int) (n : Int) : Option Value → Prop
  | none => n = dft
  | some v => ∃ k, v = .int k n
theorem ev_optnum {o : Option Operand} {ol : Option Leaf} {st1 st2 : St} {dft n : Int} (h : ev rec (optG o) st = some (ol, st1)) (S : Sim ρ st a w N) (h2 : ev rec (num ol dft) st1 = some (n, st2)) :
    st1 = st ∧ st2 = st ∧ BdOk dft n (o.map a.eval) := by
  cases o with
  | none =>
    cases ev_ret h
    cases ev_ret h2
    exact ⟨rfl, rfl, rfl⟩
  | some x =>
    simp only [optG] at h
    obtain ⟨l, st3, h3, h4⟩ := ev_bind _ _ _ _ h
    obtain ⟨rfl, _, hl⟩ := ev_opd1 h3 S
    cases ev_ret h4
    unfold num at h2
    split at h2
    · rename_i e; cases e
    · rename_i k m e
      cases e
      cases ev_ret h2
      refine ⟨rfl, rfl, k, ?_⟩
      have := hl (.tm 0 0)
      simpa [RepLeaf, RepTy] using this
    · cases h2
theorem run_bounds {isS : Bool} {len cap : Nat} {lo hi : Option Value} {l h : Int} {P : Program} (hh : BdOk (len : Int) h hi) (hl : BdOk 0 l lo) (h0 : 0 ≤ l) (h1 : l ≤ h) (h2 : h ≤ cap) :
    (Instr.sliceBounds isS len cap lo hi none).run P w = .ok (l.toNat, h.toNat, cap) w := by
  have hh0 : 0 ≤ h := Int.le_trans h0 h1
  cases hi with
  | none =>
    simp only [BdOk] at hh
    subst hh
    cases lo with
    | none => simp only [BdOk] at hl; subst hl; simp [Instr.sliceBounds]
    | some v =>
      obtain ⟨k, rfl⟩ := hl
      have : l ≤ ((len : Int).toNat : Int) := by omega
      simp [Instr.sliceBounds, Instr.sliceBound, asIntOf, h0, h1]
  | some u =>
    obtain ⟨k', rfl⟩ := hh
    cases lo with
    | none => simp only [BdOk] at hl; subst hl; simp [Instr.sliceBounds, Instr.sliceBound, asIntOf, hh0, h2]
    | some v =>
      obtain ⟨k, rfl⟩ := hl
      have : l ≤ (h.toNat : Int) := by omega
      simp [Instr.sliceBounds, Instr.sliceBound, asIntOf, h0, hh0, h1, h2]
      intro hx; exact absurd hx (by omega)
theorem run_sliceAt {P : Program} {t elem : Nat} {ed : TD} (hu : P.underlying t = some (.slice elem)) (tv : TdVal P elem ed) {A : Option Addr} {n c : Nat} {lo hi : Option Value} {l h : Int}
    (hh : BdOk (n : Int) h hi) (hl : BdOk 0 l lo) (h0 : 0 ≤ l) (h1 : l ≤ h) (h2 : h ≤ c) :
    ∃ A', (Instr.sliceAt t (.slice A n c) lo hi none).run P w = .ok (.slice A' (h - l).toNat (c - l.toNat)) w ∧ (c - l.toNat ≠ 0 → A' = A.map (·.add (l.toNat * ed.ty.sz))) := by
  have hb := run_bounds (w := w) (isS := true) (P := P) hh hl h0 h1 h2
  have e2 : h.toNat - l.toNat = (h - l).toNat := by omega
  refine ⟨_, by simp only [Instr.sliceAt, Sem.run_bind, run_underlying hu, Result.andThen_ok, Instr.slice, hb, run_sizeOf tv, Sem.run_pure, e2]; rfl, fun hne => ?_⟩
  rw [if_neg (by omega)]
theorem op_slice {o : Oper} {t : TypeId} {x : Operand} {lo hi : Option Operand} {st' : St} (T : TtOk C) (ho : o.op = .slice t x lo hi none) (h : ev rec (execG C o) st = some ((), st')) (S : Sim ρ st a w N) (hd : ∀ x, o.dst = some x → x < N) : OpOk C.P N ρ w st' o a := by
  simp only [execG, ho] at h
  obtain ⟨td, st1, h0, hB⟩ := ev_bind _ _ _ _ h
  obtain ⟨rfl, e1, e2⟩ := ev_tdOf h0
  have tv := T _ _ e1 e2
  obtain ⟨es, stb, h1, hC⟩ := ev_bind _ _ _ _ hB
  have hes : stb = st1 ∧ ∀ ee, td.ty = .sl ee → ∃ ed, C.tt td.elem = some ed ∧ isUnit ed.ty = false ∧ es = ed.ty.sz := by
    cases hb : (isUnit td.ty || isStr td.ty) with
    | true =>
      rw [hb] at h1
      cases ev_ret h1
      exact ⟨rfl, fun ee hty => by rw [hty] at hb; cases hb⟩
    | false =>
      rw [hb] at h1
      obtain ⟨ed, st2, h2, h3⟩ := ev_bind _ _ _ _ h1
      obtain ⟨rfl, f1, f2⟩ := ev_tdOf h2
      cases ev_ret h3
      exact ⟨rfl, fun _ _ => ⟨ed, f1, f2, rfl⟩⟩
  obtain ⟨rfl, hes⟩ := hes
  obtain ⟨lf, st2, h2, hD⟩ := ev_bind _ _ _ _ hC
  obtain ⟨rfl, hno, hl⟩ := ev_opd1 h2 S
  obtain ⟨la, st3, h3, hE⟩ := ev_bind _ _ _ _ hD
  obtain ⟨ha, st4, h4, hF⟩ := ev_bind _ _ _ _ hE
  obtain ⟨r, st5, h5, h6⟩ := ev_bind _ _ _ _ hF
  have hst3 : st3 = st2 := by
    cases lo with
    | none => cases ev_ret h3; rfl
    | some x => obtain ⟨l, s, q1, q2⟩ := ev_bind _ _ _ _ h3; obtain ⟨rfl, _⟩ := ev_opd1 q1 S; cases ev_ret q2; rfl
  subst hst3
  have hst4 : st4 = st3 := by
    cases hi with
    | none => cases ev_ret h4; rfl
    | some x => obtain ⟨l, s, q1, q2⟩ := ev_bind _ _ _ _ h4; obtain ⟨rfl, _⟩ := ev_opd1 q1 S; cases ev_ret q2; rfl
  subst hst4
  have run : ∀ {v : Value}, (Instr.sliceAt t (a.eval x) (lo.map a.eval) (hi.map a.eval) none).run C.P w = .ok v w → (execOp a.eval o).run C.P w = .ok (.value v) w := by
    intro v hr
    unfold execOp
    simp only [ho, Option.map_none, Sem.run_bind, hr, Result.andThen_ok]; rfl
  unfold sliceG at h5
  split at h5
  · rename_i s hty
    have hu := tv.str hty
    have hl0 := hl (.tm 0 0)
    simp only [RepLeaf, RepTy, List.cons.injEq, and_true] at hl0
    obtain ⟨hn, st6, h7, h8⟩ := ev_bind _ _ _ _ h5
    obtain ⟨_, rfl, b1⟩ := ev_optnum h4 S h7
    obtain ⟨ln, st7, h9, h10⟩ := ev_bind _ _ _ _ h8
    obtain ⟨_, rfl, b2⟩ := ev_optnum h3 S h9
    rcases ev_ite h10 with ⟨c, h11⟩ | ⟨c, h11⟩
    · cases ev_ret h11
      obtain ⟨c0, c1, c2⟩ := cutOk_of c
      refine op_leaf h6 S hd (v := .string (sCut s ln hn)) (run ?_) rfl (fun _ => rfl)
      have hb := run_bounds (w := w) (isS := false) (P := C.P) (len := s.size) (cap := s.size) b1 b2 c0 c1 c2
      simp only [Instr.sliceAt, Sem.run_bind, run_underlying hu, Result.andThen_ok, Instr.slice, hl0, Option.isSome_none, Bool.false_eq_true, if_false, hb]
      rfl
    · cases h11
  · rename_i ee xl hty
    obtain ⟨ed, f1, f2, rfl⟩ := hes _ hty
    have hu := tv.slice _ hty
    have ev' := T _ _ f1 f2
    obtain ⟨sv, st6, h7, h8⟩ := ev_bind _ _ _ _ h5
    obtain ⟨rfl, ok⟩ := ev_slv h7 S hl
    split at h8
    · rename_i e xs
      cases hb : Nat.beq ed.ty.sz e.sz with
      | false => rw [hb] at h8; cases h8
      | true =>
        rw [hb] at h8
        have hsz : ed.ty.sz = e.sz := Nat.eq_of_beq_eq_true hb
        obtain ⟨hn, st7, h9, h10⟩ := ev_bind _ _ _ _ h8
        obtain ⟨_, rfl, b1⟩ := ev_optnum h4 S h9
        obtain ⟨ln, st8, h11, h12⟩ := ev_bind _ _ _ _ h10
        obtain ⟨_, rfl, b2⟩ := ev_optnum h3 S h11
        rcases ev_ite h12 with ⟨c, h13⟩ | ⟨c, h13⟩
        · cases ev_ret h13
          obtain ⟨c0, c1, c2⟩ := cutOk_of c
          have ok' := ok
          obtain ⟨A, cp, hv, hcp, _⟩ := ok'
          simp at hv
          have c3 : hn ≤ (cp : Int) := Int.le_trans c2 (Int.ofNat_le.2 hcp)
          obtain ⟨A', hr, hA'⟩ := run_sliceAt (w := w) (A := A) (n := xs.length) (c := cp) hu ev' b1 b2 c0 c1 c3
          rw [hsz] at hA'
          exact op_leaf h6 S hd (run (by rw [hv]; exact hr)) rfl (fun _ => sub_stable ok hv c0 c1 c2 rfl hA')
        · cases h13
    · rename_i r e xs
      cases hb : Nat.beq ed.ty.sz e.sz with
      | false => rw [hb] at h8; cases h8
      | true =>
        rw [hb] at h8
        have hsz : ed.ty.sz = e.sz := Nat.eq_of_beq_eq_true hb
        obtain ⟨hn, st7, h9, h10⟩ := ev_bind _ _ _ _ h8
        obtain ⟨_, rfl, b1⟩ := ev_optnum h4 S h9
        obtain ⟨ln, st8, h11, h12⟩ := ev_bind _ _ _ _ h10
        obtain ⟨_, rfl, b2⟩ := ev_optnum h3 S h11
        rcases ev_ite h12 with ⟨c, h13⟩ | ⟨c, h13⟩
        · cases ev_ret h13
          obtain ⟨c0, c1, c2⟩ := cutOk_of c
          obtain ⟨hh, A, cp, hv, hcp, _⟩ := At.rep S ok
          have c3 : hn ≤ (cp : Int) := Int.le_trans c2 (Int.ofNat_le.2 hcp)
          obtain ⟨A', hr, hA'⟩ := run_sliceAt (w := w) (A := A) (n := xs.length) (c := cp) hu ev' b1 b2 c0 c1 c3
          exact op_leaf h6 S hd (run (by rw [hv]; exact hr)) rfl (fun _ => ⟨A, _, cp, by rw [hh, hv], c0, c1, c2, hcp, A', rfl, hA'⟩)
        · cases h13
    · rename_i r e xs l0 r0
      cases hb : Nat.beq ed.ty.sz e.sz with
      | false => rw [hb] at h8; cases h8
      | true =>
        rw [hb] at h8
        have hsz : ed.ty.sz = e.sz := Nat.eq_of_beq_eq_true hb
        obtain ⟨hn, st7, h9, h10⟩ := ev_bind _ _ _ _ h8
        obtain ⟨_, rfl, b1⟩ := ev_optnum h4 S h9
        obtain ⟨ln, st8, h11, h12⟩ := ev_bind _ _ _ _ h10
        obtain ⟨_, rfl, b2⟩ := ev_optnum h3 S h11
        rcases ev_ite h12 with ⟨c, h13⟩ | ⟨c, h13⟩
        · cases ev_ret h13
          obtain ⟨c0, c1, c2⟩ := cutOk_of c
          unfold vSub at c2 b1
          obtain ⟨V, hat, A, m, cp, hh, z0, z1, z2, z3, A0, hv, hA0⟩ := ok
          have b1' : BdOk (((r0 - l0).toNat : Nat) : Int) hn (hi.map a.eval) := by rwa [Int.toNat_of_nonneg (by omega)]
          obtain ⟨A', hr, hA'⟩ := run_sliceAt (w := w) (A := A0) (n := (r0 - l0).toNat) (c := cp - l0.toNat) hu ev' b1' b2 c0 c1 (by omega)
          have a1 : (vAdd l0 ln).toNat = l0.toNat + ln.toNat := Int.toNat_add z0 c0
          have a2 : (vAdd l0 hn - vAdd l0 ln).toNat = (hn - ln).toNat := by unfold vAdd; congr 1; omega
          refine op_leaf h6 S hd (run (by rw [hv]; exact hr)) rfl (fun _ => ⟨A, m, cp, hh, by unfold vAdd; omega, by unfold vAdd; omega, by unfold vAdd; omega, z3, A', by rw [a2, a1, Nat.sub_add_eq], fun hne => ?_⟩)
          rw [a1, Nat.sub_add_eq] at hne
          rw [hA' hne, hA0 (by omega), a1, Option.map_map, hsz]
          congr 1
          funext ad
          simp only [Function.comp, add_add', Nat.add_mul]
        · cases h13
    · cases h8
  · cases h5
end
end Go.Proofs.Yticifedehhnjhaa.Eng
/- Rows come to a temporary; rows that are moved; new rows. -/
namespace Go.Proofs.Yticifedehhnjhaa.Eng
set_option linter.unusedVariables false
set_option linter.unusedSimpArgs false
open Go Go.RowKit
noncomputable def Env.sh (ρ : Env) (r : Ref) (v : Value) : Env := { ρ with hdr := fun q => by classical exact if q = r then some v else ρ.hdr q }
theorem sh_at (ρ : Env) (r : Ref) (v : Value) : (ρ.sh r v).hdr r = some v := by simp [Env.sh]
theorem sh_ne {ρ : Env} {r q : Ref} {v : Value} (h : q ≠ r) : (ρ.sh r v).hdr q = ρ.hdr q := by simp [Env.sh, h]
section
variable {C : Cfg} {D : Nat → Sh} {rec : (q : Req) → Option (D q.f).den} {ρ ρ' : Env} {st : St} {a : Act} {w w' : World} {N : Nat}
/-- A reference that is not given out yet. -/
theorem sh_keep {X : Ref → Prop} {Y : Nat → Nat → Prop} (k : Keep X Y ρ w ρ' w') {r : Ref} {v : Value} (hn : ρ.hdr r = none) (hh : ρ'.hdr = ρ.hdr) : Keep X Y ρ w (ρ'.sh r v) w' :=
  ⟨fun q u hq => by
    by_cases e : q = r
    · subst e; rw [hn] at hq; cases hq
    · rw [sh_ne e, hh]; exact hq, k.st, k.own, k.box, k.ga⟩
theorem Sim.fresh_tm (S : Sim ρ st a w N) {d g : Nat} {a0 : AV} (hs : st (.tm d) = .tm g a0) : ρ.hdr (.tm d (g + 1)) = none := by
  cases h : ρ.hdr (.tm d (g + 1)) with
  | none => rfl
  | some v =>
    obtain ⟨g', av, e, le⟩ := S.htm _ _ _ h
    rw [hs] at e; cases e; omega
/-- A row comes to a temporary. -/
theorem Sim.putOwn {X : Ref → Prop} (S : Sim ρ st a w N) {d g : Nat} {a0 : AV} {e : Ty} {xs : List e.den} {v : Value} (hd : d < N) (hs : st (.tm d) = .tm g a0)
    (hT : ∀ t g av, t ≠ d → st (.tm t) = .tm g av → KeepsT X t g av) (hB : ∀ b g ls, st (.bx b) = .bx g ls → KeepsB X b g ls) (k : Keep X (fun _ _ => False) ρ w ρ' w') (hh : ρ'.hdr = ρ.hdr) (hga : ρ'.ga = ρ.ga)
    (ho : OwnRow ρ'.lab w' (.tm d (g + 1)) e v xs) : Sim (ρ'.sh (.tm d (g + 1)) v) (upd st (.tm d) (.tm (g + 1) (.cv false [.own e xs]))) (a.put (some d) v) w' N := by
  have hn := S.fresh_tm hs
  refine S.step (sh_keep k hn hh) (by simp [Act.put]; exact S.size) S.defers (· = d) (fun _ => False) (fun t ht => ?_) (fun t ht => ?_) (fun b _ => ?_) (fun b hb => hb.elim) (fun r u hu => ?_) (fun b g x hx => .inl (by rw [← hga]; exact hx))
  · exact ⟨upd_ne _ _ (by simpa using ht), by rw [Act.getD_put v (Nat.lt_of_lt_of_le hd S.size), if_neg ht], fun g av h => hT t g av ht h⟩
  · subst ht
    have hv : (a.put (some t) v).tmps.getD t undef = v := by rw [Act.getD_put v (Nat.lt_of_lt_of_le hd S.size), if_pos rfl]
    refine ⟨g, g + 1, a0, _, hs, upd_same _ _ _, Nat.le_succ _, by rw [hv]; exact ⟨sh_at _ _ _, ho⟩, fun u hu => ?_⟩
    rw [sh_at] at hu; cases hu; exact hv
  · exact ⟨upd_ne _ _ (by simp), fun g ls h => ⟨id, hB b g ls h⟩⟩
  · by_cases er : r = .tm d (g + 1)
    · subst er
      exact .inr ⟨⟨g + 1, _, upd_same _ _ _, Nat.le_refl _⟩, rfl⟩
    · rw [sh_ne er, hh] at hu; exact .inl hu
theorem sh_still (hk : Still ρ w ρ' w') {r : Ref} {v : Value} (hn : ρ.hdr r = none) (hh : ρ'.hdr = ρ.hdr) : Still ρ w (ρ'.sh r v) w' :=
  ⟨⟨hk.size, hk.st, hk.no, hk.os, hk.tape, hk.output⟩, fun q u hq => by
    by_cases e : q = r
    · subst e; rw [hn] at hq; cases hq
    · rw [sh_ne e, hh]; exact hq, hk.ga⟩
theorem OwnRow.rename {r r2 : Ref} {e : Ty} {v : Value} {xs : List e.den} (h : OwnRow ρ.lab w r e v xs) : OwnRow (ρ.rl r (.own r2)).lab w r2 e v xs := by
  obtain ⟨A, c, hv, hc, h⟩ := h
  refine ⟨A, c, hv, hc, h.imp id ?_⟩
  rintro ⟨blk, off, cells, ty, hA, hl, hb, ho, hx⟩
  exact ⟨blk, off, cells, ty, hA, rl_own hl, hb, ho, fun j x hj => let ⟨cs, h1, h2⟩ := hx j x hj; ⟨cs, h1.mono (rl_keep ρ r _ w).st, h2⟩⟩
/-- No place owns the row r: it is loose. -/
def Loose (st : St) (r : Ref) : Prop := (∀ t g av, st (.tm t) = .tm g av → KeepsT (· = r) t g av) ∧ ∀ b g ls, st (.bx b) = .bx g ls → KeepsB (· = r) b g ls
theorem slice_undef {A : Option Addr} {n c : Nat} (r : Ref) : RepLeaf ρ w r .undef (.slice A n c) := ⟨fun b => by simp, rfl⟩
theorem OwnRow.slice {lab : Nat → Lbl} {r : Ref} {e : Ty} {v : Value} {xs : List e.den} (h : OwnRow lab w r e v xs) : ∃ A c, v = .slice A xs.length c := let ⟨A, c, h, _⟩ := h; ⟨A, c, h⟩
/-- A row is taken from its place. -/
theorem Sim.loosen (S : Sim ρ st a w N) {r : Ref} {e : Ty} {xs : List e.den} {v : Value} (hat : At ρ st a w r (.own e xs) v) {st' : St} (h : ev rec (Eng.setRef r .undef) st = some ((), st')) :
    Sim ρ st' a w N ∧ OwnRow ρ.lab w r e v xs ∧ Loose st' r ∧ At ρ st' a w r .undef v := by
  obtain ⟨hh, ho⟩ := hat.rep S
  obtain ⟨A, c, hv⟩ := ho.slice
  obtain ⟨S', hat'⟩ := S.setRef (l' := .undef) hat (Keep.refl _ _ _ _) rfl rfl (by rw [hv]; exact slice_undef r) h
  refine ⟨S', ho, ⟨fun t g av ht => ?_, fun b g ls hb => ?_⟩, hat'⟩
  · cases r with
    | tm t' g' =>
      by_cases e : t = t' ∧ g = g'
      · obtain ⟨rfl, rfl⟩ := e
        rw [hat'.1] at ht; cases ht
        exact .inr (fun l hl => by simp at hl; subst hl; rfl)
      · exact KeepsT.of (fun q => by cases q; exact e ⟨rfl, rfl⟩) (fun i q => by cases q) _
    | tp => exact hat'.elim
    | bf => exact KeepsT.of (fun q => by cases q) (fun i q => by cases q) _
  · cases r with
    | tm => exact fun i lg l _ => .inl (fun q => by cases q)
    | tp => exact hat'.elim
    | bf b' g' o' lg' =>
      intro i lg l hl
      by_cases e : b = b' ∧ g = g' ∧ i = o' ∧ lg = lg'
      · obtain ⟨rfl, rfl, rfl, rfl⟩ := e
        obtain ⟨ls', blk, cs, ty, q1, q2, _⟩ := hat'
        rw [q1] at hb; cases hb
        rw [q2] at hl; cases hl
        exact .inr rfl
      · exact .inl (fun q => by cases q; exact e ⟨rfl, rfl, rfl, rfl⟩)
/-- A loose row comes to a temporary. -/
theorem Sim.take (S : Sim ρ st a w N) {r : Ref} {e : Ty} {xs : List e.den} {v : Value} (ho : OwnRow ρ.lab w r e v xs) (hl : Loose st r) {d g : Nat} {a0 : AV} (hd : d < N) (hs : st (.tm d) = .tm g a0) :
    Sim ((ρ.rl r (.own (.tm d (g + 1)))).sh (.tm d (g + 1)) v) (upd st (.tm d) (.tm (g + 1) (.cv false [.own e xs]))) (a.put (some d) v) w N ∧
      Still ρ w ((ρ.rl r (.own (.tm d (g + 1)))).sh (.tm d (g + 1)) v) w :=
  ⟨S.putOwn hd hs (fun t g av _ h => hl.1 t g av h) hl.2 (rl_keep _ _ _ _) rfl rfl ho.rename, sh_still (rl_still _ _ _ _) (S.fresh_tm hs) rfl⟩
end
end Go.Proofs.Yticifedehhnjhaa.Eng
/- Assignments. -/
namespace Go.Proofs.Yticifedehhnjhaa.Eng
set_option linter.unusedVariables false
set_option linter.unusedSimpArgs false
open Go Go.RowKit
section
variable {C : Cfg} {D : Nat → Sh} {rec : (q : Req) → Option (D q.f).den} {ρ ρ' : Env} {st : St} {a : Act} {w w' : World} {N : Nat}
theorem Sim.congr {a' : Act} (S : Sim ρ st a w N) (hs : N ≤ a'.tmps.size) (hd : a'.defers = []) (h : ∀ t, a'.tmps.getD t undef = a.tmps.getD t undef) : Sim ρ st a' w N :=
  ⟨hs, hd, fun t => by obtain ⟨g, av, e, r, c⟩ := S.tm t; exact ⟨g, av, e, by rw [h]; exact r, fun v hv => by rw [h]; exact c v hv⟩, S.bx, S.gao, S.htm, S.htp, S.hbf⟩
theorem Sim.put_self (S : Sim ρ st a w N) {d : Nat} {v : Value} (hd : d < N) (hv : a.tmps.getD d undef = v) : Sim ρ st (a.put (some d) v) w N :=
  S.congr (by simp [Act.put]; exact S.size) S.defers (fun t => by
    rw [Act.getD_put v (Nat.lt_of_lt_of_le hd S.size)]
    split
    · rename_i e; subst e; exact hv.symm
    · rfl)
theorem ev_move {s g d : Nat} {e : Ty} {xs : List e.den} {v : Value} {st' : St} (h : ev rec (moveG s g d e xs) st = some ((), st')) (S : Sim ρ st a w N) (hd : d < N) (hat : At ρ st a w (.tm s g) (.own e xs) v) :
    ∃ ρ', Still ρ w ρ' w ∧ Sim ρ' st' (a.put (some d) v) w N := by
  unfold moveG at h
  cases hb : Nat.beq s d with
  | true =>
    rw [hb] at h
    cases ev_ret h
    have : s = d := Nat.eq_of_beq_eq_true hb
    subst this
    exact ⟨ρ, .refl _ _, S.put_self hd hat.2⟩
  | false =>
    rw [hb] at h
    have hne : s ≠ d := fun e => by subst e; simp at hb
    obtain ⟨_, st1, h1, h2⟩ := ev_bind _ _ _ _ h
    obtain ⟨S1, ho, hl, hat1⟩ := S.loosen hat h1
    obtain ⟨_, st2, h3, h4⟩ := ev_bind _ _ _ _ h2
    obtain ⟨gd, a0, hs, e'⟩ := ev_put h3
    cases e'
    obtain ⟨S2, k2⟩ := S1.take ho hl hd hs
    obtain ⟨gd', a1, hs', h5⟩ := ev_getTm h4
    rw [upd_same] at hs'
    cases hs'
    obtain ⟨A, c, hv⟩ := ho.slice
    have hat2 : At ((ρ.rl (.tm s g) (.own (.tm d (gd + 1)))).sh (.tm d (gd + 1)) v) (upd st1 (.tm d) (.tm (gd + 1) (.cv false [.own e xs]))) (a.put (some d) v) w (.tm s g) .undef v :=
      ⟨by rw [upd_ne _ _ (by simpa using hne)]; exact hat1.1, by rw [Act.getD_put v (Nat.lt_of_lt_of_le hd S.size), if_neg hne]; exact hat1.2⟩
    exact ⟨_, k2, (S2.setRef (l' := .al (.tm d (gd + 1))) hat2 (Keep.refl _ _ _ _) rfl rfl ⟨sh_at _ _ _, A, _, c, hv⟩ h5).1⟩
theorem OwnRow.cut {lab : Nat → Lbl} {r : Ref} {e : Ty} {V val : Value} {xs : List e.den} {lo hi : Int} {A A' : Option Addr} {n c : Nat} (h : OwnRow lab w r e V xs) (hV : V = .slice A n c) (z0 : 0 ≤ lo) (z1 : lo ≤ hi) (z2 : hi ≤ n) (z3 : n ≤ c)
    (hv : val = .slice A' (hi - lo).toNat (c - lo.toNat)) (hA : c - lo.toNat ≠ 0 → A' = A.map (·.add (lo.toNat * e.sz))) : OwnRow lab w r e val (cut xs lo hi) := by
  obtain ⟨A0, c0, hV0, hc, h⟩ := h
  rw [hV] at hV0
  cases hV0
  refine ⟨A', c - lo.toNat, by rw [hv, cut_len z0 z1 z2], by rw [cut_len z0 z1 z2]; omega, ?_⟩
  by_cases hz : c - lo.toNat = 0
  · exact .inl hz
  · rcases h with rfl | ⟨blk, off, cells, ty, rfl, hl, hb, ho, hx⟩
    · omega
    · refine .inr ⟨blk, off + lo.toNat * e.sz, cells, ty, by rw [hA hz]; simp [add_mk], hl, hb, ?_, fun j x hj => ?_⟩
      · have : lo.toNat * e.sz + (c - lo.toNat) * e.sz = c * e.sz := by rw [← Nat.add_mul]; congr 1; omega
        omega
      · simp only [Eng.cut, List.getElem?_drop, List.getElem?_take] at hj
        split at hj
        · obtain ⟨cs, h1, h2⟩ := hx _ x hj
          refine ⟨cs, h1, fun i u hu => ?_⟩
          have := h2 i u hu
          rwa [show off + lo.toNat * e.sz + (j * e.sz + i) = off + ((lo.toNat + j) * e.sz + i) by rw [Nat.add_mul]; omega]
        · cases hj
theorem OwnRow.none {lab : Nat → Lbl} {r : Ref} {e : Ty} : OwnRow lab w r e (.slice none 0 0) ([] : List e.den) := ⟨Option.none, 0, rfl, Nat.le_refl _, .inl rfl⟩
theorem RepCV.noown {r : Ref} {agg : Bool} {ls : List Leaf} {v : Value} (h : RepCV ρ w r agg ls v) (hne : ∀ e xs, agg = false → ls = [.own e xs] → False) : ∀ l ∈ ls, l.isOwn = false := by
  intro l hl
  cases agg with
  | true =>
    obtain ⟨cs, h1, h2, h3⟩ := h
    obtain ⟨i, hi, rfl⟩ := List.getElem_of_mem hl
    obtain ⟨u, hu⟩ : ∃ u, cs[i]? = some u := ⟨_, Array.getElem?_eq_getElem (by omega)⟩
    exact (h3 i _ u (List.getElem?_eq_getElem hi) hu).2
  | false =>
    match ls, hl, h, hne with
    | [l'], hl, _, hne =>
      simp at hl; subst hl
      cases l with
      | own e xs => exact (hne _ xs rfl rfl).elim
      | _ => rfl
    | [], _, r, _ => exact r.elim
    | _ :: _ :: _, _, r, _ => exact r.elim
theorem ev_putNil {d : Nat} {e : Ty} {st' : St} (h : ev rec (put d (.cv false [.own e []])) st = some ((), st')) (S : Sim ρ st a w N) (hd : d < N) : ∃ ρ', Still ρ w ρ' w ∧ Sim ρ' st' (a.put (some d) (.slice none 0 0)) w N := by
  obtain ⟨g, a0, hs, e'⟩ := ev_put h
  cases e'
  exact ⟨_, sh_still (.refl _ _) (S.fresh_tm hs) rfl, S.putOwn (X := fun _ => False) hd hs (fun _ _ _ _ _ => KeepsT.of id (fun _ => id) _) (fun _ _ _ _ _ _ _ _ => .inl id) (.refl _ _ _ _) rfl rfl .none⟩
theorem ev_putAV {d : Nat} {av : AV} {v : Value} {st' : St} (h : ev rec (put d av) st = some ((), st')) (S : Sim ρ st a w N) (hd : d < N) (hr : OpdOk ρ w av v) (hc : ∀ cs, av ≠ .tup cs) : Sim ρ st' (a.put (some d) v) w N :=
  ev_putO (d := some d) h S (fun x hx => by cases hx; exact hd) hr hc
theorem op_assign {o : Oper} {x : Operand} {st' : St} (ho : o.op = .assign x) (h : ev rec (execG C o) st = some ((), st')) (S : Sim ρ st a w N) (hd : ∀ x, o.dst = some x → x < N) : OpOk C.P N ρ w st' o a := by
  simp only [execG, ho] at h
  split at h
  · rename_i d hdst
    have hdN := hd d hdst
    have run : (execOp a.eval o).run C.P w = .ok (.value (a.eval x)) w := by simp [execOp, ho]
    suffices key : ∃ ρ', Still ρ w ρ' w ∧ Sim ρ' st' (a.put (some d) (a.eval x)) w N by
      obtain ⟨ρ', k, S'⟩ := key
      exact .value run k (by rw [hdst]; exact S')
    have other : ∀ {st'}, ev rec ((opd x).bind fun
        | .cv false [.nil _] => (elemTy C o.type).bind fun td => put d (.cv false [.own td.ty []])
        | .cv ag ls => put d (.cv ag ls)
        | .tup _ => .fail) st = some ((), st') → ∃ ρ', Still ρ w ρ' w ∧ Sim ρ' st' (a.put (some d) (a.eval x)) w N := by
      intro st' h
      obtain ⟨av, st1, h1, h2⟩ := ev_bind _ _ _ _ h
      obtain ⟨rfl, ok⟩ := ev_opd h1 S
      split at h2
      · obtain ⟨td, st2, h3, h4⟩ := ev_bind _ _ _ _ h2
        obtain ⟨rfl, _⟩ := ev_elemTy h3
        have e : a.eval x = .slice none 0 0 := ok.2 (.tm 0 0)
        rw [e]
        exact ev_putNil h4 S hdN
      · exact ⟨ρ, .refl _ _, ev_putAV h2 S hdN ok (fun _ => by simp)⟩
      · cases h2
    unfold assignG at h
    split at h
    · rename_i s
      obtain ⟨g, av, e, h⟩ := ev_getTm h
      have hopd : ∀ l, av = .cv false [l] → RepLeaf ρ w (.tm s g) l (a.tmps.getD s undef) := by
        rintro l rfl
        obtain ⟨g', av', e', r, _⟩ := S.tm s
        rw [e] at e'; cases e'
        exact r
      unfold assignA at h
      split at h
      · exact ev_move h S hdN ⟨e, rfl⟩
      · rename_i r
        obtain ⟨y, st1, h1, h2⟩ := ev_bind _ _ _ _ h
        obtain ⟨rfl, V, p1, p2⟩ := ev_resolve _ _ h1 S
        obtain ⟨q0, A, n, c, q1⟩ := hopd _ rfl
        obtain ⟨e2, q2⟩ := p2 _ q0
        have ev' : a.eval (.tmp s) = V := e2
        rw [ev']
        split at h2
        · exact ev_move h2 S hdN p1
        · have hr := p1.rep S
          exact ⟨ρ, .refl _ _, ev_putAV h2 S hdN (.leaf rfl (fun _ => hr)) (fun _ => by simp)⟩
        · rename_i r' l' _ _
          exact ⟨ρ, .refl _ _, ev_putAV h2 S hdN (.leaf rfl (fun _ => ⟨q2, A, n, c, by rw [← e2]; exact q1⟩)) (fun _ => by simp)⟩
      · rename_i r z lo hi
        obtain ⟨sv, st1, h1, h2⟩ := ev_bind _ _ _ _ h
        have hsub := hopd _ rfl
        obtain ⟨rfl, ok⟩ := ev_slv (val := a.tmps.getD s undef) h1 S (fun r' => hsub.any rfl)
        have gen : ∀ {st'}, ev rec (put d (.cv false [.sub r z lo hi])) st1 = some ((), st') → ∃ ρ', Still ρ w ρ' w ∧ Sim ρ' st' (a.put (some d) (a.eval (.tmp s))) w N := fun h =>
          ⟨ρ, .refl _ _, ev_putAV h S hdN (.leaf rfl (fun r' => hsub.any rfl)) (fun _ => by simp)⟩
        split at h2
        · rename_i s' g' e3 xs lo' hi'
          cases hb : Nat.beq s' d with
          | false => rw [hb] at h2; exact gen h2
          | true =>
            rw [hb] at h2
            have : s' = d := Nat.eq_of_beq_eq_true hb
            subst this
            obtain ⟨V, hat, A, n, c, q, z0, z1, z2, z3, A', z4, z5⟩ := ok
            obtain ⟨hh, hoR⟩ := hat.rep S
            have hV := hat.cur S q
            obtain ⟨gd, a0, hs, e'⟩ := ev_put h2
            cases e'
            have hg : gd = g' := by
              have := hat.1
              rw [hs] at this; cases this; rfl
            subst hg
            have ho' := (hoR.cut hV.symm z0 z1 z2 z3 z4 z5).rename (r2 := .tm s' (gd + 1))
            refine ⟨_, sh_still (rl_still _ _ _ _) (S.fresh_tm hs) rfl, S.putOwn (X := (· = .tm s' gd)) hdN hs (fun t g av ht _ => KeepsT.of (fun q => by cases q; exact ht rfl) (fun i q => by cases q) _) (fun _ _ _ _ _ _ _ _ => .inl (fun q => by cases q)) (rl_keep _ _ _ _) rfl rfl ho'⟩
        · exact gen h2
      · have e4 : a.eval (.tmp s) = .slice none 0 0 := hopd _ rfl
        rw [e4]
        exact ev_putNil h S hdN
      · rename_i ag ls n1 n2 n3 n4
        refine ⟨ρ, .refl _ _, ev_putAV h S hdN ?_ (fun _ => by simp)⟩
        obtain ⟨g', av', e', rr, _⟩ := S.tm s
        rw [e] at e'; cases e'
        have hno := RepCV.noown rr n1
        exact ⟨hno, fun r => RepCV.any hno rr r⟩
      · cases h
    · exact other h
  · cases h
end
end Go.Proofs.Yticifedehhnjhaa.Eng
/- New rows: append, make. -/
namespace Go.Proofs.Yticifedehhnjhaa.Eng
set_option linter.unusedVariables false
set_option linter.unusedSimpArgs false
open Go Go.RowKit
/-- A list of cells holds elements one after another. -/
def Elems (lab : Nat → Lbl) (w : World) (e : Ty) (cells : List Value) (xs : List e.den) : Prop :=
  cells.length = xs.length * e.sz ∧ ∀ j x, xs[j]? = some x → ∃ cs, RepTy lab w e cs x ∧ ∀ i u, cs[i]? = some u → cells[j * e.sz + i]? = some u
section
variable {lab lab' : Nat → Lbl} {w w' : World} {e : Ty}
theorem Elems.nil : Elems lab w e [] [] := ⟨by simp, fun j x h => by simp at h⟩
theorem Elems.append {c1 c2 : List Value} {xs ys : List e.den} (h1 : Elems lab w e c1 xs) (h2 : Elems lab w e c2 ys) : Elems lab w e (c1 ++ c2) (xs ++ ys) := by
  refine ⟨by simp [h1.1, h2.1, Nat.add_mul], fun j x hj => ?_⟩
  rw [List.getElem?_append] at hj
  split at hj
  · rename_i hlt
    obtain ⟨cs, r1, r2⟩ := h1.2 j x hj
    exact ⟨cs, r1, fun i u hu => by rw [List.getElem?_append_left (List.getElem?_eq_some_iff.1 (r2 i u hu)).1]; exact r2 i u hu⟩
  · rename_i hge
    obtain ⟨cs, r1, r2⟩ := h2.2 _ x hj
    refine ⟨cs, r1, fun i u hu => ?_⟩
    have hle : xs.length * e.sz ≤ j * e.sz := Nat.mul_le_mul_right _ (by omega)
    rw [List.getElem?_append_right (by rw [h1.1]; omega), h1.1]
    have := r2 i u hu
    rwa [show j * e.sz + i - xs.length * e.sz = (j - xs.length) * e.sz + i by rw [Nat.sub_mul]; omega]
theorem Elems.one {c : List Value} {x : e.den} (h : RepTy lab w e c x) : Elems lab w e c [x] := by
  refine ⟨by simp [h.len], fun j y hy => ?_⟩
  cases j with
  | zero => simp at hy; subst hy; exact ⟨c, h, fun i u hu => by simpa using hu⟩
  | succ j => simp at hy
theorem Elems.mono {c : List Value} {xs : List e.den} (k : StKeep lab w lab' w') (h : Elems lab w e c xs) : Elems lab' w' e c xs :=
  ⟨h.1, fun j x hx => let ⟨cs, r1, r2⟩ := h.2 j x hx; ⟨cs, r1.mono k, r2⟩⟩
theorem RowAt.flat : ∀ {xs : List e.den} {A : Option Addr}, RowAt lab w e A xs → ∃ c, Elems lab w e c xs ∧ ∀ j u, c[j]? = some u → ∃ b, A = some b ∧ w.cell? (b.add j) = some u
  | [], A, _ => ⟨[], .nil, fun j u h => by simp at h⟩
  | x :: xs, A, h => by
    obtain ⟨ad, rfl, cells, r1, r2⟩ := h 0 x rfl
    have hs : RowAt lab w e (some (ad.add e.sz)) xs := fun j y hy => by
      obtain ⟨ad', e', cs, q1, q2⟩ := h (j + 1) y hy
      cases e'
      refine ⟨_, rfl, cs, q1, fun i u hu => ?_⟩
      rw [add_add']
      have := q2 i u hu
      rwa [show e.sz + (j * e.sz + i) = (j + 1) * e.sz + i by rw [Nat.add_mul]; omega]
    obtain ⟨c, k1, k2⟩ := RowAt.flat hs
    refine ⟨cells ++ c, (Elems.one r1).append k1, fun j u hu => ⟨ad, rfl, ?_⟩⟩
    rw [List.getElem?_append] at hu
    split at hu
    · have := r2 j u hu; simpa using this
    · rename_i hge
      obtain ⟨b, e', hb⟩ := k2 _ u hu
      cases e'
      rw [add_add'] at hb
      rw [r1.len] at hb hge
      rwa [show e.sz + (j - e.sz) = j by omega] at hb
theorem RepTy.one1 : ∀ {t : Ty} {c : List Value} {x : t.den}, RepTy lab w t c x → ∀ u ∈ c, u.oneCell' = true := by
  have key : ∀ {t : Ty} {v : Value} {x : t.den}, RepTy lab w t [v] x → v.oneCell' = true := by
    intro t
    induction t with
    | int k => intro v x h; simp [RepTy] at h; subst h; rfl
    | bool => intro v x h; simp [RepTy] at h; subst h; rfl
    | str => intro v x h; simp [RepTy] at h; subst h; rfl
    | unit => intro v x h; simp [RepTy] at h
    | sl e _ => intro v x h; obtain ⟨A, c, e, _⟩ := h; simp at e; subst e; rfl
    | pair a b iha ihb => intro v x h; obtain ⟨c, r, e, h1, _⟩ := h; cases e; exact iha h1
  intro t
  induction t with
  | pair a b iha ihb =>
    intro c x h u hu
    obtain ⟨v, r, rfl, h1, h2⟩ := h
    rcases List.mem_cons.1 hu with rfl | hu
    · exact key h1
    · exact ihb h2 u hu
  | unit => intro c x h u hu; simp [RepTy] at h; subst h; simp at hu
  | int k => intro c x h u hu; simp [RepTy] at h; subst h; simp at hu; subst hu; rfl
  | bool => intro c x h u hu; simp [RepTy] at h; subst h; simp at hu; subst hu; rfl
  | str => intro c x h u hu; simp [RepTy] at h; subst h; simp at hu; subst hu; rfl
  | sl e _ => intro c x h u hu; obtain ⟨A, n, rfl, h⟩ := h; simp at hu; subst hu; rfl
theorem Elems.one1 {c : List Value} {xs : List e.den} (h : Elems lab w e c xs) : ∀ u ∈ c, u.oneCell' = true := by
  intro u hu
  obtain ⟨i, hi, rfl⟩ := List.getElem_of_mem hu
  have hlen := h.1
  have hsz : 0 < e.sz := by
    cases hz : e.sz with
    | zero => rw [hz] at hlen; omega
    | succ n => omega
  have hq : i / e.sz < xs.length := by rw [Nat.div_lt_iff_lt_mul hsz]; omega
  obtain ⟨cs, r1, r2⟩ := h.2 (i / e.sz) _ (List.getElem?_eq_getElem hq)
  have hm : i % e.sz < cs.length := by rw [r1.len]; exact Nat.mod_lt _ hsz
  have := r2 (i % e.sz) _ (List.getElem?_eq_getElem hm)
  rw [Nat.div_add_mod'] at this
  rw [List.getElem?_eq_getElem hi] at this
  rw [Option.some.inj this]
  exact r1.one1 _ (List.getElem_mem hm)
end
theorem run_app {P : Program} {w : World} (t ty e : TypeId) (i : TypeInfo) (z : Value) (ht : P.underlying t = some (.slice e)) (hi : P.info? e = some i) (hz : i.zero = some z) (hzs : z.cells.size = i.size)
    (A B : Option Addr) (n c m cb : Nat) (olds news : List Value) (hlo : olds.length = n * i.size) (hold : ∀ j u, olds[j]? = some u → ∃ b, A = some b ∧ w.cell? (b.add j) = some u)
    (hl : news.length = m * i.size) (hnews : ∀ j u, news[j]? = some u → ∃ b, B = some b ∧ w.cell? (b.add j) = some u) (h1 : ∀ u ∈ news, u.oneCell' = true) (hnc : n ≤ c)
    (h63 : n + m ≤ 9223372036854775807) (hbytes : (n + m) * i.bytes ≤ 140737488355328) (hblk : c ≠ 0 → ∃ g off cur ht', A = some ⟨g, off, none⟩ ∧ w.heap[g]? = some (.cells cur ht' (0, 0)) ∧ off + c * i.size ≤ cur.size) :
    (n + m ≤ c ∧ ∃ w', (Builtin.append_ #[t, t] ty #[.slice A n c, .slice B m cb]).run P w = .ok (.slice A (n + m) c) w' ∧
      ((m * i.size = 0 ∧ w' = w) ∨ ∃ g off cur ty', A = some ⟨g, off, none⟩ ∧ w.heap[g]? = some (.cells cur ty' (0, 0)) ∧ off + c * i.size ≤ cur.size ∧ w' = w.setRow g (cur.toList.take (off + n * i.size) ++ news ++ cur.toList.drop (off + n * i.size + news.length)).toArray)) ∨
    (∃ cap w', n + m ≤ cap ∧ (Builtin.append_ #[t, t] ty #[.slice A n c, .slice B m cb]).run P w = .ok (.slice (some ⟨w.heap.size, 0, none⟩) (n + m) cap) w' ∧ w' = w.drew.alloc (.cells (olds.toArray ++ news.toArray ++ Builtin.zeroCells z.cells (cap - (n + m))) e)) := by
  have hfn : ∀ w0 : World, w0.heap = w.heap → (Builtin.firstCells i.size m (.slice B m cb)).run P w0 = .ok news.toArray w0 := by
    intro w0 hw0
    have hcell : ∀ a, w0.cell? a = w.cell? a := fun a => by simp [World.cell?, hw0]
    cases B with
    | none =>
      have : news = [] := by
        cases news with
        | nil => rfl
        | cons u r => obtain ⟨b, hb, _⟩ := hnews 0 u rfl; cases hb
      subst this
      exact run_firstCells_none w0 _ _ _ _
    | some b =>
      exact run_firstCells_some w0 _ _ b _ _ news hl (fun j v hv => by obtain ⟨b', e, h⟩ := hnews j v hv; cases e; rw [hcell]; exact h)
  have hfo : ∀ w0 : World, w0.heap = w.heap → (Builtin.firstCells i.size n (.slice A n c)).run P w0 = .ok olds.toArray w0 := by
    intro w0 hw0
    have hcell : ∀ a, w0.cell? a = w.cell? a := fun a => by simp [World.cell?, hw0]
    cases A with
    | none =>
      have : olds = [] := by
        cases olds with
        | nil => rfl
        | cons u r => obtain ⟨b, hb, _⟩ := hold 0 u rfl; cases hb
      subst this
      exact run_firstCells_none w0 _ _ _ _
    | some b =>
      exact run_firstCells_some w0 _ _ b _ _ olds hlo (fun j v hv => by obtain ⟨b', e, h⟩ := hold j v hv; cases e; rw [hcell]; exact h)
  by_cases hroom : n + m ≤ c
  · refine .inl ⟨hroom, ?_⟩
    by_cases hc : c = 0
    · have hn0 : n = 0 := by omega
      have hm0 : m = 0 := by omega
      subst hn0; subst hm0; subst hc
      have hnil : news = [] := List.eq_nil_of_length_eq_zero (by simpa using hl)
      subst hnil
      have hf := hfn w rfl
      refine ⟨w, ?_, .inl ⟨by simp, rfl⟩⟩
      cases A <;> simp [Builtin.append_, run_underlying ht, sizeOf, typeInfo, hi, Builtin.lenOf, hf, storeCells]
    · obtain ⟨g, off, cur, ty', rfl, hg, hoff⟩ := hblk hc
      have hf := hfn w rfl
      have hfit : off + n * i.size + news.length ≤ cur.size := by
        rw [hl]
        have : n * i.size + m * i.size ≤ c * i.size := by rw [← Nat.add_mul]; exact Nat.mul_le_mul_right _ hroom
        omega
      have hst := run_storeCells_at P g (off + n * i.size) ty' news 0 cur w hg (by simpa using hfit) h1
      simp only [Nat.add_zero] at hst
      refine ⟨_, ?_, .inr ⟨g, off, cur, ty', rfl, hg, hoff, rfl⟩⟩
      simp [Builtin.append_, run_underlying ht, sizeOf, typeInfo, hi, Builtin.lenOf, hroom, hf, Addr.add_lit, hst]
  · have hn : ¬ (n + m ≤ c) := hroom
    have h63' : ¬ (9223372036854775807 < ((n : Int) + (m : Int))) := by omega
    have h48' : ¬ (281474976710656 < Builtin.nextslicecap (n + m) c * i.bytes) := by
      have := growslice_fits (need := n + m) (old := c) (bytes := i.bytes) (by omega) hbytes
      omega
    have hf := hfn w.drew rfl
    have hfo' := hfo w.drew rfl
    refine .inr ⟨grownCap w (n + m) c e, _, grownCap_ge w (n + m) c e, ?_, rfl⟩
    simp [Builtin.append_, run_underlying ht, sizeOf, typeInfo, zeroValue, hi, hz, Builtin.lenOf, hn, h63', h48', Question.forced, hf, hfo', newRow, grownCap]
    congr 2
    apply Array.ext'
    simp [List.append_assoc]
end Go.Proofs.Yticifedehhnjhaa.Eng
/- Appending and making rows: the operations. -/
namespace Go.Proofs.Yticifedehhnjhaa.Eng
set_option linter.unusedVariables false
set_option linter.unusedSimpArgs false
open Go Go.RowKit
section
variable {C : Cfg} {D : Nat → Sh} {rec : (q : Req) → Option (D q.f).den} {ρ ρ' : Env} {st : St} {a : Act} {w w' : World} {N : Nat}
/-- The next block bears the name L. -/
noncomputable def Env.nb (ρ : Env) (w : World) (L : Lbl) : Env := { ρ with lab := fun b => if b = w.heap.size then L else ρ.lab b }
theorem nb_at (ρ : Env) (w : World) (L : Lbl) : (ρ.nb w L).lab w.heap.size = L := by simp [Env.nb]
theorem nb_lt {b : Nat} (L : Lbl) (h : b < w.heap.size) : (ρ.nb w L).lab b = ρ.lab b := by simp [Env.nb, Nat.ne_of_lt h]
/-- Worlds that grew by blocks only. -/
structure Grew (w w' : World) : Prop where
  size : w.heap.size ≤ w'.heap.size
  blk : ∀ k, k < w.heap.size → w'.heap[k]? = w.heap[k]?
  os : w'.os = w.os
  tape : w'.tape = w.tape
  output : w'.output = w.output
theorem nb_keep (X : Ref → Prop) (Y : Nat → Nat → Prop) (L : Lbl) (g : Grew w w') : Keep X Y ρ w (ρ.nb w L) w' :=
  ⟨fun _ _ h => h, fun b hb hl => ⟨by rw [nb_lt L hb]; exact hl, g.blk b hb⟩, fun b r hb hl _ => ⟨by rw [nb_lt L hb]; exact hl, g.blk b hb⟩, fun b _ _ hb hl _ => ⟨by rw [nb_lt L hb]; exact hl, g.blk b hb⟩, fun _ _ _ h => h⟩
theorem nb_still (L : Lbl) (g : Grew w w') : Still ρ w (ρ.nb w L) w' :=
  ⟨⟨g.size, (nb_keep (fun _ => False) (fun _ _ => False) L g).st, fun b hb hl => ⟨by rw [nb_lt L hb]; exact hl, g.blk b hb⟩, g.os, g.tape, g.output⟩, fun _ _ h => h, fun _ _ _ h => h⟩
theorem grew_alloc (w : World) (o : Obj) : Grew w (w.alloc o) := ⟨by simp, fun k hk => heap_alloc_old w o k hk, rfl, rfl, rfl⟩
theorem grew_drew_alloc (w : World) (o : Obj) : Grew w (w.drew.alloc o) := ⟨by simp, fun k hk => heap_alloc_old w.drew o k hk, rfl, rfl, rfl⟩
theorem grew_refl (w : World) : Grew w w := ⟨Nat.le_refl _, fun _ _ => rfl, rfl, rfl, rfl⟩
/-- A row in a new block. -/
theorem ownRow_new {r : Ref} {e : Ty} {xs : List e.den} {cells : Array Value} {ty c : Nat} {front : List Value} (g : Grew w w') (hb : w'.heap[w.heap.size]? = some (.cells cells ty (0, 0))) (hle : xs.length ≤ c) (hsz : c * e.sz ≤ cells.size)
    (hf : Elems ρ.lab w e front xs) (hpre : ∀ (j : Nat) (u : Value), front[j]? = some u → cells[j]? = some u) : OwnRow (ρ.nb w (.own r)).lab w' r e (.slice (some ⟨w.heap.size, 0, none⟩) xs.length c) xs :=
  ⟨_, c, rfl, hle, .inr ⟨w.heap.size, 0, cells, ty, rfl, nb_at _ _ _, hb, by omega, fun j x hj => let ⟨cs, r1, r2⟩ := hf.2 j x hj
    ⟨cs, r1.mono (nb_keep (fun _ => False) (fun _ _ => False) _ g).st, fun i u hu => by rw [Nat.zero_add]; exact hpre _ u (r2 i u hu)⟩⟩⟩
/-- A new row comes to a temporary. -/
theorem Sim.putNew (S : Sim ρ st a w N) {d g : Nat} {a0 : AV} {e : Ty} {xs : List e.den} {v : Value} (hd : d < N) (hs : st (.tm d) = .tm g a0) (gr : Grew w w')
    (ho : OwnRow (ρ.nb w (.own (.tm d (g + 1)))).lab w' (.tm d (g + 1)) e v xs) :
    Sim ((ρ.nb w (.own (.tm d (g + 1)))).sh (.tm d (g + 1)) v) (upd st (.tm d) (.tm (g + 1) (.cv false [.own e xs]))) (a.put (some d) v) w' N ∧
      Still ρ w ((ρ.nb w (.own (.tm d (g + 1)))).sh (.tm d (g + 1)) v) w' :=
  ⟨S.putOwn (X := fun _ => False) hd hs (fun _ _ _ _ _ => KeepsT.of id (fun _ => id) _) (fun _ _ _ _ _ _ _ _ => .inl id) (nb_keep _ _ _ gr) rfl rfl ho, sh_still (nb_still _ gr) (S.fresh_tm hs) rfl⟩
/-- The elements of a slice's value. -/
def ValRow (lab : Nat → Lbl) (w : World) (val : Value) (y : SV) : Prop := ∀ e ys, y = ⟨.sl e, ys⟩ → ∃ A c, val = .slice A ys.length c ∧ RowAt lab w e A ys
theorem ev_valRow {want : Ty} {l : Leaf} {y : SV} {st' : St} {val : Value} (h : ev rec (valOf want l) st = some (y, st')) (S : Sim ρ st a w N) (hl : ∀ r, RepLeaf ρ w r l val) : st' = st ∧ ValRow ρ.lab w val y := by
  unfold valOf at h
  split at h
  · cases ev_ret h
    refine ⟨rfl, fun e ys hy => ?_⟩
    cases hy
    obtain ⟨A, c, h1, _, h2⟩ := RepTy.row (hl (.tm 0 0))
    exact ⟨A, c, h1, h2⟩
  · split at h
    · cases ev_ret h
      refine ⟨rfl, fun e ys hy => ?_⟩
      cases hy
      exact ⟨none, 0, hl (.tm 0 0), fun j x hx => by simp at hx⟩
    · cases h
  · obtain ⟨sv, st1, h1, h2⟩ := ev_bind _ _ _ _ h
    obtain ⟨rfl, ok⟩ := ev_slv h1 S hl
    unfold valSl at h2
    split at h2
    · cases ev_ret h2
      refine ⟨rfl, fun e ys hy => ?_⟩
      cases hy
      obtain ⟨A, c, q1, _, q2⟩ := RepTy.row ok
      exact ⟨A, c, q1, q2⟩
    · cases ev_ret h2
      refine ⟨rfl, fun e ys hy => ?_⟩
      cases hy
      obtain ⟨A, c, q1, _, q2⟩ := (At.rep S ok).2.row
      exact ⟨A, c, q1, q2⟩
    · cases ev_ret h2
      refine ⟨rfl, fun e ys hy => ?_⟩
      cases hy
      obtain ⟨V, hat, A, n, c, q, z0, z1, z2, z3, A', z4, z5⟩ := ok
      obtain ⟨A0, c0, q1, q3, q2⟩ := (hat.rep S).2.row
      have hV := hat.cur S q
      rw [q1] at hV
      cases hV
      refine ⟨A', _, by rw [z4, cut_len z0 z1 z2], fun j x hx => ?_⟩
      have hlt : j < (cut _ _ _).length := (List.getElem?_eq_some_iff.1 hx).1
      rw [cut_len z0 z1 z2] at hlt
      have := q2.cut j x hx
      rwa [← z5 (by omega)] at this
    · cases h2
/-- What is appended to. -/
theorem ev_appBase {td : TD} {sv : SlV} {xs : List td.ty.den} {st' : St} {val : Value} (h : ev rec (appBase td sv) st = some (xs, st')) (S : Sim ρ st a w N) (ok : SlOk ρ st a w val sv) :
    Sim ρ st' a w N ∧ ∃ r, OwnRow ρ.lab w r td.ty val xs ∧ Loose st' r := by
  unfold appBase at h
  split at h
  · cases ev_ret h
    have e : val = .slice none 0 0 := ok
    rw [e]
    obtain ⟨g0, a0, h0, _⟩ := S.tm 0
    refine ⟨S, .tp 0 (g0 + 1) 0, .none, fun t g av ht => ?_, fun b g ls hb i lg l _ => .inl (fun q => by cases q)⟩
    cases av with
    | cv ag ls => exact .inl (fun q => by cases q)
    | tup cs => exact fun i c _ => .inl (fun q => by cases q; rw [h0] at ht; cases ht)
  · obtain ⟨_, st1, h1, h2⟩ := ev_bind _ _ _ _ h
    obtain ⟨xs', hx, e⟩ := ev_opt h2
    cases e
    obtain ⟨S', ho, hl, _⟩ := S.loosen ok h1
    obtain ⟨he, hxe⟩ := cast_some hx
    cases he
    subst hxe
    exact ⟨S', _, ho, hl⟩
  · obtain ⟨_, st1, h1, h2⟩ := ev_bind _ _ _ _ h
    obtain ⟨xs', hx, e⟩ := ev_opt h2
    cases e
    obtain ⟨V, hat, A, n, c, q, z0, z1, z2, z3, A', z4, z5⟩ := ok
    obtain ⟨S', ho, hl, _⟩ := S.loosen hat h1
    obtain ⟨he, hxe⟩ := cast_some hx
    cases he
    subst hxe
    exact ⟨S', _, ho.cut (hat.cur S q).symm z0 z1 z2 z3 z4 z5, hl⟩
  · cases h
theorem zeroCells_len : ∀ {t : Ty}, t.flat = true → (zeroCells t).length = t.sz := by
  intro t
  induction t with
  | pair a b _ ihb => intro h; simp [Ty.flat] at h; simp [zeroCells, Ty.sz, ihb h.2]
  | unit => intro h; simp [Ty.flat] at h
  | _ => intro h; rfl
theorem bytes_le {n : Int} {b : Nat} (h : Nat.ble (n.toNat * b) 140737488351232 = true) : n * b ≤ 140737488351232 := by
  have h1 := Nat.le_of_ble_eq_true h
  have h2 : n * (b : Int) ≤ (n.toNat : Int) * b := Int.mul_le_mul_of_nonneg_right (Int.self_le_toNat n) (Int.natCast_nonneg b)
  have h3 : ((n.toNat * b : Nat) : Int) ≤ 140737488351232 := Int.ofNat_le.2 h1
  rw [Int.natCast_mul] at h3
  exact Int.le_trans h2 h3
theorem appOk_of {n m : Int} {b : Nat} (h : appOk n m b = true) : (n + m) * b ≤ 140737488351232 := bytes_le h
theorem run_callBuiltin {P : Program} {o : Oper} {b : Builtin} {args : Array Operand} {ts : Array TypeId} (ho : o.op = .call { callee := .builtin b, args, argTypes := ts }) {v : Value}
    (h : (match b with | .len => Builtin.len_ ts o.type (args.map a.eval) | .append => Builtin.append_ ts o.type (args.map a.eval) | .min => Builtin.min_ ts o.type (args.map a.eval) | .max => Builtin.max_ ts o.type (args.map a.eval) | _ => stuck "").run P w = .ok v w')
    (hb : b = .len ∨ b = .append ∨ b = .min ∨ b = .max) : (execOp a.eval o).run P w = .ok (.value v) w' := by
  unfold execOp
  simp only [ho, Go.resolve, Sem.run_bind, Sem.run_pure, Result.andThen_ok, invoke]
  rcases hb with rfl | rfl | rfl | rfl <;> (simp only [builtin, Sem.run_bind]; rw [h]; rfl)
theorem setRow_keep {X : Ref → Prop} {g : Nat} {cs : Array Value} {r : Ref} (hX : X r) (hl : ρ.lab g = .own r) : Keep X (fun _ _ => False) ρ w ρ (w.setRow g cs) :=
  ⟨fun _ _ h => h, fun b _ hb => ⟨hb, setRow_other w g b cs (fun e => by subst e; rw [hl] at hb; cases hb)⟩, fun b q _ hb hq => ⟨hb, setRow_other w g b cs (fun e => by subst e; rw [hl] at hb; cases hb; exact hq hX)⟩,
    fun b _ _ _ hb _ => ⟨hb, setRow_other w g b cs (fun e => by subst e; rw [hl] at hb; cases hb)⟩, fun _ _ _ h => h⟩
theorem setRow_still {g : Nat} {cs : Array Value} {r : Ref} (hl : ρ.lab g = .own r) : Still ρ w ρ (w.setRow g cs) :=
  ⟨⟨by simp [World.setRow], (setRow_keep (X := (· = r)) rfl hl).st, fun b _ hb => ⟨hb, setRow_other w g b cs (fun e => by subst e; rw [hl] at hb; cases hb)⟩, rfl, rfl, rfl⟩, fun _ _ h => h, fun _ _ _ h => h⟩
theorem Keep.trans {X : Ref → Prop} {Y : Nat → Nat → Prop} {ρ1 ρ2 ρ3 : Env} {w1 w2 w3 : World} (hs : w1.heap.size ≤ w2.heap.size) (h : Keep X Y ρ1 w1 ρ2 w2) (k : Keep X Y ρ2 w2 ρ3 w3) : Keep X Y ρ1 w1 ρ3 w3 :=
  ⟨fun r v p => k.hdr r v (h.hdr r v p), h.st.trans hs k.st, fun b r hb hl hx => let ⟨a1, a2⟩ := h.own b r hb hl hx; let ⟨b1, b2⟩ := k.own b r (Nat.lt_of_lt_of_le hb hs) a1 hx; ⟨b1, b2.trans a2⟩,
    fun b c g hb hl hy => let ⟨a1, a2⟩ := h.box b c g hb hl hy; let ⟨b1, b2⟩ := k.box b c g (Nat.lt_of_lt_of_le hb hs) a1 hy; ⟨b1, b2.trans a2⟩, fun b g x p => k.ga b g x (h.ga b g x p)⟩
theorem OwnRow.elems {lab : Nat → Lbl} {r : Ref} {e : Ty} {v : Value} {xs : List e.den} (h : OwnRow lab w r e v xs) : ∃ A c olds, v = .slice A xs.length c ∧ xs.length ≤ c ∧ Elems lab w e olds xs ∧
    (∀ j u, olds[j]? = some u → ∃ b, A = some b ∧ w.cell? (b.add j) = some u) := by
  obtain ⟨A, c, hv, hc, row⟩ := h.row
  obtain ⟨olds, h1, h2⟩ := row.flat
  exact ⟨A, c, olds, hv, hc, h1, h2⟩
theorem ev_elemSl {t : Nat} {ed : TD} {st' : St} (T : TtOk C) (h : ev rec (elemSl C t) st = some (ed, st')) : st' = st ∧ ∃ e, C.P.underlying t = some (.slice e) ∧ TdVal C.P e ed := by
  obtain ⟨td, st1, h1, h2⟩ := ev_bind _ _ _ _ h
  obtain ⟨rfl, e1, e2⟩ := ev_tdOf h1
  split at h2
  · rename_i ee hty
    obtain ⟨rfl, f1, f2⟩ := ev_tdOf h2
    exact ⟨rfl, _, (T _ _ e1 e2).slice _ hty, T _ _ f1 f2⟩
  · cases h2
/-- A row with more in place. -/
theorem ownRow_setRow {r : Ref} {e : Ty} {xs ys : List e.den} {g off c : Nat} {cur : Array Value} {ty : Nat} {olds news : List Value} (ho : OwnRow ρ.lab w r e (.slice (some ⟨g, off, none⟩) xs.length c) xs) (hc0 : c ≠ 0)
    (hg : w.heap[g]? = some (.cells cur ty (0, 0))) (hoff : off + c * e.sz ≤ cur.size) (hn : Elems ρ.lab w e news ys) (hfit : xs.length + ys.length ≤ c) :
    OwnRow ρ.lab (w.setRow g (cur.toList.take (off + xs.length * e.sz) ++ news ++ cur.toList.drop (off + xs.length * e.sz + news.length)).toArray) r e (.slice (some ⟨g, off, none⟩) (xs ++ ys).length c) (xs ++ ys) := by
  obtain ⟨A, c', hv, hc, h⟩ := ho
  cases hv
  rcases h with rfl | ⟨blk, off', cells, ty', hA, hl, hb, hsz, hx⟩
  · exact (hc0 rfl).elim
  cases hA
  rw [hg] at hb
  cases hb
  have hle : xs.length * e.sz + ys.length * e.sz ≤ c * e.sz := by rw [← Nat.add_mul]; exact Nat.mul_le_mul_right _ hfit
  have k := (setRow_keep (w := w) (cs := (cur.toList.take (off + xs.length * e.sz) ++ news ++ cur.toList.drop (off + xs.length * e.sz + news.length)).toArray) (X := (· = r)) rfl hl).st
  refine ⟨_, c, rfl, by simpa using hfit, .inr ⟨g, off, _, ty, rfl, hl, setRow_heap w g cur _ ty _ hg, ?_, fun j x hj => ?_⟩⟩
  · simp only [List.size_toArray, List.length_append, List.length_take, List.length_drop, Array.length_toList, hn.1]; omega
  · rw [List.getElem?_append] at hj
    split at hj
    · rename_i hlt
      obtain ⟨cs, r1, r2⟩ := hx j x hj
      refine ⟨cs, r1.mono k, fun i u hu => ?_⟩
      have hi : i < e.sz := by rw [← r1.len]; exact (List.getElem?_eq_some_iff.1 hu).1
      have hb2 : j * e.sz + i < xs.length * e.sz := by
        have : (j + 1) * e.sz ≤ xs.length * e.sz := Nat.mul_le_mul_right _ hlt
        rw [Nat.add_mul] at this; omega
      have := r2 i u hu
      rw [List.getElem?_toArray, List.append_assoc, List.getElem?_append_left (by simp only [List.length_take, Array.length_toList]; omega), List.getElem?_take, if_pos (by omega)]
      simpa using this
    · rename_i hge
      obtain ⟨cs, r1, r2⟩ := hn.2 _ x hj
      refine ⟨cs, r1.mono k, fun i u hu => ?_⟩
      have := r2 i u hu
      have hb2 := (List.getElem?_eq_some_iff.1 this).1
      have e1 : off + (j * e.sz + i) = off + xs.length * e.sz + ((j - xs.length) * e.sz + i) := by
        have : xs.length * e.sz ≤ j * e.sz := Nat.mul_le_mul_right _ (by omega)
        rw [Nat.sub_mul]; omega
      rw [List.getElem?_toArray, List.append_assoc, List.getElem?_append_right (by simp only [List.length_take, Array.length_toList]; omega)]
      simp only [List.length_take, Array.length_toList]
      rw [show min (off + xs.length * e.sz) cur.size = off + xs.length * e.sz by omega, e1, Nat.add_sub_cancel_left, List.getElem?_append_left hb2]
      exact this
theorem op_append {o : Oper} {args : Array Operand} {ts : Array TypeId} {st' : St} (T : TtOk C) (ho : o.op = .call { callee := .builtin .append, args, argTypes := ts }) (h : ev rec (execG C o) st = some ((), st')) (S : Sim ρ st a w N) (hd : ∀ x, o.dst = some x → x < N) : OpOk C.P N ρ w st' o a := by
  simp only [execG, ho, builtinG] at h
  unfold appG at h
  split at h
  · rename_i d t t' s x hdst hts hargs
    have hdN := hd d hdst
    cases hb : Nat.beq t t' with
    | false => rw [hb] at h; cases h
    | true =>
      rw [hb] at h
      have : t = t' := Nat.eq_of_beq_eq_true hb
      subst this
      obtain ⟨td, stA, h1, h2⟩ := ev_bind _ _ _ _ h
      obtain ⟨rfl, et, hu, tv⟩ := ev_elemSl T h1
      obtain ⟨l, stB, h3, h4⟩ := ev_bind _ _ _ _ h2
      obtain ⟨rfl, hn1, hl1⟩ := ev_opd1 h3 S
      obtain ⟨m, stC, h5, h6⟩ := ev_bind _ _ _ _ h4
      obtain ⟨rfl, hn2, hl2⟩ := ev_opd1 h5 S
      unfold appendG at h6
      obtain ⟨y, stD, h7, h8⟩ := ev_bind _ _ _ _ h6
      obtain ⟨rfl, vr⟩ := ev_valRow h7 S hl2
      obtain ⟨ys, stE, h9, h10⟩ := ev_bind _ _ _ _ h8
      obtain ⟨ys', hys, e4⟩ := ev_opt h9
      cases e4
      obtain ⟨sv, stF, h11, h12⟩ := ev_bind _ _ _ _ h10
      obtain ⟨rfl, ok⟩ := ev_slv h11 S hl1
      obtain ⟨xs, stG, h13, h14⟩ := ev_bind _ _ _ _ h12
      obtain ⟨S1, r, ho1, hloose⟩ := ev_appBase h13 S ok
      rcases ev_ite h14 with ⟨cnd, h15⟩ | ⟨cnd, h15⟩
      · obtain ⟨g, a0, hs, e5⟩ := ev_put h15
        cases e5
        have hB : ∃ B cb, a.eval x = .slice B ys.length cb ∧ RowAt ρ.lab w td.ty B ys := by
          obtain ⟨t0, x0⟩ := y
          obtain ⟨he, hxe⟩ := cast_some hys
          dsimp only at he
          subst he
          subst hxe
          exact vr _ _ rfl
        obtain ⟨B, cb, hx, rowB⟩ := hB
        obtain ⟨news, en, hnews⟩ := rowB.flat
        obtain ⟨A, c, olds, hv, hc, eo, hold⟩ := ho1.elems
        obtain ⟨i, z, i1, i2, i3, i4, i5⟩ := tv.info
        have hz : z.cells.size = i.size := by
          rw [i2, ← Array.length_toList, i5]
          exact zeroCells_len tv.flat
        have cnd' := appOk_of cnd
        unfold vLen at cnd'
        have hbytes : (xs.length + ys.length) * i.bytes ≤ 140737488355328 := by
          rw [i3]
          have : (((xs.length + ys.length) * td.bytes : Nat) : Int) ≤ 140737488351232 := by rw [Int.natCast_mul, Int.natCast_add]; exact cnd'
          omega
        have h63 : xs.length + ys.length ≤ 9223372036854775807 := by
          have := tv.bytes
          have h2 : xs.length + ys.length ≤ (xs.length + ys.length) * i.bytes := Nat.le_mul_of_pos_right _ (by rw [i3]; exact this)
          omega
        have hblk : c ≠ 0 → ∃ g off cur ht', A = some ⟨g, off, none⟩ ∧ w.heap[g]? = some (.cells cur ht' (0, 0)) ∧ off + c * i.size ≤ cur.size := by
          intro hc0
          obtain ⟨A', c', hv', hc', hrow⟩ := ho1
          rw [hv] at hv'
          cases hv'
          rcases hrow with rfl | ⟨blk, off, cells, ty, hA, hl, hb, hsz, _⟩
          · exact (hc0 rfl).elim
          · exact ⟨blk, off, cells, ty, hA, hb, by rw [i2]; exact hsz⟩
        have hrun : ∀ {v w'}, (Builtin.append_ #[t, t] o.type #[.slice A xs.length c, .slice B ys.length cb]).run C.P w = .ok v w' → (execOp a.eval o).run C.P w = .ok (.value v) w' := by
          intro v w' hr
          refine run_callBuiltin ho ?_ (.inr (.inl rfl))
          have q1 : ts = #[t, t] := by rw [← Array.toArray_toList (xs := ts), hts]
          have q2 : args = #[s, x] := by rw [← Array.toArray_toList (xs := args), hargs]
          rw [q1, q2]
          simpa [hv, hx] using hr
        have hxy : (xs ++ ys).length = xs.length + ys.length := List.length_append
        rcases run_app t o.type et i z hu i1 i4 hz A B xs.length c ys.length cb olds news (by rw [eo.1, i2]) hold (by rw [en.1, i2]) hnews en.one1 hc h63 hbytes hblk with ⟨hfit, w', hr, hw'⟩ | ⟨cap, w', hcap, hr, hw'⟩
        · rw [← hxy] at hr
          have hown : ∃ w0, w' = w0 ∧ OwnRow ρ.lab w' r td.ty (.slice A (xs ++ ys).length c) (xs ++ ys) ∧ Keep (· = r) (fun _ _ => False) ρ w ρ w' ∧ Still ρ w ρ w' := by
            rcases hw' with ⟨h0, rfl⟩ | ⟨g2, off, cur, ty', rfl, hg, hoff, rfl⟩
            · have hpos : 0 < i.size := by
                rw [i2]
                have := tv.flat
                cases hty : td.ty <;> rw [hty] at this <;> first | (simp [Ty.sz]; done) | (simp [Ty.flat] at this)
              have : ys.length = 0 := by
                rcases Nat.mul_eq_zero.1 h0 with h | h
                · exact h
                · omega
              have : ys = [] := List.eq_nil_of_length_eq_zero this
              subst this
              rw [List.append_nil, ← hv]
              exact ⟨_, rfl, ho1, .refl _ _ _ _, .refl _ _⟩
            · by_cases hc0 : c = 0
              · subst hc0
                have hx0 : xs = [] := List.eq_nil_of_length_eq_zero (by omega)
                have hy0 : ys = [] := List.eq_nil_of_length_eq_zero (by omega)
                subst hx0; subst hy0
                have hn0 : news = [] := List.eq_nil_of_length_eq_zero (by rw [en.1]; simp)
                subst hn0
                have : w.setRow g2 (cur.toList.take (off + 0 * i.size) ++ [] ++ cur.toList.drop (off + 0 * i.size + ([] : List Value).length)).toArray = w := by
                  simp only [List.append_nil, List.length_nil, Nat.add_zero, List.take_append_drop, Array.toArray_toList]
                  exact setRow_self w g2 cur ty' (0, 0) hg
                simp only [List.length_nil] at this ⊢
                rw [this]
                refine ⟨_, rfl, ?_, .refl _ _ _ _, .refl _ _⟩
                have := ho1
                rw [hv] at this
                exact this
              · have hl : ρ.lab g2 = .own r := by
                  obtain ⟨A', c', hv', hc', hrow⟩ := ho1
                  rw [hv] at hv'
                  cases hv'
                  rcases hrow with rfl | ⟨blk, off', cells, ty, hA, hl, _⟩
                  · exact (hc0 rfl).elim
                  · cases hA; exact hl
                rw [hv] at ho1
                rw [i2] at hoff ⊢
                exact ⟨_, rfl, ownRow_setRow (olds := olds) ho1 hc0 hg hoff en hfit, setRow_keep rfl hl, setRow_still hl⟩
          obtain ⟨_, _, hown, hkeep, hstill⟩ := hown
          refine .value (hrun hr) (hstill.trans (sh_still (v := .slice A (xs ++ ys).length c) (rl_still ρ r (.own (.tm d (g + 1))) w') (S1.fresh_tm hs) rfl)) ?_
          rw [hdst]
          exact S1.putOwn (X := (· = r)) hdN hs (fun t g av _ h => hloose.1 t g av h) hloose.2 (hkeep.trans hstill.size (rl_keep _ _ _ _)) rfl rfl hown.rename
        · rw [← hxy] at hr
          subst hw'
          have gr := grew_drew_alloc w (.cells (olds.toArray ++ news.toArray ++ Builtin.zeroCells z.cells (cap - (xs.length + ys.length))) et)
          have hnew := ownRow_new (ρ := ρ) (r := .tm d (g + 1)) (c := cap) gr (heap_alloc_new w.drew _) (by rw [hxy]; exact hcap) (by
            simp only [Array.size_append, List.size_toArray, eo.1, en.1, size_zeroCells, hz, i2, ← Nat.add_mul]
            exact Nat.mul_le_mul_right _ (by omega)) (eo.append en) (fun j u hu => by
              rw [Array.getElem?_append_left (by simpa using (List.getElem?_eq_some_iff.1 hu).1)]
              simpa using hu)
          obtain ⟨S2, k2⟩ := S1.putNew hdN hs gr hnew
          refine .value (hrun hr) k2 ?_
          rw [hdst]
          exact S2
      · cases h15
  · cases h
end
end Go.Proofs.Yticifedehhnjhaa.Eng
/- Lengths, least and greatest, closures, made rows, parts of results. -/
namespace Go.Proofs.Yticifedehhnjhaa.Eng
set_option linter.unusedVariables false
set_option linter.unusedSimpArgs false
open Go Go.RowKit
section
variable {C : Cfg} {D : Nat → Sh} {rec : (q : Req) → Option (D q.f).den} {ρ ρ' : Env} {st : St} {a : Act} {w w' : World} {N : Nat}
theorem run_bytes {P : Program} {src e dst : TypeId} (hs : P.underlying src = some (.slice e)) (he : P.underlying e = some (.int .u8)) (hd : P.underlying dst = some .string) {lab : Nat → Lbl} {A : Option Addr} {c n : Nat} {z : ByteArray}
    (hr : ∃ xs : List Int, n = xs.length ∧ z = sOf xs ∧ RowAt lab w (.int .u8) A xs) : (Go.convert src dst (.slice A n c)).run P w = .ok (.string z) w := by
  obtain ⟨xs, rfl, rfl, hr⟩ := hr
  rw [run_convert_bytes_string w src dst e A _ c hs he hd]
  cases A with
  | none =>
    cases xs with
    | nil => simp [Conv.bytesToString]; rfl
    | cons x r => obtain ⟨ad, h, _⟩ := hr 0 x rfl; cases h
  | some a =>
    have hl : (loadCells a xs.length).run P w = .ok (xs.map (Value.int .u8)).toArray w := by
      have := run_loadCells_list (P := P) (w := w) a (xs.map (Value.int .u8)) (fun j v hj => by
        rw [List.getElem?_map, Option.map_eq_some_iff] at hj
        obtain ⟨x, hx, rfl⟩ := hj
        obtain ⟨ad, h, cells, h1, h2⟩ := hr j x hx
        cases h
        have h1 : cells = [.int .u8 x] := h1
        subst h1
        simpa [Ty.sz] using h2 0 _ rfl)
      simpa using this
    rw [run_bytesToString w a _ c xs hl, foldl_push_bytes]
    simp [sOf, ByteArray.empty, ByteArray.emptyWithCapacity]; rfl
theorem ev_sBytes {s : Nat} {l : Leaf} {z : ByteArray} {st' : St} {val : Value} (T : TtOk C) (h : ev rec (sBytes C s l) st = some (z, st')) (S : Sim ρ st a w N) (hl : ∀ r, RepLeaf ρ w r l val) :
    st' = st ∧ ∃ e, C.P.underlying s = some (.slice e) ∧ C.P.underlying e = some (.int .u8) ∧ ∃ A n c, val = .slice A n c ∧ ∃ xs : List Int, n = xs.length ∧ z = sOf xs ∧ RowAt ρ.lab w (.int .u8) A xs := by
  obtain ⟨ed, s1, h1, h2⟩ := ev_bind _ _ _ _ h
  obtain ⟨rfl, e, hu, tv⟩ := ev_elemSl T h1
  split at h2
  · rename_i hty
    obtain ⟨y, s2, h3, h4⟩ := ev_bind _ _ _ _ h2
    obtain ⟨rfl, hv⟩ := ev_valRow h3 S hl
    obtain ⟨xs, s3, h5, h6⟩ := ev_bind _ _ _ _ h4
    obtain ⟨xs', hx, e5⟩ := ev_opt h5
    cases e5
    cases ev_ret h6
    obtain ⟨yt, yx⟩ := y
    obtain ⟨e6, e7⟩ := cast_some hx
    dsimp only at e6
    subst e6
    subst e7
    obtain ⟨A, c, q1, q2⟩ := hv _ _ rfl
    exact ⟨rfl, e, hu, tv.int _ hty, A, _, c, q1, _, rfl, rfl, q2⟩
  · cases h2
theorem op_convert {o : Oper} {s t : TypeId} {x : Operand} {st' : St} (T : TtOk C) (ho : o.op = .convert s t x) (h : ev rec (execG C o) st = some ((), st')) (S : Sim ρ st a w N) (hd : ∀ x, o.dst = some x → x < N) : OpOk C.P N ρ w st' o a := by
  simp only [execG, ho] at h
  obtain ⟨sd, st1, h1, h2⟩ := ev_bind _ _ _ _ h
  obtain ⟨rfl, s1, s2⟩ := ev_tdOf h1
  obtain ⟨td, st1, h3, h4⟩ := ev_bind _ _ _ _ h2
  obtain ⟨rfl, e1, e2⟩ := ev_tdOf h3
  obtain ⟨l, st1, h5, h6⟩ := ev_bind _ _ _ _ h4
  obtain ⟨rfl, hno, hl⟩ := ev_opd1 h5 S
  have hl0 := hl (.tm 0 0)
  obtain ⟨ds, sd1, sd2⟩ := (T _ _ s1 s2).desc
  have tv := T _ _ e1 e2
  split at h6
  · rename_i hty
    have hu := tv.int _ hty
    simp only [RepLeaf, RepTy, List.cons.injEq, and_true] at hl0
    refine op_leaf h6 S hd (v := .int _ (wConv _ _)) ?_ rfl (fun _ => rfl)
    unfold execOp
    simp only [ho, Go.convert, Sem.run_bind, run_underlying sd1, run_underlying hu, Result.andThen_ok, hl0]
    cases ds <;> rfl
  · rename_i hty
    have hu := tv.str hty
    simp only [RepLeaf, RepTy, List.cons.injEq, and_true] at hl0
    refine op_leaf h6 S hd (v := .string _) ?_ rfl (fun _ => rfl)
    unfold execOp
    simp only [ho, Go.convert, Sem.run_bind, run_underlying sd1, run_underlying hu, Result.andThen_ok, hl0]
    cases ds <;> rfl
  · rename_i hty hne
    have hu := tv.str hty
    obtain ⟨z, st5, h7, h8⟩ := ev_bind _ _ _ _ h6
    obtain ⟨rfl, e, hse, hee, A, n, c, hA, hrow⟩ := ev_sBytes T h7 S hl
    refine op_leaf h8 S hd (v := .string z) ?_ rfl (fun _ => rfl)
    unfold execOp
    simp only [ho, Sem.run_bind, hA, run_bytes hse hee hu hrow, Result.andThen_ok]; rfl
  · cases h6
theorem run_lenStr {P : Program} {t ty : Nat} {s : ByteArray} (hu : P.underlying t = some .string) : (Builtin.len_ #[t] ty #[.string s]).run P w = .ok (.int .i64 (sLen s)) w := by
  simp [Builtin.len_, run_underlying hu, goInt, sLen]
theorem run_lenSl {P : Program} {t e ty : Nat} {A : Option Addr} {n c : Nat} (hu : P.underlying t = some (.slice e)) : (Builtin.len_ #[t] ty #[.slice A n c]).run P w = .ok (.int .i64 (n : Int)) w := by
  simp [Builtin.len_, run_underlying hu, goInt]
theorem op_len {o : Oper} {args : Array Operand} {ts : Array TypeId} {st' : St} (T : TtOk C) (ho : o.op = .call { callee := .builtin .len, args, argTypes := ts }) (h : ev rec (execG C o) st = some ((), st')) (S : Sim ρ st a w N) (hd : ∀ x, o.dst = some x → x < N) : OpOk C.P N ρ w st' o a := by
  simp only [execG, ho, builtinG] at h
  unfold lenG at h
  split at h
  · rename_i t x hts hargs
    have q1 : ts = #[t] := by rw [← Array.toArray_toList (xs := ts), hts]
    have q2 : args = #[x] := by rw [← Array.toArray_toList (xs := args), hargs]
    obtain ⟨td, st1, h1, h2⟩ := ev_bind _ _ _ _ h
    obtain ⟨rfl, e1, e2⟩ := ev_tdOf h1
    have tv := T _ _ e1 e2
    obtain ⟨l, st2, h3, h4⟩ := ev_bind _ _ _ _ h2
    obtain ⟨rfl, hn, hl⟩ := ev_opd1 h3 S
    have run : ∀ {v}, (Builtin.len_ #[t] o.type #[a.eval x]).run C.P w = .ok v w → (execOp a.eval o).run C.P w = .ok (.value v) w := fun hr => by
      refine run_callBuiltin ho ?_ (.inl rfl)
      rw [q1, q2]; simpa using hr
    split at h4
    · rename_i s hty
      have hl0 := hl (.tm 0 0)
      simp only [RepLeaf, RepTy, List.cons.injEq, and_true] at hl0
      exact op_leaf h4 S hd (run (by rw [hl0]; exact run_lenStr (tv.str hty))) rfl (fun _ => rfl)
    · rename_i ee l' hty
      have hu := tv.slice _ hty
      obtain ⟨sv, st3, h5, h6⟩ := ev_bind _ _ _ _ h4
      obtain ⟨rfl, ok⟩ := ev_slv h5 S hl
      split at h6
      · obtain ⟨A, c, q, _⟩ := ok
        simp at q
        exact op_leaf h6 S hd (run (by rw [q]; exact run_lenSl hu)) rfl (fun _ => rfl)
      · obtain ⟨_, A, c, q, _⟩ := At.rep S ok
        exact op_leaf h6 S hd (run (by rw [q]; exact run_lenSl hu)) rfl (fun _ => rfl)
      · obtain ⟨V, hat, A, n, c, q, z0, z1, z2, z3, A', z4, z5⟩ := ok
        exact op_leaf h6 S hd (run (by rw [z4]; exact run_lenSl hu)) rfl (fun _ => by unfold vSub; rw [Int.toNat_of_nonneg (by omega)]; rfl)
      · have q : a.eval x = .slice none 0 0 := ok
        exact op_leaf h6 S hd (run (by rw [q]; exact run_lenSl hu)) rfl (fun _ => rfl)
    · cases h4
  · cases h
theorem mm_run (op : BinOp) (f : Value → Value → Sem Value) (hf : ∀ (k k' : IntKind) (x y : Int), f (.int k x) (.int k' y) = pure (.int k (mmV op x y))) :
    ∀ (ls : List Leaf) (l l2 : Leaf) (vs : List Value) (v : Value) {st st' : St} {P : Program}, ev rec (mmG op l ls) st = some (l2, st') → (∀ r, RepLeaf ρ w r l v) → l.isOwn = false → ls.length = vs.length → (∀ (i : Nat) m u, ls[i]? = some m → vs[i]? = some u → ∀ r, RepLeaf ρ w r m u) →
      st' = st ∧ l2.isOwn = false ∧ ∃ z, (vs.foldlM f v).run P w = .ok z w ∧ ∀ r, RepLeaf ρ w r l2 z
  | [], l, l2, [], v, st, st', P, h, hl, ho, _, _ => by
    unfold mmG at h
    cases ev_ret h; exact ⟨rfl, ho, v, by simp, hl⟩
  | m :: ls, l, l2, u :: vs, v, st, st', P, h, hl, ho, hlen, hls => by
    unfold mmG at h
    split at h
    · rename_i e; cases e
    · rename_i k i k' j r' e
      cases e
      have hv := hl (.tm 0 0)
      have hu := hls 0 _ u rfl rfl (.tm 0 0)
      simp only [RepLeaf, RepTy, List.cons.injEq, and_true] at hv hu
      obtain ⟨e1, e2, z, hz, hr⟩ := mm_run op f hf ls _ l2 vs (.int k (mmV op i j)) (P := P) h (fun _ => rfl) rfl (by simpa using hlen) (fun i m u a b => hls (i + 1) m u (by simpa using a) (by simpa using b))
      exact ⟨e1, e2, z, by rw [List.foldlM_cons, hv, hu, hf]; simpa using hz, hr⟩
    · cases h
  | [], _, _, _ :: _, _, _, _, _, _, _, _, hlen, _ => by simp at hlen
  | _ :: _, _, _, [], _, _, _, _, _, _, _, hlen, _ => by simp at hlen
def mmF : BinOp → Value → Value → Sem Value | .lss => Builtin.min2 | _ => Builtin.max2
theorem op_mm {o : Oper} {args : Array Operand} {ts : Array TypeId} {st' : St} {b : Builtin} {op : BinOp} (ho : o.op = .call { callee := .builtin b, args, argTypes := ts }) (h : ev rec (mm2G op o.dst args.toList) st = some ((), st')) (S : Sim ρ st a w N) (hd : ∀ x, o.dst = some x → x < N)
    (hb : b = .min ∧ op = .lss ∨ b = .max ∧ op = .gtr) : OpOk C.P N ρ w st' o a := by
  have run : ∀ {v : Value}, (match b with | .min => Builtin.min_ ts o.type (args.map a.eval) | _ => Builtin.max_ ts o.type (args.map a.eval)).run C.P w = .ok v w → (execOp a.eval o).run C.P w = .ok (.value v) w := by
    intro v hr
    rcases hb with ⟨rfl, _⟩ | ⟨rfl, _⟩
    · exact run_callBuiltin ho hr (.inr (.inr (.inl rfl)))
    · exact run_callBuiltin ho hr (.inr (.inr (.inr rfl)))
  have fold : ∀ (x : Operand) (r : List Operand), args.toList = x :: r → ∀ {z : Value}, ((r.map a.eval).foldlM (mmF op) (a.eval x)).run C.P w = .ok z w → (execOp a.eval o).run C.P w = .ok (.value z) w := by
    intro x r e z hz
    have q : args.map a.eval = (a.eval x :: r.map a.eval).toArray := by rw [← Array.toArray_toList (xs := args), e]; simp
    apply run
    rcases hb with ⟨rfl, rfl⟩ | ⟨rfl, rfl⟩
    · rw [q]; simpa [Builtin.min_, mmF] using hz
    · rw [q]; simpa [Builtin.max_, mmF] using hz
  have hf : ∀ (k k' : IntKind) (x y : Int), mmF op (.int k x) (.int k' y) = pure (.int k (mmV op x y)) := by
    intro k k' x y
    rcases hb with ⟨_, rfl⟩ | ⟨_, rfl⟩ <;> rfl
  unfold mm2G at h
  split at h
  · rename_i x y hargs
    obtain ⟨l1, s1, h1, hA⟩ := ev_bind _ _ _ _ h
    obtain ⟨rfl, n1, p1⟩ := ev_opd1 h1 S
    obtain ⟨l2, s2, h2, hB⟩ := ev_bind _ _ _ _ hA
    obtain ⟨rfl, n2, p2⟩ := ev_opd1 h2 S
    obtain ⟨l3, s3, h3, h4⟩ := ev_bind _ _ _ _ hB
    obtain ⟨rfl, n3, z, hz, hr⟩ := mm_run (P := C.P) op (mmF op) hf [l2] l1 l3 [a.eval y] (a.eval x) h3 p1 n1 rfl (fun i m u hi hu => by cases i with
      | zero => simp at hi hu; subst hi; subst hu; exact p2
      | succ i => simp at hi)
    exact op_leaf h4 S hd (fold x [y] hargs (by simpa using hz)) n3 hr
  · rename_i x y u hargs
    obtain ⟨l1, s1, h1, hA⟩ := ev_bind _ _ _ _ h
    obtain ⟨rfl, n1, p1⟩ := ev_opd1 h1 S
    obtain ⟨l2, s2, h2, hB⟩ := ev_bind _ _ _ _ hA
    obtain ⟨rfl, n2, p2⟩ := ev_opd1 h2 S
    obtain ⟨l3, s3, h3, hC⟩ := ev_bind _ _ _ _ hB
    obtain ⟨rfl, n3, p3⟩ := ev_opd1 h3 S
    obtain ⟨l4, s4, h4, h5⟩ := ev_bind _ _ _ _ hC
    obtain ⟨rfl, n4, z, hz, hr⟩ := mm_run (P := C.P) op (mmF op) hf [l2, l3] l1 l4 [a.eval y, a.eval u] (a.eval x) h4 p1 n1 rfl (fun i m u hi hu => by
      match i with
      | 0 => simp at hi hu; subst hi; subst hu; exact p2
      | 1 => simp at hi hu; subst hi; subst hu; exact p3
      | i + 2 => simp at hi)
    exact op_leaf h5 S hd (fold x [y, u] hargs (by simpa using hz)) n4 hr
  · cases h
theorem ev_caps : ∀ {xs : List Operand} {cs : List (Nat × Nat × Nat)} {st st' : St}, ev rec (capsOf xs) st = some (cs, st') → Sim ρ st a w N → st' = st ∧ cs.length = xs.length ∧ ∀ (i : Nat) q x, cs[i]? = some q → xs[i]? = some x → ∃ blk, ρ.ga q.1 q.2.1 = some blk ∧ a.eval x = .pointer (some ⟨blk, q.2.2, none⟩)
  | [], cs, st, st', h, S => by cases ev_ret h; exact ⟨rfl, rfl, fun i q x hi => by simp at hi⟩
  | x :: xs, cs, st, st', h, S => by
    unfold capsOf at h
    obtain ⟨l, s1, h1, h2⟩ := ev_bind _ _ _ _ h
    obtain ⟨rfl, n1, p1⟩ := ev_opd1 h1 S
    split at h2
    · rename_i b g
      obtain ⟨q, s2, h3, h4⟩ := ev_bind _ _ _ _ h2
      cases ev_ret h4
      obtain ⟨rfl, e, hq⟩ := ev_caps h3 S
      refine ⟨rfl, by simp [e], fun i q x hi hx => ?_⟩
      cases i with
      | zero => simp at hi hx; subst hi; subst hx; exact p1 (.tm 0 0)
      | succ i => exact hq i q x (by simpa using hi) (by simpa using hx)
    · cases h2
theorem op_makeFunc {o : Oper} {fn : Fn} {first caps : Array Operand} {st' : St} (ho : o.op = .makeFunc fn first caps) (h : ev rec (execG C o) st = some ((), st')) (S : Sim ρ st a w N) (hd : ∀ x, o.dst = some x → x < N) : OpOk C.P N ρ w st' o a := by
  simp only [execG, ho] at h
  split at h
  · rename_i f hfirst
    have hf : first = #[] := by rw [← Array.toArray_toList (xs := first), hfirst]
    subst hf
    obtain ⟨cs, s1, h1, h2⟩ := ev_bind _ _ _ _ h
    obtain ⟨rfl, e, hq⟩ := ev_caps h1 S
    refine op_leaf h2 S hd (v := .func (.func f) #[] (caps.map a.eval)) (by unfold execOp; simp [ho, Instr.makeFunc]) rfl (fun r => ⟨_, rfl, by simp [e], fun i q u hi hu => ?_⟩)
    rw [Array.getElem?_map] at hu
    obtain ⟨x, hx, rfl⟩ := Option.map_eq_some_iff.1 hu
    exact hq i q x hi (by simpa using hx)
  · cases h
theorem rep_zero1 {lab : Nat → Lbl} : ∀ {t : Ty}, t.leaf = true → RepTy lab w t [zero1 t] t.dflt
  | .int _, _ => rfl
  | .bool, _ => rfl
  | .str, _ => rfl
  | .sl _, _ => ⟨none, 0, rfl, Nat.le_refl _, fun j x h => by simp [Ty.dflt] at h⟩
  | .unit, h => by simp [Ty.leaf] at h
  | .pair _ _, h => by simp [Ty.leaf] at h
theorem rep_zero {lab : Nat → Lbl} : ∀ {t : Ty}, t.flat = true → RepTy lab w t (zeroCells t) t.dflt := by
  intro t
  induction t with
  | pair a b _ ihb => intro h; simp [Ty.flat] at h; exact ⟨_, _, rfl, rep_zero1 h.1, ihb h.2⟩
  | unit => intro h; simp [Ty.flat] at h
  | int k => intro _; exact rep_zero1 rfl
  | bool => intro _; exact rep_zero1 rfl
  | str => intro _; exact rep_zero1 rfl
  | sl e _ => intro _; exact rep_zero1 rfl
theorem elems_rep {lab : Nat → Lbl} {e : Ty} {c : List Value} {x : e.den} (h : RepTy lab w e c x) : ∀ n, Elems lab w e (List.replicate n c).flatten (List.replicate n x)
  | 0 => .nil
  | n + 1 => by
    rw [List.replicate_succ, List.replicate_succ, List.flatten_cons, show x :: List.replicate n x = [x] ++ List.replicate n x from rfl]
    exact (Elems.one h).append (elems_rep h n)
theorem flat_rep {α : Type} (c : List α) {s : Nat} (hs : c.length = s) : ∀ (n j : Nat), j < n * s → (List.replicate n c).flatten[j]? = c[j % s]?
  | 0, j, h => by simp at h
  | n + 1, j, h => by
    rw [List.replicate_succ, List.flatten_cons, List.getElem?_append]
    split
    · rename_i hlt; rw [Nat.mod_eq_of_lt (by omega)]
    · rename_i hge
      rw [flat_rep c hs n (j - c.length) (by rw [Nat.add_mul] at h; omega), hs, Nat.mod_eq_sub_mod (a := j) (by omega)]
theorem makeOk_of {n c : Int} {b : Nat} (h : makeOk n c b = true) : 0 ≤ n ∧ n ≤ c ∧ c * b ≤ 140737488351232 := by
  simp only [makeOk, Bool.and_eq_true] at h
  exact ⟨of_decide_eq_true h.1, of_decide_eq_true h.2.1, bytes_le h.2.2⟩
theorem op_makeSlice {o : Oper} {t : TypeId} {n c : Operand} {st' : St} (T : TtOk C) (ho : o.op = .makeSlice t n c) (h : ev rec (execG C o) st = some ((), st')) (S : Sim ρ st a w N) (hd : ∀ x, o.dst = some x → x < N) : OpOk C.P N ρ w st' o a := by
  simp only [execG, ho] at h
  split at h
  · rename_i d hdst
    have hdN := hd d hdst
    obtain ⟨ed, s1, h1, h2⟩ := ev_bind _ _ _ _ h
    obtain ⟨rfl, et, hu, tv⟩ := ev_elemSl T h1
    obtain ⟨l1, s2, h3, h4⟩ := ev_bind _ _ _ _ h2
    obtain ⟨rfl, n1, p1⟩ := ev_opd1 h3 S
    obtain ⟨l2, s3, h5, h6⟩ := ev_bind _ _ _ _ h4
    obtain ⟨rfl, n2, p2⟩ := ev_opd1 h5 S
    unfold makeG at h6
    split at h6
    · rename_i k1 n0 k2 c0
      have hv1 := p1 (.tm 0 0)
      have hv2 := p2 (.tm 0 0)
      simp only [RepLeaf, RepTy, List.cons.injEq, and_true] at hv1 hv2
      rcases ev_ite h6 with ⟨cnd, h7⟩ | ⟨cnd, h7⟩
      · obtain ⟨m0, m1, m2⟩ := makeOk_of cnd
        obtain ⟨g, a0, hs, e5⟩ := ev_put h7
        cases e5
        obtain ⟨i, z, i1, i2, i3, i4, i5⟩ := tv.info
        have hz : z.cells.size = ed.ty.sz := by rw [← Array.length_toList, i5]; exact zeroCells_len tv.flat
        have hc0 : 0 ≤ c0 := Int.le_trans m0 m1
        have hb1 : (i.bytes : Int) * c0 ≤ 281474976710656 := by rw [i3, Int.mul_comm]; omega
        have hb2 : c0 ≤ 9223372036854775807 := by
          have hbp : (1 : Int) ≤ ed.bytes := by have := tv.bytes; omega
          have h9 : c0 * 1 ≤ c0 * (ed.bytes : Int) := Int.mul_le_mul_of_nonneg_left hbp hc0
          rw [Int.mul_one] at h9
          exact Int.le_trans (show c0 ≤ 140737488351232 from Int.le_trans h9 m2) (show (140737488351232 : Int) ≤ 9223372036854775807 by decide)
        have hr := run_make (P := C.P) w t et i z hu i1 i4 k1 k2 n0 c0 m0 m1 hb1 hb2
        have gr := grew_alloc w (.cells (madeCells z.cells (c0.toNat * i.size)) et)
        have hlen : (vRep n0 ed.ty.dflt).length = n0.toNat := by simp [vRep]
        have hel := elems_rep (lab := ρ.lab) (w := w) (rep_zero (lab := ρ.lab) (w := w) tv.flat) n0.toNat
        have hnew := ownRow_new (ρ := ρ) (r := .tm d (g + 1)) (e := ed.ty) (xs := vRep n0 ed.ty.dflt) (c := c0.toNat) gr (heap_alloc_new w _) (by rw [hlen]; omega) (by rw [size_madeCells, i2]; exact Nat.le_refl _) hel (fun j u hu => ?_)
        · rw [hlen] at hnew
          obtain ⟨S2, k2⟩ := S.putNew hdN hs gr hnew
          refine .value (by unfold execOp; simp only [ho, hv1, hv2, Sem.run_bind, hr, Result.andThen_ok]; rfl) k2 ?_
          rw [hdst]
          exact S2
        · have hj := (List.getElem?_eq_some_iff.1 hu).1
          have hfl : (List.replicate n0.toNat (zeroCells ed.ty)).flatten.length = n0.toNat * ed.ty.sz := by rw [hel.1]; simp
          rw [hfl] at hj
          have hsz : 0 < ed.ty.sz := by
            cases hq : ed.ty.sz with
            | zero => rw [hq] at hj; omega
            | succ q => omega
          have hlt : j < c0.toNat * i.size := by
            rw [i2]
            exact Nat.lt_of_lt_of_le hj (Nat.mul_le_mul_right _ (by omega))
          have hjm : j % ed.ty.sz < ed.ty.sz := Nat.mod_lt _ hsz
          have hzl := zeroCells_len tv.flat
          have : (zeroCells ed.ty)[j % ed.ty.sz]? = some u := by
            rw [← hu]
            exact (flat_rep (zeroCells ed.ty) hzl n0.toNat j (by rw [hfl] at *; exact hj)).symm
          simp only [madeCells, Array.getElem?_map, Array.getElem?_range, hlt, if_true, Option.map_some, hz]
          rw [← i5, Array.getElem?_toList] at this
          rw [getElem!_pos z.cells _ (by rw [hz]; exact hjm)]
          rw [← this]
          simp [hz, hjm]
      · cases h7
    · cases h6
  · cases h
end
end Go.Proofs.Yticifedehhnjhaa.Eng
/- Parts of results; boxes; records and rows that are built; stores. -/
namespace Go.Proofs.Yticifedehhnjhaa.Eng
set_option linter.unusedVariables false
set_option linter.unusedSimpArgs false
open Go Go.RowKit
section
variable {C : Cfg} {D : Nat → Sh} {rec : (q : Req) → Option (D q.f).den} {ρ ρ' : Env} {st : St} {a : Act} {w w' : World} {N : Nat}
/-- A row is taken out of a result of several values. -/
theorem Sim.loosenTup (S : Sim ρ st a w N) {t g i : Nat} {cs : List (Bool × List Leaf)} {e : Ty} {xs : List e.den} (hs : st (.tm t) = .tm g (.tup cs)) (hi : cs[i]? = some (false, [.own e xs])) :
    ∃ vs : Array Value, a.tmps.getD t undef = .tuple vs ∧ ∃ v, vs[i]? = some v ∧ Sim ρ (upd st (.tm t) (.tm g (.tup (cs.set i (false, [.undef]))))) a w N ∧ OwnRow ρ.lab w (.tp t g i) e v xs ∧
      Loose (upd st (.tm t) (.tm g (.tup (cs.set i (false, [.undef]))))) (.tp t g i) := by
  obtain ⟨g', av, e1, r, c⟩ := S.tm t
  rw [hs] at e1; cases e1
  have hilt : i < cs.length := (List.getElem?_eq_some_iff.1 hi).1
  rcases r with rfl | ⟨vs, hv, hsz, hr⟩
  · simp at hilt
  obtain ⟨v, hvi⟩ : ∃ v, vs[i]? = some v := ⟨_, Array.getElem?_eq_getElem (by omega)⟩
  have hri := hr i _ v hi hvi
  obtain ⟨hh, ho⟩ : RepLeaf ρ w (.tp t g i) (.own e xs) v := hri
  obtain ⟨A, n, hsl⟩ := ho.slice
  refine ⟨vs, hv, v, hvi, ?_, ho, ?_, ?_⟩
  · refine S.step (X := fun _ => False) (Y := fun _ _ => False) (Keep.refl _ _ _ _) S.size S.defers (· = t) (fun _ => False) (fun t' ht => ?_) (fun t' ht => ?_) (fun b _ => ?_) (fun b hb => hb.elim) (fun r v hv => .inl hv) (fun _ _ _ h => .inl h)
    · exact ⟨upd_ne _ _ (by simpa using ht), rfl, fun g av _ => KeepsT.of id (fun _ => id) _⟩
    · subst ht
      refine ⟨g, g, _, _, hs, upd_same _ _ _, Nat.le_refl _, .inr ⟨vs, hv, by simpa using hsz, fun k c u hk hu => ?_⟩, c⟩
      rw [List.getElem?_set] at hk
      split at hk
      · rename_i e2; subst e2
        try rw [if_pos hilt] at hk
        cases hk
        rw [hvi] at hu; cases hu
        show RepLeaf ρ w (.tp t' g i) .undef _
        rw [hsl]; exact slice_undef _
      · exact hr k c u hk hu
    · exact ⟨upd_ne _ _ (by simp), fun _ _ _ => ⟨id, fun _ _ _ _ => .inl id⟩⟩
  · intro t' g' av ht'
    by_cases e2 : t' = t
    · subst e2
      rw [upd_same] at ht'
      cases ht'
      intro k c hk
      rw [List.getElem?_set] at hk
      split at hk
      · rename_i e3; subst e3
        try rw [if_pos hilt] at hk
        cases hk
        exact .inr (fun l hl => by simp at hl; subst hl; rfl)
      · rename_i e3; exact .inl (fun q => by cases q; exact e3 rfl)
    · exact KeepsT.of (fun q => by cases q) (fun k q => by cases q; exact e2 rfl) _
  · exact fun b g ls _ i lg l _ => .inl (fun q => by cases q)
theorem op_extract {o : Oper} {t i : Nat} {st' : St} (ho : o.op = .extract (.tmp t) i) (h : ev rec (execG C o) st = some ((), st')) (S : Sim ρ st a w N) (hd : ∀ x, o.dst = some x → x < N) : OpOk C.P N ρ w st' o a := by
  simp only [execG, ho] at h
  obtain ⟨g, av, hs, h⟩ := ev_getTm h
  unfold extractG at h
  split at h
  · rename_i cs
    have run : ∀ {vs : Array Value} {v : Value}, a.tmps.getD t undef = .tuple vs → vs[i]? = some v → (execOp a.eval o).run C.P w = .ok (.value v) w := by
      intro vs v h1 h2
      unfold execOp
      have : a.eval (.tmp t) = .tuple vs := h1
      simp [ho, Instr.extract, this, h2]
    split at h
    · rename_i e xs hi
      split at h
      · rename_i d hdst
        have hdN := hd d hdst
        obtain ⟨_, s1, h1, h2⟩ := ev_bind _ _ _ _ h
        simp only [ev] at h1
        cases h1
        obtain ⟨vs, hv, v, hvi, S1, hown, hloose⟩ := S.loosenTup hs hi
        obtain ⟨gd, a0, hsd, e2⟩ := ev_put h2
        cases e2
        obtain ⟨S2, k2⟩ := S1.take hown hloose hdN hsd
        refine .value (run hv hvi) k2 ?_
        rw [hdst]; exact S2
      · cases h
    · rename_i ag ls hne hi
      obtain ⟨g', av', e1, r, c⟩ := S.tm t
      rw [hs] at e1; cases e1
      rcases r with rfl | ⟨vs, hv, hsz, hr⟩
      · simp at hi
      obtain ⟨v, hvi⟩ : ∃ v, vs[i]? = some v := ⟨_, Array.getElem?_eq_getElem (by rw [hsz]; exact (List.getElem?_eq_some_iff.1 hi).1)⟩
      have hri := hr i _ v hi hvi
      have hno := RepCV.noown hri hne
      exact .value (run hv hvi) (.refl _ _) (ev_putO h S hd ⟨hno, fun r => RepCV.any hno hri r⟩ (fun _ => by simp))
    · cases h
  · cases h
/-- The rows of one result of several values bear the names of another. -/
noncomputable def Env.tu (ρ : Env) (s g d g' : Nat) : Env :=
  { lab := fun b => match ρ.lab b with | .own (.tp t x i) => (if t = s ∧ x = g then .own (.tp d g' i) else .own (.tp t x i)) | l => l
    hdr := fun q => match q with | .tp t x i => (if t = d ∧ x = g' then ρ.hdr (.tp s g i) else ρ.hdr (.tp t x i)) | q => ρ.hdr q
    ga := ρ.ga }
theorem tu_ne {s g d g' b : Nat} (h : ∀ i, ρ.lab b ≠ .own (.tp s g i)) : (ρ.tu s g d g').lab b = ρ.lab b := by
  simp only [Env.tu]
  split
  · rename_i t x i e
    rw [if_neg (fun q => by obtain ⟨rfl, rfl⟩ := q; exact h i e), e]
  · rfl
theorem tu_own {s g d g' b i : Nat} (h : ρ.lab b = .own (.tp s g i)) : (ρ.tu s g d g').lab b = .own (.tp d g' i) := by
  simp [Env.tu, h]
theorem Sim.moveTup (S : Sim ρ st a w N) {s g d gd : Nat} {cs : List (Bool × List Leaf)} {a0 : AV} (hs : st (.tm s) = .tm g (.tup cs)) (hcs : cs ≠ []) (hne : s ≠ d) (hd : d < N) (hds : st (.tm d) = .tm gd a0) :
    Still ρ w (ρ.tu s g d (gd + 1)) w ∧ Sim (ρ.tu s g d (gd + 1)) (upd (upd st (.tm s) (.tm g (.cv false [.undef]))) (.tm d) (.tm (gd + 1) (.tup cs))) (a.put (some d) (a.tmps.getD s undef)) w N := by
  have fresh : ∀ i, ρ.hdr (.tp d (gd + 1) i) = none := fun i => by
    cases h : ρ.hdr (.tp d (gd + 1) i) with
    | none => rfl
    | some v =>
      obtain ⟨g', av, e, le⟩ := S.htp _ _ _ _ h
      rw [hds] at e; cases e; omega
  have hmono : ∀ r v, ρ.hdr r = some v → (ρ.tu s g d (gd + 1)).hdr r = some v := fun r v hv => by
    simp only [Env.tu]
    split
    · rename_i t x i
      rw [if_neg]; exact hv
      rintro ⟨rfl, rfl⟩; rw [fresh] at hv; cases hv
    · exact hv
  have k : Keep (fun r => ∃ i, r = .tp s g i) (fun _ _ => False) ρ w (ρ.tu s g d (gd + 1)) w :=
    ⟨hmono, fun b _ hb => ⟨by rw [tu_ne (fun i => by rw [hb]; simp)]; exact hb, rfl⟩, fun b r _ hb hx => ⟨by rw [tu_ne (fun i e => hx ⟨i, by rw [hb] at e; cases e; rfl⟩)]; exact hb, rfl⟩,
      fun b _ _ _ hb _ => ⟨by rw [tu_ne (fun i => by rw [hb]; simp)]; exact hb, rfl⟩, fun _ _ _ h => h⟩
  have stl : Still ρ w (ρ.tu s g d (gd + 1)) w := ⟨⟨Nat.le_refl _, k.st, fun b _ hb => ⟨by rw [tu_ne (fun i => by rw [hb]; simp)]; exact hb, rfl⟩, rfl, rfl, rfl⟩, hmono, fun _ _ _ h => h⟩
  refine ⟨stl, ?_⟩
  obtain ⟨g', av, e1, r, c⟩ := S.tm s
  rw [hs] at e1; cases e1
  obtain ⟨vs, hv, hsz, hr⟩ := r.resolve_left hcs
  have hput : ∀ t, (a.put (some d) (a.tmps.getD s undef)).tmps.getD t undef = if t = d then a.tmps.getD s undef else a.tmps.getD t undef := fun t => Act.getD_put _ (Nat.lt_of_lt_of_le hd S.size) t
  refine S.step k (by simp [Act.put]; exact S.size) S.defers (fun t => t = s ∨ t = d) (fun _ => False) (fun t ht => ?_) (fun t ht => ?_) (fun b _ => ?_) (fun b hb => hb.elim) (fun r u hu => ?_) (fun _ _ _ h => .inl h)
  · have h1 : t ≠ s := fun e => ht (.inl e)
    have h2 : t ≠ d := fun e => ht (.inr e)
    refine ⟨by rw [upd_ne _ _ (by simpa using h2), upd_ne _ _ (by simpa using h1)], by rw [hput, if_neg h2], fun g1 av _ => ?_⟩
    cases av with
    | cv _ _ => exact .inl (fun ⟨i, e⟩ => by cases e)
    | tup _ => exact fun i c _ => .inl (fun ⟨j, e⟩ => by cases e; exact h1 rfl)
  · by_cases h2 : t = d
    · subst h2
      refine ⟨gd, gd + 1, a0, _, hds, upd_same _ _ _, Nat.le_succ _, ?_, fun v hv' => ?_⟩
      · rw [hput, if_pos rfl]
        refine .inr ⟨vs, hv, hsz, fun i c u hc hu => ?_⟩
        have hri := hr i c u hc hu
        by_cases hown : ∀ l ∈ c.2, l.isOwn = false
        · have := RepCV.any hown hri (.tp t (gd + 1) i)
          cases hcc : c with
          | mk ag ls =>
            rw [hcc] at this hown
            exact RepCV.mono k (.inr hown) this
        · cases hcc : c with
          | mk ag ls =>
            rw [hcc] at hri hown
            cases ag with
            | true =>
              obtain ⟨cs', q1, q2, q3⟩ := hri
              exact (hown (fun l hl => by
                obtain ⟨j, hj, rfl⟩ := List.getElem_of_mem hl
                obtain ⟨u', hu'⟩ : ∃ u', cs'[j]? = some u' := ⟨_, Array.getElem?_eq_getElem (by omega)⟩
                exact (q3 j _ u' (List.getElem?_eq_getElem hj) hu').2)).elim
            | false =>
              match ls, hri, hown with
              | [l], hri, hown =>
                cases l with
                | own e xs =>
                  obtain ⟨q1, q2⟩ : RepLeaf ρ w (.tp s g i) (.own e xs) u := hri
                  refine ⟨?_, ?_⟩
                  · show (ρ.tu s g t (gd + 1)).hdr (.tp t (gd + 1) i) = some u
                    simp [Env.tu, q1]
                  · obtain ⟨A, n, p1, p2, p3⟩ := q2
                    refine ⟨A, n, p1, p2, p3.imp id ?_⟩
                    rintro ⟨blk, off, cells, ty, b1, b2, b3, b4, b5⟩
                    exact ⟨blk, off, cells, ty, b1, tu_own b2, b3, b4, fun j x hj => let ⟨cs, r1, r2⟩ := b5 j x hj; ⟨cs, r1.mono k.st, r2⟩⟩
                | _ => exact (hown (fun l hl => by simp at hl; subst hl; rfl)).elim
              | [], hri, _ => exact hri.elim
              | _ :: _ :: _, hri, _ => exact hri.elim
      · have : ρ.hdr (.tm t (gd + 1)) = some v := hv'
        rw [S.fresh_tm hds] at this; cases this
    · have h1 : t = s := ht.resolve_right h2
      subst h1
      refine ⟨g, g, _, _, hs, by rw [upd_ne _ _ (by simpa using h2), upd_same], Nat.le_refl _, ?_, fun v hv' => ?_⟩
      · rw [hput, if_neg h2, hv]
        exact ⟨fun b => by simp, rfl⟩
      · rw [hput, if_neg h2]; exact c v hv'
  · exact ⟨by rw [upd_ne _ _ (by simp), upd_ne _ _ (by simp)], fun _ _ _ => ⟨id, fun _ _ _ _ => .inl (fun ⟨i, e⟩ => by cases e)⟩⟩
  · simp only [Env.tu] at hu
    split at hu
    · rename_i t x i
      split at hu
      · rename_i e; obtain ⟨rfl, rfl⟩ := e
        exact .inr ⟨⟨_, _, upd_same _ _ _, Nat.le_refl _⟩, .inr rfl⟩
      · exact .inl hu
    · exact .inl hu
theorem op_move {o : Oper} {x : Operand} {st' : St} (ho : o.op = .move x) (h : ev rec (execG C o) st = some ((), st')) (S : Sim ρ st a w N) (hd : ∀ x, o.dst = some x → x < N) : OpOk C.P N ρ w st' o a := by
  simp only [execG, ho] at h
  unfold moveOp at h
  split at h
  · rename_i s
    obtain ⟨g, av, hs, h⟩ := ev_getTm h
    split at h
    · rename_i cs
      unfold Eng.moveTup at h
      split at h
      · rename_i d hdst
        cases hb : (Nat.beq s d || cs.isEmpty) with
        | true => rw [hb] at h; cases h
        | false =>
          rw [hb] at h
          rw [Bool.or_eq_false_iff] at hb
          have hne : s ≠ d := fun e => by subst e; simp at hb
          have hcs : cs ≠ [] := fun e => by subst e; simp at hb
          obtain ⟨_, s1, h1, h2⟩ := ev_bind _ _ _ _ h
          simp only [ev] at h1
          cases h1
          obtain ⟨gd, a0, hds, e⟩ := ev_put h2
          cases e
          rw [upd_ne _ _ (by simpa using fun e => hne e.symm)] at hds
          obtain ⟨k, S'⟩ := S.moveTup hs hcs hne (hd d hdst) hds
          refine .value (v := a.tmps.getD s undef) (by unfold execOp; rw [ho]; rfl) k ?_
          rw [hdst]; exact S'
      · cases h
    · exact ev_moveCV ho h S hd
  · exact ev_moveCV ho h S hd
/-- A new box. -/
noncomputable def Env.bx (ρ : Env) (d g : Nat) (ls : List Leaf) (cs : Array Value) (w : World) : Env :=
  { lab := (ρ.nb w (.box d (g + 1))).lab
    hdr := fun q => by classical exact if h : ∃ j, q = .bf d (g + 1) j 0 ∧ ∃ l, ls[j]? = some l ∧ l.isOwn = true then cs[Classical.choose h]? else ρ.hdr q
    ga := fun b x => if b = d ∧ x = g + 1 then some w.heap.size else ρ.ga b x }
theorem bx_hdr_old {d g : Nat} {ls : List Leaf} {cs : Array Value} {q : Ref} (h : ∀ j, q ≠ .bf d (g + 1) j 0) : (ρ.bx d g ls cs w).hdr q = ρ.hdr q := by
  simp only [Env.bx]
  rw [dif_neg]
  rintro ⟨j, e, _⟩
  exact h j e
theorem bx_hdr_new {d g j : Nat} {ls : List Leaf} {cs : Array Value} {l : Leaf} (h1 : ls[j]? = some l) (h2 : l.isOwn = true) : (ρ.bx d g ls cs w).hdr (.bf d (g + 1) j 0) = cs[j]? := by
  simp only [Env.bx]
  have hex : ∃ j', Ref.bf d (g + 1) j 0 = .bf d (g + 1) j' 0 ∧ ∃ l, ls[j']? = some l ∧ l.isOwn = true := ⟨j, rfl, l, h1, h2⟩
  rw [dif_pos hex]
  have := (Classical.choose_spec hex).1
  congr 1
  injection this with _ _ e _
  exact e.symm
theorem bx_hdr_some {d g : Nat} {ls : List Leaf} {cs : Array Value} {q : Ref} {v : Value} (h : (ρ.bx d g ls cs w).hdr q = some v) : ρ.hdr q = some v ∨ ∃ j, q = .bf d (g + 1) j 0 ∧ cs[j]? = some v := by
  simp only [Env.bx] at h
  split at h
  · rename_i hex; exact .inr ⟨_, (Classical.choose_spec hex).1, h⟩
  · exact .inl h
theorem Sim.newBox (S : Sim ρ st a w N) {d g : Nat} {old : List (Nat × Leaf)} {ls : List Leaf} {cs : Array Value} {ty : Nat} (hs : st (.bx d) = .bx g old) (gr : Grew w w') (hb : w'.heap[w.heap.size]? = some (.cells cs ty (0, 0))) (hlt : w.heap.size < w'.heap.size)
    (hsz : cs.size = ls.length) (hl : ∀ (i : Nat) l u, ls[i]? = some l → cs[i]? = some u → (l.isOwn = false ∧ ∀ r, RepLeaf ρ w r l u) ∨ ∃ e, l = .own e [] ∧ u = .slice none 0 0) :
    Sim (ρ.bx d g ls cs w) (upd st (.bx d) (.bx (g + 1) (ls.map fun l => (0, l)))) a w' N ∧ Still ρ w (ρ.bx d g ls cs w) w' ∧ (ρ.bx d g ls cs w).ga d (g + 1) = some w.heap.size := by
  have fresh : ∀ j lg, ρ.hdr (.bf d (g + 1) j lg) = none := by
    intro j lg
    cases h : ρ.hdr (.bf d (g + 1) j lg) with
    | none => rfl
    | some v =>
      obtain ⟨g', ls', e, q⟩ := S.hbf _ _ _ _ _ h
      rw [hs] at e; cases e
      rcases q with q | ⟨q, _⟩ <;> omega
  have freshG : ρ.ga d (g + 1) = none := by
    cases h : ρ.ga d (g + 1) with
    | none => rfl
    | some x =>
      obtain ⟨g', ls', e, q⟩ := S.gao _ _ _ h
      rw [hs] at e; cases e
      omega
  have hga : (ρ.bx d g ls cs w).ga d (g + 1) = some w.heap.size := by simp [Env.bx]
  have k0 := nb_keep (ρ := ρ) (fun _ => False) (fun _ _ => False) (.box d (g + 1)) gr
  have hmono : ∀ r v, ρ.hdr r = some v → (ρ.bx d g ls cs w).hdr r = some v := fun r v hv => by
    rw [bx_hdr_old]; exact hv
    intro j e; subst e; rw [fresh] at hv; cases hv
  have gmono : ∀ b x y, ρ.ga b x = some y → (ρ.bx d g ls cs w).ga b x = some y := fun b x y hy => by
    simp only [Env.bx]
    rw [if_neg]; exact hy
    rintro ⟨rfl, rfl⟩; rw [freshG] at hy; cases hy
  have k : Keep (fun _ => False) (fun _ _ => False) ρ w (ρ.bx d g ls cs w) w' := ⟨hmono, k0.st, k0.own, k0.box, gmono⟩
  have s0 := nb_still (ρ := ρ) (.box d (g + 1)) gr
  have s : Still ρ w (ρ.bx d g ls cs w) w' := ⟨⟨s0.size, s0.st, s0.no, s0.os, s0.tape, s0.output⟩, hmono, gmono⟩
  refine ⟨?_, s, hga⟩
  refine S.step k S.size S.defers (fun _ => False) (· = d) (fun t _ => ?_) (fun t ht => ht.elim) (fun b hb' => ?_) (fun b hb' => ?_) (fun r v hv => ?_) (fun b x y hy => ?_)
  · exact ⟨upd_ne _ _ (by simp), rfl, fun _ _ _ => KeepsT.of id (fun _ => id) _⟩
  · exact ⟨upd_ne _ _ (by simpa using hb'), fun _ _ _ => ⟨id, fun _ _ _ _ => .inl id⟩⟩
  · subst hb'
    refine ⟨g, g + 1, old, _, hs, upd_same _ _ _, .inl (Nat.lt_succ_self _), .inr ⟨w.heap.size, cs, ty, hga, hb, nb_at _ _ _, by simp [hsz], fun i lg l u hi hu => ?_⟩, fun o lg l v ho hv => ?_⟩
    · simp only [List.getElem?_map, Option.map_eq_some_iff] at hi
      obtain ⟨l', hl', e⟩ := hi
      cases e
      rcases hl i l u hl' hu with ⟨n1, n2⟩ | ⟨e, rfl, rfl⟩
      · exact (n2 _).still s n1
      · exact ⟨by rw [bx_hdr_new hl' rfl]; exact hu, .none⟩
    · simp only [List.getElem?_map, Option.map_eq_some_iff] at ho
      obtain ⟨l', hl', e⟩ := ho
      cases e
      rcases bx_hdr_some hv with h1 | ⟨j, e, h1⟩
      · rw [fresh] at h1; cases h1
      · cases e; exact ⟨_, cs, ty, hga, hb, h1⟩
  · rcases bx_hdr_some hv with h1 | ⟨j, e, h1⟩
    · exact .inl h1
    · subst e
      refine .inr ⟨⟨g + 1, _, upd_same _ _ _, .inr ⟨rfl, fun _ _ _ => Nat.zero_le _⟩⟩, rfl⟩
  · simp only [Env.bx] at hy
    split at hy
    · rename_i e; obtain ⟨rfl, rfl⟩ := e
      exact .inr ⟨g + 1, _, upd_same _ _ _, Nat.le_refl _⟩
    · exact .inl hy
theorem ev_boxG {d : Nat} {ls : List Leaf} {cs : Array Value} {ty : Nat} {st' : St} (h : ev rec (boxG d ls) st = some ((), st')) (S : Sim ρ st a w N) (hd : d < N) (gr : Grew w w') (hb : w'.heap[w.heap.size]? = some (.cells cs ty (0, 0))) (hlt : w.heap.size < w'.heap.size)
    (hsz : cs.size = ls.length) (hl : ∀ (i : Nat) l u, ls[i]? = some l → cs[i]? = some u → (l.isOwn = false ∧ ∀ r, RepLeaf ρ w r l u) ∨ ∃ e, l = .own e [] ∧ u = .slice none 0 0) :
    ∃ ρ', Still ρ w ρ' w' ∧ Sim ρ' st' (a.put (some d) (.pointer (some ⟨w.heap.size, 0, none⟩))) w' N := by
  obtain ⟨g, old, hs, h⟩ := ev_getBx h
  simp only [ev] at h
  obtain ⟨S1, k1, hga⟩ := S.newBox hs gr hb hlt hsz hl
  exact ⟨_, k1, ev_putAV h S1 hd (.leaf rfl (fun r => ⟨_, hga, rfl⟩)) (fun _ => by simp)⟩
/-- Leaves for a box, one by one. -/
def BoxLs (ρ : Env) (w : World) (ls : List Leaf) (vs : List Value) : Prop := ls.length = vs.length ∧ ∀ (i : Nat) l u, ls[i]? = some l → vs[i]? = some u → (l.isOwn = false ∧ ∀ r, RepLeaf ρ w r l u) ∨ ∃ e, l = .own e [] ∧ u = .slice none 0 0
theorem ev_boxLeaves : ∀ {ts : List Ty} {ls ls' : List Leaf} {vs : List Value} {ρ : Env} {st st' : St}, ev rec (boxLeaves ts ls) st = some (ls', st') → Sim ρ st a w N → RepLs ρ w ls vs → ∃ ρ', Still ρ w ρ' w ∧ Sim ρ' st' a w N ∧ BoxLs ρ' w ls' vs
  | [], [], ls', vs, ρ, st, st', h, S, r => by
    cases ev_ret h
    match vs, r with
    | [], _ => exact ⟨ρ, .refl _ _, S, rfl, fun i l u hi => by simp at hi⟩
  | t :: ts, l :: ls, ls', vs, ρ, st, st', h, S, r => by
    match vs, r with
    | v :: vs, r =>
      unfold boxLeaves at h
      obtain ⟨x, s1, h1, h2⟩ := ev_bind _ _ _ _ h
      obtain ⟨q, s2, h3, h4⟩ := ev_bind _ _ _ _ h2
      cases ev_ret h4
      have hx : ∃ ρ1, Still ρ w ρ1 w ∧ Sim ρ1 s1 a w N ∧ ((x.isOwn = false ∧ ∀ r, RepLeaf ρ1 w r x v) ∨ ∃ e, x = .own e [] ∧ v = .slice none 0 0) := by
        have hl := r.1.2
        unfold boxLeaf at h1
        split at h1
        · split at h1
          · cases ev_ret h1
            exact ⟨ρ, .refl _ _, S, .inr ⟨_, rfl, hl (.tm 0 0)⟩⟩
          · cases h1
        · cases ev_ret h1; exact ⟨ρ, .refl _ _, S, .inl ⟨rfl, hl⟩⟩
        · obtain ⟨y, s3, h5, h6⟩ := ev_bind _ _ _ _ h1
          cases ev_ret h6
          obtain ⟨ρ1, k, S1, hr⟩ := ev_stab h5 S hl
          exact ⟨ρ1, k, S1, .inl ⟨rfl, fun _ => hr⟩⟩
        · obtain ⟨y, s3, h5, h6⟩ := ev_bind _ _ _ _ h1
          cases ev_ret h6
          obtain ⟨ρ1, k, S1, hr⟩ := ev_stab h5 S hl
          exact ⟨ρ1, k, S1, .inl ⟨rfl, fun _ => hr⟩⟩
        · cases ev_ret h1; exact ⟨ρ, .refl _ _, S, .inl ⟨rfl, hl⟩⟩
        · cases ev_ret h1; exact ⟨ρ, .refl _ _, S, .inl ⟨rfl, hl⟩⟩
        · cases h1
      obtain ⟨ρ1, k1, S1, hx⟩ := hx
      obtain ⟨ρ2, k2, S2, e, hq⟩ := ev_boxLeaves h3 S1 (r.2.still k1)
      refine ⟨ρ2, k1.trans k2, S2, by simp [e], fun i l u hi hu => ?_⟩
      cases i with
      | zero =>
        simp at hi hu; subst hi; subst hu
        exact hx.imp (fun ⟨n1, n2⟩ => ⟨n1, fun r => (n2 r).still k2 n1⟩) id
      | succ i => exact hq i l u (by simpa using hi) (by simpa using hu)
  | [], _ :: _, _, _, _, _, _, h, _, _ => by cases h
  | _ :: _, [], _, _, _, _, _, h, _, _ => by cases h
theorem op_box {o : Oper} {e : TypeId} {x : Operand} {st' : St} (ho : o.op = .box e x) (h : ev rec (execG C o) st = some ((), st')) (S : Sim ρ st a w N) (hd : ∀ x, o.dst = some x → x < N) : OpOk C.P N ρ w st' o a := by
  simp only [execG, ho] at h
  split at h
  · rename_i d hdst
    obtain ⟨td, s1, h1, h2⟩ := ev_bind _ _ _ _ h
    obtain ⟨rfl, e1, e2⟩ := ev_tdOf h1
    obtain ⟨av, s2, h3, h4⟩ := ev_bind _ _ _ _ h2
    obtain ⟨rfl, ok⟩ := ev_opd h3 S
    obtain ⟨vs, s3, h5, h6⟩ := ev_bind _ _ _ _ h4
    unfold leavesOf at h5
    split at h5
    · cases ev_ret h5
      obtain ⟨ls, s4, h7, h8⟩ := ev_bind _ _ _ _ h6
      obtain ⟨ρ1, k1, S1, hlen, hq⟩ := ev_boxLeaves h7 S ok.leaves
      obtain ⟨ρ2, k2, S2⟩ := ev_boxG (cs := (a.eval x).cells) (ty := e) h8 S1 (hd d hdst) (grew_alloc w (.cells (a.eval x).cells e)) (heap_alloc_new w _) (by simp) (by simpa using hlen.symm) (fun i l u hi hu => hq i l u hi (by simpa using hu))
      refine .value ?_ (k1.trans k2) (by rw [hdst]; exact S2)
      unfold execOp
      simp [ho, Instr.box, newVar, newRow]
      try rfl
    · cases h5
  · cases h
theorem zeroLs {t : Ty} (ht : t.flat = true) : RepLs ρ w (zeroLeaves t) (zeroCells t) := by
  have one : ∀ {t : Ty}, t.leaf = true → (zeroLeaf t).isOwn = false ∧ ∀ r, RepLeaf ρ w r (zeroLeaf t) (zero1 t) := by
    intro t h
    cases t with
    | sl e => exact ⟨rfl, fun _ => rfl⟩
    | pair => simp [Ty.leaf] at h
    | unit => simp [Ty.leaf] at h
    | _ => exact ⟨rfl, fun _ => rfl⟩
  induction t with
  | pair a b _ ihb =>
    simp [Ty.flat] at ht
    exact ⟨one ht.1, ihb ht.2⟩
  | unit => simp [Ty.flat] at ht
  | _ => exact ⟨one rfl, trivial⟩
theorem op_alloc {o : Oper} {e : TypeId} {st' : St} (T : TtOk C) (ho : o.op = .alloc e) (h : ev rec (execG C o) st = some ((), st')) (S : Sim ρ st a w N) (hd : ∀ x, o.dst = some x → x < N) : OpOk C.P N ρ w st' o a := by
  simp only [execG, ho] at h
  split at h
  · rename_i d hdst
    obtain ⟨td, s1, h1, h2⟩ := ev_bind _ _ _ _ h
    obtain ⟨rfl, e1, e2⟩ := ev_tdOf h1
    have tv := T _ _ e1 e2
    obtain ⟨i, z, i1, i2, i3, i4, i5⟩ := tv.info
    obtain ⟨ls, s4, h7, h8⟩ := ev_bind _ _ _ _ h2
    obtain ⟨ρ1, k1, S1, hlen, hq⟩ := ev_boxLeaves h7 S (zeroLs tv.flat)
    obtain ⟨ρ2, k2, S2⟩ := ev_boxG (cs := z.cells) (ty := e) h8 S1 (hd d hdst) (grew_alloc w (.cells z.cells e)) (heap_alloc_new w _) (by simp) (by rw [hlen, ← i5]; simp) (fun i l u hi hu => hq i l u hi (by rw [← i5]; simpa using hu))
    refine .value ?_ (k1.trans k2) (by rw [hdst]; exact S2)
    unfold execOp
    simp [ho, Instr.alloc, zeroValue, typeInfo, i1, i4, newVar, newRow]
    try rfl
  · cases h
end
end Go.Proofs.Yticifedehhnjhaa.Eng
/- Stores. -/
namespace Go.Proofs.Yticifedehhnjhaa.Eng
set_option linter.unusedVariables false
set_option linter.unusedSimpArgs false
open Go Go.RowKit
section
variable {C : Cfg} {D : Nat → Sh} {rec : (q : Req) → Option (D q.f).den} {ρ ρ' : Env} {st : St} {a : Act} {w w' : World} {N : Nat}
theorem ev_stabs : ∀ {ts : List Ty} {ls : List Leaf} {ys : List SV} {vs : List Value} {ρ : Env} {st st' : St}, ev rec (stabs ts ls) st = some (ys, st') → Sim ρ st a w N → RepLs ρ w ls vs → ∃ ρ', Still ρ w ρ' w ∧ Sim ρ' st' a w N ∧ RepSVs ρ'.lab w ys vs
  | [], [], ys, vs, ρ, st, st', h, S, r => by
    cases ev_ret h
    match vs, r with
    | [], _ => exact ⟨ρ, .refl _ _, S, trivial⟩
  | t :: ts, l :: ls, ys, vs, ρ, st, st', h, S, r => by
    match vs, r with
    | v :: vs, r =>
      unfold stabs at h
      obtain ⟨x, s1, h1, h2⟩ := ev_bind _ _ _ _ h
      obtain ⟨q, s2, h3, h4⟩ := ev_bind _ _ _ _ h2
      cases ev_ret h4
      obtain ⟨ρ1, k1, S1, hx⟩ := ev_stab h1 S r.1.2
      obtain ⟨ρ2, k2, S2, hq⟩ := ev_stabs h3 S1 (r.2.still k1)
      exact ⟨ρ2, k1.trans k2, S2, hx.mono k2.st, hq⟩
  | [], _ :: _, _, _, _, _, _, h, _, _ => by cases h
  | _ :: _, [], _, _, _, _, _, h, _, _ => by cases h
theorem splice_rep {lab : Nat → Lbl} {l r : List SV} {c d : List Value} (h : RepSVs lab w l c) (k : RepSVs lab w r d) (off : Nat) : RepSVs lab w (splice l off r) (splice c off d) := by
  unfold splice
  rw [k.len]
  exact ((h.take off).append k).append (h.drop _)
theorem splice_get {α : Type} {l r : List α} {off i : Nat} (h : off + r.length ≤ l.length) : (splice l off r)[i]? = if i < off then l[i]? else if i < off + r.length then r[i - off]? else l[i]? := by
  unfold splice
  rw [List.append_assoc, List.getElem?_append]
  have hl : (l.take off).length = off := by simp; omega
  rw [hl]
  split
  · rw [List.getElem?_take, if_pos (by assumption)]
  · rw [List.getElem?_append]
    split
    · rw [if_pos (by omega)]
    · rw [if_neg (by omega), List.getElem?_drop]
      congr 1; omega
theorem RepSVs.one1 {lab : Nat → Lbl} : ∀ {l : List SV} {c : List Value}, RepSVs lab w l c → ∀ u ∈ c, u.oneCell' = true
  | [], [], _ => fun u hu => by simp at hu
  | s :: l, v :: c, h => fun u hu => by
    rcases List.mem_cons.1 hu with rfl | hu
    · exact h.1.one1 _ (by simp)
    · exact RepSVs.one1 h.2 u hu
  | [], _ :: _, h => h.elim
  | _ :: _, [], h => h.elim
/-- A row with one element changed in place. -/
theorem ownRow_store {r : Ref} {e : Ty} {xs : List e.den} {blk off0 c i off : Nat} {cur : Array Value} {ty : Nat} {vals : List Value} {ys : List SV} {y : e.den} (ho : OwnRow ρ.lab w r e (.slice (some ⟨blk, off0, none⟩) xs.length c) xs)
    (hg : w.heap[blk]? = some (.cells cur ty (0, 0))) (hl : ρ.lab blk = .own r) (hi : i < xs.length) (hy : toTy e (splice (svOf e xs[i]) off ys) = some y) (hv : RepSVs ρ.lab w ys vals) (hfit : off + vals.length ≤ e.sz) :
    OwnRow ρ.lab (w.setRow blk (cur.toList.take (off0 + i * e.sz + off) ++ vals ++ cur.toList.drop (off0 + i * e.sz + off + vals.length)).toArray) r e (.slice (some ⟨blk, off0, none⟩) xs.length c) (xs.set i y) ∧ off0 + i * e.sz + off + vals.length ≤ cur.size := by
  obtain ⟨A, c', hv', hc, h⟩ := ho
  cases hv'
  rcases h with rfl | ⟨blk', off', cells, ty', hA, hl', hb, hsz, hx⟩
  · omega
  cases hA
  rw [hg] at hb
  cases hb
  have hile : (i + 1) * e.sz ≤ c * e.sz := Nat.mul_le_mul_right _ (by omega)
  rw [Nat.add_mul] at hile
  have hbound : off0 + i * e.sz + off + vals.length ≤ cur.size := by omega
  have k := (setRow_keep (w := w) (cs := (cur.toList.take (off0 + i * e.sz + off) ++ vals ++ cur.toList.drop (off0 + i * e.sz + off + vals.length)).toArray) (X := (· = r)) rfl hl).st
  refine ⟨⟨_, c, by simp, by simpa using hc, .inr ⟨blk, off0, _, ty, rfl, hl, setRow_heap w blk cur _ ty _ hg, ?_, fun j x hj => ?_⟩⟩, hbound⟩
  · simp only [List.size_toArray, List.length_append, List.length_take, List.length_drop, Array.length_toList]; omega
  · have hget : ∀ q : Nat, (cur.toList.take (off0 + i * e.sz + off) ++ vals ++ cur.toList.drop (off0 + i * e.sz + off + vals.length)).toArray[q]? = (splice cur.toList (off0 + i * e.sz + off) vals)[q]? := fun q => by rw [List.getElem?_toArray]; rfl
    rw [List.getElem?_set] at hj
    split at hj
    · rename_i hij; subst hij
      try rw [if_pos hi] at hj
      cases hj
      obtain ⟨cs, r1, r2⟩ := hx i _ (List.getElem?_eq_getElem hi)
      have hrep : RepTy ρ.lab w e (splice cs off vals) y := toTy_rep hy (splice_rep r1.svs hv off)
      refine ⟨_, hrep.mono k, fun q u hu => ?_⟩
      rw [hget, splice_get (by simpa using hbound)]
      rw [splice_get (by rw [r1.len]; exact hfit)] at hu
      split at hu
      · rw [if_pos (by omega)]
        have := r2 q u hu
        rw [show off0 + (i * e.sz + q) = off0 + (i * e.sz + q) from rfl, Array.getElem?_toList]; exact this
      · rw [if_neg (by omega)]
        split at hu
        · rw [if_pos (by omega)]
          rwa [show off0 + (i * e.sz + q) - (off0 + i * e.sz + off) = q - off by omega]
        · rw [if_neg (by omega), Array.getElem?_toList]
          exact r2 q u hu
    · rename_i hij
      obtain ⟨cs, r1, r2⟩ := hx j x hj
      refine ⟨cs, r1.mono k, fun q u hu => ?_⟩
      have hq : q < e.sz := by rw [← r1.len]; exact (List.getElem?_eq_some_iff.1 hu).1
      have := r2 q u hu
      rw [hget, splice_get (by simpa using hbound)]
      rcases Nat.lt_or_gt_of_ne hij with hlt | hgt
      · have h1 : (i + 1) * e.sz ≤ j * e.sz := Nat.mul_le_mul_right _ hlt
        rw [Nat.add_mul] at h1
        rw [if_neg (by omega), if_neg (by omega), Array.getElem?_toList]; exact this
      · have h1 : (j + 1) * e.sz ≤ i * e.sz := Nat.mul_le_mul_right _ hgt
        rw [Nat.add_mul] at h1
        rw [if_pos (by omega), Array.getElem?_toList]; exact this
theorem run_storeVar {P : Program} {t : Nat} {td : TD} (tv : TdVal P t td) {ad : Addr} {v : Value} (hc : v.cells.size = td.ty.sz) {w'} (h : (storeCells ad v.cells.toList).run P w = .ok () w') : (storeVar t ad v).run P w = .ok () w' := by
  simp [storeVar, run_sizeOf tv, hc, h]
theorem RepTy.oneCell {lab : Nat → Lbl} {t : Ty} {v : Value} {x : t.den} (h : RepTy lab w t [v] x) : v.oneCell' = true := h.one1 v (by simp)
theorem run_store1 {P : Program} {blk j : Nat} {cs : Array Value} {ty : Nat} {v : Value} (hb : w.heap[blk]? = some (.cells cs ty (0, 0))) (hj : j < cs.size) (hv : v.oneCell' = true) : (store ⟨blk, j, none⟩ v).run P w = .ok () (w.setCell ⟨blk, j, none⟩ v) := by
  have hc : w.cell? ⟨blk, j, none⟩ = some cs[j] := by simp [World.cell?, hb, hj]
  have hf : w.frozen? ⟨blk, j, none⟩ = false := by simp [World.frozen?, hb]
  cases v <;> first | (simp [Value.oneCell'] at hv; done) | simp [store, Sem.run, hc, hf]
theorem setCell_heap {blk j : Nat} {cs : Array Value} {ty : Nat} {v : Value} (hb : w.heap[blk]? = some (.cells cs ty (0, 0))) : (w.setCell ⟨blk, j, none⟩ v).heap[blk]? = some (.cells (cs.setIfInBounds j v) ty (0, 0)) := by
  have hlt := blk_lt' hb
  simp only [World.setCell, Array.getElem?_modify]
  simp [hb]
theorem setCell_keep {X : Ref → Prop} {Y : Nat → Nat → Prop} {blk j b g : Nat} {v : Value} (hl : ρ.lab blk = .box b g) (hY : Y b g) : Keep X Y ρ w ρ (w.setCell ⟨blk, j, none⟩ v) := by
  have h : ∀ k, k ≠ blk → (w.setCell ⟨blk, j, none⟩ v).heap[k]? = w.heap[k]? := fun k hk => Below.heap_setCell w ⟨blk, j, none⟩ v k hk
  exact ⟨fun _ _ h => h, fun k _ hk => ⟨hk, h k (fun e => by subst e; rw [hl] at hk; cases hk)⟩, fun k q _ hk _ => ⟨hk, h k (fun e => by subst e; rw [hl] at hk; cases hk)⟩,
    fun k c x _ hk hn => ⟨hk, h k (fun e => by subst e; rw [hl] at hk; cases hk; exact hn hY)⟩, fun _ _ _ h => h⟩
theorem setCell_still {blk j b g : Nat} {v : Value} (hl : ρ.lab blk = .box b g) : Still ρ w ρ (w.setCell ⟨blk, j, none⟩ v) := by
  have h : ∀ k, k ≠ blk → (w.setCell ⟨blk, j, none⟩ v).heap[k]? = w.heap[k]? := fun k hk => Below.heap_setCell w ⟨blk, j, none⟩ v k hk
  exact ⟨⟨by simp [World.setCell], fun k _ hk => ⟨hk, h k (fun e => by subst e; rw [hl] at hk; cases hk)⟩, fun k _ hk => ⟨hk, h k (fun e => by subst e; rw [hl] at hk; cases hk)⟩, rfl, rfl, rfl⟩, fun _ _ h => h, fun _ _ _ h => h⟩
theorem Still.setCell (k : Still ρ w ρ' w) {blk j b g : Nat} {v : Value} (hl : ρ'.lab blk = .box b g) : Still ρ w ρ' (w.setCell ⟨blk, j, none⟩ v) := k.trans (setCell_still hl)
/-- A leaf comes to a cell of a box. -/
theorem Sim.setBox {X : Ref → Prop} (S : Sim ρ st a w N) {b g j lg : Nat} {ls : List (Nat × Leaf)} {l0 l : Leaf} {v : Value} {blk : Nat} {cs : Array Value} {ty : Nat} (hs : st (.bx b) = .bx g ls) (hj : ls[j]? = some (lg, l0))
    (hga : ρ.ga b g = some blk) (hb : w.heap[blk]? = some (.cells cs ty (0, 0)))
    (hT : ∀ t g av, st (.tm t) = .tm g av → KeepsT X t g av) (hB : ∀ b' g' ls', st (.bx b') = .bx g' ls' → ∀ (i lg' : Nat) (l' : Leaf), ls'[i]? = some (lg', l') → (b' = b ∧ i = j) ∨ ¬ X (.bf b' g' i lg') ∨ l'.isOwn = false)
    (k : Keep X (fun _ _ => False) ρ w ρ' w) (hga' : ρ'.ga = ρ.ga) (hh : ∀ q u, ρ'.hdr q = some u → ρ.hdr q = some u ∨ q = .bf b g j (lg + 1) ∧ u = v)
    (hr : RepLeaf ρ' (w.setCell ⟨blk, j, none⟩ v) (.bf b g j (lg + 1)) l v) :
    Sim ρ' (upd st (.bx b) (.bx g (ls.set j (lg + 1, l)))) a (w.setCell ⟨blk, j, none⟩ v) N := by
  obtain ⟨g', ls', e, rb, cb⟩ := S.bx b
  rw [hs] at e; cases e
  rcases rb with rfl | ⟨blk', cs', ty', r0, r1, r2, r3, r4⟩
  · simp at hj
  rw [hga] at r0; cases r0
  rw [hb] at r1; cases r1
  obtain ⟨k1, k2⟩ := k.box _ b g (blk_lt' hb) r2 id
  have kk : Keep X (fun b' g' => b' = b ∧ g' = g) ρ w ρ' (w.setCell ⟨blk, j, none⟩ v) :=
    Keep.trans (Nat.le_refl _) ⟨k.hdr, k.st, k.own, fun blk b g h1 h2 h3 => k.box blk b g h1 h2 id, k.ga⟩ (setCell_keep k1 ⟨rfl, rfl⟩)
  have hjlt : j < ls.length := (List.getElem?_eq_some_iff.1 hj).1
  have hcell : ∀ i, (cs.setIfInBounds j v)[i]? = if i = j then some v else cs[i]? := fun i => by
    rw [Array.getElem?_setIfInBounds]
    by_cases e : j = i
    · subst e; simp [r3, hjlt]
    · rw [if_neg e, if_neg (fun h => e h.symm)]
  refine S.step kk S.size S.defers (fun _ => False) (· = b) (fun t _ => ?_) (fun t ht => ht.elim) (fun b' hb' => ?_) (fun b' hb' => ?_) (fun q u hu => ?_) (fun b x y hy => .inl (by rw [← hga']; exact hy))
  · exact ⟨upd_ne _ _ (by simp), rfl, hT t⟩
  · refine ⟨upd_ne _ _ (by simpa using hb'), fun g1 ls1 h1 => ⟨fun q => hb' q.1, fun i lg1 l1 hi => ?_⟩⟩
    rcases hB b' g1 ls1 h1 i lg1 l1 hi with q | q
    · exact (hb' q.1).elim
    · exact q
  · subst hb'
    refine ⟨g, g, ls, _, hs, upd_same _ _ _, .inr ⟨rfl, by simp, fun i l1 l2 x y h1 h2 => ?_⟩, .inr ⟨blk, _, ty, by rw [hga']; exact hga, setCell_heap hb, k1, by simp [r3], fun i l1 y u hi hu => ?_⟩, fun i l1 y u hi hu => ?_⟩
    · rw [List.getElem?_set] at h2
      split at h2
      · rename_i e; subst e
        rw [hj] at h1; cases h1
        (try split at h2) <;> simp at h2
        omega
      · rw [h1] at h2; cases h2; exact Nat.le_refl _
    · rw [hcell] at hu
      rw [List.getElem?_set] at hi
      split at hi
      · rename_i e; subst e
        (try split at hi) <;> simp at hi
        obtain ⟨rfl, rfl⟩ := hi
        rw [if_pos rfl] at hu; cases hu
        exact hr
      · rename_i e
        rw [if_neg (fun h => e h.symm)] at hu
        refine (r4 i l1 y u hi hu).mono kk (fun ho => ?_)
        rcases hB b' g ls hs i l1 y hi with q | q | q
        · exact (e q.2.symm).elim
        · exact q
        · rw [q] at ho; cases ho
    · refine ⟨blk, _, ty, by rw [hga']; exact hga, setCell_heap hb, ?_⟩
      rw [hcell]
      rw [List.getElem?_set] at hi
      split at hi
      · rename_i e; subst e
        (try split at hi) <;> simp at hi
        obtain ⟨rfl, rfl⟩ := hi
        rw [if_pos rfl]
        rcases hh _ _ hu with h1 | ⟨_, h1⟩
        · obtain ⟨g1, ls1, e1, e2⟩ := S.hbf _ _ _ _ _ h1
          rw [hs] at e1; cases e1
          rcases e2 with e2 | ⟨_, e2⟩
          · omega
          · have := e2 lg l0 hj; omega
        · rw [h1]
      · rename_i e
        rw [if_neg (fun h => e h.symm)]
        rcases hh _ _ hu with h1 | ⟨h1, _⟩
        · obtain ⟨blk', cs', ty', c0, c1, c2⟩ := cb _ _ _ u hi h1
          rw [hga] at c0; cases c0
          rw [hb] at c1; cases c1
          exact c2
        · cases h1; exact (e rfl).elim
  · rcases hh q u hu with h1 | ⟨rfl, _⟩
    · exact .inl h1
    · refine .inr ⟨⟨g, _, upd_same _ _ _, .inr ⟨rfl, fun lg' l' hl' => ?_⟩⟩, rfl⟩
      rw [List.getElem?_set] at hl'
      simp [hjlt] at hl'
      omega
end
end Go.Proofs.Yticifedehhnjhaa.Eng
/- Stores: the operation. -/
namespace Go.Proofs.Yticifedehhnjhaa.Eng
set_option linter.unusedVariables false
set_option linter.unusedSimpArgs false
open Go Go.RowKit
theorem Ref.beq_iff {r q : Ref} (h : Ref.beq r q = true) : r = q := by
  cases r <;> cases q <;> simp [Ref.beq] at h <;> simp [h]
section
variable {C : Cfg} {D : Nat → Sh} {rec : (q : Req) → Option (D q.f).den} {ρ ρ' : Env} {st : St} {a : Act} {w w' : World} {N : Nat}
theorem ev_finLeaf {b g j lg : Nat} {l : Leaf} {st' : St} {ls : List (Nat × Leaf)} (h : ev rec (finLeaf b g j lg l) st = some ((), st')) (hs : st (.bx b) = .bx g ls) : st' = upd st (.bx b) (.bx g (ls.set j (lg + 1, l))) := by
  obtain ⟨g', ls', e, h⟩ := ev_getBx h
  rw [hs] at e; cases e
  simp only [ev] at h
  cases h; rfl
theorem Sim.fresh_bf (S : Sim ρ st a w N) {b g j lg : Nat} {ls : List (Nat × Leaf)} {l0 : Leaf} (hs : st (.bx b) = .bx g ls) (hj : ls[j]? = some (lg, l0)) : ρ.hdr (.bf b g j (lg + 1)) = none := by
  cases h : ρ.hdr (.bf b g j (lg + 1)) with
  | none => rfl
  | some v =>
    obtain ⟨g', ls', e, q⟩ := S.hbf _ _ _ _ _ h
    rw [hs] at e; cases e
    rcases q with q | ⟨_, q⟩
    · omega
    · have := q lg l0 hj; omega
theorem Sim.box_at (S : Sim ρ st a w N) {b g : Nat} {ls : List (Nat × Leaf)} (hs : st (.bx b) = .bx g ls) (hne : ls ≠ []) : ∃ blk cs ty, ρ.ga b g = some blk ∧ w.heap[blk]? = some (.cells cs ty (0, 0)) ∧ ρ.lab blk = .box b g ∧ cs.size = ls.length := by
  obtain ⟨g', ls', e, rb, cb⟩ := S.bx b
  rw [hs] at e; cases e
  rcases rb with rfl | ⟨blk, cs, ty, r0, r1, r2, r3, _⟩
  · exact (hne rfl).elim
  · exact ⟨blk, cs, ty, r0, r1, r2, r3⟩
/-- The finish of a store of a leaf that owns nothing. -/
theorem fin_plain {b g j lg : Nat} {l l0 : Leaf} {v : Value} {st' : St} {ls : List (Nat × Leaf)} {blk : Nat} (h : ev rec (finLeaf b g j lg l) st = some ((), st')) (S : Sim ρ st a w N) (hs : st (.bx b) = .bx g ls) (hj : ls[j]? = some (lg, l0)) (hga : ρ.ga b g = some blk)
    (n1 : l.isOwn = false) (n2 : ∀ r, RepLeaf ρ w r l v) : ∃ ρ', Still ρ w ρ' (w.setCell ⟨blk, j, none⟩ v) ∧ Sim ρ' st' a (w.setCell ⟨blk, j, none⟩ v) N := by
  obtain ⟨blk', cs, ty, c0, c1, c2, c3⟩ := S.box_at hs (fun e => by subst e; simp at hj)
  rw [hga] at c0; cases c0
  rw [ev_finLeaf h hs]
  have k := setCell_still (w := w) (j := j) (v := v) c2
  exact ⟨ρ, k, S.setBox (X := fun _ => False) hs hj hga c1 (fun _ _ _ _ => KeepsT.of id (fun _ => id) _) (fun _ _ _ _ _ _ _ _ => .inr (.inl id)) (.refl _ _ _ _) rfl (fun q u h => .inl h) ((n2 _).still k n1)⟩
theorem setCell_self {blk j : Nat} {cs : Array Value} {ty : Nat} {v : Value} (hb : w.heap[blk]? = some (.cells cs ty (0, 0))) (hv : cs[j]? = some v) : w.setCell ⟨blk, j, none⟩ v = w := by
  have hj : j < cs.size := (Array.getElem?_eq_some_iff.1 hv).1
  have hc : cs.setIfInBounds j v = cs := by
    apply Array.ext_getElem?
    intro i
    rw [Array.getElem?_setIfInBounds]
    split
    · rename_i e; subst e; first | (rw [if_pos hj, hv]) | exact hv.symm
    · rfl
  have hh : (w.setCell ⟨blk, j, none⟩ v).heap = w.heap := by
    apply Array.ext_getElem?
    intro i
    by_cases e : i = blk
    · subst e; rw [setCell_heap hb, hc, hb]
    · exact Below.heap_setCell w ⟨blk, j, none⟩ v i e
  show ({ w with heap := (w.setCell ⟨blk, j, none⟩ v).heap } : World) = w
  rw [hh]
theorem ev_storeL {b g j lg : Nat} {t : Ty} {l l0 : Leaf} {v : Value} {st' : St} {ls : List (Nat × Leaf)} {blk : Nat} (h : ev rec (storeL b g j lg t l) st = some ((), st')) (S : Sim ρ st a w N) (hs : st (.bx b) = .bx g ls) (hj : ls[j]? = some (lg, l0)) (hga : ρ.ga b g = some blk)
    (hl : ∀ r, RepLeaf ρ w r l v) : (∃ ρ', Still ρ w ρ' (w.setCell ⟨blk, j, none⟩ v) ∧ Sim ρ' st' a (w.setCell ⟨blk, j, none⟩ v) N) ∧ v.oneCell' = true := by
  obtain ⟨blk', cs, ty, c0, c1, c2, c3⟩ := S.box_at hs (fun e => by subst e; simp at hj)
  rw [hga] at c0; cases c0
  have frozen : ∀ {r' : Ref} {e : Ty} {xs : List e.den} {V : Value} {l' : Leaf} {st1 st' : St}, At ρ st a w r' (.own e xs) V → r' ≠ .bf b g j lg → ev rec (setRef r' (.v (.sl e) xs)) st = some ((), st1) → ev rec (finLeaf b g j lg l') st1 = some ((), st') → l'.isOwn = false →
      (RepTy (ρ.rl r' .st).lab w (.sl e) [V] xs → ∀ r, RepLeaf (ρ.rl r' .st) w r l' v) → ∃ ρ', Still ρ w ρ' (w.setCell ⟨blk, j, none⟩ v) ∧ Sim ρ' st' a (w.setCell ⟨blk, j, none⟩ v) N := by
    intro r' e xs V l' st1 st' hat hne h1 h2 n1 n2
    obtain ⟨S1, hr⟩ := S.freeze hat h1
    have hbx : ∃ ls1, st1 (.bx b) = .bx g ls1 ∧ ls1[j]? = some (lg, l0) := by
      cases r' with
      | tp => cases h1
      | tm s g' =>
        simp only [setRef, ev] at h1; cases h1
        exact ⟨ls, by rw [upd_ne _ _ (by simp)]; exact hs, hj⟩
      | bf b' g' o' lg' =>
        obtain ⟨g1, ls1, e1, h1⟩ := ev_getBx h1
        simp only [ev] at h1; cases h1
        by_cases hb : b' = b
        · subst hb
          obtain ⟨ls2, blk2, cs2, ty2, q1, q2, _⟩ := hat
          rw [hs] at q1 e1; cases q1; cases e1
          refine ⟨_, upd_same _ _ _, ?_⟩
          rw [List.getElem?_set]
          split
          · rename_i e; subst e
            rw [hj] at q2; cases q2
            exact (hne rfl).elim
          · exact hj
        · exact ⟨ls, by rw [upd_ne _ _ (by simpa using fun h => hb h.symm)]; exact hs, hj⟩
    obtain ⟨ls1, hs1, hj1⟩ := hbx
    obtain ⟨ρ2, k2, S2⟩ := fin_plain h2 S1 hs1 hj1 hga n1 (n2 hr)
    exact ⟨ρ2, (rl_still _ _ _ _).trans k2, S2⟩
  have slOne : ∀ {A n c}, v = .slice A n c → v.oneCell' = true := fun h => by rw [h]; rfl
  unfold storeL at h
  split at h
  · rename_i r
    obtain ⟨x, s1, h1, h2⟩ := ev_bind _ _ _ _ h
    obtain ⟨rfl, V, p1, p2⟩ := ev_resolve _ _ h1 S
    obtain ⟨q0, A, n, c, q1⟩ := hl (.tm 0 0)
    obtain ⟨e2, q2⟩ := p2 _ q0
    subst e2
    refine ⟨?_, slOne q1⟩
    split at h2
    · rename_i s g' e xs
      obtain ⟨_, s2, h3, h4⟩ := ev_bind _ _ _ _ h2
      obtain ⟨_, s3, h5, h6⟩ := ev_bind _ _ _ _ h4
      obtain ⟨S1, ho, hloose, hat1⟩ := S.loosen p1 h3
      have hs2 : s2 (.bx b) = .bx g ls := by
        simp only [setRef, ev] at h3; cases h3
        rw [upd_ne _ _ (by simp)]; exact hs
      have hf := S1.fresh_bf hs2 hj
      have hk := sh_keep (X := (· = .tm s g')) (Y := fun _ _ => False) (rl_keep ρ (.tm s g') (.own (.bf b g j (lg + 1))) w) (v := v) hf rfl
      have k0 := sh_still (rl_still ρ (.tm s g') (.own (.bf b g j (lg + 1))) w) (v := v) hf rfl
      have hlab : ((ρ.rl (.tm s g') (.own (.bf b g j (lg + 1)))).sh (.bf b g j (lg + 1)) v).lab blk = .box b g := by
        show (ρ.rl (.tm s g') (.own (.bf b g j (lg + 1)))).lab blk = _
        rw [rl_ne (by rw [c2]; simp)]; exact c2
      have k1 := k0.setCell (j := j) (v := v) hlab
      have S2 := S1.setBox (X := (· = .tm s g')) (ρ' := (ρ.rl (.tm s g') (.own (.bf b g j (lg + 1)))).sh (.bf b g j (lg + 1)) v) (l := .own e xs) (v := v) hs2 hj hga c1
        (fun t g av h => hloose.1 t g av h) (fun b' g1 ls1 h i lg1 l1 hi => .inr (hloose.2 b' g1 ls1 h i lg1 l1 hi)) hk rfl
        (fun q u hu => by
          by_cases e : q = .bf b g j (lg + 1)
          · subst e; rw [sh_at] at hu; cases hu; exact .inr ⟨rfl, rfl⟩
          · rw [sh_ne e] at hu; exact .inl hu)
        ⟨sh_at _ _ _, (ho.rename (r2 := .bf b g j (lg + 1))).mono (ρ := (ρ.rl (.tm s g') (.own (.bf b g j (lg + 1)))).sh (.bf b g j (lg + 1)) v) (setCell_keep (X := fun _ => False) (Y := fun x y => x = b ∧ y = g) hlab ⟨rfl, rfl⟩) id⟩
      rw [← ev_finLeaf h5 hs2] at S2
      have hat2 : At ((ρ.rl (.tm s g') (.own (.bf b g j (lg + 1)))).sh (.bf b g j (lg + 1)) v) s3 a (w.setCell ⟨blk, j, none⟩ v) (.tm s g') .undef v :=
        ⟨by rw [ev_finLeaf h5 hs2, upd_ne _ _ (by simp)]; exact hat1.1, hat1.2⟩
      exact ⟨_, k1, (S2.setRef (l' := .al (.bf b g j (lg + 1))) hat2 (Keep.refl _ _ _ _) rfl rfl ⟨sh_at _ _ _, A, n, c, q1⟩ h6).1⟩
    · rename_i r' e xs _
      cases hb : Ref.beq r' (.bf b g j lg) with
      | true =>
        rw [hb] at h2
        cases ev_ret h2
        have := Ref.beq_iff hb
        subst this
        obtain ⟨ls2, blk2, cs2, ty2, d1, d2, d3, d4, d5⟩ := p1
        rw [hga] at d3; cases d3
        rw [c1] at d4; cases d4
        rw [setCell_self c1 d5]
        exact ⟨ρ, .refl _ _, S⟩
      | false =>
        rw [hb] at h2
        obtain ⟨_, s2, h3, h4⟩ := ev_bind _ _ _ _ h2
        exact frozen p1 (fun e => by subst e; simp [Ref.beq] at hb) h3 h4 rfl (fun hr _ => hr)
    · exact fin_plain h2 S hs hj hga rfl (fun _ => p1.rep S)
    · cases h2
  · rename_i r s lo hi
    obtain ⟨sv, s1, h1, h2⟩ := ev_bind _ _ _ _ h
    have hsub := hl (.tm 0 0)
    obtain ⟨rfl, ok⟩ := ev_slv h1 S hl
    obtain ⟨A9, n9, c9, _, _, _, _, _, A8, hvs, _⟩ := hsub
    refine ⟨?_, slOne hvs⟩
    split at h2
    · rename_i r' e xs lo' hi'
      obtain ⟨V, hat, A, n, c, q, z0, z1, z2, z3, A', z4, z5⟩ := ok
      have hV := hat.cur S q
      cases hb : Ref.beq r' (.bf b g j lg) with
      | true =>
        rw [hb] at h2
        have := Ref.beq_iff hb
        subst this
        have ho := (hat.rep S).2.cut hV.symm z0 z1 z2 z3 z4 z5
        have hf := S.fresh_bf hs hj
        have hk := sh_keep (X := (· = .bf b g j lg)) (Y := fun _ _ => False) (rl_keep ρ (.bf b g j lg) (.own (.bf b g j (lg + 1))) w) (v := v) hf rfl
        have k0 := sh_still (rl_still ρ (.bf b g j lg) (.own (.bf b g j (lg + 1))) w) (v := v) hf rfl
        have hlab : ((ρ.rl (.bf b g j lg) (.own (.bf b g j (lg + 1)))).sh (.bf b g j (lg + 1)) v).lab blk = .box b g := by
          show (ρ.rl (.bf b g j lg) (.own (.bf b g j (lg + 1)))).lab blk = _
          rw [rl_ne (by rw [c2]; simp)]; exact c2
        have k1 := k0.setCell (j := j) (v := v) hlab
        rw [ev_finLeaf h2 hs]
        exact ⟨_, k1, S.setBox (X := (· = .bf b g j lg)) (ρ' := (ρ.rl (.bf b g j lg) (.own (.bf b g j (lg + 1)))).sh (.bf b g j (lg + 1)) v) (l := .own e (Eng.cut xs lo' hi')) (v := v) hs hj hga c1
          (fun t g av h => KeepsT.of (fun q => by cases q) (fun i q => by cases q) _) (fun b' g1 ls1 h i lg1 l1 hi => by
            by_cases e : b' = b ∧ i = j
            · exact .inl e
            · exact .inr (.inl (fun q => by cases q; exact e ⟨rfl, rfl⟩))) hk rfl
          (fun q u hu => by
            by_cases e : q = .bf b g j (lg + 1)
            · subst e; rw [sh_at] at hu; cases hu; exact .inr ⟨rfl, rfl⟩
            · rw [sh_ne e] at hu; exact .inl hu)
          ⟨sh_at _ _ _, (ho.rename (r2 := .bf b g j (lg + 1))).mono (ρ := (ρ.rl (.bf b g j lg) (.own (.bf b g j (lg + 1)))).sh (.bf b g j (lg + 1)) v) (setCell_keep (X := fun _ => False) (Y := fun x y => x = b ∧ y = g) hlab ⟨rfl, rfl⟩) id⟩⟩
      | false =>
        rw [hb] at h2
        obtain ⟨_, s2, h3, h4⟩ := ev_bind _ _ _ _ h2
        exact frozen hat (fun e => by subst e; simp [Ref.beq] at hb) h3 h4 rfl (fun hr _ => sub_stable hr hV.symm z0 z1 z2 z4 z5)
    · exact fin_plain h2 S hs hj hga rfl (fun _ => ok)
    · cases h2
  · have e1 : v = .slice none 0 0 := hl (.tm 0 0)
    refine ⟨?_, slOne e1⟩
    split at h
    · rename_i e
      have hf := S.fresh_bf hs hj
      have hk := sh_keep (X := fun _ => False) (Y := fun _ _ => False) (Keep.refl _ _ ρ w) (v := v) hf rfl
      have k0 := sh_still (Still.refl ρ w) (v := v) hf rfl
      rw [ev_finLeaf h hs]
      refine ⟨_, k0.setCell (j := j) (v := v) (ρ' := ρ.sh (.bf b g j (lg + 1)) v) c2, S.setBox (X := fun _ => False) (ρ' := ρ.sh (.bf b g j (lg + 1)) v) hs hj hga c1 (fun _ _ _ _ => KeepsT.of id (fun _ => id) _) (fun _ _ _ _ _ _ _ _ => .inr (.inl id)) hk rfl
          (fun q u hu => by
            by_cases e : q = .bf b g j (lg + 1)
            · subst e; rw [sh_at] at hu; cases hu; exact .inr ⟨rfl, rfl⟩
            · rw [sh_ne e] at hu; exact .inl hu) ⟨sh_at _ _ _, by rw [e1]; exact .none⟩⟩
    · cases h
  · cases h
  · cases h
  · rename_i n1 n2 n3 n4 n5
    have hno : l.isOwn = false := by
      cases l with
      | own e xs => exact (n4 e xs rfl).elim
      | _ => rfl
    refine ⟨fin_plain h S hs hj hga hno hl, ?_⟩
    have h0 := hl (.tm 0 0)
    cases l with
    | v t x => exact RepTy.oneCell h0
    | own e xs => cases hno
    | al r => exact (n1 r rfl).elim
    | sub r s lo hi => exact (n2 r s lo hi rfl).elim
    | pb b g off => obtain ⟨_, _, rfl⟩ := h0; rfl
    | pe r s i off => obtain ⟨_, _, _, _, _, _, rfl⟩ := h0; rfl
    | ps t x => obtain ⟨_, rfl, _⟩ := h0; rfl
    | fn f c => obtain ⟨_, rfl, _⟩ := h0; rfl
    | fnp f c => obtain ⟨_, rfl, _⟩ := h0; rfl
    | nil e => exact (n3 e rfl).elim
    | nilp => have e : v = _ := h0; rw [e]; rfl
    | nq b => obtain ⟨_, rfl, _⟩ := h0; rfl
    | undef => exact (n5 rfl).elim
theorem ev_storeLeaves {P : Program} : ∀ {ts : List Ty} {ls : List Leaf} {vs : List Value} {b g j i0 : Nat} {ρ : Env} {w : World} {st st' : St} {blk : Nat}, ev rec (storeLeaves b g (j + i0) ts ls) st = some ((), st') → Sim ρ st a w N → RepLs ρ w ls vs → ρ.ga b g = some blk →
    ∃ ρ' w', Still ρ w ρ' w' ∧ Sim ρ' st' a w' N ∧ (storeCells ⟨blk, j, none⟩ vs i0).run P w = .ok () w'
  | [], [], vs, b, g, j, i0, ρ, w, st, st', blk, h, S, r, hga => by
    unfold storeLeaves at h
    cases ev_ret h
    match vs, r with
    | [], _ => exact ⟨ρ, w, .refl _ _, S, by simp [storeCells]⟩
  | t :: ts, l :: ls, vs, b, g, j, i0, ρ, w, st, st', blk, h, S, r, hga => by
    match vs, r with
    | v :: vs, r =>
      unfold storeLeaves at h
      obtain ⟨_, s1, h1, h2⟩ := ev_bind _ _ _ _ h
      obtain ⟨g', bls, hs, h3⟩ := ev_getBx h1
      cases hb : Nat.beq g g' with
      | false => rw [hb] at h3; cases h3
      | true =>
        rw [hb] at h3
        have : g = g' := Nat.eq_of_beq_eq_true hb
        subst this
        simp only [cond_true] at h3
        split at h3
        · cases h3
        · rename_i lg l0 hj
          obtain ⟨⟨ρ1, k1, S1⟩, hone⟩ := ev_storeL h3 S hs hj hga r.1.2
          obtain ⟨blk', cs, ty, c0, c1, c2, c3⟩ := S.box_at hs (fun e => by subst e; simp at hj)
          rw [hga] at c0; cases c0
          have hlt : j + i0 < cs.size := by rw [c3]; exact (List.getElem?_eq_some_iff.1 hj).1
          obtain ⟨ρ2, w2, k2, S2, hr⟩ := ev_storeLeaves (P := P) (i0 := i0 + 1) h2 S1 (r.2.still k1) (k1.ga _ _ _ hga)
          refine ⟨ρ2, w2, k1.trans k2, S2, ?_⟩
          simp only [storeCells, Sem.run_bind, add_mk, run_store1 c1 hlt hone, Result.andThen_ok]
          exact hr
  | [], _ :: _, _, _, _, _, _, _, _, _, _, _, h, _, _, _ => by unfold storeLeaves at h; cases h
  | _ :: _, [], _, _, _, _, _, _, _, _, _, _, h, _, _, _ => by unfold storeLeaves at h; cases h
theorem RepLs.len : ∀ {ls : List Leaf} {vs : List Value}, RepLs ρ w ls vs → ls.length = vs.length
  | [], [], _ => rfl
  | _ :: _, _ :: _, h => by simp [RepLs.len h.2]
  | [], _ :: _, h => h.elim
  | _ :: _, [], h => h.elim
theorem storeLeaves_len : ∀ {ts : List Ty} {ls : List Leaf} {b g j : Nat} {st st' : St}, ev rec (storeLeaves b g j ts ls) st = some ((), st') → ts.length = ls.length
  | [], [], _, _, _, _, _, _ => rfl
  | t :: ts, l :: ls, b, g, j, st, st', h => by
    unfold storeLeaves at h
    obtain ⟨_, s1, h1, h2⟩ := ev_bind _ _ _ _ h
    simp [storeLeaves_len h2]
  | [], _ :: _, _, _, _, _, _, h => by unfold storeLeaves at h; cases h
  | _ :: _, [], _, _, _, _, _, h => by unfold storeLeaves at h; cases h
theorem stabs_len : ∀ {ts : List Ty} {ls : List Leaf} {ys : List SV} {st st' : St}, ev rec (stabs ts ls) st = some (ys, st') → ts.length = ls.length
  | [], [], _, _, _, _ => rfl
  | t :: ts, l :: ls, ys, st, st', h => by
    unfold stabs at h
    obtain ⟨_, s1, h1, h2⟩ := ev_bind _ _ _ _ h
    obtain ⟨_, s2, h3, h4⟩ := ev_bind _ _ _ _ h2
    simp [stabs_len h3]
  | [], _ :: _, _, _, _, h => by cases h
  | _ :: _, [], _, _, _, h => by cases h
theorem tys_len : ∀ {t : Ty}, t.flat = true → (tys t).length = t.sz := by
  intro t
  induction t with
  | pair a b _ ihb => intro h; simp [Ty.flat] at h; simp [tys, Ty.sz, ihb h.2]
  | unit => intro h; simp [Ty.flat] at h
  | _ => intro h; rfl
theorem flat_pos {t : Ty} (h : t.flat = true) : 0 < t.sz := by
  cases t <;> first | (simp [Ty.sz]; done) | (simp [Ty.flat] at h)
theorem svOf_len : ∀ (t : Ty) (x : t.den), (svOf t x).length = t.sz := by
  intro t
  induction t with
  | pair a b _ ihb => intro x; simp [svOf, Ty.sz, ihb]
  | _ => intro x; rfl
theorem toTy_len : ∀ {t : Ty} {l : List SV} {y : t.den}, toTy t l = some y → l.length = t.sz := by
  intro t
  induction t with
  | pair a b _ ihb =>
    intro l y h
    match l with
    | [] => simp [toTy] at h
    | s :: q =>
      simp only [toTy, Option.bind_eq_some_iff, Option.map_eq_some_iff] at h
      obtain ⟨x, h1, z, h2, rfl⟩ := h
      simp [Ty.sz, ihb h2]
  | unit =>
    intro l y h
    match l with
    | [] => rfl
    | _ :: _ => simp [toTy] at h
  | _ =>
    intro l y h
    match l with
    | [] => simp [toTy] at h
    | [s] => rfl
    | _ :: _ :: _ => simp [toTy] at h
theorem op_store {o : Oper} {t : TypeId} {x y : Operand} {st' : St} (T : TtOk C) (ho : o.op = .store t x y) (hdst : o.dst = none) (h : ev rec (execG C o) st = some ((), st')) (S : Sim ρ st a w N) : OpOk C.P N ρ w st' o a := by
  simp only [execG, ho, hdst] at h
  obtain ⟨l, s1, h1, h2⟩ := ev_bind _ _ _ _ h
  obtain ⟨rfl, n1, hl⟩ := ev_opd1 h1 S
  obtain ⟨av, s2, h3, h4⟩ := ev_bind _ _ _ _ h2
  obtain ⟨rfl, ok⟩ := ev_opd h3 S
  unfold storeG at h4
  obtain ⟨td, s3, h5, h6⟩ := ev_bind _ _ _ _ h4
  obtain ⟨rfl, e1, e2⟩ := ev_tdOf h5
  have tv := T _ _ e1 e2
  obtain ⟨vs, s4, h7, h8⟩ := ev_bind _ _ _ _ h6
  unfold leavesOf at h7
  split at h7
  · cases ev_ret h7
    have rl := ok.leaves
    have run : ∀ {ad : Addr} {w'}, a.eval x = .pointer (some ad) → (a.eval y).cells.size = td.ty.sz → (storeCells ad (a.eval y).cells.toList).run C.P w = .ok () w' → (execOp a.eval o).run C.P w = .ok .skip w' := by
      intro ad w' q1 q2 q3
      have := run_storeVar tv q2 q3
      unfold execOp
      simp [ho, Instr.storeAt, q1, Instr.sureAddr, this]
    split at h8
    · rename_i b g off
      obtain ⟨blk, hga, hv⟩ := hl (.tm 0 0)
      have hlen := storeLeaves_len h8
      rw [tys_len tv.flat, rl.len] at hlen
      obtain ⟨ρ', w', k, S', hr⟩ := ev_storeLeaves (P := C.P) (j := off) (i0 := 0) h8 S rl hga
      exact .skip (run hv (by rw [← Array.length_toList]; exact hlen.symm) hr) hdst k S'
    · rename_i r s i off
      obtain ⟨ys, s5, h9, h10⟩ := ev_bind _ _ _ _ h8
      have hlen := stabs_len h9
      rw [tys_len tv.flat, rl.len] at hlen
      obtain ⟨ρ1, k1, S1, hys⟩ := ev_stabs h9 S rl
      obtain ⟨q, s6, h11, h12⟩ := ev_bind _ _ _ _ h10
      obtain ⟨rfl, V, p1, p2⟩ := ev_resolve _ _ h11 S1
      obtain ⟨ad, n, c, hh, z0, z1, hv⟩ := hl (.tm 0 0)
      obtain ⟨q1, q2⟩ := p2 _ (k1.hdr _ _ hh)
      split at h12
      · rename_i r' e xs
        cases hb : Nat.beq s e.sz with
        | false => rw [hb] at h12; cases h12
        | true =>
          rw [hb] at h12
          have hse : s = e.sz := Nat.eq_of_beq_eq_true hb
          subst hse
          obtain ⟨y0, s7, h13, h14⟩ := ev_bind _ _ _ _ h12
          obtain ⟨y1, hy, e5⟩ := ev_opt h13
          cases e5
          have hat := p1
          obtain ⟨hhr, hown⟩ := p1.rep S1
          obtain ⟨A, c', hV, hc, hrow⟩ := hown
          rw [← q1] at hV
          cases hV
          have hlt : i.toNat < xs.length := by omega
          rcases hrow with rfl | ⟨blk, off0, cur, ty, hA, hlab, hblk, hsz, hx⟩
          · omega
          cases hA
          have hxe : vGet xs i e.dflt = xs[i.toNat] := by simp [vGet, List.getD, List.getElem?_eq_getElem hlt]
          rw [hxe] at hy
          have hfit : off + (a.eval y).cells.toList.length ≤ e.sz := by
            have h1 := toTy_len hy
            have h2 := hys.len
            have h3 : (svOf e xs[i.toNat]).length = e.sz := svOf_len _ _
            unfold splice at h1
            simp only [List.length_append, List.length_take, List.length_drop, h3] at h1
            have hpos : 0 < td.ty.sz := flat_pos tv.flat
            omega
          obtain ⟨hown2, hbound⟩ := ownRow_store (ρ := ρ1) (w := w) (i := i.toNat) (off := off) (ys := ys) ⟨_, _, rfl, hc, .inr ⟨blk, off0, cur, ty, rfl, hlab, hblk, hsz, hx⟩⟩ hblk hlab hlt hy hys hfit
          have hst := run_storeCells_at C.P blk (off0 + i.toNat * e.sz + off) ty (a.eval y).cells.toList 0 cur w hblk (by simpa using hbound) hys.one1
          simp only [Nat.add_zero] at hst
          have hk := setRow_keep (w := w) (cs := (cur.toList.take (off0 + i.toNat * e.sz + off) ++ (a.eval y).cells.toList ++ cur.toList.drop (off0 + i.toNat * e.sz + off + (a.eval y).cells.toList.length)).toArray) (X := (· = r')) rfl hlab
          have hst2 := setRow_still (w := w) (cs := (cur.toList.take (off0 + i.toNat * e.sz + off) ++ (a.eval y).cells.toList ++ cur.toList.drop (off0 + i.toNat * e.sz + off + (a.eval y).cells.toList.length)).toArray) hlab
          have S2 := (S1.setRef (l' := .own e (vSet xs i y0)) hat hk rfl rfl ⟨hhr, by rw [← q1]; exact hown2⟩ h14).1
          refine .skip (run hv (by rw [← Array.length_toList]; exact hlen.symm) ?_) hdst (k1.trans hst2) S2
          rw [add_mk, show off0 + (i.toNat * e.sz + off) = off0 + i.toNat * e.sz + off by omega]
          exact hst
      · cases h12
    · cases h8
  · cases h7
end
end Go.Proofs.Yticifedehhnjhaa.Eng
/- Records and rows that are built. -/
namespace Go.Proofs.Yticifedehhnjhaa.Eng
set_option linter.unusedVariables false
set_option linter.unusedSimpArgs false
open Go Go.RowKit
section
variable {C : Cfg} {D : Nat → Sh} {rec : (q : Req) → Option (D q.f).den} {ρ ρ' : Env} {st : St} {a : Act} {w w' : World} {N : Nat}
theorem fold_fill (off : Nat) : ∀ (l : List Value) (k : Nat) (cells : Array Value), off + k + l.length ≤ cells.size →
    ((l.zipIdx k).foldl (fun cs (x : Value × Nat) => cs.setIfInBounds (off + x.2) x.1) cells).toList = splice cells.toList (off + k) l
  | [], k, cells, h => by simp [splice]
  | v :: l, k, cells, h => by
    simp only [List.zipIdx_cons, List.foldl_cons]
    simp only [List.length_cons] at h
    rw [fold_fill off l (k + 1) _ (by simp; omega)]
    apply List.ext_getElem?
    intro i
    rw [splice_get (by simp; omega), splice_get (by simp; omega)]
    simp only [Array.toList_setIfInBounds, List.getElem?_set, Array.length_toList, List.length_cons]
    by_cases h1 : i < off + k
    · rw [if_pos (by omega), if_neg (by omega), if_pos h1]
    · by_cases h2 : i = off + k
      · subst h2
        simp only [if_pos (show off + k < off + (k + 1) by omega), if_neg (show ¬ off + k < off + k by omega), if_pos (show off + k < off + k + (l.length + 1) by omega), if_true, Nat.sub_self, List.getElem?_cons_zero]
        rw [if_pos (by omega)]
      · rw [if_neg (by omega), if_neg h1]
        by_cases h3 : i < off + (k + 1) + l.length
        · rw [if_pos h3, if_pos (by omega)]
          rw [show i - (off + k) = (i - (off + (k + 1))) + 1 by omega]
          simp
        · rw [if_neg h3, if_neg (by omega), if_neg (by omega)]
theorem fill_cons {place : Nat → Option (Nat × Nat)} {cells : Array Value} {i off size : Nat} {v : Value} {rest : List (Nat × Value)} (hp : place i = some (off, size)) (h1 : v.cells.size = size) (h2 : off + size ≤ cells.size) :
    Instr.fill place cells ((i, v) :: rest) = Instr.fill place (splice cells.toList off v.cells.toList).toArray rest := by
  have := fold_fill off v.cells.toList 0 cells (by simp; omega)
  simp only [Instr.fill, hp, h1]
  rw [if_neg (by simp; omega)]
  congr 1
  apply Array.ext'
  rw [← Array.foldl_toList, Array.toList_zipIdx]
  simpa using this
theorem RepLs.take : ∀ {l : List Leaf} {c : List Value} (n : Nat), RepLs ρ w l c → RepLs ρ w (l.take n) (c.take n)
  | _, _, 0, _ => by simp [RepLs]
  | [], [], _ + 1, _ => trivial
  | _ :: _, _ :: _, n + 1, h => ⟨h.1, RepLs.take n h.2⟩
  | [], _ :: _, _ + 1, h => h.elim
  | _ :: _, [], _ + 1, h => h.elim
theorem RepLs.drop : ∀ {l : List Leaf} {c : List Value} (n : Nat), RepLs ρ w l c → RepLs ρ w (l.drop n) (c.drop n)
  | _, _, 0, h => h
  | [], [], _ + 1, _ => trivial
  | _ :: _, _ :: _, n + 1, h => RepLs.drop n h.2
  | [], _ :: _, _ + 1, h => h.elim
  | _ :: _, [], _ + 1, h => h.elim
theorem RepLs.append : ∀ {l l' : List Leaf} {c c' : List Value}, RepLs ρ w l c → RepLs ρ w l' c' → RepLs ρ w (l ++ l') (c ++ c')
  | [], _, [], _, _, h => h
  | _ :: _, _, _ :: _, _, h, k => ⟨h.1, RepLs.append h.2 k⟩
  | [], _, _ :: _, _, h, _ => h.elim
  | _ :: _, _, [], _, h, _ => h.elim
theorem RepLs.splice {l r : List Leaf} {c d : List Value} (h : RepLs ρ w l c) (k : RepLs ρ w r d) (off : Nat) : RepLs ρ w (Eng.splice l off r) (Eng.splice c off d) := by
  unfold Eng.splice
  rw [k.len]
  exact ((h.take off).append k).append (h.drop _)
theorem RepLs.get : ∀ {l : List Leaf} {c : List Value}, RepLs ρ w l c → ∀ (i : Nat) m u, l[i]? = some m → c[i]? = some u → m.isOwn = false ∧ ∀ r, RepLeaf ρ w r m u
  | [], [], _, i, m, u, h, _ => by simp at h
  | x :: l, v :: c, h, i, m, u, hm, hu => by
    cases i with
    | zero => simp at hm hu; subst hm; subst hu; exact h.1
    | succ i => exact RepLs.get h.2 i m u (by simpa using hm) (by simpa using hu)
  | [], _ :: _, h, _, _, _, _, _ => h.elim
  | _ :: _, [], h, _, _, _, _, _ => h.elim
theorem RepLs.opd {ls : List Leaf} {cs : List Value} (h : RepLs ρ w ls cs) : OpdOk ρ w (.cv true ls) (.agg cs.toArray) := by
  have hno : ∀ l ∈ ls, l.isOwn = false := fun l hl => by
    obtain ⟨i, hi, rfl⟩ := List.getElem_of_mem hl
    obtain ⟨u, hu⟩ : ∃ u, cs[i]? = some u := ⟨_, List.getElem?_eq_getElem (by rw [← h.len]; exact hi)⟩
    exact (h.get i _ u (List.getElem?_eq_getElem hi) hu).1
  exact ⟨hno, fun r => ⟨_, rfl, by simp [h.len], fun i l u p q => ⟨(h.get i l u p (by simpa using q)).2 r, hno l (List.mem_of_getElem? p)⟩⟩⟩
theorem ev_buildG {td : TD} (T : TtOk C) {place : Nat → Option (Nat × Nat)}
    (hp1 : ∀ (k o ft : Nat), td.offs[k]? = some o → td.ftys[k]? = some ft → ∃ i : TypeInfo, C.P.info? ft = some i ∧ place k = some (o, i.size)) (hp2 : td.offs = [] → ∃ i : TypeInfo, C.P.info? td.elem = some i ∧ ∀ k, place k = some (k * i.size, i.size)) :
    ∀ {ps : List (Nat × Operand)} {ls ls' : List Leaf} {cells : Array Value} {st st' : St}, ev rec (buildG C td ps ls) st = some (ls', st') → Sim ρ st a w N → RepLs ρ w ls cells.toList →
      st' = st ∧ ∃ cells', Instr.fill place cells (ps.map fun p => (p.1, a.eval p.2)) = some cells' ∧ RepLs ρ w ls' cells'.toList
  | [], ls, ls', cells, st, st', h, S, r => by cases ev_ret h; exact ⟨rfl, cells, rfl, r⟩
  | (i, o) :: ps, ls, ls', cells, st, st', h, S, r => by
    unfold buildG at h
    obtain ⟨av, s1, h1, h2⟩ := ev_bind _ _ _ _ h
    obtain ⟨rfl, ok⟩ := ev_opd h1 S
    obtain ⟨vs, s2, h3, h4⟩ := ev_bind _ _ _ _ h2
    unfold leavesOf at h3
    split at h3
    · cases ev_ret h3
      have rl := ok.leaves
      obtain ⟨p, s3, h5, h6⟩ := ev_bind _ _ _ _ h4
      have hp : ∀ {z : St}, ev rec (partOff C td i) z = some (p, s3) → s3 = z ∧ place i = some (p.1, p.2) := by
        intro z h5
        unfold partOff at h5
        split at h5
        · rename_i o' ft q1 q2
          obtain ⟨fd, s4, h7, h8⟩ := ev_bind _ _ _ _ h5
          obtain ⟨rfl, f1, f2⟩ := ev_tdOf h7
          cases ev_ret h8
          obtain ⟨ii, i1, i2⟩ := hp1 i o' ft q1 q2
          obtain ⟨ij, z, j1, j2, _⟩ := (T _ _ f1 f2).info
          rw [i1] at j1; cases j1
          exact ⟨rfl, by rw [i2, j2]⟩
        · cases hb : td.offs.isEmpty with
          | false => rw [hb] at h5; cases h5
          | true =>
            rw [hb] at h5
            obtain ⟨fd, s4, h7, h8⟩ := ev_bind _ _ _ _ h5
            obtain ⟨rfl, f1, f2⟩ := ev_tdOf h7
            cases ev_ret h8
            obtain ⟨ii, i1, i2⟩ := hp2 (List.isEmpty_iff.1 hb)
            obtain ⟨ij, z, j1, j2, _⟩ := (T _ _ f1 f2).info
            rw [i1] at j1; cases j1
            exact ⟨rfl, by rw [i2, j2]⟩
      obtain ⟨rfl, hp⟩ := hp h5
      cases hb : (Nat.beq vs.length p.2 && Nat.ble (p.1 + p.2) ls.length) with
      | false => rw [hb] at h6; cases h6
      | true =>
        rw [hb] at h6
        simp only [Bool.and_eq_true] at hb
        have b1 : vs.length = p.2 := Nat.eq_of_beq_eq_true hb.1
        have b2 : p.1 + p.2 ≤ ls.length := Nat.le_of_ble_eq_true hb.2
        have c1 : (a.eval o).cells.size = p.2 := by rw [← Array.length_toList, ← rl.len, b1]
        obtain ⟨e, cells', h7, h8⟩ := ev_buildG T hp1 hp2 (cells := (Eng.splice cells.toList p.1 (a.eval o).cells.toList).toArray) h6 S (by simpa using r.splice rl p.1)
        refine ⟨e, cells', ?_, h8⟩
        rw [List.map_cons, fill_cons hp c1 (by rw [← Array.length_toList, ← r.len]; exact b2)]
        exact h7
    · cases h3
theorem op_build {o : Oper} {t : TypeId} {ps : Array (Nat × Operand)} {st' : St} (T : TtOk C) (ho : o.op = .build t ps) (h : ev rec (execG C o) st = some ((), st')) (S : Sim ρ st a w N) (hd : ∀ x, o.dst = some x → x < N) : OpOk C.P N ρ w st' o a := by
  simp only [execG, ho] at h
  obtain ⟨td, s1, h1, h2⟩ := ev_bind _ _ _ _ h
  obtain ⟨rfl, e1, e2⟩ := ev_tdOf h1
  have tv := T _ _ e1 e2
  cases hag : td.agg with
  | false => rw [hag] at h2; cases h2
  | true =>
    rw [hag] at h2
    obtain ⟨ls, s2, h3, h4⟩ := ev_bind _ _ _ _ h2
    obtain ⟨place, z, b1, b2, b3, b4⟩ := tv.built hag
    obtain ⟨i, z', i1, i2, i3, i4, i5⟩ := tv.info
    have : z' = z := by have := b1 i i1; rw [i4] at this; cases this; rfl
    subst this
    obtain ⟨rfl, cells', h5, h6⟩ := ev_buildG T b3 b4 (cells := z'.cells) h3 S (by rw [i5]; exact zeroLs tv.flat)
    have hbt : C.P.built t (ps.map fun (i, x) => (i, a.eval x)).toList = some cells' := by
      rw [b2, ← h5]; congr 1; simp
    refine .value (v := .agg cells') ?_ (.refl _ _) (ev_putO h4 S hd (by simpa using h6.opd) (fun _ => by simp))
    unfold execOp
    simp only [ho, Sem.run_bind, run_build w t _ cells' hbt, Result.andThen_ok]; rfl
theorem Elems.set {lab : Nat → Lbl} {e : Ty} {cells c : List Value} {xs : List e.den} {y : e.den} {i : Nat} (h : Elems lab w e cells xs) (r : RepTy lab w e c y) (hi : i < xs.length) : Elems lab w e (Eng.splice cells (i * e.sz) c) (xs.set i y) := by
  have hile : (i + 1) * e.sz ≤ xs.length * e.sz := Nat.mul_le_mul_right _ hi
  rw [Nat.add_mul] at hile
  have hfit : i * e.sz + c.length ≤ cells.length := by rw [r.len, h.1]; omega
  have hlen : (Eng.splice cells (i * e.sz) c).length = cells.length := by unfold Eng.splice; simp; omega
  refine ⟨by rw [hlen, h.1, List.length_set], fun j x hj => ?_⟩
  rw [List.getElem?_set] at hj
  split at hj
  · rename_i e1; subst e1
    simp [hi] at hj
    subst hj
    refine ⟨c, r, fun q u hu => ?_⟩
    have hq : q < c.length := (List.getElem?_eq_some_iff.1 hu).1
    rw [splice_get hfit, if_neg (by omega), if_pos (by omega), Nat.add_sub_cancel_left]
    exact hu
  · rename_i hij
    obtain ⟨cs, r1, r2⟩ := h.2 j x hj
    refine ⟨cs, r1, fun q u hu => ?_⟩
    have hq : q < e.sz := by rw [← r1.len]; exact (List.getElem?_eq_some_iff.1 hu).1
    rw [splice_get hfit, r.len]
    rcases Nat.lt_or_gt_of_ne hij with hlt | hgt
    · have h1 : (i + 1) * e.sz ≤ j * e.sz := Nat.mul_le_mul_right _ hlt
      rw [Nat.add_mul] at h1
      rw [if_neg (by omega), if_neg (by omega)]; exact r2 q u hu
    · have h1 : (j + 1) * e.sz ≤ i * e.sz := Nat.mul_le_mul_right _ hgt
      rw [Nat.add_mul] at h1
      rw [if_pos (by omega)]; exact r2 q u hu
theorem ev_buildSlice {e : Ty} : ∀ {ps : List (Nat × Operand)} {xs xs' : List e.den} {cells : Array Value} {ρ : Env} {st st' : St}, ev rec (buildSliceG e ps xs) st = some (xs', st') → Sim ρ st a w N → Elems ρ.lab w e cells.toList xs →
      ∃ ρ' cells', Still ρ w ρ' w ∧ Sim ρ' st' a w N ∧ Instr.fill (fun i => some (i * e.sz, e.sz)) cells (ps.map fun p => (p.1, a.eval p.2)) = some cells' ∧ Elems ρ'.lab w e cells'.toList xs' ∧ xs'.length = xs.length
  | [], xs, xs', cells, ρ, st, st', h, S, r => by cases ev_ret h; exact ⟨ρ, cells, .refl _ _, S, rfl, r, rfl⟩
  | (i, o) :: ps, xs, xs', cells, ρ, st, st', h, S, r => by
    unfold buildSliceG at h
    obtain ⟨av, s1, h1, h2⟩ := ev_bind _ _ _ _ h
    obtain ⟨rfl, ok⟩ := ev_opd h1 S
    obtain ⟨vs, s2, h3, h4⟩ := ev_bind _ _ _ _ h2
    unfold leavesOf at h3
    split at h3
    · cases ev_ret h3
      obtain ⟨ys, s3, h5, h6⟩ := ev_bind _ _ _ _ h4
      obtain ⟨ρ1, k1, S1, hys⟩ := ev_stabs h5 S ok.leaves
      obtain ⟨y, s4, h7, h8⟩ := ev_bind _ _ _ _ h6
      obtain ⟨y', hy, e1⟩ := ev_opt h7
      cases e1
      have hr := toTy_rep hy hys
      cases hb : Nat.blt i xs.length with
      | false => rw [hb] at h8; cases h8
      | true =>
        rw [hb] at h8
        have hi : i < xs.length := (by simpa [Nat.blt_eq] using hb)
        have r1 := (r.mono k1.st).set hr hi
        obtain ⟨ρ2, cells', k2, S2, h9, h10, h11⟩ := ev_buildSlice (cells := (Eng.splice cells.toList (i * e.sz) (a.eval o).cells.toList).toArray) h8 S1 (by simpa using r1)
        refine ⟨ρ2, cells', k1.trans k2, S2, ?_, h10, by simpa using h11⟩
        have hsz : (a.eval o).cells.size = e.sz := by rw [← Array.length_toList]; exact hr.len
        rw [List.map_cons, fill_cons rfl hsz ?_]
        · exact h9
        · have hile : (i + 1) * e.sz ≤ xs.length * e.sz := Nat.mul_le_mul_right _ hi
          rw [Nat.add_mul] at hile
          have := r.1
          rw [Array.length_toList] at this
          show i * e.sz + e.sz ≤ cells.size
          omega
    · cases h3
theorem op_buildSlice {o : Oper} {t : TypeId} {n : Nat} {ps : Array (Nat × Operand)} {st' : St} (T : TtOk C) (ho : o.op = .buildSlice t n ps) (h : ev rec (execG C o) st = some ((), st')) (S : Sim ρ st a w N) (hd : ∀ x, o.dst = some x → x < N) : OpOk C.P N ρ w st' o a := by
  simp only [execG, ho] at h
  split at h
  · rename_i d hdst
    obtain ⟨ed, s1, h1, h2⟩ := ev_bind _ _ _ _ h
    obtain ⟨rfl, et, hu, tv⟩ := ev_elemSl T h1
    cases hn0 : Nat.beq n 0 with
    | true =>
      rw [hn0] at h2
      have hn : n = 0 := Nat.eq_of_beq_eq_true hn0
      subst hn
      simp only [cond_true] at h2
      split at h2
      · rename_i hps
        have hps' : ps = #[] := by rw [← Array.toArray_toList (xs := ps), hps]
        subst hps'
        obtain ⟨g, a0, hs, e5⟩ := ev_put h2
        cases e5
        obtain ⟨i, z, i1, i2, i3, i4, i5⟩ := tv.info
        have gr := grew_alloc w (.cells #[] et)
        have hnew : OwnRow (ρ.nb w (.own (.tm d (g + 1)))).lab (w.alloc (.cells #[] et)) (.tm d (g + 1)) ed.ty (.slice (some ⟨w.heap.size, 0, none⟩) 0 0) [] := ⟨_, 0, rfl, Nat.le_refl _, .inl rfl⟩
        obtain ⟨S2, k2⟩ := S.putNew (hd d hdst) hs gr hnew
        refine .value ?_ k2 (by rw [hdst]; exact S2)
        unfold execOp
        simp [ho, Instr.buildSlice, run_underlying hu, sizeOf, typeInfo, i1, Instr.fill, newRow, Array.range_zero']
        try rfl
      · cases h2
    | false =>
    rw [hn0] at h2
    simp only [cond_false] at h2
    have b2 : 0 < n := Nat.pos_of_ne_zero (fun e => by subst e; simp at hn0)
    cases hb : Nat.ble (n * ed.ty.sz) 16777216 with
    | false => rw [hb] at h2; cases h2
    | true =>
      rw [hb] at h2
      have b1 : n * ed.ty.sz ≤ 16777216 := Nat.le_of_ble_eq_true hb
      obtain ⟨xs, s2, h3, h4⟩ := ev_bind _ _ _ _ h2
      have hdN := hd d hdst
      obtain ⟨i, z, i1, i2, i3, i4, i5⟩ := tv.info
      have hz : z.cells.size = ed.ty.sz := by rw [← Array.length_toList, i5]; exact zeroCells_len tv.flat
      have hpos := flat_pos tv.flat
      have hzl := zeroCells_len tv.flat
      have hel := elems_rep (lab := ρ.lab) (w := w) (rep_zero (lab := ρ.lab) (w := w) tv.flat) n
      have hmade : ((Array.range (n * i.size)).map (z.cells[· % z.cells.size]!)).toList = (List.replicate n (zeroCells ed.ty)).flatten := by
        apply List.ext_getElem?
        intro j
        by_cases hj : j < n * ed.ty.sz
        · rw [flat_rep _ hzl n j hj, Array.getElem?_toList]
          have hjm : j % ed.ty.sz < ed.ty.sz := Nat.mod_lt _ hpos
          simp only [Array.getElem?_map, Array.getElem?_range, i2, hj, if_true, Option.map_some, hz]
          rw [getElem!_pos z.cells _ (by rw [hz]; exact hjm), ← i5, Array.getElem?_toList]
          simp [hz, hjm]
        · rw [List.getElem?_eq_none (by simp [i2]; omega), List.getElem?_eq_none (by rw [hel.1]; simp; omega)]
      obtain ⟨ρ1, cells', k1, S1, hf, he, hlen⟩ := ev_buildSlice (cells := (Array.range (n * i.size)).map (z.cells[· % z.cells.size]!)) h3 S (by rw [hmade]; exact hel)
      rw [List.length_replicate] at hlen
      obtain ⟨g, a0, hs, e5⟩ := ev_put h4
      cases e5
      have hr := run_buildSlice (P := C.P) w t et n (ps.map fun (i, x) => (i, a.eval x)) cells' i z hu i1 i4 (by rw [i2]; omega) (by rw [i2]; exact Nat.ne_of_gt (Nat.mul_pos b2 hpos)) (by
        have hps : (ps.map fun (i, x) => (i, a.eval x)).toList = ps.toList.map fun p => (p.1, a.eval p.2) := by simp
        rw [hps]
        rw [i2] at hf ⊢
        exact hf)
      have gr := grew_alloc w (.cells cells' et)
      have hnew := ownRow_new (ρ := ρ1) (r := .tm d (g + 1)) (e := ed.ty) (xs := xs) (c := n) gr (heap_alloc_new w _) (by omega) (by rw [← Array.length_toList, he.1, hlen]; exact Nat.le_refl _) he (fun j u hu => by simpa using hu)
      rw [hlen] at hnew
      obtain ⟨S2, k2⟩ := S1.putNew hdN hs gr hnew
      refine .value (by unfold execOp; simp only [ho, Sem.run_bind, hr, Result.andThen_ok]; rfl) (k1.trans k2) ?_
      rw [hdst]
      exact S2
  · cases h
end
end Go.Proofs.Yticifedehhnjhaa.Eng
/- Calls: how the caller's memory is seen by the called function, and what is so behind the call. -/
namespace Go.Proofs.Yticifedehhnjhaa.Eng
set_option linter.unusedVariables false
set_option linter.unusedSimpArgs false
open Go Go.RowKit
theorem RepTy.flat_any {lab lab' : Nat → Lbl} {w w' : World} : ∀ {t : Ty} {c : List Value} {x : t.den}, flatTy t = true → RepTy lab w t c x → RepTy lab' w' t c x := by
  intro t
  induction t with
  | sl e _ => intro c x h; simp [flatTy] at h
  | pair a b iha ihb => intro c x h r; simp [flatTy] at h; obtain ⟨v, q, rfl, h1, h2⟩ := r; exact ⟨v, q, rfl, iha h.1 h1, ihb h.2 h2⟩
  | _ => intro c x _ r; exact r
/-- A leaf that is given: a value or a row. -/
def Leaf.give : Leaf → Bool | .v _ _ => true | .own _ _ => true | _ => false
/-- How labels are read when a function is entered, and when it returns. -/
structure Tr where
  io : Option (Nat × Nat × Nat)     -- the parameter's number, the box
  lent : Bool
  L : Nat                           -- how many parameters
  d : Nat                           -- where the result comes
  gd : Nat
  gb : Nat
  lg : Nat → Nat                    -- the ages of the box's cells
  put : Bool                        -- whether the result is kept
  tup : Bool
  bxr : Bool
def Tr.isIo (T : Tr) (b g : Nat) : Bool := match T.io with | some (_, b', g') => Nat.beq b b' && Nat.beq g g' | none => false
def Tr.num (T : Tr) : Nat := match T.io with | some (i, _, _) => i | none => 0
def Tr.bx (T : Tr) : Nat × Nat := match T.io with | some (_, b, g) => (b, g) | none => (0, 0)
def Tr.low (T : Tr) : Lbl := if T.lent = true then .st else .no
def Tr.inn (T : Tr) : Lbl → Lbl
  | .st => .st
  | .no => .no
  | .box b g => if T.isIo b g = true then .box T.num 0 else T.low
  | .own (.bf b g j _) => if T.isIo b g = true then .own (.bf T.num 0 j 0) else T.low
  | .own _ => T.low
/-- Labels of the caller's own that the call does not touch. -/
def Tr.keeps (T : Tr) : Lbl → Bool
  | .box b g => !T.isIo b g
  | .own (.bf b g _ _) => !T.isIo b g
  | _ => true
def Tr.out (T : Tr) : Lbl → Lbl
  | .st => .st
  | .no => .no
  | .box b g => if T.io.isSome = true ∧ b = T.num ∧ g = 0 then .box T.bx.1 T.bx.2 else if b = T.L ∧ g = 1 then .box T.d (T.gb + 1) else .no
  | .own (.bf b g j lg) => if T.io.isSome = true ∧ b = T.num ∧ g = 0 ∧ lg = 0 then .own (.bf T.bx.1 T.bx.2 j (T.lg j + 1)) else if b = T.L ∧ g = 1 ∧ lg = 0 then .own (.bf T.d (T.gb + 1) j 0) else .no
  | .own (.tp t g i) => if t = 0 ∧ g = 0 then (if T.tup = true then .own (.tp T.d (T.gd + 1) i) else .own (.tm T.d (T.gd + 1))) else .no
  | .own (.tm _ _) => .no
/-- What a reference of the caller's, new behind the call, stands for. -/
def Tr.hdr (T : Tr) (h : Ref → Option Value) : Ref → Option Value
  | .tm t g => if T.put = true ∧ T.tup = false ∧ T.bxr = false ∧ t = T.d ∧ g = T.gd + 1 then h (.tp 0 0 0) else none
  | .tp t g i => if T.put = true ∧ T.tup = true ∧ t = T.d ∧ g = T.gd + 1 then h (.tp 0 0 i) else none
  | .bf b g j l => if T.io.isSome = true ∧ b = T.bx.1 ∧ g = T.bx.2 ∧ l = T.lg j + 1 then h (.bf T.num 0 j 0) else if T.bxr = true ∧ b = T.d ∧ g = T.gb + 1 ∧ l = 0 then h (.bf T.L 1 j 0) else none
section
variable {C : Cfg} {D : Nat → Sh} {rec : (q : Req) → Option (D q.f).den} {ρ ρ' : Env} {st : St} {a : Act} {w w' : World} {N : Nat}
/-- What the called function sees. -/
def Env.inn (ρ : Env) (T : Tr) (old : List (Nat × Leaf)) : Env :=
  { lab := fun k => T.inn (ρ.lab k)
    hdr := fun q => match q with
      | .bf i g j l => if T.io.isSome = true ∧ i = T.num ∧ g = 0 ∧ l = 0 then (match old[j]? with | some (lg, .own _ _) => ρ.hdr (.bf T.bx.1 T.bx.2 j lg) | _ => none) else none
      | _ => none
    ga := fun i g => if T.io.isSome = true ∧ i = T.num ∧ g = 0 then ρ.ga T.bx.1 T.bx.2 else none }
/-- What the caller sees behind the call. -/
noncomputable def Env.back (ρ ρ' : Env) (T : Tr) (w : World) : Env :=
  { lab := fun k => if k < w.heap.size ∧ T.keeps (ρ.lab k) = true then ρ.lab k else T.out (ρ'.lab k)
    hdr := fun q => match ρ.hdr q with | some v => some v | none => T.hdr ρ'.hdr q
    ga := fun b g => match ρ.ga b g with | some x => some x | none => if T.bxr = true ∧ b = T.d ∧ g = T.gb + 1 then ρ'.ga T.L 1 else none }
theorem inn_st {T : Tr} {l : Lbl} (h : l = .st) : T.inn l = .st := by subst h; rfl
theorem inn_low {T : Tr} {l : Lbl} (h : T.keeps l = true) : T.inn l = .st ∨ T.inn l = .no := by
  have hl : T.low = .st ∨ T.low = .no := by unfold Tr.low; split <;> simp
  cases l with
  | st => exact .inl rfl
  | no => exact .inr rfl
  | box b g => simp [Tr.keeps] at h; simp [Tr.inn, h]; exact hl
  | own r => cases r with
    | bf b g j lg => simp [Tr.keeps] at h; simp [Tr.inn, h]; exact hl
    | tm t g => exact hl
    | tp t g i => exact hl
theorem back_old {T : Tr} {k : Nat} (hk : k < w.heap.size) (h : T.keeps (ρ.lab k) = true) : (ρ.back ρ' T w).lab k = ρ.lab k := by simp [Env.back, hk, h]
/-- Behind a call that went on from what it saw, memory that was not lent for writing is as it was. -/
theorem back_heap {T : Tr} {old : List (Nat × Leaf)} (e : Ext (ρ.inn T old) w ρ' w') {k : Nat} (hk : k < w.heap.size) (h : T.keeps (ρ.lab k) = true) : w'.heap[k]? = w.heap[k]? := by
  rcases inn_low h with q | q
  · exact (e.st k hk q).2
  · exact (e.no k hk q).2
theorem back_still {T : Tr} {old : List (Nat × Leaf)} (e : Ext (ρ.inn T old) w ρ' w') : Still ρ w (ρ.back ρ' T w) w' := by
  refine ⟨⟨e.size, fun k hk hl => ?_, fun k hk hl => ?_, e.os, e.tape, e.output⟩, fun r v hv => by simp [Env.back, hv], fun b g x h => by simp [Env.back, h]⟩
  · have hp : T.keeps (ρ.lab k) = true := by rw [hl]; rfl
    exact ⟨by rw [back_old hk hp]; exact hl, back_heap e hk hp⟩
  · have hp : T.keeps (ρ.lab k) = true := by rw [hl]; rfl
    exact ⟨by rw [back_old hk hp]; exact hl, back_heap e hk hp⟩
theorem back_keep {T : Tr} {old : List (Nat × Leaf)} (e : Ext (ρ.inn T old) w ρ' w') : Keep (fun r => ∃ j lg, r = .bf T.bx.1 T.bx.2 j lg ∧ T.io.isSome = true) (fun b g => b = T.bx.1 ∧ g = T.bx.2 ∧ T.io.isSome = true) ρ w (ρ.back ρ' T w) w' := by
  have s := back_still e
  refine ⟨s.hdr, s.st, fun k r hk hl hx => ?_, fun k b g hk hl hy => ?_, s.ga⟩
  · have hp : T.keeps (ρ.lab k) = true := by
      rw [hl]
      cases r with
      | bf b g j lg =>
        simp only [Tr.keeps, Tr.isIo]
        cases hio : T.io with
        | none => rfl
        | some p =>
          obtain ⟨i, b', g'⟩ := p
          simp only [Bool.not_eq_true', Bool.and_eq_false_iff]
          by_cases h1 : b = b'
          · right
            cases hg : Nat.beq g g' with
            | false => rfl
            | true => exact (hx ⟨j, lg, by simp [Tr.bx, hio, h1, Nat.eq_of_beq_eq_true hg], by simp [hio]⟩).elim
          · left
            cases hb : Nat.beq b b' with
            | false => rfl
            | true => exact (h1 (Nat.eq_of_beq_eq_true hb)).elim
      | _ => rfl
    exact ⟨by rw [back_old hk hp]; exact hl, back_heap e hk hp⟩
  · have hp : T.keeps (ρ.lab k) = true := by
      rw [hl]
      simp only [Tr.keeps, Tr.isIo]
      cases hio : T.io with
      | none => rfl
      | some p =>
        obtain ⟨i, b', g'⟩ := p
        simp only [Bool.not_eq_true', Bool.and_eq_false_iff]
        by_cases h1 : b = b'
        · right
          cases hg : Nat.beq g g' with
          | false => rfl
          | true => exact (hy ⟨by simp [Tr.bx, hio, h1], by simp [Tr.bx, hio, Nat.eq_of_beq_eq_true hg], by simp [hio]⟩).elim
        · left
          cases hb : Nat.beq b b' with
          | false => rfl
          | true => exact (h1 (Nat.eq_of_beq_eq_true hb)).elim
    exact ⟨by rw [back_old hk hp]; exact hl, back_heap e hk hp⟩
/-- What is stable in the called function's end is stable for the caller, if nothing of his own was lent. -/
theorem back_st {T : Tr} {old : List (Nat × Leaf)} (e : Ext (ρ.inn T old) w ρ' w') (hlent : T.lent = false) : StKeep ρ'.lab w' (ρ.back ρ' T w).lab w' := by
  intro k hk hl
  refine ⟨?_, rfl⟩
  by_cases h : k < w.heap.size ∧ T.keeps (ρ.lab k) = true
  · obtain ⟨h1, h2⟩ := h
    rw [back_old h1 h2]
    cases hlab : ρ.lab k with
    | st => rfl
    | no =>
      have := (e.no k h1 (by show T.inn (ρ.lab k) = .no; rw [hlab]; rfl)).1
      rw [hl] at this; cases this
    | own r =>
      have : T.inn (ρ.lab k) = .no := by
        rcases inn_low h2 with q | q
        · rw [hlab] at q
          cases r <;> simp [Tr.inn, Tr.low, hlent] at q
          split at q <;> cases q
        · exact q
      have := (e.no k h1 this).1
      rw [hl] at this; cases this
    | box b g =>
      have : T.inn (ρ.lab k) = .no := by
        rcases inn_low h2 with q | q
        · rw [hlab] at q
          simp [Tr.inn, Tr.low, hlent] at q
          split at q <;> cases q
        · exact q
      have := (e.no k h1 this).1
      rw [hl] at this; cases this
  · simp only [Env.back, if_neg h, hl]; rfl
theorem back_new {T : Tr} {old : List (Nat × Leaf)} (e : Ext (ρ.inn T old) w ρ' w') {k : Nat} (h1 : ρ'.lab k ≠ .st) (h2 : ρ'.lab k ≠ .no) : (ρ.back ρ' T w).lab k = T.out (ρ'.lab k) := by
  show (if _ then _ else _) = _
  rw [if_neg]
  rintro ⟨hk, hp⟩
  rcases inn_low hp with q | q
  · exact h1 (e.st k hk q).1
  · exact h2 (e.no k hk q).1
/-- Values and rows that the called function left, in the caller's eyes. -/
theorem back_leaf {T : Tr} {old : List (Nat × Leaf)} (e : Ext (ρ.inn T old) w ρ' w') {r r2 : Ref} {l : Leaf} {v : Value} (hf : T.lent = false ∨ flatLeaf l = true) (hg : l.give = true) (h : RepLeaf ρ' w' r l v)
    (hr : l.isOwn = true → T.out (.own r) = .own r2 ∧ ∀ u, ρ'.hdr r = some u → (ρ.back ρ' T w).hdr r2 = some u) : RepLeaf (ρ.back ρ' T w) w' r2 l v := by
  have key : ∀ {t : Ty} {c : List Value} {x : t.den}, (T.lent = false ∨ flatTy t = true) → RepTy ρ'.lab w' t c x → RepTy (ρ.back ρ' T w).lab w' t c x := by
    intro t c x hf r
    rcases hf with hf | hf
    · exact r.mono (back_st e hf)
    · exact r.flat_any hf
  cases l with
  | v t x => exact key hf h
  | own ee xs =>
    obtain ⟨h1, A, c, h2, h3, h4⟩ := h
    obtain ⟨hr, hh⟩ := hr rfl
    refine ⟨hh _ h1, A, c, h2, h3, h4.imp id ?_⟩
    rintro ⟨blk, off, cells, ty, p1, p2, p3, p4, p5⟩
    refine ⟨blk, off, cells, ty, p1, ?_, p3, p4, fun j x hj => let ⟨cs, q1, q2⟩ := p5 j x hj; ⟨cs, key hf q1, q2⟩⟩
    rw [back_new e (by rw [p2]; simp) (by rw [p2]; simp), p2, hr]
  | _ => cases hg
theorem back_cv {T : Tr} {old : List (Nat × Leaf)} (e : Ext (ρ.inn T old) w ρ' w') {r r2 : Ref} {agg : Bool} {ls : List Leaf} {v : Value} (hf : ∀ l ∈ ls, T.lent = false ∨ flatLeaf l = true) (hg : ∀ l ∈ ls, l.give = true) (h : RepCV ρ' w' r agg ls v)
    (hr : (∃ l ∈ ls, l.isOwn = true) → T.out (.own r) = .own r2 ∧ ∀ u, ρ'.hdr r = some u → (ρ.back ρ' T w).hdr r2 = some u) : RepCV (ρ.back ρ' T w) w' r2 agg ls v := by
  cases agg with
  | true =>
    obtain ⟨cs, h1, h2, h3⟩ := h
    exact ⟨cs, h1, h2, fun i l u p q => ⟨back_leaf e (hf l (List.mem_of_getElem? p)) (hg l (List.mem_of_getElem? p)) (h3 i l u p q).1 (fun ho => by rw [(h3 i l u p q).2] at ho; cases ho), (h3 i l u p q).2⟩⟩
  | false =>
    match ls, hf, hg, h, hr with
    | [l], hf, hg, h, hr => exact back_leaf e (hf l (by simp)) (hg l (by simp)) h (fun ho => hr ⟨l, by simp, ho⟩)
    | [], _, _, h, _ => exact h
    | _ :: _ :: _, _, _, h, _ => exact h
/-- A box that the called function left, in the caller's eyes. -/
theorem back_box {T : Tr} {old : List (Nat × Leaf)} (e : Ext (ρ.inn T old) w ρ' w') {i gi b g : Nat} {ls : List Leaf} {ls2 : List (Nat × Leaf)} {age : Nat → Nat} (h : RepBox ρ' w' i gi (ls.map fun l => (0, l)))
    (hlen : ls2.length = ls.length) (hls : ∀ (j lg : Nat) (l : Leaf), ls2[j]? = some (lg, l) → ls[j]? = some l ∧ lg = age j) (hf : ∀ l ∈ ls, T.lent = false ∨ flatLeaf l = true) (hg : ∀ l ∈ ls, l.give = true)
    (hga : ∀ blk, ρ'.ga i gi = some blk → (ρ.back ρ' T w).ga b g = some blk) (hbox : T.out (.box i gi) = .box b g) (hown : ∀ j, T.out (.own (.bf i gi j 0)) = .own (.bf b g j (age j)))
    (hh : ∀ j l, ls[j]? = some l → ∀ u, ρ'.hdr (.bf i gi j 0) = some u → (ρ.back ρ' T w).hdr (.bf b g j (age j)) = some u) : RepBox (ρ.back ρ' T w) w' b g ls2 := by
  obtain ⟨blk, cs, ty, r0, r1, r2, r3, r4⟩ := h
  refine ⟨blk, cs, ty, hga _ r0, r1, ?_, by rw [hlen]; simpa using r3, fun j lg l u hj hu => ?_⟩
  · rw [back_new e (by rw [r2]; simp) (by rw [r2]; simp), r2, hbox]
  · obtain ⟨h1, rfl⟩ := hls j lg l hj
    exact back_leaf e (hf l (List.mem_of_getElem? h1)) (hg l (List.mem_of_getElem? h1)) (r4 j 0 l u (by simp [h1]) hu) (fun _ => ⟨hown j, hh j l h1⟩)
end
end Go.Proofs.Yticifedehhnjhaa.Eng
/- The caller's state behind a call. -/
namespace Go.Proofs.Yticifedehhnjhaa.Eng
set_option linter.unusedVariables false
set_option linter.unusedSimpArgs false
open Go Go.RowKit
section
variable {C : Cfg} {D : Nat → Sh} {rec : (q : Req) → Option (D q.f).den} {ρ ρ' : Env} {st : St} {a : Act} {w w' : World} {N : Nat}
theorem back_hdr {T : Tr} {r : Ref} {u : Value} (h : (ρ.back ρ' T w).hdr r = some u) : ρ.hdr r = some u ∨ ρ.hdr r = none ∧ T.hdr ρ'.hdr r = some u := by
  simp only [Env.back] at h
  split at h
  · rename_i v hv; exact .inl (hv.trans h)
  · rename_i hv; exact .inr ⟨hv, h⟩
theorem back_hdr_new {T : Tr} {r : Ref} {u : Value} (h : ρ.hdr r = none) (k : T.hdr ρ'.hdr r = some u) : (ρ.back ρ' T w).hdr r = some u := by simp [Env.back, h, k]
theorem Sim.fresh_tp (S : Sim ρ st a w N) {d g i : Nat} {a0 : AV} (hs : st (.tm d) = .tm g a0) : ρ.hdr (.tp d (g + 1) i) = none := by
  cases h : ρ.hdr (.tp d (g + 1) i) with
  | none => rfl
  | some v =>
    obtain ⟨g', av, e, le⟩ := S.htp _ _ _ _ h
    rw [hs] at e; cases e; omega
theorem Sim.fresh_bx (S : Sim ρ st a w N) {d g j lg : Nat} {l0 : List (Nat × Leaf)} (hs : st (.bx d) = .bx g l0) : ρ.hdr (.bf d (g + 1) j lg) = none := by
  cases h : ρ.hdr (.bf d (g + 1) j lg) with
  | none => rfl
  | some v =>
    obtain ⟨g', ls', e, q⟩ := S.hbf _ _ _ _ _ h
    rw [hs] at e; cases e
    rcases q with q | ⟨q, _⟩ <;> omega
theorem Sim.fresh_ga (S : Sim ρ st a w N) {d g : Nat} {l0 : List (Nat × Leaf)} (hs : st (.bx d) = .bx g l0) : ρ.ga d (g + 1) = none := by
  cases h : ρ.ga d (g + 1) with
  | none => rfl
  | some v =>
    obtain ⟨g', ls', e, q⟩ := S.gao _ _ _ h
    rw [hs] at e; cases e; omega
/-- The state of the caller behind the call. -/
theorem Sim.called (S : Sim ρ st a w N) {T : Tr} {old : List (Nat × Leaf)} (e : Ext (ρ.inn T old) w ρ' w') {st' : St} {v : Value} {av : AV} {od : Option Nat}
    (hod : od = if T.put = true then some T.d else none)
    (hd : T.put = true → T.d < N ∧ (∃ a0, st (.tm T.d) = .tm T.gd a0) ∧ st' (.tm T.d) = .tm (T.gd + 1) av)
    (htm : ∀ t, ¬(T.put = true ∧ t = T.d) → st' (.tm t) = st (.tm t))
    (hio : T.io.isSome = true → st (.bx T.bx.1) = .bx T.bx.2 old ∧ ∀ j lg l, old[j]? = some (lg, l) → T.lg j = lg)
    (hio2 : T.io.isSome = true → ¬(T.bxr = true ∧ T.bx.1 = T.d) → ∃ ls2, st' (.bx T.bx.1) = .bx T.bx.2 ls2 ∧ ls2.length = old.length ∧ (∀ j lg l, ls2[j]? = some (lg, l) → lg = T.lg j + 1) ∧
      RepBox (ρ.back ρ' T w) w' T.bx.1 T.bx.2 ls2 ∧ CurB (ρ.back ρ' T w) w' T.bx.1 T.bx.2 ls2)
    (hbxr : T.bxr = true → T.put = true ∧ (∃ l0, st (.bx T.d) = .bx T.gb l0) ∧ ∃ ls2, st' (.bx T.d) = .bx (T.gb + 1) ls2 ∧ RepBox (ρ.back ρ' T w) w' T.d (T.gb + 1) ls2 ∧ CurB (ρ.back ρ' T w) w' T.d (T.gb + 1) ls2)
    (hbx : ∀ b, ¬(T.io.isSome = true ∧ b = T.bx.1) → ¬(T.bxr = true ∧ b = T.d) → st' (.bx b) = st (.bx b))
    (hr : T.put = true → RepAV (ρ.back ρ' T w) w' T.d (T.gd + 1) av v)
    (hc : T.put = true → T.tup = false → T.bxr = false → ∀ u, ρ'.hdr (.tp 0 0 0) = some u → u = v) : Sim (ρ.back ρ' T w) st' (a.put od v) w' N := by
  have hput : ∀ t, (a.put od v).tmps.getD t undef = if T.put = true ∧ t = T.d then v else a.tmps.getD t undef := by
    intro t
    rw [hod]
    by_cases hp : T.put = true
    · rw [if_pos hp, Act.getD_put v (Nat.lt_of_lt_of_le (hd hp).1 S.size)]
      simp [hp]
    · rw [if_neg hp]; simp [hp, Act.put]
  have hsz : N ≤ (a.put od v).tmps.size := by
    cases od with
    | none => exact S.size
    | some d => simp [Act.put]; exact S.size
  have hdf : (a.put od v).defers = [] := by cases od <;> exact S.defers
  refine S.step (back_keep e) hsz hdf (fun t => T.put = true ∧ t = T.d) (fun b => T.io.isSome = true ∧ b = T.bx.1 ∨ T.bxr = true ∧ b = T.d) (fun t ht => ?_) (fun t ht => ?_) (fun b hb => ?_) (fun b hb => ?_) (fun r u hu => ?_) (fun b g x hx => ?_)
  · refine ⟨htm t ht, by rw [hput, if_neg ht], fun g av _ => ?_⟩
    exact KeepsT.of (by rintro ⟨j, lg, q, _⟩; cases q) (fun i => by rintro ⟨j, lg, q, _⟩; cases q) _
  · obtain ⟨hp, rfl⟩ := ht
    obtain ⟨h1, ⟨a0, h2⟩, h3⟩ := hd hp
    refine ⟨T.gd, T.gd + 1, a0, av, h2, h3, Nat.le_succ _, by rw [hput, if_pos ⟨hp, rfl⟩]; exact hr hp, fun u hu => ?_⟩
    rw [hput, if_pos ⟨hp, rfl⟩]
    rcases back_hdr hu with q | ⟨_, q⟩
    · rw [S.fresh_tm h2] at q; cases q
    · simp only [Tr.hdr] at q
      split at q
      · rename_i c; exact (hc hp c.2.1 c.2.2.1 u q).symm
      · cases q
  · have h1 : ¬(T.io.isSome = true ∧ b = T.bx.1) := fun q => hb (.inl q)
    have h2 : ¬(T.bxr = true ∧ b = T.d) := fun q => hb (.inr q)
    refine ⟨hbx b h1 h2, fun g ls _ => ⟨fun q => h1 ⟨q.2.2, q.1⟩, fun i lg l _ => .inl ?_⟩⟩
    rintro ⟨j, lg, q, q2⟩
    cases q
    exact h1 ⟨q2, rfl⟩
  · by_cases h2 : T.bxr = true ∧ b = T.d
    · obtain ⟨h2, rfl⟩ := h2
      obtain ⟨hp, ⟨l0, q1⟩, ls2, q2, q3, q4⟩ := hbxr h2
      exact ⟨T.gb, T.gb + 1, l0, ls2, q1, q2, .inl (Nat.lt_succ_self _), .inr q3, q4⟩
    · obtain ⟨h1, rfl⟩ := hb.resolve_right h2
      obtain ⟨p1, p2⟩ := hio h1
      obtain ⟨ls2, q1, q2, q3, q4, q5⟩ := hio2 h1 h2
      refine ⟨T.bx.2, T.bx.2, old, ls2, p1, q1, .inr ⟨rfl, q2.symm, fun i lg lg' l l' x y => ?_⟩, .inr q4, q5⟩
      rw [q3 i lg' l' y, p2 i lg l x]
      exact Nat.le_succ _
  · rcases back_hdr hu with q | ⟨_, q⟩
    · exact .inl q
    · right
      cases r with
      | tm t g =>
        simp only [Tr.hdr] at q
        split at q
        · rename_i c
          obtain ⟨c1, c2, c3, rfl, rfl⟩ := c
          exact ⟨⟨_, _, (hd c1).2.2, Nat.le_refl _⟩, c1, rfl⟩
        · cases q
      | tp t g i =>
        simp only [Tr.hdr] at q
        split at q
        · rename_i c
          obtain ⟨c1, c2, rfl, rfl⟩ := c
          exact ⟨⟨_, _, (hd c1).2.2, Nat.le_refl _⟩, c1, rfl⟩
        · cases q
      | bf b g j lg =>
        simp only [Tr.hdr] at q
        split at q
        · rename_i c
          obtain ⟨c1, rfl, rfl, rfl⟩ := c
          refine ⟨?_, .inl ⟨c1, rfl⟩⟩
          by_cases h2 : T.bxr = true ∧ T.bx.1 = T.d
          · obtain ⟨hp, ⟨l0, q1⟩, ls2, q2, q3, q4⟩ := hbxr h2.1
            refine ⟨_, _, by rw [h2.2]; exact q2, .inl ?_⟩
            have := (hio c1).1
            rw [h2.2, q1] at this; injection this with this _
            omega
          · obtain ⟨ls2, q1, q2, q3, q4, q5⟩ := hio2 c1 h2
            exact ⟨_, _, q1, .inr ⟨rfl, fun lg' l hl => by rw [q3 j lg' l hl]; exact Nat.le_refl _⟩⟩
        · split at q
          · rename_i c
            obtain ⟨c1, rfl, rfl, rfl⟩ := c
            obtain ⟨hp, ⟨l0, q1⟩, ls2, q2, q3, q4⟩ := hbxr c1
            exact ⟨⟨_, _, q2, .inr ⟨rfl, fun _ _ _ => Nat.zero_le _⟩⟩, .inr ⟨c1, rfl⟩⟩
          · cases q
  · simp only [Env.back] at hx
    split at hx
    · rename_i y hy; exact .inl (hy.trans hx)
    · split at hx
      · rename_i c
        obtain ⟨c1, rfl, rfl⟩ := c
        obtain ⟨hp, ⟨l0, q1⟩, ls2, q2, q3, q4⟩ := hbxr c1
        exact .inr ⟨_, _, q2, Nat.le_refl _⟩
      · cases hx
end
end Go.Proofs.Yticifedehhnjhaa.Eng
/- What stands at the entry of a function, and what at its end. -/
namespace Go.Proofs.Yticifedehhnjhaa.Eng
set_option linter.unusedVariables false
set_option linter.unusedSimpArgs false
open Go Go.RowKit
def EntryArg (ρ : Env) (w : World) (i : Nat) : Arg → Value → Prop
  | .cv agg ls, v => (∀ l ∈ ls, l.isOwn = false) ∧ RepCV ρ w (.tm i 0) agg ls v
  | .io ls, v => ∃ blk, v = .pointer (some ⟨blk, 0, none⟩) ∧ ρ.ga i 0 = some blk ∧ RepBox ρ w i 0 (ls.map fun l => (0, l)) ∧ CurB ρ w i 0 (ls.map fun l => (0, l))
structure Entry (ρ : Env) (w : World) (args : List Arg) (cargs : Array Value) : Prop where
  size : cargs.size = args.length
  arg : ∀ (i : Nat) x v, args[i]? = some x → cargs[i]? = some v → EntryArg ρ w i x v
  hdr : ∀ r v, ρ.hdr r = some v → ∃ i j, r = .bf i 0 j 0
  cur : ∀ i j v, ρ.hdr (.bf i 0 j 0) = some v → ∃ ls, args[i]? = some (.io ls)
  ga : ∀ b g x, ρ.ga b g = some x → g = 0
def argTm (t : Nat) : Option Arg → Cell
  | some (.cv ag ls) => .tm 0 (.cv ag ls)
  | some (.io ls) => .tm 0 (.cv false [.pb t 0 0])
  | none => .tm 0 (.tup [])
def argBx : Option Arg → Cell
  | some (.io ls) => .bx 0 (ls.map fun l => (0, l))
  | _ => .bx 0 []
theorem initSt_tm : ∀ (args : List Arg) (i t : Nat), initSt i args (.tm t) = if i ≤ t then argTm t args[t - i]? else .tm 0 (.tup [])
  | [], i, t => by simp [initSt, st0, argTm]
  | .cv ag ls :: r, i, t => by
    simp only [initSt]
    by_cases h : t = i
    · subst h; rw [upd_same]; simp [argTm]
    · rw [upd_ne _ _ (by simpa using h), initSt_tm r (i + 1) t]
      by_cases h2 : i ≤ t
      · have h3 : i + 1 ≤ t := by omega
        have h4 : t - i = (t - (i + 1)) + 1 := by omega
        rw [if_pos h2, if_pos h3, h4]; rfl
      · rw [if_neg h2, if_neg (by omega)]
  | .io ls :: r, i, t => by
    simp only [initSt]
    rw [upd_ne _ _ (by simp)]
    by_cases h : t = i
    · subst h; rw [upd_same]; simp [argTm]
    · rw [upd_ne _ _ (by simpa using h), initSt_tm r (i + 1) t]
      by_cases h2 : i ≤ t
      · have h3 : i + 1 ≤ t := by omega
        have h4 : t - i = (t - (i + 1)) + 1 := by omega
        rw [if_pos h2, if_pos h3, h4]; rfl
      · rw [if_neg h2, if_neg (by omega)]
theorem initSt_bx : ∀ (args : List Arg) (i t : Nat), initSt i args (.bx t) = if i ≤ t then argBx args[t - i]? else .bx 0 []
  | [], i, t => by simp [initSt, st0, argBx]
  | .cv ag ls :: r, i, t => by
    simp only [initSt]
    rw [upd_ne _ _ (by simp), initSt_bx r (i + 1) t]
    by_cases h : t = i
    · subst h; simp [argBx]
      intro h; omega
    · by_cases h2 : i ≤ t
      · have h3 : i + 1 ≤ t := by omega
        have h4 : t - i = (t - (i + 1)) + 1 := by omega
        rw [if_pos h2, if_pos h3, h4]; rfl
      · rw [if_neg h2, if_neg (by omega)]
  | .io ls :: r, i, t => by
    simp only [initSt]
    by_cases h : t = i
    · subst h; rw [upd_same]; simp [argBx]
    · rw [upd_ne _ _ (by simpa using h), upd_ne _ _ (by simp), initSt_bx r (i + 1) t]
      by_cases h2 : i ≤ t
      · have h3 : i + 1 ≤ t := by omega
        have h4 : t - i = (t - (i + 1)) + 1 := by omega
        rw [if_pos h2, if_pos h3, h4]; rfl
      · rw [if_neg h2, if_neg (by omega)]
section
variable {C : Cfg} {D : Nat → Sh} {rec : (q : Req) → Option (D q.f).den} {ρ ρ' : Env} {st : St} {a : Act} {w w' : World} {N : Nat}
theorem undef_leaf (r : Ref) : RepLeaf ρ w r .undef Go.undef := ⟨fun b => by simp [Go.undef], rfl⟩
theorem Entry.sim {args : List Arg} {cargs : Array Value} (E : Entry ρ w args cargs) (n : Nat) : Sim ρ (initSt 0 args) { tmps := cargs ++ Array.replicate (n - cargs.size) Go.undef, defers := [] } w n := by
  have hget : ∀ t v, cargs[t]? = some v → (cargs ++ Array.replicate (n - cargs.size) Go.undef).getD t Go.undef = v := fun t v h => by
    have hlt : t < cargs.size := (Array.getElem?_eq_some_iff.1 h).1
    simp [Array.getD_eq_getD_getElem?, Array.getElem?_append, hlt, h]
    simpa [Array.getElem?_eq_getElem hlt] using h
  have hget2 : ∀ t, args[t]? = none → (cargs ++ Array.replicate (n - cargs.size) Go.undef).getD t Go.undef = Go.undef := fun t h => by
    have hlt : ¬ t < cargs.size := by rw [E.size]; simpa using h
    simp only [Array.getD_eq_getD_getElem?, Array.getElem?_append, if_neg hlt]
    cases hq : (Array.replicate (n - cargs.size) Go.undef)[t - cargs.size]? with
    | none => rfl
    | some u =>
      obtain ⟨h1, h2⟩ := Array.getElem?_eq_some_iff.1 hq
      simp at h2
      simp [h2]
  have harg : ∀ t x, args[t]? = some x → ∃ v, cargs[t]? = some v := fun t x h => ⟨_, Array.getElem?_eq_getElem (by rw [E.size]; exact (List.getElem?_eq_some_iff.1 h).1)⟩
  have hb0 : ∀ b, ∃ ls, initSt 0 args (.bx b) = .bx 0 ls := fun b => by
    rw [initSt_bx, if_pos (Nat.zero_le _)]
    unfold argBx
    split <;> exact ⟨_, rfl⟩
  have ht0 : ∀ t, ∃ av, initSt 0 args (.tm t) = .tm 0 av := fun t => by
    rw [initSt_tm, if_pos (Nat.zero_le _)]
    unfold argTm
    split <;> exact ⟨_, rfl⟩
  refine ⟨by simp [Array.size_append]; omega, rfl, fun t => ?_, fun b => ?_, fun b g x hx => ?_, fun t g v hv => ?_, fun t g i v hv => ?_, fun b g o lg v hv => ?_⟩
  · rw [initSt_tm, if_pos (Nat.zero_le _), Nat.sub_zero]
    cases h : args[t]? with
    | none =>
      refine ⟨0, _, rfl, ?_, fun v hv => ?_⟩
      · exact .inl rfl
      · obtain ⟨i, j, e⟩ := E.hdr _ _ hv; cases e
    | some x =>
      obtain ⟨v, hv⟩ := harg t x h
      have := E.arg t x v h hv
      have hcur : CurT ρ { tmps := cargs ++ Array.replicate (n - cargs.size) Go.undef, defers := [] } t 0 := fun u hu => by
        obtain ⟨i, j, e⟩ := E.hdr _ _ hu; cases e
      cases x with
      | cv ag ls => exact ⟨0, _, rfl, by rw [hget t v hv]; exact this.2, hcur⟩
      | io ls =>
        obtain ⟨blk, q1, q2, q3⟩ := this
        exact ⟨0, _, rfl, by rw [hget t v hv]; exact ⟨blk, q2, q1⟩, hcur⟩
  · rw [initSt_bx, if_pos (Nat.zero_le _), Nat.sub_zero]
    cases h : args[b]? with
    | none => exact ⟨0, _, rfl, .inl rfl, fun o lg l v ho => by simp at ho⟩
    | some x =>
      obtain ⟨v, hv⟩ := harg b x h
      have := E.arg b x v h hv
      cases x with
      | cv ag ls => exact ⟨0, _, rfl, .inl rfl, fun o lg l v ho => by simp at ho⟩
      | io ls =>
        obtain ⟨blk, q1, q2, q3, q4⟩ := this
        exact ⟨0, _, rfl, .inr q3, q4⟩
  · obtain ⟨ls, e⟩ := hb0 b
    exact ⟨0, ls, e, by rw [E.ga _ _ _ hx]; exact Nat.le_refl _⟩
  · obtain ⟨i, j, e⟩ := E.hdr _ _ hv; cases e
  · obtain ⟨i, j, e⟩ := E.hdr _ _ hv; cases e
  · obtain ⟨i, j, e⟩ := E.hdr _ _ hv
    cases e
    obtain ⟨ls, e⟩ := hb0 b
    exact ⟨0, ls, e, .inr ⟨rfl, fun _ _ _ => Nat.zero_le _⟩⟩
/-- The boxes that came in, as they are at the end. -/
def IosOk (ρ : Env) (w : World) : Nat → List Nat → List (List Leaf) → Prop
  | _, [], q => q = []
  | i, 0 :: r, q => IosOk ρ w (i + 1) r q
  | i, (_ + 1) :: r, l :: q => ((l = [] ∨ RepBox ρ w i 0 (l.map fun l => (0, l))) ∧ CurB ρ w i 0 (l.map fun l => (0, l))) ∧ IosOk ρ w (i + 1) r q
  | _, (_ + 1) :: _, [] => False
/-- What a call gives. -/
structure RetOk (ρ : Env) (w : World) (s : Sh) (args : List Nat) (v : Value) (x : s.den) : Prop where
  give : (∀ ls ∈ (s.enc x).ios, ∀ l ∈ ls, l.give = true)
  val : s.bxr = false → IosOk ρ w 0 args (s.enc x).ios ∧ (match (s.enc x).a with
    | .cv agg ls => s.tup = false ∧ RepCV ρ w (.tp 0 0 0) agg ls v ∧ (∀ l ∈ ls, l.give = true) ∧ ∀ u, ρ.hdr (.tp 0 0 0) = some u → u = v
    | .tup cs => s.tup = true ∧ RepAV ρ w 0 0 (.tup cs) v ∧ ∀ c ∈ cs, ∀ l ∈ c.2, l.give = true)
  bxr : s.bxr = true → ∃ q l, (s.enc x).ios = q ++ [l] ∧ IosOk ρ w 0 args q ∧ l ≠ [] ∧ (∃ blk, v = .pointer (some ⟨blk, 0, none⟩) ∧ ρ.ga args.length 1 = some blk) ∧ RepBox ρ w args.length 1 (l.map fun l => (0, l)) ∧ CurB ρ w args.length 1 (l.map fun l => (0, l))
def GaIo (args : List Nat) (ρ ρ' : Env) : Prop := ∀ i k x, args[i]? = some (k + 1) → ρ.ga i 0 = some x → ρ'.ga i 0 = some x
/-- A call from such an entry comes back so. -/
def HoldsCall (C : Cfg) (q : Req) (x : (C.sh q.f).den) : Prop := ∀ (ρ : Env) (w : World) (cargs : Array Value), Entry ρ w q.args cargs →
  Calls C.P q.f cargs w fun e w' => ∃ v, e = .returned v ∧ ∃ ρ', Ext ρ w ρ' w' ∧ GaIo (q.args.map argKind) ρ ρ' ∧ RetOk ρ' w' (C.sh q.f) (q.args.map argKind) v x
end
end Go.Proofs.Yticifedehhnjhaa.Eng
