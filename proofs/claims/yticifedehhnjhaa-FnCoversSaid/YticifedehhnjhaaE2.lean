/- A reading of Go functions as functions on plain values, and the proof that it is right, part 2. -/
import Derived.Test.YticifedehhnjhaaE1
import Derived.Deep.Slices
import Derived.WalkKit
import Derived.ProofKit
import Derived.OpenShut
import Derived.ShutString
import Derived.ChangeOld
import Derived.SizedLaws
/- What is handed to a call. -/
namespace Go.Proofs.Yticifedehhnjhaa.Eng
set_option linter.unusedVariables false
set_option linter.unusedSimpArgs false
open Go Go.RowKit
/-- Rows may have become stable, nothing else. -/
structure Froze (ρ ρ' : Env) : Prop where
  lab : ∀ k, ρ'.lab k = ρ.lab k ∨ ρ'.lab k = .st
  hdr : ρ'.hdr = ρ.hdr
  ga : ρ'.ga = ρ.ga
theorem Froze.refl (ρ : Env) : Froze ρ ρ := ⟨fun _ => .inl rfl, rfl, rfl⟩
theorem Froze.trans {ρ1 ρ2 ρ3 : Env} (h : Froze ρ1 ρ2) (k : Froze ρ2 ρ3) : Froze ρ1 ρ3 :=
  ⟨fun i => (k.lab i).elim (fun e => e ▸ h.lab i) .inr, k.hdr.trans h.hdr, k.ga.trans h.ga⟩
theorem rl_froze (ρ : Env) (r : Ref) : Froze ρ (ρ.rl r .st) := ⟨fun k => by
  by_cases h : ρ.lab k = .own r
  · exact .inr (rl_own h)
  · exact .inl (rl_ne h), rfl, rfl⟩
def labKey : Lbl → Option Key
  | .own r => some (rootKey r) | .box b _ => some (.bx b) | _ => none
/-- A view in which what is stable, or stands under a key, is stable. -/
def Seen (ρ : Env) (keys : List Key) (lb : Nat → Lbl) : Prop := (∀ k, ρ.lab k = .st → lb k = .st) ∧ ∀ key ∈ keys, ∀ k, labKey (ρ.lab k) = some key → lb k = .st
theorem Seen.froze {ρ ρ' : Env} {keys : List Key} {lb : Nat → Lbl} (f : Froze ρ ρ') (h : Seen ρ' keys lb) : Seen ρ keys lb :=
  ⟨fun k hk => h.1 k ((f.lab k).elim (fun e => e.trans hk) id), fun key hkey k hk => (f.lab k).elim (fun e => h.2 key hkey k (e ▸ hk)) (h.1 k)⟩
theorem Seen.sub {ρ : Env} {k1 k2 : List Key} {lb : Nat → Lbl} (h : Seen ρ k2 lb) (hs : ∀ k ∈ k1, k ∈ k2) : Seen ρ k1 lb := ⟨h.1, fun k hk => h.2 k (hs k hk)⟩
theorem Seen.keep {ρ : Env} {keys : List Key} {lb : Nat → Lbl} (h : Seen ρ keys lb) (w : World) : StKeep ρ.lab w lb w := fun k _ hk => ⟨h.1 k hk, rfl⟩
/-- Leaves that speak of no place of the reading's. -/
def Leaf.free : Leaf → Bool
  | .v _ _ => true | .ps _ _ => true | .fn _ _ => true | .nilp => true | _ => false
section
variable {C : Cfg} {D : Nat → Sh} {rec : (q : Req) → Option (D q.f).den} {ρ ρ' : Env} {st : St} {a : Act} {w w' : World} {N : Nat}
theorem Leaf.free_own {l : Leaf} (h : l.free = true) : l.isOwn = false := by cases l <;> first | rfl | cases h
/-- A leaf that is seen so in every view that the keys allow. -/
def FreeOk (ρ : Env) (w : World) (keys : List Key) (l : Leaf) (v : Value) : Prop := l.free = true ∧ ∀ lb, Seen ρ keys lb → ∀ hdr ga r, RepLeaf ⟨lb, hdr, ga⟩ w r l v
theorem FreeOk.froze (f : Froze ρ ρ') {keys : List Key} {l : Leaf} {v : Value} (h : FreeOk ρ w keys l v) : FreeOk ρ' w keys l v := ⟨h.1, fun lb s => h.2 lb (s.froze f)⟩
theorem FreeOk.sub {k1 k2 : List Key} {l : Leaf} {v : Value} (h : FreeOk ρ w k1 l v) (hs : ∀ k ∈ k1, k ∈ k2) : FreeOk ρ w k2 l v := ⟨h.1, fun lb s => h.2 lb (s.sub hs)⟩
theorem FreeOk.ofSt {l : Leaf} {v : Value} (hf : l.free = true) (h : RepLeaf ρ w (.tm 0 0) l v) : FreeOk ρ w [] l v := by
  refine ⟨hf, fun lb s hdr ga r => ?_⟩
  have k := s.keep w
  cases l with
  | v t x => exact RepTy.mono k h
  | ps t x => exact RepPs.mono k h
  | fn f caps => obtain ⟨vs, h1, h2, h3⟩ := h; exact ⟨vs, h1, h2, fun i s u a b => (h3 i s u a b).mono k⟩
  | nilp => exact h
  | _ => cases hf
theorem ev_stabF {want : Ty} {l : Leaf} {s : SV} {st' : St} {val : Value} (h : ev rec (stab want l) st = some (s, st')) (S : Sim ρ st a w N) (hl : ∀ r, RepLeaf ρ w r l val) :
    ∃ ρ', Froze ρ ρ' ∧ Still ρ w ρ' w ∧ Sim ρ' st' a w N ∧ RepTy ρ'.lab w s.t [val] s.x := by
  have key : ∀ {s : SV} {st' : St}, ev rec ((slv l).bind stabSl) st = some (s, st') → ∃ ρ', Froze ρ ρ' ∧ Still ρ w ρ' w ∧ Sim ρ' st' a w N ∧ RepTy ρ'.lab w s.t [val] s.x := by
    intro s st' h
    obtain ⟨sv, st1, h1, h2⟩ := ev_bind _ _ _ _ h
    obtain ⟨rfl, ok⟩ := ev_slv h1 S hl
    unfold stabSl at h2
    split at h2
    · cases ev_ret h2; exact ⟨ρ, .refl _, .refl _ _, S, ok⟩
    · rename_i r e xs
      obtain ⟨_, st2, h3, h4⟩ := ev_bind _ _ _ _ h2
      cases ev_ret h4
      obtain ⟨S', hr⟩ := S.freeze ok h3
      exact ⟨_, rl_froze _ _, rl_still _ _ _ _, S', hr⟩
    · rename_i r e xs lo hi
      obtain ⟨_, st2, h3, h4⟩ := ev_bind _ _ _ _ h2
      cases ev_ret h4
      obtain ⟨V, hat, A, n, c, q, z0, z1, z2, z3, A', z4, z5⟩ := ok
      obtain ⟨S', hr⟩ := S.freeze hat h3
      have hV := hat.cur S q
      exact ⟨_, rl_froze _ _, rl_still _ _ _ _, S', sub_stable hr hV.symm z0 z1 z2 z4 z5⟩
    · cases h2
  unfold stab at h
  split at h
  · cases ev_ret h; exact ⟨ρ, .refl _, .refl _ _, S, hl (.tm 0 0)⟩
  · split at h
    · cases ev_ret h
      have := hl (.tm 0 0)
      simp only [RepLeaf] at this
      subst this
      exact ⟨ρ, .refl _, .refl _ _, S, none, 0, rfl, Nat.le_refl _, fun j x hx => by simp at hx⟩
    · cases h
  · exact key h
theorem OwnRow.seen {keys : List Key} {lb : Nat → Lbl} {r : Ref} {e : Ty} {v : Value} {xs : List e.den} (h : OwnRow ρ.lab w r e v xs) (s : Seen ρ keys lb) (hk : rootKey r ∈ keys) : RepTy lb w (.sl e) [v] xs :=
  h.stable (s.keep w) (fun b _ hb => ⟨s.2 _ hk b (by rw [hb]; rfl), rfl⟩)
/-- A leaf is lent: its value, and what must be seen as stable for it. -/
theorem ev_lent {want : Ty} {l : Leaf} {s : SV} {st1 st2 : St} {ks : List Key} {val : Value} (h : ev rec (valOf want l) st = some (s, st1)) (h2 : ev rec (lentOf l) st1 = some (ks, st2)) (S : Sim ρ st a w N) (hl : ∀ r, RepLeaf ρ w r l val) :
    st2 = st ∧ ∀ lb, Seen ρ ks lb → RepTy lb w s.t [val] s.x := by
  cases l with
  | v t x =>
    cases ev_ret h
    cases ev_ret h2
    exact ⟨rfl, fun lb sn => RepTy.mono (sn.keep w) (hl (.tm 0 0))⟩
  | nil e =>
    cases want with
    | sl e =>
      cases ev_ret h
      cases ev_ret h2
      have := hl (.tm 0 0)
      simp only [RepLeaf] at this
      subst this
      exact ⟨rfl, fun lb sn => ⟨none, 0, rfl, Nat.le_refl _, fun j x hx => by simp at hx⟩⟩
    | _ => cases h
  | al r =>
    obtain ⟨sv, s1, h3, h4⟩ := ev_bind _ _ _ _ (show ev rec ((slv (.al r)).bind valSl) st = _ from h)
    obtain ⟨rfl, ok⟩ := ev_slv h3 S hl
    obtain ⟨x, s3, h5, h6⟩ := ev_bind _ _ _ _ (show ev rec ((resolve 8 r).bind _) s1 = _ from h3)
    obtain ⟨rfl, _⟩ := ev_resolve _ _ h5 S
    have hlent : ∀ ks st2, ev rec (lentOf (.al r)) s3 = some (ks, st2) → st2 = s3 ∧ (∀ r' e xs, x = (r', .own e xs) → ks = [rootKey r']) := by
      intro ks st2 h7
      obtain ⟨x', s4, h8, h9⟩ := ev_bind _ _ _ _ (show ev rec ((resolve 8 r).bind _) s3 = _ from h7)
      rw [h5] at h8; cases h8
      split at h9
      · cases ev_ret h9; exact ⟨rfl, fun r' e xs he => by cases he; rfl⟩
      · rename_i hne
        cases ev_ret h9; exact ⟨rfl, fun r' e xs he => (hne r' e xs he).elim⟩
    split at h6
    · cases ev_ret h6
      cases ev_ret h4
      obtain ⟨rfl, hk⟩ := hlent _ _ h2
      exact ⟨rfl, fun lb sn => (ok.rep S).2.seen sn (by rw [hk _ _ _ rfl]; simp)⟩
    · cases ev_ret h6
      cases ev_ret h4
      obtain ⟨rfl, hk⟩ := hlent _ _ h2
      exact ⟨rfl, fun lb sn => RepTy.mono (sn.keep w) ok⟩
    · cases ev_ret h6
      cases ev_ret h4
      obtain ⟨rfl, hk⟩ := hlent _ _ h2
      exact ⟨rfl, fun lb sn => RepTy.mono (sn.keep w) ok⟩
    · cases h6
  | sub r z lo hi =>
    obtain ⟨sv, s1, h3, h4⟩ := ev_bind _ _ _ _ (show ev rec ((slv (.sub r z lo hi)).bind valSl) st = _ from h)
    obtain ⟨rfl, ok⟩ := ev_slv h3 S hl
    obtain ⟨x, s3, h5, h6⟩ := ev_bind _ _ _ _ (show ev rec ((resolve 8 r).bind _) s1 = _ from h3)
    obtain ⟨rfl, _⟩ := ev_resolve _ _ h5 S
    have hlent : ∀ ks st2, ev rec (lentOf (.sub r z lo hi)) s3 = some (ks, st2) → st2 = s3 ∧ (∀ r' e xs, x = (r', .own e xs) → ks = [rootKey r']) := by
      intro ks st2 h7
      obtain ⟨x', s4, h8, h9⟩ := ev_bind _ _ _ _ (show ev rec ((resolve 8 r).bind _) s3 = _ from h7)
      rw [h5] at h8; cases h8
      split at h9
      · cases ev_ret h9; exact ⟨rfl, fun r' e xs he => by cases he; rfl⟩
      · rename_i hne
        cases ev_ret h9; exact ⟨rfl, fun r' e xs he => (hne r' e xs he).elim⟩
    split at h6
    · rename_i r' e xs _
      cases hb : Nat.beq z e.sz with
      | false => rw [hb] at h6; cases h6
      | true =>
        rw [hb] at h6
        cases ev_ret h6
        cases ev_ret h4
        obtain ⟨rfl, hk⟩ := hlent _ _ h2
        obtain ⟨V, hat, A, n, c, q, z0, z1, z2, z3, A', z4, z5⟩ := ok
        have hV := hat.cur S q
        exact ⟨rfl, fun lb sn => sub_stable (ρ := ⟨lb, ρ.hdr, ρ.ga⟩) ((hat.rep S).2.seen sn (by rw [hk _ _ _ rfl]; simp)) hV.symm z0 z1 z2 z4 z5⟩
    · rename_i r' e xs _
      cases hb : Nat.beq z e.sz with
      | false => rw [hb] at h6; cases h6
      | true =>
        rw [hb] at h6
        cases ev_ret h6
        cases ev_ret h4
        obtain ⟨rfl, hk⟩ := hlent _ _ h2
        exact ⟨rfl, fun lb sn => RepTy.mono (sn.keep w) ok⟩
    · cases h6
  | _ => cases h
theorem pairUp_rep {lab : Nat → Lbl} : ∀ {l : List SV} {s : SV} {c : List Value}, pairUp l = some s → RepSVs lab w l c → RepTy lab w s.t c s.x
  | [], _, _, h, _ => by cases h
  | [s], _, [v], h, r => by cases h; exact r.1
  | s :: t :: q, _, v :: c, h, r => by
    simp only [pairUp, Option.map_eq_some_iff] at h
    obtain ⟨x, hx, rfl⟩ := h
    exact ⟨v, c, rfl, r.1, pairUp_rep (l := t :: q) hx r.2⟩
  | [_], _, [], _, r => r.elim
  | [_], _, _ :: _ :: _, _, r => r.2.elim
  | _ :: _ :: _, _, [], _, r => r.elim
theorem ev_snapBox {b g : Nat} {s : SV} {st' : St} (h : ev rec (snapBox b g) st = some (s, st')) (S : Sim ρ st a w N) :
    st' = st ∧ ∃ blk, ρ.ga b g = some blk ∧ ∀ lb, Seen ρ [.bx b] lb → RepPs lb w s.t s.x (.pointer (some ⟨blk, 0, none⟩)) := by
  obtain ⟨g', ls, hs, h⟩ := ev_getBx h
  cases hb : Nat.beq g g' with
  | false => rw [hb] at h; cases h
  | true =>
    rw [hb] at h
    obtain rfl := Nat.eq_of_beq_eq_true hb
    cases hall : ls.all (fun l => giveLeaf l.2) with
    | false => rw [hall] at h; cases h
    | true =>
      rw [hall] at h
      obtain ⟨x, hx, e⟩ := ev_opt h
      cases e
      refine ⟨rfl, ?_⟩
      obtain ⟨g', ls', e, rb, cb⟩ := S.bx b
      rw [hs] at e; cases e
      rcases rb with rfl | ⟨blk, cs, ty, r0, r1, r2, r3, r4⟩
      · cases hx
      refine ⟨blk, r0, fun lb sn => ⟨_, rfl, cs.toList, ?_, fun i u hu => ⟨sn.2 (.bx b) (by simp) blk (by rw [r2]; rfl), ?_⟩⟩⟩
      · refine pairUp_rep hx ?_
        have hcs : ∀ (l : List (Nat × Leaf)) (c : List Value) (i0 : Nat), l.length = c.length → (∀ (i lg : Nat) m u, l[i]? = some (lg, m) → c[i]? = some u → RepLeaf ρ w (.bf b g (i0 + i) lg) m u) → (∀ x ∈ l, giveLeaf x.2 = true) →
            RepSVs lb w (l.filterMap fun l => match l.2 with | .v t x => some ⟨t, x⟩ | .own e xs => some ⟨.sl e, xs⟩ | .nil e => some ⟨.sl e, []⟩ | _ => none) c := by
          intro l
          induction l with
          | nil => intro c i0 hl _ _; cases c with
            | nil => trivial
            | cons => simp at hl
          | cons p q ih =>
            intro c i0 hl hr hg
            cases c with
            | nil => simp at hl
            | cons u c =>
              have ht := ih c (i0 + 1) (by simpa using hl) (fun i lg m u hm hu => by
                have := hr (i + 1) lg m u (by simpa using hm) (by simpa using hu)
                rwa [show i0 + 1 + i = i0 + (i + 1) by omega]) (fun x hx => hg x (by simp [hx]))
              have h0 := hr 0 p.1 p.2 u rfl rfl
              have hg0 := hg p (by simp)
              obtain ⟨lg, m⟩ := p
              cases m with
              | v t x => exact ⟨RepTy.mono (sn.keep w) h0, ht⟩
              | own e xs => exact ⟨h0.2.seen sn (by simp [rootKey]), ht⟩
              | nil e =>
                simp only [RepLeaf] at h0
                subst h0
                exact ⟨⟨none, 0, rfl, Nat.le_refl _, fun j x hx => by simp at hx⟩, ht⟩
              | _ => cases hg0
        exact hcs ls cs.toList 0 (by simp [r3]) (fun i lg m u hm hu => by rw [Nat.zero_add]; exact r4 i lg m u hm (by simpa using hu)) (fun x hx => by simpa using List.all_eq_true.1 hall x hx)
      · rw [cell_off r1, Nat.zero_add]
        simpa using hu
theorem ev_snapAll : ∀ {caps : List (Nat × Nat × Nat)} {xs : List SV} {st st' : St}, ev rec (snapAll caps) st = some (xs, st') → Sim ρ st a w N → st' = st ∧ xs.length = caps.length ∧ (∀ q ∈ caps, q.2.2 = 0) ∧
    ∀ (i : Nat) q s blk, caps[i]? = some q → xs[i]? = some s → ρ.ga q.1 q.2.1 = some blk → ∀ lb, Seen ρ [.bx q.1] lb → RepPs lb w s.t s.x (.pointer (some ⟨blk, 0, none⟩))
  | [], xs, st, st', h, S => by cases ev_ret h; exact ⟨rfl, rfl, fun q hq => by simp at hq, fun i q s blk hq => by simp at hq⟩
  | (b, g, o) :: r, xs, st, st', h, S => by
    unfold snapAll at h
    cases ho : Nat.beq o 0 with
    | false => rw [ho] at h; cases h
    | true =>
      rw [ho] at h
      obtain ⟨x, s1, h1, h2⟩ := ev_bind _ _ _ _ h
      obtain ⟨rfl, blk, g1, g2⟩ := ev_snapBox h1 S
      obtain ⟨y, s2, h3, h4⟩ := ev_bind _ _ _ _ h2
      obtain ⟨rfl, e, hz, hh⟩ := ev_snapAll h3 S
      cases ev_ret h4
      refine ⟨rfl, by simp [e], fun q hq => ?_, fun i q s blk' hq hs hga lb sn => ?_⟩
      · simp at hq
        rcases hq with rfl | hq
        · exact Nat.eq_of_beq_eq_true ho
        · exact hz q hq
      · cases i with
        | zero =>
          simp at hq hs; subst hq; subst hs
          rw [g1] at hga; cases hga
          exact g2 lb sn
        | succ i => exact hh i q s blk' (by simpa using hq) (by simpa using hs) hga lb sn
/-- What is handed for a value. -/
def HandOk (ρ : Env) (w : World) (h : Handed) (v : Value) : Prop := match h.io with
  | some (b, g) => ∃ blk, ρ.ga b g = some blk ∧ v = .pointer (some ⟨blk, 0, none⟩)
  | none => ∃ agg ls, h.a = .cv agg ls ∧ (∀ l ∈ ls, l.free = true) ∧ ∀ lb, Seen ρ h.lent lb → ∀ hdr ga r, RepCV ⟨lb, hdr, ga⟩ w r agg ls v
theorem HandOk.froze (f : Froze ρ ρ') {h : Handed} {v : Value} (k : HandOk ρ w h v) : HandOk ρ' w h v := by
  unfold HandOk at *
  split
  · rename_i b g e
    simp only [e] at k
    rw [f.ga]; exact k
  · rename_i e
    simp only [e] at k
    obtain ⟨agg, ls, k1, k2, k3⟩ := k
    exact ⟨agg, ls, k1, k2, fun lb sn => k3 lb (sn.froze f)⟩
theorem ev_handLeaf {lend : Bool} {t : Ty} {l l' : Leaf} {ks : List Key} {st' : St} {v : Value} (h : ev rec (handLeaf lend t l) st = some ((l', ks), st')) (S : Sim ρ st a w N) (hl : ∀ r, RepLeaf ρ w r l v) :
    ∃ ρ', Froze ρ ρ' ∧ Still ρ w ρ' w ∧ Sim ρ' st' a w N ∧ FreeOk ρ' w ks l' v := by
  have gen : ev rec (bif lend then (valOf t l).bind fun x => (lentOf l).bind fun k => .ret (.ofSV x, k) else (stab t l).bind fun x => .ret (.ofSV x, [])) st = some ((l', ks), st') →
      ∃ ρ', Froze ρ ρ' ∧ Still ρ w ρ' w ∧ Sim ρ' st' a w N ∧ FreeOk ρ' w ks l' v := by
    intro h
    cases lend with
    | true =>
      obtain ⟨x, s1, h1, h2⟩ := ev_bind _ _ _ _ (show ev rec ((valOf t l).bind _) st = _ from h)
      obtain ⟨k, s2, h3, h4⟩ := ev_bind _ _ _ _ h2
      obtain ⟨rfl, hx⟩ := ev_lent h1 h3 S hl
      cases ev_ret h4
      exact ⟨ρ, .refl _, .refl _ _, S, rfl, fun lb sn hdr ga r => hx lb sn⟩
    | false =>
      obtain ⟨x, s1, h1, h2⟩ := ev_bind _ _ _ _ (show ev rec ((stab t l).bind _) st = _ from h)
      obtain ⟨ρ', f, k, S', hx⟩ := ev_stabF h1 S hl
      cases ev_ret h2
      exact ⟨ρ', f, k, S', .ofSt rfl hx⟩
  unfold handLeaf at h
  split at h
  · cases ev_ret h; exact ⟨ρ, .refl _, .refl _ _, S, .ofSt rfl (hl _)⟩
  · cases ev_ret h; exact ⟨ρ, .refl _, .refl _ _, S, .ofSt rfl (hl _)⟩
  · cases ev_ret h; exact ⟨ρ, .refl _, .refl _ _, S, .ofSt rfl (hl _)⟩
  · rename_i f c
    obtain ⟨xs, s1, h1, h2⟩ := ev_bind _ _ _ _ h
    obtain ⟨rfl, e, hz, hh⟩ := ev_snapAll h1 S
    cases ev_ret h2
    obtain ⟨vs, q1, q2, q3⟩ := hl (.tm 0 0)
    refine ⟨ρ, .refl _, .refl _ _, S, rfl, fun lb sn hdr ga r => ⟨vs, q1, by rw [q2, e], fun i s u hs hu => ?_⟩⟩
    obtain ⟨q, hq⟩ : ∃ q, c[i]? = some q := ⟨_, List.getElem?_eq_getElem (by rw [← e]; exact (List.getElem?_eq_some_iff.1 hs).1)⟩
    obtain ⟨blk, p1, p2⟩ := q3 i q u hq hu
    rw [p2, hz q (List.mem_of_getElem? hq)]
    exact hh i q s blk hq hs p1 lb (sn.sub fun k hk => by simp at hk; subst hk; exact List.mem_map.2 ⟨q, List.mem_of_getElem? hq, rfl⟩)
  · exact gen h
theorem ev_handLeaves {lend : Bool} : ∀ {ts : List Ty} {ls ls' : List Leaf} {ks : List Key} {vs : List Value} {ρ : Env} {st st' : St}, ev rec (handLeaves lend ts ls) st = some ((ls', ks), st') → Sim ρ st a w N → RepLs ρ w ls vs →
    ∃ ρ', Froze ρ ρ' ∧ Still ρ w ρ' w ∧ Sim ρ' st' a w N ∧ ls'.length = vs.length ∧ ∀ (i : Nat) l u, ls'[i]? = some l → vs[i]? = some u → FreeOk ρ' w ks l u
  | [], [], ls', ks, vs, ρ, st, st', h, S, r => by
    cases ev_ret h
    match vs, r with
    | [], _ => exact ⟨ρ, .refl _, .refl _ _, S, rfl, fun i l u hi => by simp at hi⟩
  | t :: ts, l :: ls, ls', ks, vs, ρ, st, st', h, S, r => by
    match vs, r with
    | v :: vs, r =>
      unfold handLeaves at h
      obtain ⟨⟨x, k1⟩, s1, h1, h2⟩ := ev_bind _ _ _ _ h
      obtain ⟨⟨q, k2⟩, s2, h3, h4⟩ := ev_bind _ _ _ _ h2
      cases ev_ret h4
      obtain ⟨ρ1, f1, s1, S1, o1⟩ := ev_handLeaf h1 S r.1.2
      obtain ⟨ρ2, f2, s2, S2, e, o2⟩ := ev_handLeaves h3 S1 (r.2.still s1)
      refine ⟨ρ2, f1.trans f2, s1.trans s2, S2, by simp [e], fun i l u hi hu => ?_⟩
      cases i with
      | zero =>
        simp at hi hu; subst hi; subst hu
        exact (o1.froze f2).sub (fun k hk => by simp [hk])
      | succ i => exact (o2 i l u (by simpa using hi) (by simpa using hu)).sub (fun k hk => by simp [hk])
  | [], _ :: _, _, _, _, _, _, _, h, _, _ => by cases h
  | _ :: _, [], _, _, _, _, _, _, h, _, _ => by cases h
theorem FreeOk.hand {keys : List Key} {l : Leaf} {v : Value} (h : FreeOk ρ w keys l v) : HandOk ρ w ⟨.cv false [l], keys, none⟩ v :=
  ⟨false, [l], rfl, fun m hm => by simp at hm; subst hm; exact h.1, fun lb sn hdr ga r => h.2 lb sn hdr ga r⟩
theorem ev_handPtr {et : G TD} {ro : Bool} {l : Leaf} {hd : Handed} {st' : St} {v : Value} (het : ∀ td s1, ev rec et st = some (td, s1) → s1 = st) (h : ev rec (handPtr et ro l) st = some (hd, st')) (S : Sim ρ st a w N) (hl : ∀ r, RepLeaf ρ w r l v) : st' = st ∧ HandOk ρ w hd v := by
  unfold handPtr at h
  split at h
  · rename_i b g off
    obtain ⟨blk, p1, p2⟩ := hl (.tm 0 0)
    cases ro with
    | true =>
      obtain ⟨td, s1, h1, h2⟩ := ev_bind _ _ _ _ (show ev rec (et.bind _) st = _ from h)
      have e1 := het _ _ h1
      subst e1
      obtain ⟨s, s2, h3, h4⟩ := ev_bind _ _ _ _ h2
      obtain ⟨rfl, blk', g1, g2⟩ := ev_snapBox h3 S
      rw [p1] at g1; cases g1
      cases hb : Nat.beq off 0 with
      | false => rw [hb] at h4; cases h4
      | true =>
        rw [hb] at h4
        obtain ⟨y, s3, h5, h6⟩ := ev_bind _ _ _ _ (show ev rec ((G.opt _).bind _) _ = _ from h4)
        obtain ⟨y', hy, e⟩ := ev_opt h5
        cases e
        cases ev_ret h6
        obtain rfl := Nat.eq_of_beq_eq_true hb
        refine ⟨rfl, FreeOk.hand ⟨rfl, fun lb sn hdr ga r => ?_⟩⟩
        rw [p2]
        obtain ⟨ad, q1, cells, q2, q3⟩ := g2 lb sn
        exact ⟨ad, q1, cells, q2.cast hy, q3⟩
    | false =>
      cases hb : Nat.beq off 0 with
      | false => rw [hb] at h; cases h
      | true =>
        rw [hb] at h
        cases ev_ret h
        obtain rfl := Nat.eq_of_beq_eq_true hb
        exact ⟨rfl, blk, p1, p2⟩
  · cases ev_ret h
    exact ⟨rfl, FreeOk.hand (.ofSt rfl (hl _))⟩
  · cases ev_ret h
    exact ⟨rfl, FreeOk.hand (.ofSt rfl (hl _))⟩
  · rename_i r s i off
    obtain ⟨td, s1, h1, h2⟩ := ev_bind _ _ _ _ h
    have e1 := het _ _ h1
    subst e1
    obtain ⟨x, s2, h3, h4⟩ := ev_bind _ _ _ _ h2
    obtain ⟨rfl, V, p1, p2⟩ := ev_resolve _ _ h3 S
    obtain ⟨ad, n, c, hal, z0, z1, z2⟩ := hl (.tm 0 0)
    obtain ⟨q1, q2⟩ := p2 _ hal
    split at h4
    · rename_i r' e xs
      cases hb : Nat.beq s e.sz with
      | false => rw [hb] at h4; cases h4
      | true =>
        rw [hb] at h4
        obtain ⟨y, s3, h5, h6⟩ := ev_bind _ _ _ _ (show ev rec ((G.opt _).bind _) _ = _ from h4)
        obtain ⟨y', hy, e5⟩ := ev_opt h5
        cases e5
        cases ev_ret h6
        obtain rfl := Nat.eq_of_beq_eq_true hb
        refine ⟨rfl, FreeOk.hand ⟨rfl, fun lb sn hdr ga r => ?_⟩⟩
        obtain ⟨A, c', hv, hc, ho⟩ := (p1.rep S).2
        rw [← q1] at hv
        injection hv with e1 e2 e3
        subst e1; subst e2
        have hi : i.toNat < xs.length := by omega
        obtain ⟨x, hx⟩ : ∃ x, xs[i.toNat]? = some x := ⟨_, List.getElem?_eq_getElem hi⟩
        rcases ho with rfl | ⟨blk, off0, cells, ty, hA, hlab, hblk, hsz, hxs⟩
        · omega
        cases hA
        obtain ⟨cs, r1, r2⟩ := hxs _ _ hx
        have hget : vGet xs i e.dflt = x := by simp [vGet, List.getD_eq_getElem?_getD, hx]
        rw [hget] at hy
        rw [z2]
        refine ⟨_, rfl, _, (r1.mono (sn.keep w)).part hy, fun k u hu => ⟨?_, ?_⟩⟩
        · rw [add_blk]
          exact sn.2 (rootKey r') (by simp) blk (by rw [hlab]; rfl)
        · rw [add_add', cell_off hblk]
          rw [List.getElem?_take] at hu
          split at hu
          · rw [List.getElem?_drop] at hu
            have := r2 _ u hu
            rw [← this]; congr 1; omega
          · cases hu
    · cases h4
  · cases h
theorem ev_handG {t : Nat} {ro lend : Bool} {av : AV} {hd : Handed} {st' : St} {v : Value} (h : ev rec (handG C t ro lend av) st = some (hd, st')) (S : Sim ρ st a w N) (ok : OpdOk ρ w av v) :
    ∃ ρ', Froze ρ ρ' ∧ Still ρ w ρ' w ∧ Sim ρ' st' a w N ∧ HandOk ρ' w hd v := by
  have hone : ∀ {l : Leaf} {s1 : St}, ev rec (one av) st = some (l, s1) → s1 = st ∧ ∀ r, RepLeaf ρ w r l v := by
    intro l s1 h1
    unfold one at h1
    split at h1
    · cases ev_ret h1; exact ⟨rfl, ok.2⟩
    · cases h1
  unfold handG at h
  split at h
  · rename_i td htd
    cases hu : isUnit td.ty with
    | true =>
      rw [hu] at h
      obtain ⟨l, s1, h1, h2⟩ := ev_bind _ _ _ _ (show ev rec ((one av).bind _) st = _ from h)
      obtain ⟨rfl, hl⟩ := hone h1
      obtain ⟨rfl, hh⟩ := ev_handPtr (fun td s1 h1 => by
        obtain ⟨td0, s0, h10, h11⟩ := ev_bind _ _ _ _ h1
        obtain ⟨x0, _, e0⟩ := ev_opt h10
        cases e0
        exact (ev_tdOf h11).1) h2 S hl
      exact ⟨ρ, .refl _, .refl _ _, S, hh⟩
    | false =>
      rw [hu] at h
      cases hp : isPtr av with
      | true =>
        rw [hp] at h
        obtain ⟨l, s1, h1, h2⟩ := ev_bind _ _ _ _ (show ev rec ((one av).bind _) st = _ from h)
        obtain ⟨rfl, hl⟩ := hone h1
        obtain ⟨rfl, hh⟩ := ev_handPtr (fun td s1 h1 => (ev_tdOf h1).1) h2 S hl
        exact ⟨ρ, .refl _, .refl _ _, S, hh⟩
      | false =>
      rw [hp] at h
      cases av with
      | tup cs => cases h
      | cv agg ls =>
        obtain ⟨⟨ls', ks⟩, s1, h1, h2⟩ := ev_bind _ _ _ _ (show ev rec ((handLeaves lend (tys td.ty) ls).bind _) st = _ from h)
        obtain ⟨ρ', f, k, S', e, o⟩ := ev_handLeaves h1 S ok.leaves
        cases ev_ret h2
        refine ⟨ρ', f, k, S', agg, ls', rfl, fun l hl => ?_, fun lb sn hdr ga r => ?_⟩
        · obtain ⟨i, hi, rfl⟩ := List.getElem_of_mem hl
          exact (o i _ _ (List.getElem?_eq_getElem hi) (List.getElem?_eq_getElem (by rw [← e]; exact hi))).1
        · have hok := ok.2 (.tm 0 0)
          cases agg with
          | false =>
            match ls, hok with
            | [l], hok =>
              have hv : v.cells = #[v] := RepLeaf.cells (ok.1 l (by simp)) hok
              rw [hv] at e o
              match ls', e, o with
              | [l'], e, o => exact (o 0 l' v rfl rfl).2 lb sn hdr ga r
            | [], hok => exact hok.elim
            | _ :: _ :: _, hok => exact hok.elim
          | true =>
            obtain ⟨cs, rfl, hc, _⟩ := hok
            exact ⟨cs, rfl, by simp [Value.cells] at e; exact e.symm, fun i l u p q => ⟨(o i l u p (by simpa [Value.cells] using q)).2 lb sn hdr ga r, Leaf.free_own (o i l u p (by simpa [Value.cells] using q)).1⟩⟩
  · obtain ⟨l, s1, h1, h2⟩ := ev_bind _ _ _ _ h
    obtain ⟨rfl, hl⟩ := hone h1
    obtain ⟨⟨x, ks⟩, s2, h3, h4⟩ := ev_bind _ _ _ _ h2
    obtain ⟨ρ', f, k, S', o⟩ := ev_handLeaf h3 S hl
    cases ev_ret h4
    exact ⟨ρ', f, k, S', o.hand⟩
theorem ev_handAll {f : Nat} : ∀ {args : List (Nat × Operand)} {i : Nat} {hs : List Handed} {ρ : Env} {st st' : St}, ev rec (handAll C f i args) st = some (hs, st') → Sim ρ st a w N →
    ∃ ρ', Froze ρ ρ' ∧ Still ρ w ρ' w ∧ Sim ρ' st' a w N ∧ hs.length = args.length ∧ ∀ (j : Nat) h t o, hs[j]? = some h → args[j]? = some (t, o) → HandOk ρ' w h (a.eval o)
  | [], i, hs, ρ, st, st', h, S => by cases ev_ret h; exact ⟨ρ, .refl _, .refl _ _, S, rfl, fun j h t o hj => by simp at hj⟩
  | (t, o) :: r, i, hs, ρ, st, st', h, S => by
    unfold handAll at h
    obtain ⟨av, s1, h1, h2⟩ := ev_bind _ _ _ _ h
    obtain ⟨rfl, ok⟩ := ev_opd h1 S
    obtain ⟨hd, s2, h3, h4⟩ := ev_bind _ _ _ _ h2
    obtain ⟨ρ1, f1, k1, S1, o1⟩ := ev_handG h3 S ok
    obtain ⟨q, s3, h5, h6⟩ := ev_bind _ _ _ _ h4
    obtain ⟨ρ2, f2, k2, S2, e, o2⟩ := ev_handAll h5 S1
    cases ev_ret h6
    refine ⟨ρ2, f1.trans f2, k1.trans k2, S2, by simp [e], fun j h t' o' hj ha => ?_⟩
    cases j with
    | zero => simp at hj ha; obtain ⟨rfl, rfl⟩ := ha; subst hj; exact o1.froze f2
    | succ j => exact o2 j h t' o' (by simpa using hj) (by simpa using ha)
theorem ev_argsOf : ∀ {hs : List Handed} {as : List Arg} {st st' : St}, ev rec (argsOf hs) st = some (as, st') → st' = st ∧ as.length = hs.length ∧ ∀ (i : Nat) h x, hs[i]? = some h → as[i]? = some x →
    (h.io = none → x = h.a) ∧ ∀ b g, h.io = some (b, g) → ∃ ls, st (.bx b) = .bx g ls ∧ x = .io (ls.map (·.2)) ∧ (∀ l ∈ ls, giveLeaf l.2 = true) ∧ 0 < ls.length
  | [], as, st, st', h => by cases ev_ret h; exact ⟨rfl, rfl, fun i h x hi => by simp at hi⟩
  | h :: r, as, st, st', hv => by
    unfold argsOf at hv
    obtain ⟨x, s1, h1, h2⟩ := ev_bind _ _ _ _ hv
    obtain ⟨q, s2, h3, h4⟩ := ev_bind _ _ _ _ h2
    have hx : s1 = st ∧ (h.io = none → x = h.a) ∧ ∀ b g, h.io = some (b, g) → ∃ ls, st (.bx b) = .bx g ls ∧ x = .io (ls.map (·.2)) ∧ (∀ l ∈ ls, giveLeaf l.2 = true) ∧ 0 < ls.length := by
      split at h1
      · rename_i b g hio
        obtain ⟨g', ls, hs, h1⟩ := ev_getBx h1
        cases hb : Nat.beq g g' with
        | false => rw [hb] at h1; cases h1
        | true =>
          rw [hb] at h1
          obtain rfl := Nat.eq_of_beq_eq_true hb
          cases hall : ls.all (fun l => giveLeaf l.2) with
          | false => rw [hall] at h1; cases h1
          | true =>
            rw [hall] at h1
            cases hlt : Nat.blt 0 ls.length with
            | false => rw [hlt] at h1; cases h1
            | true =>
              rw [hlt] at h1
              cases ev_ret h1
              refine ⟨rfl, fun e => (by rw [hio] at e; cases e), fun b' g' e => ?_⟩
              rw [hio] at e; cases e
              exact ⟨ls, hs, rfl, fun l hl => by simpa using List.all_eq_true.1 hall l hl, by simp [Nat.blt] at hlt; omega⟩
      · rename_i hio
        cases ev_ret h1
        exact ⟨rfl, fun _ => rfl, fun b g e => by rw [hio] at e; cases e⟩
    obtain ⟨rfl, hx⟩ := hx
    obtain ⟨rfl, e, hq⟩ := ev_argsOf h3
    cases ev_ret h4
    refine ⟨rfl, by simp [e], fun i h' x' hi hx' => ?_⟩
    cases i with
    | zero => simp at hi hx'; subst hi; subst hx'; exact hx
    | succ i => exact hq i h' x' (by simpa using hi) (by simpa using hx')
end
end Go.Proofs.Yticifedehhnjhaa.Eng
/- Calls: the operation. -/
namespace Go.Proofs.Yticifedehhnjhaa.Eng
set_option linter.unusedVariables false
set_option linter.unusedSimpArgs false
open Go Go.RowKit
theorem zip2_len : ∀ {ts : List Nat} {os : List Operand}, ts.length = os.length → (zip2 ts os).length = os.length
  | [], [], _ => rfl
  | _ :: _, _ :: _, h => by simp [zip2, zip2_len (by simpa using h)]
  | [], _ :: _, h => by simp at h
  | _ :: _, [], h => by simp at h
theorem zip2_get : ∀ {ts : List Nat} {os : List Operand}, ts.length = os.length → ∀ (i : Nat) o, os[i]? = some o → ∃ t, (zip2 ts os)[i]? = some (t, o)
  | [], [], _, i, o, h => by simp at h
  | t :: ts, x :: os, h, i, o, hi => by
    cases i with
    | zero => simp at hi; subst hi; exact ⟨t, rfl⟩
    | succ i => exact zip2_get (by simpa using h) i o (by simpa using hi)
  | [], _ :: _, h, _, _, _ => by simp at h
  | _ :: _, [], h, _, _, _ => by simp at h
theorem ioOf_nil : ∀ {hs : List Handed}, ioOf hs = [] → ∀ (i : Nat) h, hs[i]? = some h → h.io = none
  | [], _, i, h, hi => by simp at hi
  | x :: r, e, i, h, hi => by
    simp [ioOf] at e
    cases i with
    | zero => simp at hi; subst hi; exact e.1
    | succ i => exact ioOf_nil e.2 i h (by simpa using hi)
theorem ioOf_one : ∀ {hs : List Handed} {p : Nat × Nat}, ioOf hs = [p] → ∃ (i0 : Nat) (h0 : Handed), hs[i0]? = some h0 ∧ h0.io = some p ∧ ∀ (i : Nat) h, i ≠ i0 → hs[i]? = some h → h.io = none
  | [], p, e => by simp [ioOf] at e
  | x :: r, p, e => by
    cases hx : x.io with
    | none =>
      simp [ioOf, hx] at e
      obtain ⟨i0, h0, e1, e2, e3⟩ := ioOf_one e
      refine ⟨i0 + 1, h0, by simpa using e1, e2, fun i h hne hi => ?_⟩
      cases i with
      | zero => simp at hi; subst hi; exact hx
      | succ i => exact e3 i h (by omega) (by simpa using hi)
    | some q =>
      simp [ioOf, hx] at e
      obtain ⟨rfl, e⟩ := e
      refine ⟨0, x, rfl, hx, fun i h hne hi => ?_⟩
      cases i with
      | zero => exact (hne rfl).elim
      | succ i => exact ioOf_nil e i h (by simpa using hi)
section
variable {C : Cfg} {ρ ρ' : Env} {st : St} {a : Act} {w w' : World} {N : Nat}
theorem iosOk_none : ∀ {args : List Nat} {i : Nat} {q : List (List Leaf)}, (∀ (j : Nat) k, args[j]? = some k → k = 0) → IosOk ρ w i args q → q = []
  | [], i, q, _, h => h
  | 0 :: r, i, q, hz, h => iosOk_none (args := r) (fun j k hk => hz (j + 1) k (by simpa using hk)) h
  | (n + 1) :: r, i, q, hz, h => by have := hz 0 (n + 1) rfl; omega
theorem iosOk_at : ∀ {args : List Nat} {i i0 n : Nat} {q : List (List Leaf)}, args[i0]? = some (n + 1) → (∀ (j : Nat) k, j ≠ i0 → args[j]? = some k → k = 0) → IosOk ρ w i args q →
    ∃ l, q = [l] ∧ (l = [] ∨ RepBox ρ w (i + i0) 0 (l.map fun l => (0, l))) ∧ CurB ρ w (i + i0) 0 (l.map fun l => (0, l))
  | [], i, i0, n, q, h, _, _ => by simp at h
  | 0 :: r, i, i0, n, q, h, hz, hq => by
    cases i0 with
    | zero => simp at h
    | succ i0 =>
      obtain ⟨l, e, h2⟩ := iosOk_at (args := r) (i := i + 1) (i0 := i0) (by simpa using h) (fun j k hj hk => hz (j + 1) k (by omega) (by simpa using hk)) hq
      refine ⟨l, e, ?_⟩
      rwa [show i + 1 + i0 = i + (i0 + 1) by omega] at h2
  | (m + 1) :: r, i, i0, n, q, h, hz, hq => by
    cases i0 with
    | succ i0 => have := hz 0 (m + 1) (by omega) rfl; omega
    | zero =>
      match q, hq with
      | l :: q, hq =>
        have := iosOk_none (args := r) (fun j k hk => hz (j + 1) k (by omega) (by simpa using hk)) hq.2
        subst this
        exact ⟨l, rfl, hq.1⟩
theorem Tr.inn_isIo {T : Tr} {i b g : Nat} (h : T.io = some (i, b, g)) : T.isIo b g = true := by simp [Tr.isIo, h]
theorem giveLeaf_cases {l : Leaf} (h : giveLeaf l = true) : (∃ t x, l = .v t x) ∨ (∃ e xs, l = .own e xs) ∨ ∃ e, l = .nil e := by
  cases l with
  | v t x => exact .inl ⟨t, x, rfl⟩
  | own e xs => exact .inr (.inl ⟨e, xs, rfl⟩)
  | nil e => exact .inr (.inr ⟨e, rfl⟩)
  | _ => cases h
theorem inn_keep (T : Tr) (old : List (Nat × Leaf)) (w : World) : StKeep ρ.lab w (ρ.inn T old).lab w := fun k _ hk => ⟨inn_st hk, rfl⟩
/-- The caller's memory as the called function sees it. -/
theorem entry_of (S : Sim ρ st a w N) {T : Tr} {old : List (Nat × Leaf)} {hs : List Handed} {as : List Arg} {caps : List SV} {vals vs : Array Value} {L : Nat}
    (hsL : hs.length = vals.size) (hlen : as.length = hs.length) (hh : ∀ (j : Nat) h v, hs[j]? = some h → vals[j]? = some v → HandOk ρ w h v)
    (ha : ∀ (i : Nat) h x, hs[i]? = some h → as[i]? = some x → (h.io = none → x = h.a) ∧ ∀ b g, h.io = some (b, g) → ∃ ls, st (.bx b) = .bx g ls ∧ x = .io (ls.map (·.2)) ∧ (∀ l ∈ ls, giveLeaf l.2 = true) ∧ 0 < ls.length)
    (hio : ∀ (i : Nat) h, hs[i]? = some h → h.io = match T.io with | some (i0, b, g) => if i = i0 then some (b, g) else none | none => none)
    (hold : ∀ i b g, T.io = some (i, b, g) → st (.bx b) = .bx g old ∧ i < hs.length)
    (hlent : ∀ h ∈ hs, h.lent ≠ [] → T.lent = true) (hap : ∀ h ∈ hs, ∀ k ∈ h.lent, ∀ i b g, T.io = some (i, b, g) → k ≠ .bx b)
    (hcs : vs.size = caps.length) (hc : ∀ (i : Nat) (s : SV) (u : Value), caps[i]? = some s → vs[i]? = some u → RepPs ρ.lab w s.t s.x u) :
    Entry (ρ.inn T old) w (as ++ caps.map fun s => .cv false [.ps s.t s.x]) (vals ++ vs) := by
  have seen : ∀ h ∈ hs, Seen ρ h.lent (ρ.inn T old).lab := by
    intro h hmem
    refine ⟨fun k hk => inn_st hk, fun key hkey k hk => ?_⟩
    have hl := hlent h hmem (fun e => by rw [e] at hkey; cases hkey)
    have hlow : T.low = .st := by simp [Tr.low, hl]
    have hne : ∀ b g, T.isIo b g = true → key ≠ .bx b := by
      intro b g hb
      simp only [Tr.isIo] at hb
      cases hT : T.io with
      | none => simp [hT] at hb
      | some p =>
        obtain ⟨i', b', g'⟩ := p
        simp [hT] at hb
        obtain ⟨rfl, rfl⟩ := hb
        exact hap h hmem key hkey i' b g hT
    show T.inn (ρ.lab k) = .st
    cases hlab : ρ.lab k with
    | st => rfl
    | no => rw [hlab] at hk; cases hk
    | box b g =>
      rw [hlab] at hk
      simp only [labKey, Option.some.injEq] at hk
      simp only [Tr.inn]
      by_cases hb : T.isIo b g = true
      · exact (hne b g hb hk.symm).elim
      · rw [if_neg hb]; exact hlow
    | own r =>
      rw [hlab] at hk
      simp only [labKey, Option.some.injEq] at hk
      cases r with
      | tm t g => exact hlow
      | tp t g i => exact hlow
      | bf b g j lg =>
        simp only [Tr.inn]
        by_cases hb : T.isIo b g = true
        · exact (hne b g hb hk.symm).elim
        · rw [if_neg hb]; exact hlow
  have hargs : ∀ (i : Nat) x v, (as ++ caps.map fun s => Arg.cv false [.ps s.t s.x])[i]? = some x → (vals ++ vs)[i]? = some v → EntryArg (ρ.inn T old) w i x v := by
    intro i x v hx hv
    by_cases hi : i < as.length
    · rw [List.getElem?_append_left hi] at hx
      have hi2 : i < vals.size := by omega
      rw [Array.getElem?_append, if_pos hi2] at hv
      obtain ⟨h, hhs⟩ : ∃ h, hs[i]? = some h := ⟨_, List.getElem?_eq_getElem (by omega)⟩
      have k1 := hh i h v hhs hv
      obtain ⟨k2, k3⟩ := ha i h x hhs hx
      have k4 := hio i h hhs
      unfold HandOk at k1
      split at k1
      · rename_i b g e
        obtain ⟨ls, q1, rfl, q3, q4⟩ := k3 b g e
        cases hT : T.io with
        | none => rw [hT] at k4; rw [k4] at e; cases e
        | some p =>
          obtain ⟨i0, b0, g0⟩ := p
          rw [hT] at k4
          by_cases hi0 : i = i0
          · subst hi0
            simp only [if_true] at k4
            rw [k4] at e; cases e
            obtain ⟨e1, _⟩ := hold i b g hT
            rw [q1] at e1; cases e1
            obtain ⟨blk, p1, p2⟩ := k1
            have hnum : T.num = i := by simp [Tr.num, hT]
            have hbx : T.bx = (b, g) := by simp [Tr.bx, hT]
            have hsome : T.io.isSome = true := by simp [hT]
            have hga : (ρ.inn T old).ga i 0 = some blk := by simp [Env.inn, hsome, hnum, hbx, p1]
            obtain ⟨g', ls', e', rb, cb⟩ := S.bx b
            rw [q1] at e'; cases e'
            rcases rb with rfl | ⟨blk', cs, ty, r0, r1, r2, r3, r4⟩
            · simp at q4
            rw [p1] at r0; cases r0
            refine ⟨blk, p2, hga, ⟨blk, cs, ty, hga, r1, ?_, by simpa using r3, fun j lg l u hj hu => ?_⟩, fun o lg l u ho hu => ?_⟩
            · show T.inn (ρ.lab blk) = _
              rw [r2]; simp [Tr.inn, Tr.inn_isIo hT, hnum]
            · simp only [List.getElem?_map, Option.map_eq_some_iff] at hj
              obtain ⟨l', ⟨⟨lg0, l0⟩, hl0, rfl⟩, e'⟩ := hj
              cases e'
              have hrep := r4 j lg0 l0 u hl0 hu
              rcases giveLeaf_cases (q3 _ (List.mem_of_getElem? hl0)) with ⟨t, x, e⟩ | ⟨ee, xs, e⟩ | ⟨ee, e⟩
              · simp only at e; subst e
                exact RepTy.mono (inn_keep T old w) hrep
              · simp only at e; subst e
                obtain ⟨o1, A, n, o2, o3, o4⟩ := hrep
                refine ⟨by simp [Env.inn, hsome, hnum, hl0, hbx, o1], A, n, o2, o3, o4.imp id ?_⟩
                rintro ⟨bk, off, cells, ty', b1, b2, b3, b4, b5⟩
                refine ⟨bk, off, cells, ty', b1, ?_, b3, b4, fun j' x' hx' => let ⟨cs', c1, c2⟩ := b5 j' x' hx'; ⟨cs', c1.mono (inn_keep T old w), c2⟩⟩
                show T.inn (ρ.lab bk) = _
                rw [b2]; simp [Tr.inn, Tr.inn_isIo hT, hnum]
              · simp only at e; subst e
                exact hrep
            · have hlg : lg = 0 := by
                simp only [List.getElem?_map, Option.map_eq_some_iff] at ho
                obtain ⟨l', _, e'⟩ := ho
                injection e' with e' _
                exact e'.symm
              subst hlg
              simp only [Env.inn, hsome, hnum, true_and, if_true, and_self] at hu
              cases hl0 : old[o]? with
              | none => rw [hl0] at hu; cases hu
              | some p =>
                obtain ⟨lg0, l0⟩ := p
                rw [hl0] at hu
                cases l0 with
                | own e0 xs0 =>
                  rw [hbx] at hu
                  obtain ⟨blk', cs', ty', c0, c1, c2⟩ := cb o lg0 _ u hl0 hu
                  rw [p1] at c0; cases c0
                  exact ⟨blk, cs', ty', hga, c1, c2⟩
                | _ => cases hu
          · simp only [if_neg hi0] at k4
            rw [k4] at e; cases e
      · rename_i e
        have := k2 e
        subst this
        obtain ⟨agg, ls, q1, q2, q3⟩ := k1
        rw [q1]
        exact ⟨fun l hl => Leaf.free_own (q2 l hl), q3 _ (seen h (List.mem_of_getElem? hhs)) _ _ _⟩
    · rw [List.getElem?_append_right (by omega)] at hx
      rw [Array.getElem?_append, if_neg (by omega)] at hv
      simp only [List.getElem?_map, Option.map_eq_some_iff] at hx
      obtain ⟨s, hs', rfl⟩ := hx
      have := hc _ s v hs' (by rw [show i - as.length = i - vals.size by omega]; exact hv)
      exact ⟨fun l hl => by simp at hl; subst hl; rfl, RepPs.mono (inn_keep T old w) this⟩
  refine ⟨by simp; omega, hargs, fun r v hv => ?_, fun i j v hv => ?_, fun b g x hx => ?_⟩
  · simp only [Env.inn] at hv
    split at hv
    · rename_i i g j l
      split at hv
      · rename_i c; obtain ⟨_, rfl, rfl, rfl⟩ := c; exact ⟨_, _, rfl⟩
      · cases hv
    · cases hv
  · simp only [Env.inn] at hv
    split at hv
    · rename_i c
      obtain ⟨c1, rfl, _⟩ := c
      cases hT : T.io with
      | none => simp [hT] at c1
      | some p =>
        obtain ⟨i0, b0, g0⟩ := p
        obtain ⟨_, hi⟩ := hold i0 b0 g0 hT
        have hnum : T.num = i0 := by simp [Tr.num, hT]
        obtain ⟨h, hhs⟩ : ∃ h, hs[i0]? = some h := ⟨_, List.getElem?_eq_getElem hi⟩
        obtain ⟨x, hx⟩ : ∃ x, as[i0]? = some x := ⟨_, List.getElem?_eq_getElem (by omega)⟩
        have k4 := hio i0 h hhs
        rw [hT] at k4
        simp only [if_true] at k4
        obtain ⟨ls, _, rfl, _⟩ := (ha i0 h x hhs hx).2 b0 g0 k4
        exact ⟨_, by rw [hnum, List.getElem?_append_left (by omega)]; exact hx⟩
    · cases hv
  · simp only [Env.inn] at hx
    split at hx
    · rename_i c; exact c.2.2
    · cases hx
end
end Go.Proofs.Yticifedehhnjhaa.Eng
/- Calls: the operation. -/
namespace Go.Proofs.Yticifedehhnjhaa.Eng
set_option linter.unusedVariables false
set_option linter.unusedSimpArgs false
open Go Go.RowKit
section
variable {C : Cfg} {rec : (q : Req) → Option (C.sh q.f).den} {ρ ρ' : Env} {st : St} {a : Act} {w w' : World} {N : Nat}
theorem run_callFunc {P : Program} {f : Nat} {fn : Func} (hf : P.funcs[f]? = some fn) (hn : (fn.name == "runtime.NumGoroutine") = false) (hb : fn.body.isNone = false) (args : Array Value) (w : World) :
    (callFunc f args).run P w = .ok (.enter f args) w := by
  have hn' : fn.name ≠ "runtime.NumGoroutine" := by simpa using hn
  have hb' : fn.body ≠ none := by intro e; rw [e] at hb; cases hb
  simp [callFunc, hf, hn', hb']
/-- The boxes that may be written: one at most. -/
theorem io_facts {hs : List Handed} {as : List Arg} (hlen : as.length = hs.length) (hle : (ioOf hs).length ≤ 1)
    (ha : ∀ (i : Nat) h x, hs[i]? = some h → as[i]? = some x → (h.io = none → x = h.a) ∧ ∀ b g, h.io = some (b, g) → ∃ ls, st (.bx b) = .bx g ls ∧ x = .io (ls.map (·.2)) ∧ (∀ l ∈ ls, giveLeaf l.2 = true) ∧ 0 < ls.length) :
    ∃ (io : Option (Nat × Nat × Nat)) (old : List (Nat × Leaf)), (∀ (i : Nat) h, hs[i]? = some h → h.io = match io with | some (i0, b, g) => if i = i0 then some (b, g) else none | none => none) ∧
      (∀ i b g, io = some (i, b, g) → st (.bx b) = .bx g old ∧ i < hs.length ∧ ioOf hs = [(b, g)] ∧ 0 < old.length ∧ as[i]? = some (.io (old.map (·.2)))) ∧ (io = none → ioOf hs = []) := by
  match hq : ioOf hs, hle with
  | [], _ => exact ⟨none, [], fun i h hi => ioOf_nil hq i h hi, fun _ _ _ e => (by cases e), fun _ => rfl⟩
  | [(b, g)], _ =>
    obtain ⟨i0, h0, e1, e2, e3⟩ := ioOf_one hq
    have hi : i0 < hs.length := (List.getElem?_eq_some_iff.1 e1).1
    obtain ⟨x, hx⟩ : ∃ x, as[i0]? = some x := ⟨_, List.getElem?_eq_getElem (by omega)⟩
    obtain ⟨ls, q1, q2, q3, q4⟩ := (ha i0 h0 x e1 hx).2 b g e2
    refine ⟨some (i0, b, g), ls, fun i h hi' => ?_, fun i b' g' e => ?_, fun e => by cases e⟩
    · by_cases hne : i = i0
      · subst hne; rw [e1] at hi'; cases hi'; simp [e2]
      · simp [hne, e3 i h hne hi']
    · cases e; exact ⟨q1, hi, rfl, q4, by rw [hx, q2]⟩
  | _ :: _ :: _, hle => simp at hle
theorem ev_backG {io : Option (Nat × Nat × Nat)} {ps : List (Nat × Nat)} {ios : List (List Leaf)} {st' : St} {old : List (Nat × Leaf)} (h : ev rec (backG ps ios) st = some ((), st'))
    (h1 : ∀ i b g, io = some (i, b, g) → st (.bx b) = .bx g old ∧ ps = [(b, g)]) (h2 : io = none → ps = []) :
    (io = none → st' = st) ∧ ∀ i b g, io = some (i, b, g) → ∃ ls, ios = [ls] ∧ ls.length = old.length ∧ st' = upd st (.bx b) (.bx g ((old.zip ls).map fun z => (z.1.1 + 1, z.2))) := by
  cases io with
  | none =>
    have := h2 rfl
    subst this
    refine ⟨fun _ => ?_, fun i b g e => by cases e⟩
    cases ios with
    | nil => cases ev_ret h; rfl
    | cons => cases h
  | some p =>
    obtain ⟨i, b, g⟩ := p
    refine ⟨fun e => (by cases e), fun i' b' g' e => ?_⟩
    cases e
    obtain ⟨e1, e2⟩ := h1 i b g rfl
    subst e2
    match ios, h with
    | [ls], h =>
      obtain ⟨g', old', hs, h⟩ := ev_getBx h
      rw [e1] at hs; cases hs
      cases hb : Nat.beq old.length ls.length with
      | false => simp [hb] at h; cases h
      | true =>
        simp [hb] at h
        simp only [ev] at h
        exact ⟨ls, rfl, (Nat.eq_of_beq_eq_true hb).symm, by simpa using h.symm⟩
    | [], h => cases h
    | _ :: _ :: _, h => cases h
theorem age_get {old : List (Nat × Leaf)} {ls : List Leaf} (hl : ls.length = old.length) {j lg : Nat} {l : Leaf} (h : ((old.zip ls).map fun z => (z.1.1 + 1, z.2))[j]? = some (lg, l)) : ls[j]? = some l ∧ lg = (old.getD j (0, .undef)).1 + 1 := by
  simp only [List.getElem?_map, Option.map_eq_some_iff, List.getElem?_zip_eq_some] at h
  obtain ⟨⟨x, y⟩, ⟨h1, h2⟩, e⟩ := h
  injection e with e1 e2
  refine ⟨by rw [← e2]; exact h2, ?_⟩
  rw [← e1]; simp [List.getD_eq_getElem?_getD, h1]
/-- The new contents of the box that was lent for writing. -/
theorem io_box (S : Sim ρ st a w N) {T : Tr} {i b g : Nat} {old : List (Nat × Leaf)} {ls : List Leaf} (hT : T.io = some (i, b, g)) (hs : st (.bx b) = .bx g old) (hlg : T.lg = fun j => (old.getD j (0, .undef)).1) (hpos : 0 < old.length)
    (e : Ext (ρ.inn T old) w ρ' w') (hga : ∀ x, (ρ.inn T old).ga i 0 = some x → ρ'.ga i 0 = some x) (hl : ls.length = old.length) (hr : ls = [] ∨ RepBox ρ' w' i 0 (ls.map fun l => (0, l))) (hc : CurB ρ' w' i 0 (ls.map fun l => (0, l)))
    (hf : ∀ l ∈ ls, T.lent = false ∨ flatLeaf l = true) (hg : ∀ l ∈ ls, l.give = true) :
    RepBox (ρ.back ρ' T w) w' b g ((old.zip ls).map fun z => (z.1.1 + 1, z.2)) ∧ CurB (ρ.back ρ' T w) w' b g ((old.zip ls).map fun z => (z.1.1 + 1, z.2)) := by
  have hnum : T.num = i := by simp [Tr.num, hT]
  have hbx : T.bx = (b, g) := by simp [Tr.bx, hT]
  have hsome : T.io.isSome = true := by simp [hT]
  have hr' : RepBox ρ' w' i 0 (ls.map fun l => (0, l)) := hr.resolve_left (fun e => by rw [e] at hl; simp at hl; omega)
  obtain ⟨blk, cs, ty, r0, r1, r2, r3⟩ := S.box_at hs (fun e => by rw [e] at hpos; simp at hpos)
  have hinn : (ρ.inn T old).ga i 0 = some blk := by simp [Env.inn, hsome, hnum, hbx, r0]
  have hga' := hga _ hinn
  have hback : (ρ.back ρ' T w).ga b g = some blk := by simp [Env.back, r0]
  have fresh : ∀ j l, ls[j]? = some l → ρ.hdr (.bf b g j (T.lg j + 1)) = none := by
    intro j l hj
    have hj' : j < old.length := by rw [← hl]; exact (List.getElem?_eq_some_iff.1 hj).1
    cases hh : ρ.hdr (.bf b g j (T.lg j + 1)) with
    | none => rfl
    | some v =>
      obtain ⟨g', ls', e', q⟩ := S.hbf _ _ _ _ _ hh
      rw [hs] at e'; cases e'
      rcases q with q | ⟨_, q⟩
      · omega
      · have := q old[j].1 old[j].2 (List.getElem?_eq_getElem hj')
        rw [hlg] at this
        simp [List.getD_eq_getElem?_getD, List.getElem?_eq_getElem hj'] at this
        omega
  have hTh : ∀ j, T.hdr ρ'.hdr (.bf b g j (T.lg j + 1)) = ρ'.hdr (.bf i 0 j 0) := fun j => by simp [Tr.hdr, hsome, hbx, hnum]
  refine ⟨back_box (age := fun j => T.lg j + 1) e hr' (by simp [hl]) (fun j lg l hj => ?_) hf hg (fun blk' hb' => ?_) ?_ (fun j => ?_) (fun j l hj u hu => back_hdr_new (fresh j l hj) (by rw [hTh]; exact hu)), fun o lg l v ho hv => ?_⟩
  · obtain ⟨q1, q2⟩ := age_get hl hj
    exact ⟨q1, by rw [q2, hlg]⟩
  · rw [hga'] at hb'; cases hb'; exact hback
  · simp [Tr.out, hsome, hnum, hbx]
  · simp [Tr.out, hsome, hnum, hbx]
  · obtain ⟨q1, q2⟩ := age_get hl ho
    have q3 : lg = T.lg o + 1 := by rw [q2, hlg]
    subst q3
    rcases back_hdr hv with q | ⟨_, q⟩
    · rw [fresh o l q1] at q; cases q
    · rw [hTh] at q
      obtain ⟨blk', cs', ty', c0, c1, c2⟩ := hc o 0 l v (by simp [q1]) q
      rw [hga'] at c0; cases c0
      exact ⟨blk, cs', ty', hback, c1, c2⟩
def ValG (ρ : Env) (w : World) (tup : Bool) (v : Value) : AV → Prop
  | .cv agg ls => tup = false ∧ RepCV ρ w (.tp 0 0 0) agg ls v ∧ ∀ l ∈ ls, l.give = true
  | .tup cs => tup = true ∧ RepAV ρ w 0 0 (.tup cs) v ∧ ∀ c ∈ cs, ∀ l ∈ c.2, l.give = true
/-- The value that the call gives. -/
theorem val_back {T : Tr} {old : List (Nat × Leaf)} (e : Ext (ρ.inn T old) w ρ' w') {av : AV} {v : Value} (hput : T.put = true) (hb : T.bxr = false) (hf : T.lent = false ∨ flatAV av = true)
    (hfr1 : ρ.hdr (.tm T.d (T.gd + 1)) = none) (hfr2 : ∀ i, ρ.hdr (.tp T.d (T.gd + 1) i) = none)
    (h : ValG ρ' w' T.tup v av) : RepAV (ρ.back ρ' T w) w' T.d (T.gd + 1) av v := by
  cases av with
  | cv agg ls =>
    obtain ⟨h1, h2, h3⟩ := h
    refine back_cv e (fun l hl => hf.imp id (fun q => ?_)) h3 h2 (fun _ => ⟨by simp [Tr.out, h1], fun u hu => back_hdr_new hfr1 (by simp [Tr.hdr, hput, h1, hb, hu])⟩)
    simp only [flatAV, List.all_eq_true] at q
    exact q l hl
  | tup cs =>
    obtain ⟨h1, hq, h3⟩ := h
    refine hq.imp id (fun ⟨vs, q1, q2, q3⟩ => ⟨vs, q1, q2, fun i c u hc hu => ?_⟩)
    have hmem := List.mem_of_getElem? hc
    refine back_cv e (fun l hl => hf.imp id (fun q => ?_)) (h3 c hmem) (q3 i c u hc hu) (fun _ => ⟨by simp [Tr.out, h1], fun u hu => back_hdr_new (hfr2 i) (by simp [Tr.hdr, hput, h1, hu])⟩)
    simp only [flatAV, List.all_eq_true] at q
    exact q c hmem l hl
end
end Go.Proofs.Yticifedehhnjhaa.Eng
/- Calls: the operation. -/
namespace Go.Proofs.Yticifedehhnjhaa.Eng
set_option linter.unusedVariables false
set_option linter.unusedSimpArgs false
open Go Go.RowKit
section
variable {C : Cfg} {rec : (q : Req) → Option (C.sh q.f).den} {ρ ρ' : Env} {st : St} {a : Act} {w w' : World} {N : Nat}
def NamesOk (P : Program) : Prop := ∀ (f : Nat) fn, P.funcs[f]? = some fn → (fn.name == "runtime.NumGoroutine") = false
def RecOk (C : Cfg) (rec : (q : Req) → Option (C.sh q.f).den) : Prop := ∀ (q : Req) (x : (C.sh q.f).den), rec q = some x → HoldsCall C q x ∧ ∃ fn c, C.P.funcs[q.f]? = some fn ∧ fn.body = some c
theorem op_call {o : Oper} {c : Call} {st' : St} (IH : RecOk C rec) (NG : NamesOk C.P) (ho : o.op = .call c) (hcal : ∃ f, c.callee = .value f) (h : ev rec (execG C o) st = some ((), st')) (S : Sim ρ st a w N) (hd : ∀ x, o.dst = some x → x < N) : OpOk C.P N ρ w st' o a := by
  obtain ⟨fo, hcal⟩ := hcal
  simp only [execG, ho, hcal] at h
  obtain ⟨l, s1, h1, g1⟩ := ev_bind _ _ _ _ h
  clear h
  obtain ⟨rfl, hno, hl⟩ := ev_opd1 h1 S
  split at g1
  rotate_left
  · cases g1
  rename_i f caps
  obtain ⟨vs, hfv, hvs, hcaps⟩ := hl (.tm 0 0)
  cases hzl : Nat.beq c.argTypes.toList.length c.args.toList.length with
  | false => rw [hzl] at g1; cases g1
  | true =>
  rw [hzl] at g1
  have hzl' : c.argTypes.toList.length = c.args.toList.length := Nat.eq_of_beq_eq_true hzl
  obtain ⟨hs, s2, h2, g2⟩ := ev_bind _ _ _ _ (show ev rec (callG C o.dst f caps (zip2 c.argTypes.toList c.args.toList)) s1 = _ from g1)
  clear g1
  obtain ⟨ρ1, fz, k1, S1, hlen1, hh1⟩ := ev_handAll h2 S
  cases hle : Nat.ble (ioOf hs).length 1 with
  | false => rw [hle] at g2; cases g2
  | true =>
  cases hap : hs.all fun h => h.lent.all fun k => (ioOf hs).all fun x => !Key.beq k (.bx x.1) with
  | false => rw [hle, hap] at g2; cases g2
  | true =>
  rw [hle, hap] at g2
  obtain ⟨as, s3, h3, h⟩ := ev_bind _ _ _ _ (show ev rec ((argsOf hs).bind _) s2 = _ from g2)
  clear g2
  obtain ⟨rfl, hasl, has⟩ := ev_argsOf h3
  simp only [ev] at h
  split at h
  · cases h
  rename_i x hx
  -- the facts
  obtain ⟨io, old, F1, F2, F3⟩ := io_facts (st := s3) hasl (by simpa [Nat.ble_eq] using hle) has
  let vals : Array Value := c.args.map a.eval
  have hvsz : hs.length = vals.size := by rw [hlen1, zip2_len hzl']; simp [vals]
  have hh : ∀ (j : Nat) h v, hs[j]? = some h → vals[j]? = some v → HandOk ρ1 w h v := fun j h v hj hv => by
    simp only [vals, Array.getElem?_map, Option.map_eq_some_iff] at hv
    obtain ⟨o', ho', rfl⟩ := hv
    obtain ⟨t, ht⟩ := zip2_get hzl' j o' (by simpa using ho')
    exact hh1 j h t o' hj ht
  obtain ⟨gd, a0, hgd⟩ : ∃ g av, s3 (.tm (o.dst.getD 0)) = .tm g av := let ⟨g, av, e, _⟩ := S1.tm (o.dst.getD 0); ⟨g, av, e⟩
  obtain ⟨gb, l0, hgb⟩ : ∃ g ls, s3 (.bx (o.dst.getD 0)) = .bx g ls := let ⟨g, ls, e, _⟩ := S1.bx (o.dst.getD 0); ⟨g, ls, e⟩
  let T : Tr := { io := io, lent := !(hs.all fun h => h.lent.isEmpty), L := as.length + caps.length, d := o.dst.getD 0, gd := gd, gb := gb, lg := fun j => (old.getD j (0, .undef)).1, put := o.dst.isSome, tup := (C.sh f).tup && !(C.sh f).bxr, bxr := (C.sh f).bxr }
  have E : Entry (ρ1.inn T old) w (as ++ caps.map fun s => .cv false [.ps s.t s.x]) (vals ++ vs) := by
    refine entry_of (L := 0) S1 hvsz hasl hh has F1 (fun i b g e => ⟨(F2 i b g e).1, (F2 i b g e).2.1⟩) (fun h hm hne => ?_) (fun h hm k hk i b g e => ?_) hvs (fun i s u h5 h6 => (hcaps i s u h5 h6).mono k1.st)
    · show (!(hs.all fun h => h.lent.isEmpty)) = true
      cases hall : hs.all fun h => h.lent.isEmpty with
      | false => rfl
      | true => exact (hne (by simpa using List.all_eq_true.1 hall h hm)).elim
    · rintro rfl
      have hq := (F2 i b g e).2.2.1
      have := List.all_eq_true.1 (List.all_eq_true.1 hap h hm) _ hk
      rw [hq] at this
      simp [Key.beq] at this
  obtain ⟨HC, fn, body, hfn, hbody⟩ := IH _ x hx
  have hrun : (execOp a.eval o).run C.P w = .ok (.enter f (vals ++ vs)) w := by
    have e1 : a.eval fo = .func (.func f) #[] vs := hfv
    have := run_callFunc hfn (NG _ _ hfn) (by rw [hbody]; rfl) (vals ++ vs) w
    unfold execOp
    simp only [ho]
    simp [Go.resolve, hcal, e1, Deferred.ofValue, Go.invoke, vals] at this ⊢
    try exact this
  have hkinds : ∀ (i b g : Nat), io = some (i, b, g) → ((as ++ caps.map fun s => Arg.cv false [.ps s.t s.x]).map argKind)[i]? = some (0 + 1) := fun i b g e => by
    obtain ⟨q1, q2, q3, q4, q5⟩ := F2 i b g e
    simp only [List.getElem?_map]
    rw [List.getElem?_append_left (by omega), q5]; rfl
  have hzero : ∀ (j k : Nat), (∀ i b g, io = some (i, b, g) → j ≠ i) → ((as ++ caps.map fun s => Arg.cv false [.ps s.t s.x]).map argKind)[j]? = some k → k = 0 := fun j k hj hk => by
    simp only [List.getElem?_map, Option.map_eq_some_iff] at hk
    obtain ⟨x', hx', rfl⟩ := hk
    by_cases hjl : j < as.length
    · rw [List.getElem?_append_left hjl] at hx'
      obtain ⟨h', hh'⟩ : ∃ h', hs[j]? = some h' := ⟨_, List.getElem?_eq_getElem (by omega)⟩
      obtain ⟨v', hv'⟩ : ∃ v', vals[j]? = some v' := ⟨_, Array.getElem?_eq_getElem (by omega)⟩
      have hio := F1 j h' hh'
      have hnone : h'.io = none := by
        cases hq : io with
        | none => rw [hq] at hio; exact hio
        | some p => obtain ⟨i, b, g⟩ := p; rw [hq] at hio; simpa [hj i b g hq] using hio
      have e1 := (has j h' x' hh' hx').1 hnone
      have e2 := hh j h' v' hh' hv'
      unfold HandOk at e2
      rw [hnone] at e2
      obtain ⟨agg, ls, e3, _⟩ := e2
      rw [e1, e3]; rfl
    · rw [List.getElem?_append_right (by omega)] at hx'
      simp only [List.getElem?_map, Option.map_eq_some_iff] at hx'
      obtain ⟨s, _, rfl⟩ := hx'
      rfl
  intro K Q hK
  unfold Oper.wp
  rw [hrun]
  show Calls C.P f (vals ++ vs) w _
  refine Calls.mono (HC _ w _ E) (fun e w' hpost => ?_)
  obtain ⟨v, rfl, ρ', ext, gaio, ret⟩ := hpost
  refine hK (ρ1.back ρ' T w) _ w' (k1.trans (back_still ext)) ?_
  have fr1 : ρ1.hdr (.tm T.d (T.gd + 1)) = none := S1.fresh_tm hgd
  have fr2 : ∀ i, ρ1.hdr (.tp T.d (T.gd + 1) i) = none := fun i => S1.fresh_tp hgd
  have hga : ∀ i b g, io = some (i, b, g) → ∀ x, (ρ1.inn T old).ga i 0 = some x → ρ'.ga i 0 = some x := fun i b g e x hx => gaio i 0 x (hkinds i b g e) hx
  have hsome : T.io.isSome = true → ∃ i, io = some (i, T.bx.1, T.bx.2) := fun hs' => by
    cases hq : io with
    | none => have : T.io = none := hq; rw [this] at hs'; cases hs'
    | some p =>
      obtain ⟨i, b, g⟩ := p
      have : T.io = some (i, b, g) := hq
      exact ⟨i, by simp [Tr.bx, this]⟩
  have hioh : T.io.isSome = true → s3 (.bx T.bx.1) = .bx T.bx.2 old ∧ ∀ j lg l, old[j]? = some (lg, l) → T.lg j = lg := fun hs' => by
    obtain ⟨i, e⟩ := hsome hs'
    exact ⟨(F2 _ _ _ e).1, fun j lg l hj => by show (old.getD j (0, .undef)).1 = lg; simp [List.getD_eq_getElem?_getD, hj]⟩
  have hod : o.dst = if T.put = true then some T.d else none := by
    show o.dst = if o.dst.isSome = true then some (o.dst.getD 0) else none
    cases o.dst <;> rfl
  -- results are flat, or nothing was lent
  cases hfl : (hs.all fun h => h.lent.isEmpty) || flatRes ((C.sh f).enc x) with
  | false => rw [hfl] at h; cases h
  | true =>
  rw [hfl] at h
  have hflat : T.lent = false ∨ flatRes ((C.sh f).enc x) = true := by
    cases hall : hs.all fun h => h.lent.isEmpty with
    | true => left; show (!(hs.all fun h => h.lent.isEmpty)) = false; rw [hall]; rfl
    | false => rw [hall] at hfl; exact .inr hfl
  have hflI : ∀ ls ∈ ((C.sh f).enc x).ios, ∀ l ∈ ls, T.lent = false ∨ flatLeaf l = true := fun ls hls l hl => hflat.imp id (fun q => by
    simp only [flatRes, Bool.and_eq_true, List.all_eq_true] at q
    exact q.2 ls hls l hl)
  -- the box that was lent for writing, behind the call
  have hbox : ∀ {s4 : St} {ios : List (List Leaf)}, ev rec (backG (ioOf hs) ios) s3 = some ((), s4) → (∀ ls ∈ ios, ls ∈ ((C.sh f).enc x).ios) → IosOk ρ' w' 0 ((as ++ caps.map fun s => Arg.cv false [.ps s.t s.x]).map argKind) ios →
      (io = none → s4 = s3) ∧ ∀ i b g, io = some (i, b, g) → ∃ ls2, s4 = upd s3 (.bx b) (.bx g ls2) ∧ ls2.length = old.length ∧ (∀ j lg l, ls2[j]? = some (lg, l) → lg = T.lg j + 1) ∧ RepBox (ρ1.back ρ' T w) w' b g ls2 ∧ CurB (ρ1.back ρ' T w) w' b g ls2 := by
    intro s4 ios hb hsub hios
    obtain ⟨b1, b2⟩ := ev_backG hb (fun i b g e => ⟨(F2 i b g e).1, (F2 i b g e).2.2.1⟩) F3
    refine ⟨b1, fun i b g e => ?_⟩
    obtain ⟨ls, rfl, q2, q3⟩ := b2 i b g e
    obtain ⟨l', e1, e2, e3⟩ := iosOk_at (hkinds i b g e) (fun j k hj hk => hzero j k (fun i' b' g' e' => by rw [e] at e'; cases e'; exact hj) hk) hios
    simp only [List.cons.injEq, and_true] at e1
    subst e1
    rw [Nat.zero_add] at e2 e3
    have hm := hsub ls (by simp)
    obtain ⟨p1, p2⟩ := io_box S1 (T := T) e (F2 i b g e).1 rfl (F2 i b g e).2.2.2.1 ext (hga i b g e) q2 e2 e3 (hflI ls hm) (ret.give ls hm)
    exact ⟨_, q3, by simp [q2], fun j lg l hj => (age_get q2 hj).2, p1, p2⟩
  cases hbx : (C.sh f).bxr with
  | false =>
    simp only [hbx] at h
    obtain ⟨_, s4, h5, h6⟩ := ev_bind _ _ _ _ (show ev rec ((backG (ioOf hs) ((C.sh f).enc x).ios).bind _) s3 = _ from h)
    obtain ⟨hios, hval⟩ := ret.val hbx
    obtain ⟨b1, b2⟩ := hbox h5 (fun _ h => h) hios
    have hs4 : ∀ t, s4 (.tm t) = s3 (.tm t) := fun t => by
      cases hq : io with
      | none => rw [b1 hq]
      | some p => obtain ⟨i, b, g⟩ := p; obtain ⟨ls2, e1, _⟩ := b2 i b g hq; rw [e1, upd_ne _ _ (by simp)]
    have hs4b : ∀ b, ¬(T.io.isSome = true ∧ b = T.bx.1) → s4 (.bx b) = s3 (.bx b) := fun b hb => by
      cases hq : io with
      | none => rw [b1 hq]
      | some p =>
        obtain ⟨i, b', g⟩ := p
        obtain ⟨ls2, e1, _⟩ := b2 i b' g hq
        have hTio : T.io = some (i, b', g) := hq
        rw [e1, upd_ne _ _ (fun e => hb ⟨by rw [hTio]; rfl, by cases e; simp [Tr.bx, hTio]⟩)]
    have hst' : (∀ b, st' (.bx b) = s4 (.bx b)) ∧ (∀ t, ¬(T.put = true ∧ t = T.d) → st' (.tm t) = s4 (.tm t)) ∧ (T.put = true → st' (.tm T.d) = .tm (T.gd + 1) ((C.sh f).enc x).a) := by
      unfold putO at h6
      split at h6
      · rename_i d hdst
        obtain ⟨g, a1, hs, e⟩ := ev_put h6
        cases e
        have hTd : T.d = d := by show o.dst.getD 0 = d; rw [hdst]; rfl
        have hTg : T.gd = g := by
          have := hs4 d
          rw [hs, ← hTd] at this
          rw [show s3 (.tm T.d) = .tm gd a0 from hgd] at this
          cases this; rfl
        refine ⟨fun b => upd_ne _ _ (by simp), fun t ht => upd_ne _ _ ?_, fun _ => ?_⟩
        · intro e; cases e; exact ht ⟨by show o.dst.isSome = true; rw [hdst]; rfl, hTd.symm⟩
        · rw [hTd, upd_same, hTg]
      · rename_i hdst
        cases ev_ret h6
        exact ⟨fun _ => rfl, fun _ _ => rfl, fun hp => by have : o.dst.isSome = true := hp; rw [hdst] at this; cases this⟩
    have hTb : T.bxr = false := hbx
    have htup : T.tup = (C.sh f).tup := by show ((C.sh f).tup && !(C.sh f).bxr) = _; rw [hbx]; simp
    have conv1 : ∀ av : AV, (match av with
        | .cv agg ls => (C.sh f).tup = false ∧ RepCV ρ' w' (.tp 0 0 0) agg ls v ∧ (∀ l ∈ ls, l.give = true) ∧ ∀ u, ρ'.hdr (.tp 0 0 0) = some u → u = v
        | .tup cs => (C.sh f).tup = true ∧ RepAV ρ' w' 0 0 (.tup cs) v ∧ ∀ c ∈ cs, ∀ l ∈ c.2, l.give = true) → ValG ρ' w' T.tup v av := fun av => by
      cases av with
      | cv agg ls => exact fun hval => ⟨htup.trans hval.1, hval.2.1, hval.2.2.1⟩
      | tup cs => exact fun hval => ⟨htup.trans hval.1, hval.2.1, hval.2.2⟩
    have conv2 : ∀ av : AV, (match av with
        | .cv agg ls => (C.sh f).tup = false ∧ RepCV ρ' w' (.tp 0 0 0) agg ls v ∧ (∀ l ∈ ls, l.give = true) ∧ ∀ u, ρ'.hdr (.tp 0 0 0) = some u → u = v
        | .tup cs => (C.sh f).tup = true ∧ RepAV ρ' w' 0 0 (.tup cs) v ∧ ∀ c ∈ cs, ∀ l ∈ c.2, l.give = true) → T.tup = false → ∀ u, ρ'.hdr (.tp 0 0 0) = some u → u = v := fun av => by
      cases av with
      | cv agg ls => exact fun hval _ u hu => hval.2.2.2 u hu
      | tup cs => exact fun hval ht => by rw [htup, hval.1] at ht; cases ht
    refine S1.called (T := T) ext hod (fun hp => ⟨?_, ⟨a0, hgd⟩, hst'.2.2 hp⟩) (fun t ht => (hst'.2.1 t ht).trans (hs4 t)) hioh (fun hs' _ => ?_) (fun hb => by rw [hTb] at hb; cases hb) (fun b hb _ => (hst'.1 b).trans (hs4b b hb)) (fun hp => ?_) (fun hp ht _ u hu => ?_)
    · have hp' : o.dst.isSome = true := hp
      cases hdst : o.dst with
      | none => rw [hdst] at hp'; cases hp'
      | some d => show o.dst.getD 0 < N; rw [hdst]; exact hd d hdst
    · obtain ⟨i, e⟩ := hsome hs'
      obtain ⟨ls2, e1, e2, e3, e4, e5⟩ := b2 _ _ _ e
      exact ⟨ls2, by rw [hst'.1, e1, upd_same], e2, e3, e4, e5⟩
    · refine val_back ext hp hTb (hflat.imp id (fun q => by simp only [flatRes, Bool.and_eq_true] at q; exact q.1)) fr1 fr2 ?_
      exact conv1 _ hval
    · exact conv2 _ hval ht u hu
  | true =>
    simp only [hbx] at h
    obtain ⟨q, l, hql, hios, hlne, ⟨blk, hv, hblk⟩, hrb, hcb⟩ := ret.bxr hbx
    have hrev : ((C.sh f).enc x).ios.reverse = l :: q.reverse := by rw [hql]; simp
    rw [hrev] at h
    cases hdst : o.dst with
    | none => rw [hdst] at h; cases h
    | some d =>
    rw [hdst] at h
    obtain ⟨_, s4, h5, h6⟩ := ev_bind _ _ _ _ (show ev rec ((backG (ioOf hs) q.reverse.reverse).bind fun _ => boxG d l) s3 = _ from h)
    rw [List.reverse_reverse] at h5
    obtain ⟨b1, b2⟩ := hbox h5 (fun ls h => by rw [hql]; simp [h]) hios
    have hTd : T.d = d := by show o.dst.getD 0 = d; rw [hdst]; rfl
    have hput : T.put = true := by show o.dst.isSome = true; rw [hdst]; rfl
    have hTb : T.bxr = true := hbx
    have htup : T.tup = false := by show ((C.sh f).tup && !(C.sh f).bxr) = _; rw [hbx]; simp
    have hs4 : ∀ t, s4 (.tm t) = s3 (.tm t) := fun t => by
      cases hq : io with
      | none => rw [b1 hq]
      | some p => obtain ⟨i, b, g⟩ := p; obtain ⟨ls2, e1, _⟩ := b2 i b g hq; rw [e1, upd_ne _ _ (by simp)]
    have hs4b : ∀ b, ¬(T.io.isSome = true ∧ b = T.bx.1) → s4 (.bx b) = s3 (.bx b) := fun b hb => by
      cases hq : io with
      | none => rw [b1 hq]
      | some p =>
        obtain ⟨i, b', g⟩ := p
        obtain ⟨ls2, e1, _⟩ := b2 i b' g hq
        have hTio : T.io = some (i, b', g) := hq
        rw [e1, upd_ne _ _ (fun e => hb ⟨by rw [hTio]; rfl, by cases e; simp [Tr.bx, hTio]⟩)]
    obtain ⟨g4, l4, hb4, h6⟩ := ev_getBx h6
    simp only [ev] at h6
    obtain ⟨g5, a5, hs5, e⟩ := ev_put h6
    cases e
    rw [upd_ne _ _ (by simp), hs4] at hs5
    have hg5 : T.gd = g5 := by
      rw [← hTd, show s3 (.tm T.d) = .tm gd a0 from hgd] at hs5
      cases hs5; rfl
    have hg4 : T.gb = g4 := by
      by_cases hx' : T.io.isSome = true ∧ d = T.bx.1
      · obtain ⟨i, e⟩ := hsome hx'.1
        obtain ⟨ls2, e1, _⟩ := b2 _ _ _ e
        rw [e1, hx'.2, upd_same] at hb4
        have h7 := (F2 _ _ _ e).1
        rw [← hx'.2, ← hTd, show s3 (.bx T.d) = .bx gb l0 from hgb] at h7
        injection h7 with h7 _
        injection hb4 with h8 _
        show gb = g4
        rw [h7, ← h8]
      · rw [hs4b d hx', ← hTd, show s3 (.bx T.d) = .bx gb l0 from hgb] at hb4
        injection hb4
    have hfb : ∀ j lg, ρ1.hdr (.bf T.d (T.gb + 1) j lg) = none := fun j lg => S1.fresh_bx hgb
    have hTh : ∀ j, T.hdr ρ'.hdr (.bf T.d (T.gb + 1) j 0) = ρ'.hdr (.bf T.L 1 j 0) := fun j => by
      have : ¬(T.io.isSome = true ∧ T.d = T.bx.1 ∧ T.gb + 1 = T.bx.2 ∧ 0 = T.lg j + 1) := fun q => by have := q.2.2.2; omega
      unfold Tr.hdr
      dsimp only
      rw [if_neg this, if_pos ⟨hTb, rfl, rfl, rfl⟩]
    have hL : ((as ++ caps.map fun s => Arg.cv false [.ps s.t s.x]).map argKind).length = T.L := by simp [T]
    rw [hL] at hblk hrb hcb
    have hgab : (ρ1.back ρ' T w).ga T.d (T.gb + 1) = some blk := by
      simp only [Env.back]
      rw [S1.fresh_ga hgb]
      simp [hTb, hblk]
    have hmem : l ∈ ((C.sh f).enc x).ios := by rw [hql]; simp
    have RB : RepBox (ρ1.back ρ' T w) w' T.d (T.gb + 1) (l.map fun l => (0, l)) := by
      refine back_box (age := fun _ => 0) ext hrb (by simp) (fun j lg m hj => ?_) (hflI l hmem) (ret.give l hmem) (fun b hb => by rw [hblk] at hb; cases hb; exact hgab) ?_ (fun j => ?_) (fun j m hj u hu => back_hdr_new (hfb j 0) (by rw [hTh]; exact hu))
      · simp only [List.getElem?_map, Option.map_eq_some_iff] at hj
        obtain ⟨m', h1, h2⟩ := hj
        injection h2 with h2 h3
        subst h3
        exact ⟨h1, h2.symm⟩
      · simp [Tr.out]
      · simp [Tr.out]
    have CB : CurB (ρ1.back ρ' T w) w' T.d (T.gb + 1) (l.map fun l => (0, l)) := by
      intro o' lg m v' ho' hv'
      have hlg : lg = 0 := by
        simp only [List.getElem?_map, Option.map_eq_some_iff] at ho'
        obtain ⟨m', h1, h2⟩ := ho'
        injection h2 with h2 h3
        exact h2.symm
      subst hlg
      rcases back_hdr hv' with q' | ⟨_, q'⟩
      · rw [hfb] at q'; cases q'
      · rw [hTh] at q'
        obtain ⟨blk', cs', ty', c0, c1, c2⟩ := hcb o' 0 m v' ho' q'
        rw [hblk] at c0; cases c0
        exact ⟨blk, cs', ty', hgab, c1, c2⟩
    refine S1.called (T := T) ext (by rw [hdst] at hod; exact hod) (av := .cv false [.pb d (g4 + 1) 0]) (fun hp => ⟨by rw [hTd]; exact hd d hdst, ⟨a0, hgd⟩, by rw [hTd, hg5, upd_same]⟩) (fun t ht => ?_) hioh (fun hs' hne => ?_) (fun _ => ⟨hput, ⟨l0, hgb⟩, _, ?_, RB, CB⟩) (fun b hb hb2 => ?_) (fun hp => ?_) (fun _ _ hb => by rw [hTb] at hb; cases hb)
    · rw [upd_ne _ _ (fun e => by cases e; exact ht ⟨hput, hTd.symm⟩), upd_ne _ _ (by simp), hs4]
    · obtain ⟨i, e⟩ := hsome hs'
      obtain ⟨ls2, e1, e2, e3, e4, e5⟩ := b2 _ _ _ e
      refine ⟨ls2, ?_, e2, e3, e4, e5⟩
      rw [upd_ne _ _ (by simp), upd_ne _ _ (fun e => hne ⟨hTb, by cases e; exact hTd.symm ▸ rfl⟩), e1, upd_same]
    · rw [upd_ne _ _ (by simp), hTd, upd_same, hg4]
    · rw [upd_ne _ _ (by simp), upd_ne _ _ (fun e => hb2 ⟨hTb, by cases e; exact hTd.symm⟩), hs4b b hb]
    · refine ⟨blk, ?_, hv⟩
      rw [← hg4, ← hTd]; exact hgab
end
end Go.Proofs.Yticifedehhnjhaa.Eng
/- Every operation; guards; regions. -/
namespace Go.Proofs.Yticifedehhnjhaa.Eng
set_option linter.unusedVariables false
set_option linter.unusedSimpArgs false
open Go Go.RowKit
section
variable {C : Cfg} {rec : (q : Req) → Option (C.sh q.f).den} {ρ ρ' : Env} {st : St} {a : Act} {w w' : World} {N : Nat}
theorem op_exec {o : Oper} {st' : St} (T : TtOk C) (IH : RecOk C rec) (NG : NamesOk C.P) (h : ev rec (execG C o) st = some ((), st')) (S : Sim ρ st a w N) (hd : ∀ x, o.dst = some x → x < N) : OpOk C.P N ρ w st' o a := by
  cases ho : o.op with
  | move x => exact op_move ho h S hd
  | assign x => exact op_assign ho h S hd
  | pick c x y => exact op_pick ho h S hd
  | alloc e => exact op_alloc T ho h S hd
  | box e v => exact op_box ho h S hd
  | build t ps => exact op_build T ho h S hd
  | buildSlice t n ps => exact op_buildSlice T ho h S hd
  | load t x => exact op_load T ho h S hd
  | store t x y =>
    cases hdst : o.dst with
    | none => exact op_store T ho hdst h S
    | some d => simp only [execG, ho, hdst] at h; cases h
  | nilCheck x => exact op_nilCheck ho h S hd
  | binOp op t x y t' => exact op_bin T ho h S hd
  | unOp op t x => exact op_un ho h S hd
  | convert s t x => exact op_convert T ho h S hd
  | makeFunc fn first caps => exact op_makeFunc ho h S hd
  | makeSlice t n c => exact op_makeSlice T ho h S hd
  | slice t x lo hi mx =>
    cases mx with
    | none => exact op_slice T ho h S hd
    | some m => simp only [execG, ho] at h; cases h
  | fieldAddr t x k => exact op_field T ho h S hd
  | indexAddr t x i => exact op_indexAddr T ho h S hd
  | index t x i => exact op_index T ho h S hd
  | extract x i =>
    cases x with
    | tmp t => exact op_extract ho h S hd
    | _ => simp only [execG, ho] at h; cases h
  | call c =>
    cases hc : c.callee with
    | value f => exact op_call IH NG ho ⟨f, hc⟩ h S hd
    | invoke x n => simp only [execG, ho, hc] at h; cases h
    | builtin b =>
      obtain ⟨cal, args, ts⟩ := c
      simp only at hc
      subst hc
      cases b with
      | len => exact op_len T ho h S hd
      | append => exact op_append T ho h S hd
      | min => exact op_mm ho (by simp only [execG, ho, builtinG] at h; exact h) S hd (.inl ⟨rfl, rfl⟩)
      | max => exact op_mm ho (by simp only [execG, ho, builtinG] at h; exact h) S hd (.inr ⟨rfl, rfl⟩)
      | _ => simp only [execG, ho, builtinG] at h; cases h
  | _ => simp only [execG, ho] at h; cases h
/-- An operation in its region: guarded or not. -/
def StepOk (P : Program) (N : Nat) (ops : Array Oper) (ρ : Env) (w : World) (st' : St) (o : Oper) (a : Act) : Prop :=
  ∀ (K : Act → World → Prop) (Q : Exit → Act → World → Prop), (∀ ρ' a' w', Still ρ w ρ' w' → Sim ρ' st' a' w' N → K a' w') →
    if Region.wanted o (yielded ops a.tmps) then o.wp P a w K Q ∨ (o.asks P a w ∧ LetsOut Q) else K (a.put o.dst Go.undef) w
theorem ev_skip {od : Option Nat} {st' : St} (h : ev rec (putO od (.cv false [.undef])) st = some ((), st')) (S : Sim ρ st a w N) (hd : ∀ x, od = some x → x < N) : Sim ρ st' (a.put od Go.undef) w N :=
  ev_putO h S hd ⟨fun l hl => by simp at hl; subst hl; rfl, fun r => undef_leaf (ρ := ρ) (w := w) r⟩ (fun _ => by simp)
theorem op_step {ops : Array Oper} {o : Oper} {st' : St} (T : TtOk C) (IH : RecOk C rec) (NG : NamesOk C.P) (h : ev rec (opG C ops o) st = some ((), st')) (S : Sim ρ st a w N) (hd : ∀ x, o.dst = some x → x < N) : StepOk C.P N ops ρ w st' o a := by
  intro K Q hK
  unfold opG at h
  cases hg : o.guard with
  | none =>
    rw [hg] at h
    have : Region.wanted o (yielded ops a.tmps) = true := by simp [Region.wanted, hg]
    rw [if_pos this]
    exact .inl (op_exec T IH NG h S hd K Q hK)
  | some p =>
    obtain ⟨j, want⟩ := p
    rw [hg] at h
    cases ht : (ops[j]?).bind (·.dst) with
    | none => simp only [ht] at h; cases h
    | some t =>
      simp only [ht, ev] at h
      have hy : yielded ops a.tmps j = match a.tmps.getD t Go.undef with | .bool b => some b | _ => none := by
        unfold yielded
        rw [ht]
        simp only [Option.bind_some, Array.getD_eq_getD_getElem?]
        cases a.tmps[t]? with
        | none => rfl
        | some v => cases v <;> rfl
      have hw : Region.wanted o (yielded ops a.tmps) = (yielded ops a.tmps j == some want) := by simp [Region.wanted, hg]
      have doExec : (yielded ops a.tmps j == some want) = true → ev rec (execG C o) st = some ((), st') → if Region.wanted o (yielded ops a.tmps) then o.wp C.P a w K Q ∨ (o.asks C.P a w ∧ LetsOut Q) else K (a.put o.dst Go.undef) w := fun e h => by
        rw [if_pos (hw.trans e)]
        exact .inl (op_exec T IH NG h S hd K Q hK)
      have doSkip : (yielded ops a.tmps j == some want) = false → ev rec (putO o.dst (.cv false [.undef])) st = some ((), st') → if Region.wanted o (yielded ops a.tmps) then o.wp C.P a w K Q ∨ (o.asks C.P a w ∧ LetsOut Q) else K (a.put o.dst Go.undef) w := fun e h => by
        rw [if_neg (by rw [hw, e]; simp)]
        exact hK ρ _ w (.refl _ _) (ev_skip h S hd)
      split at h
      · rename_i g x hs
        obtain ⟨g', av, e, r, _⟩ := S.tm t
        rw [hs] at e; cases e
        have hv : a.tmps.getD t Go.undef = .bool x := by simpa [RepAV, RepCV, RepLeaf, RepTy] using r
        rw [hv] at hy
        simp only at hy
        cases x <;> cases want <;> simp at h
        · exact doExec (by rw [hy]; rfl) h
        · exact doSkip (by rw [hy]; rfl) h
        · exact doSkip (by rw [hy]; rfl) h
        · exact doExec (by rw [hy]; rfl) h
      · rename_i g hs
        obtain ⟨g', av, e, r, _⟩ := S.tm t
        rw [hs] at e; cases e
        have hv : ∀ b, a.tmps.getD t Go.undef ≠ .bool b := r.1
        refine doSkip ?_ h
        rw [hy]
        split
        · rename_i b hb; exact (hv b hb).elim
        · rfl
      · cases h
/-- A region's operations one after the other. -/
inductive RunOps (C : Cfg) (rec : (q : Req) → Option (C.sh q.f).den) (N : Nat) (ops : Array Oper) : List Oper → St → List (List (Bool × Key)) → St → Prop
  | nil (st : St) : RunOps C rec N ops [] st [] st
  | cons {o : Oper} {r : List Oper} {st st1 st' : St} {tr : List (Bool × Key)} {trs : List (List (Bool × Key))} (hd : ∀ x, o.dst = some x → x < N) (h : evT rec (opG C ops o) st [] = some ((), st1, tr)) (k : RunOps C rec N ops r st1 trs st') : RunOps C rec N ops (o :: r) st (tr :: trs) st'
theorem evOps_run {R : Type} {ops : Array Oper} {K : St → List (List (Bool × Key)) → Option R} {x : R} : ∀ {l : List Oper} {st : St} {trs : List (List (Bool × Key))}, evOps C rec N ops l st trs K = some x →
    ∃ ts st', RunOps C rec N ops l st ts st' ∧ K st' (ts.reverse ++ trs) = some x
  | [], st, trs, h => ⟨[], st, .nil st, h⟩
  | o :: r, st, trs, h => by
    simp only [evOps] at h
    cases hd : dstOk N o with
    | false => rw [hd] at h; cases h
    | true =>
      rw [hd] at h
      obtain ⟨_, st1, tr, h1, h2⟩ := runG_evT _ _ _ _ _ (show runG rec (opG C ops o) st [] _ = some x from h)
      obtain ⟨ts, st', h3, h4⟩ := evOps_run h2
      refine ⟨tr :: ts, st', .cons (fun d e => ?_) h1 h3, by simpa using h4⟩
      simp only [dstOk, e, Nat.blt_eq] at hd
      exact hd
theorem ops_run {ops : Array Oper} {Q : Exit → Act → World → Prop} (T : TtOk C) (IH : RecOk C rec) (NG : NamesOk C.P) : ∀ {l : List Oper} {k : Nat} {st st' : St} {ts : List (List (Bool × Key))} {ρ : Env} {a : Act} {w : World}, RunOps C rec N ops l st ts st' →
    l = ops.toList.drop k → Sim ρ st a w N → (∀ ρ' a' w', Still ρ w ρ' w' → Sim ρ' st' a' w' N → Q .normal a' w') → wpOps C.P ops Q (List.range' k (ops.size - k)) a w
  | [], k, st, st', ts, ρ, a, w, h, hl, S, hQ => by
    cases h
    have : ops.size ≤ k := by have := congrArg List.length hl; simp at this; omega
    rw [show ops.size - k = 0 by omega]
    exact hQ ρ a w (.refl _ _) S
  | o :: r, k, st, st', ts, ρ, a, w, h, hl, S, hQ => by
    cases h with
    | cons hd h1 h2 =>
    have hk : k < ops.size := by have := congrArg List.length hl; simp at this; omega
    have ho : ops[k]? = some o := by
      have := congrArg (·[0]?) hl
      simp only [List.getElem?_cons_zero, List.getElem?_drop, Nat.add_zero, Array.getElem?_toList] at this
      exact this.symm
    have hr : r = ops.toList.drop (k + 1) := by
      have := congrArg List.tail hl
      simpa using this
    rw [show ops.size - k = (ops.size - (k + 1)) + 1 by omega, List.range'_succ]
    simp only [wpOps, ho]
    refine op_step T IH NG (evT_ev _ _ _ _ _ _ h1) S hd _ _ (fun ρ' a' w' k1 S1 => ops_run T IH NG h2 hr S1 (fun ρ2 a2 w2 k2 S2 => hQ ρ2 a2 w2 (k1.trans k2) S2))
end
end Go.Proofs.Yticifedehhnjhaa.Eng
/- Regions that draw their order. -/
namespace Go.Proofs.Yticifedehhnjhaa.Eng
set_option linter.unusedVariables false
set_option linter.unusedSimpArgs false
open Go Go.RowKit
section
variable {α : Type} {D : Nat → Sh} {rec : (q : Req) → Option (D q.f).den}
/-- What a step looks at decides what it does; what it does not write stays. -/
theorem evT_local : ∀ (g : G α) (st : St) (tr : List (Bool × Key)) (a : α) (st' : St) (tr' : List (Bool × Key)), evT rec g st tr = some (a, st', tr') →
    ∃ new, tr' = new ++ tr ∧ (∀ k, (true, k) ∉ new → st' k = st k) ∧ ∀ (σ : St) (tr2 : List (Bool × Key)), (∀ b k, (b, k) ∈ new → σ k = st k) →
      ∃ σ', evT rec g σ tr2 = some (a, σ', new ++ tr2) ∧ (∀ k, (true, k) ∈ new → σ' k = st' k) ∧ ∀ k, (true, k) ∉ new → σ' k = σ k := by
  intro g
  induction g with
  | ret a =>
    intro st tr a' st' tr' h
    simp only [evT, Option.some.injEq, Prod.mk.injEq] at h
    obtain ⟨rfl, rfl, rfl⟩ := h
    exact ⟨[], rfl, fun _ _ => rfl, fun σ tr2 _ => ⟨σ, rfl, fun k hk => by simp at hk, fun _ _ => rfl⟩⟩
  | fail => intro st tr a' st' tr' h; cases h
  | get k f ih =>
    intro st tr a' st' tr' h
    obtain ⟨new, e, p1, p2⟩ := ih _ _ _ _ _ _ (show evT rec (f (st k)) st ((false, k) :: tr) = _ from h)
    refine ⟨new ++ [(false, k)], by simp [e], fun k' hk => p1 k' (fun q => hk (by simp [q])), fun σ tr2 hσ => ?_⟩
    obtain ⟨σ', q1, q2, q3⟩ := p2 σ ((false, k) :: tr2) (fun b k' hk => hσ b k' (by simp [hk]))
    refine ⟨σ', ?_, fun k' hk => q2 k' (by simpa using hk), fun k' hk => q3 k' (by simpa using hk)⟩
    simp only [evT]
    rw [hσ false k (by simp), q1]; simp
  | set k c g ih =>
    intro st tr a' st' tr' h
    obtain ⟨new, e, p1, p2⟩ := ih _ _ _ _ _ (show evT rec g (upd st k c) ((true, k) :: tr) = _ from h)
    refine ⟨new ++ [(true, k)], by simp [e], fun k' hk => ?_, fun σ tr2 hσ => ?_⟩
    · simp at hk
      rw [p1 k' hk.1, upd_ne _ _ hk.2]
    · obtain ⟨σ', q1, q2, q3⟩ := p2 (upd σ k c) ((true, k) :: tr2) (fun b k' hk => by
        by_cases hkk : k' = k
        · subst hkk; rw [upd_same, upd_same]
        · rw [upd_ne _ _ hkk, upd_ne _ _ hkk]; exact hσ b k' (by simp [hk]))
      refine ⟨σ', by simp only [evT]; rw [q1]; simp, fun k' hk => ?_, fun k' hk => ?_⟩
      · by_cases hn : (true, k') ∈ new
        · exact q2 k' hn
        · simp [hn] at hk
          subst hk
          rw [q3 k' hn, p1 k' hn, upd_same, upd_same]
      · simp at hk
        rw [q3 k' hk.1, upd_ne _ _ hk.2]
  | call q f ih =>
    intro st tr a' st' tr' h
    simp only [evT] at h
    cases hq : rec q with
    | none => simp only [hq] at h; cases h
    | some x =>
      simp only [hq] at h
      obtain ⟨new, e, p1, p2⟩ := ih _ _ _ _ _ _ h
      refine ⟨new, e, p1, fun σ tr2 hσ => ?_⟩
      obtain ⟨σ', q1, q2, q3⟩ := p2 σ tr2 hσ
      exact ⟨σ', by simp only [evT, hq]; exact q1, q2, q3⟩
  | ite c a b iha ihb =>
    intro st tr a' st' tr' h
    simp only [evT] at h
    cases c with
    | true =>
      simp at h
      obtain ⟨new, e, p1, p2⟩ := iha _ _ _ _ _ h
      exact ⟨new, e, p1, fun σ tr2 hσ => let ⟨σ', q1, q2, q3⟩ := p2 σ tr2 hσ; ⟨σ', by simpa [evT] using q1, q2, q3⟩⟩
    | false =>
      simp at h
      obtain ⟨new, e, p1, p2⟩ := ihb _ _ _ _ _ h
      exact ⟨new, e, p1, fun σ tr2 hσ => let ⟨σ', q1, q2, q3⟩ := p2 σ tr2 hσ; ⟨σ', by simpa [evT] using q1, q2, q3⟩⟩
  | br t a b u iha ihb ihu =>
    intro st tr a' st' tr' h
    simp only [evT] at h
    have fin : ∀ (g0 : G α), (∀ (st : St) (tr : List (Bool × Key)) (a : α) (st' : St) (tr' : List (Bool × Key)), evT rec g0 st tr = some (a, st', tr') →
        ∃ new, tr' = new ++ tr ∧ (∀ k, (true, k) ∉ new → st' k = st k) ∧ ∀ (σ : St) (tr2 : List (Bool × Key)), (∀ b k, (b, k) ∈ new → σ k = st k) →
          ∃ σ', evT rec g0 σ tr2 = some (a, σ', new ++ tr2) ∧ (∀ k, (true, k) ∈ new → σ' k = st' k) ∧ ∀ k, (true, k) ∉ new → σ' k = σ k) →
        evT rec g0 st ((false, .tm t) :: tr) = some (a', st', tr') → (∀ (σ : St) (tr2 : List (Bool × Key)), σ (.tm t) = st (.tm t) → evT rec (.br t a b u) σ tr2 = evT rec g0 σ ((false, .tm t) :: tr2)) →
        ∃ new, tr' = new ++ tr ∧ (∀ k, (true, k) ∉ new → st' k = st k) ∧ ∀ (σ : St) (tr2 : List (Bool × Key)), (∀ b k, (b, k) ∈ new → σ k = st k) →
          ∃ σ', evT rec (.br t a b u) σ tr2 = some (a', σ', new ++ tr2) ∧ (∀ k, (true, k) ∈ new → σ' k = st' k) ∧ ∀ k, (true, k) ∉ new → σ' k = σ k := by
      intro g0 ih h hbr
      obtain ⟨new, e, p1, p2⟩ := ih _ _ _ _ _ h
      refine ⟨new ++ [(false, .tm t)], by simp [e], fun k' hk => p1 k' (fun q => hk (by simp [q])), fun σ tr2 hσ => ?_⟩
      obtain ⟨σ', q1, q2, q3⟩ := p2 σ ((false, .tm t) :: tr2) (fun b k' hk => hσ b k' (by simp [hk]))
      refine ⟨σ', ?_, fun k' hk => q2 k' (by simpa using hk), fun k' hk => q3 k' (by simpa using hk)⟩
      rw [hbr σ tr2 (hσ false _ (by simp)), q1]; simp
    split at h
    · rename_i g x hs
      cases x with
      | true => exact fin a iha (by simpa using h) (fun σ tr2 hσ => by simp only [evT]; rw [hσ, hs]; simp)
      | false => exact fin b ihb (by simpa using h) (fun σ tr2 hσ => by simp only [evT]; rw [hσ, hs]; simp)
    · rename_i g hs
      exact fin u ihu h (fun σ tr2 hσ => by simp only [evT]; rw [hσ, hs])
    · cases h
end
/-- i stands before j. -/
inductive Pre (ops : Array Oper) : Nat → Nat → Prop
  | one {j : Nat} {o : Oper} {e : Edge} (h : ops[j]? = some o) (he : e ∈ o.after) (hb : Region.binds .any e = true) : Pre ops j e.on
  | step {j i : Nat} {o : Oper} {e : Edge} (h : ops[j]? = some o) (he : e ∈ o.after) (hb : Region.binds .any e = true) (k : Pre ops e.on i) : Pre ops j i
theorem before_pre (ops : Array Oper) : ∀ j i, ((Region.before ops).getD j 0).testBit i = true → Pre ops j i := by
  have key : (Region.before ops).size = ops.size ∧ ∀ j i, ((Region.before ops).getD j 0).testBit i = true → Pre ops j i := by
    unfold Region.before
    refine Array.foldl_induction (motive := fun n (acc : Array Nat) => acc.size = n ∧ ∀ j i, (acc.getD j 0).testBit i = true → Pre ops j i) ⟨rfl, fun j i h => by simp at h⟩ ?_
    rintro ⟨n, hn⟩ acc ⟨hsz, hacc⟩
    refine ⟨by simp [hsz], fun j i h => ?_⟩
    simp only [Array.getD_eq_getD_getElem?, Array.getElem?_push] at h
    by_cases hj : j = acc.size
    · rw [if_pos hj] at h
      simp only [Option.getD_some] at h
      have inner : ∀ b, (ops[n].after.foldl (fun s e => if Region.binds .any e then s ||| 2 ^ e.on ||| acc.getD e.on 0 else s) 0).testBit b = true → ∃ e ∈ ops[n].after, Region.binds .any e = true ∧ (e.on = b ∨ (acc.getD e.on 0).testBit b = true) := by
        refine Array.foldl_induction (motive := fun m (s : Nat) => ∀ b, s.testBit b = true → ∃ e ∈ ops[n].after, Region.binds .any e = true ∧ (e.on = b ∨ (acc.getD e.on 0).testBit b = true)) (fun b hb => by simp at hb) ?_
        intro m s ih b hb
        split at hb
        · rename_i hbd
          simp only [Nat.testBit_or, Bool.or_eq_true, Nat.testBit_two_pow, decide_eq_true_eq] at hb
          rcases hb with (hb | hb) | hb
          · exact ih b hb
          · exact ⟨_, Array.getElem_mem _, hbd, .inl hb⟩
          · exact ⟨_, Array.getElem_mem _, hbd, .inr hb⟩
        · exact ih b hb
      obtain ⟨e, he, hb, h1⟩ := inner i (by simpa [Array.getD_eq_getD_getElem?] using h)
      have hops : ops[j]? = some ops[n] := by rw [hj, hsz]; exact Array.getElem?_eq_getElem hn
      rcases h1 with rfl | h1
      · exact .one hops he hb
      · exact .step hops he hb (hacc _ _ h1)
    · rw [if_neg hj] at h
      exact hacc j i (by rw [Array.getD_eq_getD_getElem?]; exact h)
  exact key.2
end Go.Proofs.Yticifedehhnjhaa.Eng
/- Regions that draw their order: any order does the same. -/
namespace Go.Proofs.Yticifedehhnjhaa.Eng
set_option linter.unusedVariables false
set_option linter.unusedSimpArgs false
open Go Go.RowKit
theorem memK_of {k : Key} {l : List (Bool × Key)} {b : Bool} (h : (b, k) ∈ l) : memK k l false = true := by
  simp only [memK, List.any_eq_true]
  exact ⟨(b, k), h, by simp [Key.beq_iff.2]⟩
theorem apart_of {a b : List (Bool × Key)} (h : apartT a b = true) (k : Key) : ((true, k) ∈ a → ∀ c, (c, k) ∉ b) ∧ ((true, k) ∈ b → ∀ c, (c, k) ∉ a) := by
  simp only [apartT, Bool.and_eq_true, List.all_eq_true] at h
  refine ⟨fun h1 c h2 => ?_, fun h1 c h2 => ?_⟩
  · have := h.1 _ h1; simp [memK_of h2] at this
  · have := h.2 _ h1; simp [memK_of h2] at this
theorem okPairs_get {bf : List Nat} : ∀ {trs : List (List (Bool × Key))} {j : Nat}, okPairs bf j trs = true → trs.length ≤ j + 1 → ∀ (p q : Nat) tp tq, p < q → trs[p]? = some tp → trs[q]? = some tq →
    (bf.getD (j - p) 0).testBit (j - q) = true ∨ apartT tp tq = true
  | [], _, _, _, p, q, tp, tq, _, hp, _ => by simp at hp
  | t :: r, j, h, hl, p, q, tp, tq, hpq, hp, hq => by
    simp only [okPairs, Bool.and_eq_true, List.all_eq_true, List.mem_range, Bool.or_eq_true] at h
    have hqr : q < (t :: r).length := (List.getElem?_eq_some_iff.1 hq).1
    simp at hl hqr
    cases q with
    | zero => omega
    | succ q =>
      cases p with
      | zero =>
        simp at hp hq; subst hp
        have := h.1 (j - (q + 1)) (by omega)
        rw [show j - 1 - (j - (q + 1)) = q by omega, hq] at this
        simpa using this
      | succ p =>
        have := okPairs_get h.2 (by omega) p q tp tq (by omega) (by simpa using hp) (by simpa using hq)
        rwa [show j - 1 - p = j - (p + 1) by omega, show j - 1 - q = j - (q + 1) by omega] at this
section
variable {C : Cfg} {rec : (q : Req) → Option (C.sh q.f).den} {N : Nat} {ops : Array Oper}
theorem RunOps.tab : ∀ {l : List Oper} {st st' : St} {ts : List (List (Bool × Key))}, RunOps C rec N ops l st ts st' → ts.length = l.length ∧ ∃ f : Nat → St, f 0 = st ∧ f l.length = st' ∧
    ∀ (i : Nat) o, l[i]? = some o → (∀ x, o.dst = some x → x < N) ∧ ∃ tr, ts[i]? = some tr ∧ evT rec (opG C ops o) (f i) [] = some ((), f (i + 1), tr) := by
  intro l st st' ts h
  induction h with
  | nil st => exact ⟨rfl, fun _ => st, rfl, rfl, fun i o h => by simp at h⟩
  | @cons o r st st1 st' tr trs hd h k ih =>
    obtain ⟨e, f, f0, f1, hf⟩ := ih
    refine ⟨by simp [e], fun i => match i with | 0 => st | i + 1 => f i, rfl, by simpa using f1, fun i o' hi => ?_⟩
    cases i with
    | zero => simp at hi; subst hi; exact ⟨hd, tr, rfl, by simp only; rw [f0]; exact h⟩
    | succ i => exact hf i o' (by simpa using hi)
theorem okDraw_spec {ts : List (List (Bool × Key))} (h : okDraw ops ts.reverse = true) (hl : ts.length = ops.size) :
    (∀ (i : Nat) o e, ops[i]? = some o → e ∈ o.after → Region.binds .any e = true → e.on < i) ∧
    ∀ (i j : Nat) ti tj, i < j → ts[i]? = some ti → ts[j]? = some tj → Pre ops j i ∨ ∀ k, ((true, k) ∈ ti → ∀ c, (c, k) ∉ tj) ∧ ((true, k) ∈ tj → ∀ c, (c, k) ∉ ti) := by
  simp only [okDraw, Bool.and_eq_true] at h
  refine ⟨fun i o e ho he hb => ?_, fun i j ti tj hij hi hj => ?_⟩
  · have hlt : i < ops.size := (Array.getElem?_eq_some_iff.1 ho).1
    have := List.all_eq_true.1 h.1 i (List.mem_range.2 hlt)
    rw [ho] at this
    have := List.all_eq_true.1 this e (by simpa using he)
    simpa [hb, Nat.blt_eq] using this
  · have hjlt : j < ts.length := (List.getElem?_eq_some_iff.1 hj).1
    have hlen : ts.reverse.length ≤ ops.size - 1 + 1 := by simp; omega
    have := okPairs_get h.2 hlen (ts.length - 1 - j) (ts.length - 1 - i) tj ti (by omega)
      (by rw [List.getElem?_reverse (by omega), show ts.length - 1 - (ts.length - 1 - j) = j by omega]; exact hj)
      (by rw [List.getElem?_reverse (by omega), show ts.length - 1 - (ts.length - 1 - i) = i by omega]; exact hi)
    rw [show ops.size - 1 - (ts.length - 1 - j) = j by omega, show ops.size - 1 - (ts.length - 1 - i) = i by omega] at this
    rcases this with h1 | h1
    · exact .inl (before_pre ops j i (by simpa [Array.getD_eq_getD_getElem?, List.getD_eq_getElem?_getD] using h1))
    · exact .inr fun k => ⟨(apart_of h1 k).2, (apart_of h1 k).1⟩
/-- What a key holds when the operations in L are done: what its last writer in the text's order gave. -/
def Holds (f : Nat → St) (ts : List (List (Bool × Key))) (L : Nat → Prop) (k : Key) (v : Cell) : Prop :=
  (∀ j tr, L j → ts[j]? = some tr → (true, k) ∉ tr) ∧ v = f 0 k ∨ ∃ j tr, L j ∧ ts[j]? = some tr ∧ (true, k) ∈ tr ∧ (∀ j' tr', j < j' → L j' → ts[j']? = some tr' → (true, k) ∉ tr') ∧ v = f (j + 1) k
theorem tab_same {f : Nat → St} {ts : List (List (Bool × Key))} (hf : ∀ (i : Nat) o, ops[i]? = some o → ∃ tr, ts[i]? = some tr ∧ evT rec (opG C ops o) (f i) [] = some ((), f (i + 1), tr)) {k : Key} {a : Nat} :
    ∀ b, a ≤ b → b ≤ ops.size → (∀ j tr, a ≤ j → j < b → ts[j]? = some tr → (true, k) ∉ tr) → f b k = f a k := by
  intro b
  induction b with
  | zero => intro h _ _; rw [Nat.le_zero.1 h]
  | succ b ih =>
    intro h hb hw
    by_cases hab : a = b + 1
    · rw [hab]
    · obtain ⟨tr, h1, h2⟩ := hf b ops[b] (Array.getElem?_eq_getElem (by omega))
      obtain ⟨new, e, p1, _⟩ := evT_local _ _ _ _ _ _ h2
      simp at e; subst e
      rw [p1 k (hw b _ (by omega) (by omega) h1)]
      exact ih (by omega) (by omega) (fun j tr h1 h2 h3 => hw j tr h1 (by omega) h3)
theorem unlisted_less {n i : Nat} {p q : Nat → Bool} (hi : i < n) (hq : q i = true) (hp : p i = false) (hpq : ∀ j, p j = true → q j = true) : ((List.range n).filter p).length < ((List.range n).filter q).length := by
  have key : ∀ l : List Nat, (l.filter p).length ≤ (l.filter q).length ∧ (i ∈ l → (l.filter p).length < (l.filter q).length) := by
    intro l
    induction l with
    | nil => simp
    | cons x l ih =>
      obtain ⟨h1, h2⟩ := ih
      by_cases hx : p x = true
      · have hqx := hpq x hx
        simp only [List.filter_cons, hx, hqx, if_true, List.length_cons]
        refine ⟨by omega, fun h => ?_⟩
        rcases List.mem_cons.1 h with e | h
        · subst e; rw [hp] at hx; cases hx
        · have := h2 h; omega
      · simp only [List.filter_cons, hx, if_false, Bool.false_eq_true]
        by_cases hqx : q x = true
        · simp only [hqx, if_true, List.length_cons]; exact ⟨by omega, fun _ => by omega⟩
        · simp only [hqx, if_false, Bool.false_eq_true]
          refine ⟨h1, fun h => ?_⟩
          rcases List.mem_cons.1 h with e | h
          · subst e; exact (hqx hq).elim
          · exact h2 h
  exact (key _).2 (List.mem_range.2 hi)
theorem any_run {Q : Exit → Act → World → Prop} (T : TtOk C) (IH : RecOk C rec) (NG : NamesOk C.P) {f : Nat → St} {ts : List (List (Bool × Key))}
    (hf : ∀ (i : Nat) o, ops[i]? = some o → (∀ x, o.dst = some x → x < N) ∧ ∃ tr, ts[i]? = some tr ∧ evT rec (opG C ops o) (f i) [] = some ((), f (i + 1), tr)) (hts : ts.length = ops.size)
    (hafter : ∀ (i : Nat) o e, ops[i]? = some o → e ∈ o.after → Region.binds .any e = true → e.on < i)
    (hpair : ∀ (i j : Nat) ti tj, i < j → ts[i]? = some ti → ts[j]? = some tj → Pre ops j i ∨ ∀ k, ((true, k) ∈ ti → ∀ c, (c, k) ∉ tj) ∧ ((true, k) ∈ tj → ∀ c, (c, k) ∉ ti)) :
    ∀ (fuel : Nat) (listed : Array Bool) (σ : St) (ρ : Env) (a : Act) (w : World), listed.size = ops.size → ((List.range ops.size).filter fun i => !listed.getD i false).length ≤ fuel →
      (∀ j i, listed.getD j false = true → Pre ops j i → listed.getD i false = true) → (∀ k, Holds f ts (fun j => listed.getD j false = true) k (σ k)) → Sim ρ σ a w N →
      (∀ ρ' a' w', Still ρ w ρ' w' → Sim ρ' (f ops.size) a' w' N → Q .normal a' w') → wpAny C.P .any ops Q fuel listed a w := by
  have hf' : ∀ (i : Nat) o, ops[i]? = some o → ∃ tr, ts[i]? = some tr ∧ evT rec (opG C ops o) (f i) [] = some ((), f (i + 1), tr) := fun i o h => (hf i o h).2
  have tsOps : ∀ (j : Nat) tr, ts[j]? = some tr → j < ops.size := fun j tr h => by rw [← hts]; exact (List.getElem?_eq_some_iff.1 h).1
  -- when nothing is ready, all are listed
  have hall : ∀ listed : Array Bool, listed.size = ops.size → Region.ready .any ops listed = [] → ∀ i, i < ops.size → listed.getD i false = true := by
    intro listed hsz hr i
    induction i using Nat.strongRecOn with
    | _ i ih =>
      intro hi
      cases hb : listed.getD i false with
      | true => rfl
      | false =>
        have hmem : i ∈ Region.ready .any ops listed := by
          rw [mem_ready]
          have hli : i < listed.size := by omega
          refine ⟨?_, ops[i], Array.getElem?_eq_getElem hi, fun e he hbd => ?_⟩
          · simp [Array.getD_eq_getD_getElem?, hli] at hb ⊢; exact hb
          · have := hafter i ops[i] e (Array.getElem?_eq_getElem hi) he hbd
            exact ih e.on this (by omega)
        rw [hr] at hmem; cases hmem
  have fin : ∀ (listed : Array Bool) (σ : St), listed.size = ops.size → Region.ready .any ops listed = [] → (∀ k, Holds f ts (fun j => listed.getD j false = true) k (σ k)) → σ = f ops.size := by
    intro listed σ hsz hr hσ
    funext k
    have hA := hall listed hsz hr
    rcases hσ k with ⟨h1, h2⟩ | ⟨j, tr, h1, h2, h3, h4, h5⟩
    · rw [h2]
      exact (tab_same hf' ops.size (Nat.zero_le _) (Nat.le_refl _) (fun j tr _ hj h => h1 j tr (hA j hj) h)).symm
    · rw [h5]
      have := tsOps j tr h2
      exact (tab_same hf' ops.size (by omega) (Nat.le_refl _) (fun j' tr' h6 hj h => h4 j' tr' (by omega) (hA j' hj) h)).symm
  intro fuel
  induction fuel with
  | zero =>
    intro listed σ ρ a w hsz hfu hdown hσ S hQ
    have hr : Region.ready .any ops listed = [] := by
      cases hq : Region.ready .any ops listed with
      | nil => rfl
      | cons i r =>
        have hmem : i ∈ Region.ready .any ops listed := by rw [hq]; simp
        obtain ⟨h0, o, ho, _⟩ := mem_ready.1 hmem
        have hi : i < ops.size := (Array.getElem?_eq_some_iff.1 ho).1
        have hli : i < listed.size := by omega
        have : i ∈ (List.range ops.size).filter fun i => !listed.getD i false := by
          simp [List.mem_filter, hi, Array.getD_eq_getD_getElem?, hli] at h0 ⊢
          exact h0
        have := List.length_pos_of_mem this
        omega
    refine ⟨hr, ?_⟩
    have := fin listed σ hsz hr hσ
    subst this
    exact hQ ρ a w (.refl _ _) S
  | succ fuel ih =>
    intro listed σ ρ a w hsz hfu hdown hσ S hQ
    refine ⟨fun hr => ?_, fun i hi => ?_⟩
    · have := fin listed σ hsz hr hσ
      subst this
      exact hQ ρ a w (.refl _ _) S
    · obtain ⟨h0, o, ho, haf⟩ := mem_ready.1 hi
      have hilt : i < ops.size := (Array.getElem?_eq_some_iff.1 ho).1
      have hli : i < listed.size := by omega
      have hun : listed.getD i false = false := by simp [Array.getD_eq_getD_getElem?, hli] at h0 ⊢; exact h0
      have hpre : ∀ x, Pre ops i x → listed.getD x false = true := by
        intro x hx
        cases hx with
        | one h he hb => rw [ho] at h; cases h; exact haf _ he hb
        | step h he hb k => rw [ho] at h; cases h; exact hdown _ _ (haf _ he hb) k
      obtain ⟨hd, tr, htr, hev⟩ := hf i o ho
      obtain ⟨new, e, p1, p2⟩ := evT_local _ _ _ _ _ _ hev
      simp at e; subst e
      -- writers and touchers
      have later : ∀ j tj k, i < j → listed.getD j false = true → ts[j]? = some tj → ((true, k) ∈ tj → ∀ c, (c, k) ∉ tr) ∧ ((true, k) ∈ tr → ∀ c, (c, k) ∉ tj) := fun j tj k hij hl hj =>
        (hpair i j tr tj hij htr hj).elim (fun hp => by have := hdown j i hl hp; rw [hun] at this; cases this) (fun h => ⟨(h k).2, (h k).1⟩)
      have earlier : ∀ j tj k c, j < i → ts[j]? = some tj → (true, k) ∈ tj → (c, k) ∈ tr → listed.getD j false = true := fun j tj k c hji hj hw ht =>
        (hpair j i tj tr hji hj htr).elim (hpre j) (fun h => ((h k).1 hw c ht).elim)
      have agree : ∀ b k, (b, k) ∈ tr → σ k = f i k := by
        intro b k hk
        rcases hσ k with ⟨h1, h2⟩ | ⟨j, tj, h1, h2, h3, h4, h5⟩
        · rw [h2]
          exact (tab_same hf' i (Nat.zero_le _) (by omega) (fun j tj _ hji hj hw => h1 j tj (earlier j tj k b hji hj hw hk) hj hw)).symm
        · rw [h5]
          have hji : j < i := by
            rcases Nat.lt_trichotomy j i with h | h | h
            · exact h
            · subst h; rw [hun] at h1; cases h1
            · exact ((later j tj k h h1 h2).1 h3 b hk).elim
          exact (tab_same hf' i (by omega) (by omega) (fun j' tj' h6 hji' hj' hw => h4 j' tj' (by omega) (earlier j' tj' k b hji' hj' hw hk) hj' hw)).symm
      obtain ⟨σ', q1, q2, q3⟩ := p2 σ [] agree
      have hgetset : ∀ j, (listed.setIfInBounds i true).getD j false = true ↔ j = i ∨ listed.getD j false = true := by
        intro j
        by_cases hj : i = j
        · subst hj; simp [Array.getD_eq_getD_getElem?, hli]
        · rw [getD_set_ne false hj]; simp [Ne.symm hj]
      show wpOp C.P ops Q i _ a w
      unfold wpOp
      rw [ho]
      refine op_step T IH NG (evT_ev _ _ _ _ _ _ q1) S hd _ _ (fun ρ' a' w' k1 S1 => ?_)
      refine ih _ σ' ρ' a' w' (by simpa using hsz) ?_ ?_ ?_ S1 (fun ρ2 a2 w2 k2 S2 => hQ ρ2 a2 w2 (k1.trans k2) S2)
      · have := unlisted_less (p := fun j => !(listed.setIfInBounds i true).getD j false) (q := fun j => !listed.getD j false) hilt (by simp [hun]) (by have := (hgetset i).2 (.inl rfl); simp [this])
          (fun j hj => by
            cases hl : listed.getD j false with
            | false => rfl
            | true => have := (hgetset j).2 (.inr hl); simp [this] at hj)
        omega
      · intro j x hj hx
        rw [hgetset] at hj ⊢
        rcases hj with rfl | hj
        · exact .inr (hpre x hx)
        · exact .inr (hdown j x hj hx)
      · intro k
        by_cases hw : (true, k) ∈ tr
        · refine .inr ⟨i, tr, (hgetset i).2 (.inl rfl), htr, hw, fun j' tj' hij hl hj' hw' => ?_, q2 k hw⟩
          rcases (hgetset j').1 hl with e | hl'
          · omega
          · exact (later j' tj' k hij hl' hj').1 hw' true hw
        · rw [q3 k hw]
          rcases hσ k with ⟨h1, h2⟩ | ⟨j, tj, h1, h2, h3, h4, h5⟩
          · refine .inl ⟨fun j tj hl hj hwj => ?_, h2⟩
            rcases (hgetset j).1 hl with rfl | hl'
            · rw [htr] at hj; cases hj; exact hw hwj
            · exact h1 j tj hl' hj hwj
          · refine .inr ⟨j, tj, (hgetset j).2 (.inr h1), h2, h3, fun j' tj' hjj hl hj' hwj => ?_, h5⟩
            rcases (hgetset j').1 hl with rfl | hl'
            · rw [htr] at hj'; cases hj'; exact hw hwj
            · exact h4 j' tj' hjj hl' hj' hwj
end
end Go.Proofs.Yticifedehhnjhaa.Eng
/- Regions as code; the steps of a function. -/
namespace Go.Proofs.Yticifedehhnjhaa.Eng
set_option linter.unusedVariables false
set_option linter.unusedSimpArgs false
open Go Go.RowKit
section
variable {C : Cfg} {rec : (q : Req) → Option (C.sh q.f).den} {ρ ρ' : Env} {st : St} {a : Act} {w w' : World} {N : Nat} {ops : Array Oper}
/-- A draw changes nothing that counts. -/
theorem Sim.drawn (S : Sim ρ st a w N) : Sim ρ st a { w with drawn := w.drawn + 1 } N := by
  refine S.step (X := fun _ => False) (Y := fun _ _ => False) ⟨fun _ _ h => h, fun _ _ h => ⟨h, rfl⟩, fun _ _ _ h _ => ⟨h, rfl⟩, fun _ _ _ _ h _ => ⟨h, rfl⟩, fun _ _ _ h => h⟩ S.size S.defers (fun _ => False) (fun _ => False) (fun t _ => ?_) (fun t ht => ht.elim) (fun b _ => ?_) (fun b hb => hb.elim) (fun r v hv => .inl hv) (fun _ _ _ h => .inl h)
  · exact ⟨rfl, rfl, fun _ _ _ => KeepsT.of id (fun _ => id) _⟩
  · exact ⟨rfl, fun _ _ _ => ⟨id, fun _ _ _ _ => .inl id⟩⟩
theorem still_drawn (ρ : Env) (w : World) : Still ρ w ρ { w with drawn := w.drawn + 1 } := ⟨⟨Nat.le_refl _, fun _ _ h => ⟨h, rfl⟩, fun _ _ h => ⟨h, rfl⟩, rfl, rfl, rfl⟩, fun _ _ h => h, fun _ _ _ h => h⟩
theorem region_ok {id : Nat} {draw : Bool} {st' : St} {ts : List (List (Bool × Key))} {Q : Exit → Act → World → Prop} (T : TtOk C) (IH : RecOk C rec) (NG : NamesOk C.P) (hm : C.P.follows .mixedOrders = true)
    (h : RunOps C rec N ops ops.toList st ts st') (hdraw : draw = true → okDraw ops ts.reverse = true) (S : Sim ρ st a w N)
    (hQ : ∀ ρ' a' w', Still ρ w ρ' w' → Sim ρ' st' a' w' N → Q .normal a' w') : (Code.region id ops draw).wp C.P Q a w := by
  cases draw with
  | false =>
    refine wp_region ?_
    rw [List.range_eq_range']
    have := ops_run (Q := Q) T IH NG (k := 0) h (by simp) S hQ
    simpa using this
  | true =>
    refine wp_region_any hm ?_
    obtain ⟨hl, f, f0, f1, hf⟩ := h.tab
    have hl' : ts.length = ops.size := by simpa using hl
    obtain ⟨h1, h2⟩ := okDraw_spec (hdraw rfl) hl'
    have hlen : ops.toList.length = ops.size := by simp
    rw [hlen] at f1
    refine any_run T IH NG (f := f) (fun i o ho => hf i o (by simpa using ho)) hl' h1 h2 ops.size _ st ρ a _ (by simp) ?_ (fun j i hj _ => ?_) (fun k => .inl ⟨fun j tr hj => ?_, by rw [f0]⟩) S.drawn (fun ρ' a' w' k1 S1 => ?_)
    · exact Nat.le_trans (List.length_filter_le _ _) (by simp)
    · simp [Array.getD_eq_getD_getElem?, Array.getElem?_replicate] at hj
      split at hj <;> simp at hj
    · simp [Array.getD_eq_getD_getElem?, Array.getElem?_replicate] at hj
      split at hj <;> simp at hj
    · rw [f1] at S1
      exact hQ ρ' a' w' ((still_drawn ρ w).trans k1) S1
/-- From here the function comes back with such a result. -/
def Ends (C : Cfg) (f : Nat) (args : List Nat) (x : (C.sh f).den) (ρ : Env) (a : Act) (w : World) (todo : List Item) : Prop := ∀ (b : Frame) (cs : List Frame), b.fn = f → b.kind = .normal →
  ∃ fr v w', Steps C.P (lone (b.at a todo) cs w) (lone fr cs w') ∧ fr.fn = f ∧ fr.leaving C.P w' (.returned v) ∧ ∃ ρ', Ext ρ w ρ' w' ∧ GaIo args ρ ρ' ∧ RetOk ρ' w' (C.sh f) args v x
def IoGa (args : List Nat) (ρ : Env) : Prop := ∀ i k, args[i]? = some (k + 1) → ∃ blk, ρ.ga i 0 = some blk
/-- The end of a function is read rightly. -/
def FinOk (C : Cfg) : Prop := ∀ {rec : (q : Req) → Option (C.sh q.f).den} (f : Nat) (fn : Func) (args : List Nat) (st : St) (ρ : Env) (a : Act) (w : World) (x : (C.sh f).den), C.P.funcs[f]? = some fn → Sim ρ st a w fn.ntmps → IoGa args ρ →
  (runG rec (finG C (C.sh f).bxr fn args) st [] fun r _ _ => (C.sh f).dec r.1 r.2) = some x →
  ∃ v, (results fn a.tmps).run C.P w = .ok v w ∧ ∃ ρ', Ext ρ w ρ' w ∧ GaIo args ρ ρ' ∧ RetOk ρ' w (C.sh f) args v x
/-- A cut keeps what it says. -/
def CutOk (C : Cfg) : Prop := ∀ {rec : (q : Req) → Option (C.sh q.f).den} {f : Nat} (args : List Nat) (kt : List (Nat × Nat)) (kb : List Nat) (recT : St → Option (C.sh f).den) (st : St) (ρ : Env) (a : Act) (w : World) (N : Nat) (x : (C.sh f).den), Sim ρ st a w N →
  (runG rec (keepG args kt kb) st [] fun l _ _ => recT (mkSt l)) = some x → ∃ st' ρ', recT st' = some x ∧ Ext ρ w ρ' w ∧ GaIo args ρ ρ' ∧ Sim ρ' st' a w N
theorem GaIo.trans {args : List Nat} {ρ1 ρ2 ρ3 : Env} (h : GaIo args ρ1 ρ2) (k : GaIo args ρ2 ρ3) : GaIo args ρ1 ρ3 := fun i n x hi hx => k i n x hi (h i n x hi hx)
theorem GaIo.io {args : List Nat} {ρ1 ρ2 : Env} (h : GaIo args ρ1 ρ2) (k : IoGa args ρ1) : IoGa args ρ2 := fun i n hi => let ⟨b, hb⟩ := k i n hi; ⟨b, h i n b hi hb⟩
theorem Still.gaIo (k : Still ρ w ρ' w') (args : List Nat) : GaIo args ρ ρ' := fun i n x _ hx => k.ga i 0 x hx
theorem Ends.after {f : Nat} {args : List Nat} {x : (C.sh f).den} {a' : Act} {todo todo' : List Item} (hs : ∀ (b : Frame) (cs : List Frame), Steps C.P (lone (b.at a todo) cs w) (lone (b.at a' todo') cs w')) (e : Ext ρ w ρ' w') (g : GaIo args ρ ρ')
    (h : Ends C f args x ρ' a' w' todo') : Ends C f args x ρ a w todo := fun b cs hb hk => by
  obtain ⟨fr, v, w2, s, h1, h2, ρ2, e2, g2, r⟩ := h b cs hb hk
  exact ⟨fr, v, w2, (hs b cs).trans s, h1, h2, ρ2, e.trans e2, g.trans g2, r⟩
theorem Ends.same {f : Nat} {args : List Nat} {x : (C.sh f).den} {todo todo' : List Item} (hs : ∀ (b : Frame) (cs : List Frame), step C.P (lone (b.at a todo) cs w) = .next (lone (b.at a todo') cs w)) (h : Ends C f args x ρ a w todo') : Ends C f args x ρ a w todo :=
  .after (fun b cs => .one (hs b cs)) (.refl _ _) (fun _ _ _ _ h => h) h
theorem eqList_eq {α : Type} {f : α → α → Bool} (hf : ∀ a b, f a b = true → a = b) : ∀ {a b : List α}, eqList f a b = true → a = b
  | [], [], _ => rfl
  | x :: a, y :: b, h => by
    simp only [eqList, Bool.and_eq_true] at h
    rw [hf _ _ h.1, eqList_eq hf h.2]
  | [], _ :: _, h => by cases h
  | _ :: _, [], h => by cases h
theorem Ty.eqD_eq : ∀ (t : Ty) (a b : t.den), t.eqD a b = true → a = b := by
  intro t
  induction t with
  | int k => intro a b h; exact of_decide_eq_true h
  | bool => intro (a : Bool) (b : Bool) h; cases a <;> cases b <;> first | rfl | cases h
  | str =>
    intro a b h
    have := of_decide_eq_true h
    cases a with
    | mk d => cases b with
      | mk d' => exact congrArg ByteArray.mk (Array.ext' this)
  | unit => intro a b h; rfl
  | pair p q ihp ihq =>
    intro a b h
    simp only [Ty.eqD, Bool.and_eq_true] at h
    exact Prod.ext (ihp _ _ h.1) (ihq _ _ h.2)
  | sl e ih => intro a b h; exact eqList_eq ih h
theorem LS.eqD_eq (s : LS) (a b : s.den) (h : s.eqD a b = true) : a = b := by
  cases s with
  | v t => exact t.eqD_eq a b h
  | own e => exact eqList_eq e.eqD_eq h
theorem eqLs_eq : ∀ {l : List LS} {a b : lsDen l}, eqLs l a b = true → a = b
  | [], a, b, h => rfl
  | [s], a, b, h => s.eqD_eq a b h
  | s :: t :: r, a, b, h => by
    simp only [eqLs, Bool.and_eq_true] at h
    exact Prod.ext (s.eqD_eq _ _ h.1) (eqLs_eq h.2)
theorem agree_some {l : List LS} {a b : Option (lsDen l)} {x : lsDen l} (h : agree l a b = some x) : a = some x ∧ b = some x := by
  unfold agree at h
  cases a with
  | none => cases h
  | some y =>
    cases b with
    | none => cases h
    | some z =>
      simp only [Option.bind_some] at h
      cases he : eqLs l y z with
      | false => rw [he] at h; cases h
      | true =>
        rw [he] at h
        have := eqLs_eq he
        subst this
        exact ⟨h, h⟩
theorem steps_ok {f : Nat} {fn : Func} {args : List Nat} {recT : List Item → St → Option (C.sh f).den} (T : TtOk C) (IH : RecOk C rec) (NG : NamesOk C.P) (hm : C.P.follows .mixedOrders = true) (FO : FinOk C) (CO : CutOk C) (hfn : C.P.funcs[f]? = some fn)
    (IHT : ∀ td st x ρ a w, recT td st = some x → Sim ρ st a w fn.ntmps → IoGa args ρ → Ends C f args x ρ a w td) :
    ∀ (m : Nat) (fresh : Bool) (todo : List Item) (st : St) (x : (C.sh f).den) (ρ : Env) (a : Act) (w : World), evSteps C rec f recT fn args m fresh todo st = some x → Sim ρ st a w fn.ntmps → IoGa args ρ → Ends C f args x ρ a w todo := by
  intro m
  induction m with
  | zero => intro fresh todo st x ρ a w h; cases h
  | succ m ih =>
    intro fresh todo st x ρ a w h S G
    have fin : ∀ {todo : List Item}, (∀ (b : Frame) (cs : List Frame), step C.P (lone (b.at a todo) cs w) = .next (lone { b.at a todo with mode := .returning } cs w)) →
        (runG rec (finG C (C.sh f).bxr fn args) st [] fun r _ _ => (C.sh f).dec r.1 r.2) = some x → Ends C f args x ρ a w todo := by
      intro todo hs h b cs hb hk
      obtain ⟨v, hv, ρ', e, g, r⟩ := FO f fn args st ρ a w x hfn S G h
      exact ⟨_, v, w, .one (hs b cs), hb, ⟨rfl, S.defers, hk, fn, by show C.P.funcs[b.fn]? = _; rw [hb]; exact hfn, hv⟩, ρ', e, g, r⟩
    unfold evSteps at h
    split at h
    · exact fin (fun b cs => step_end) h
    · rename_i c k
      split at h
      · exact fin (fun b cs => step_ret) h
      · exact .same (fun b cs => step_skip) (ih _ _ _ _ _ _ _ h S G)
      · exact .same (fun b cs => step_seq) (ih _ _ _ _ _ _ _ h S G)
      · exact .same (fun b cs => step_block) (ih _ _ _ _ _ _ _ h S G)
      · exact .same (fun b cs => step_loop) (ih _ _ _ _ _ _ _ h S G)
      · split at h
        · rename_i k' hk; exact .same (fun b cs => step_exit hk) (ih _ _ _ _ _ _ _ h S G)
        · cases h
      · rename_i t x' y'
        split at h
        · rename_i g b hs
          obtain ⟨g', av, e, r, _⟩ := S.tm t
          rw [hs] at e; cases e
          have hv : a.eval (.tmp t) = .bool b := by simpa [RepAV, RepCV, RepLeaf, RepTy, Act.eval] using r
          refine .same (todo' := .code (if b then x' else y') :: k) (fun b' cs => step_cond hv) ?_
          cases b with
          | true => exact ih _ _ _ _ _ _ _ (by simpa [gIf] using h) S G
          | false => exact ih _ _ _ _ _ _ _ (by simpa [gIf] using h) S G
        · rename_i g b hs
          obtain ⟨g', av, e, r, _⟩ := S.tm t
          rw [hs] at e; cases e
          obtain ⟨c, hv, hc⟩ : ∃ c, a.eval (.tmp t) = .bool c ∧ (b = false → c = false) := r
          refine .same (todo' := .code (if c then x' else y') :: k) (fun b' cs => step_cond hv) ?_
          cases b with
          | true =>
            obtain ⟨h1, h2⟩ := agree_some (show agree (C.sh f).ls _ _ = some x from h)
            cases c with
            | true => exact ih _ _ _ _ _ _ _ h1 S G
            | false => exact ih _ _ _ _ _ _ _ h2 S G
          | false =>
            obtain rfl := hc rfl
            exact ih _ _ _ _ _ _ _ (by simpa [gIf] using h) S G
        · cases h
      · rename_i id ops draw
        split at h
        · rename_i kt kb hcut
          obtain ⟨st', ρ', h1, e, g, S'⟩ := CO args kt kb (recT (.code (.region id ops draw) :: k)) st ρ a w fn.ntmps x S h
          exact .after (fun b cs => .refl _ _) e g (IHT _ _ _ _ _ _ h1 S' (g.io G))
        · obtain ⟨ts, st', hrun, h2⟩ := evOps_run h
          cases hd : (!draw || okDraw ops (ts.reverse ++ [])) with
          | false => rw [hd] at h2; cases h2
          | true =>
            rw [hd] at h2
            have hreg : (Code.region id ops draw).wp C.P (fun e a' w' => e = .normal ∧ ∃ ρ', Still ρ w ρ' w' ∧ Sim ρ' st' a' w' fn.ntmps) a w :=
              region_ok T IH NG hm hrun (fun e => by subst e; simpa using hd) S (fun ρ' a' w' k1 S1 => ⟨rfl, ρ', k1, S1⟩)
            intro b cs hb hk
            obtain ⟨e, a', w', ⟨rfl, ρ', k1, S1⟩, harr⟩ := hreg b k cs
            obtain ⟨fr, v, w2, s, h3, h4, ρ2, e2, g2, r⟩ := ih _ _ _ _ _ _ _ h2 S1 ((k1.gaIo args).io G) b cs hb hk
            exact ⟨fr, v, w2, Steps.trans harr s, h3, h4, ρ2, k1.toExt.trans e2, (k1.gaIo args).trans g2, r⟩
      · cases h
    · exact .same (fun b cs => step_inBlock) (ih _ _ _ _ _ _ _ h S G)
    · exact .same (fun b cs => step_inLoop) (ih _ _ _ _ _ _ _ h S G)
    · cases h
end
end Go.Proofs.Yticifedehhnjhaa.Eng
/- The whole: what the reading gives, the call gives. -/
namespace Go.Proofs.Yticifedehhnjhaa.Eng
set_option linter.unusedVariables false
set_option linter.unusedSimpArgs false
open Go Go.RowKit
section
variable {C : Cfg}
theorem evN_ok (T : TtOk C) (NG : NamesOk C.P) (hm : C.P.follows .mixedOrders = true) (FO : FinOk C) (CO : CutOk C) : ∀ n : Nat,
    (∀ (q : Req) (x : (C.sh q.f).den), evN C n (.call q) = some x → HoldsCall C q x ∧ ∃ fn c, C.P.funcs[q.f]? = some fn ∧ fn.body = some c) ∧
    ∀ (f : Nat) (args : List Nat) (td : List Item) (st : St) (x : (C.sh f).den) (fn : Func), evN C n (.run f args td st) = some x → C.P.funcs[f]? = some fn → ∀ ρ a w, Sim ρ st a w fn.ntmps → IoGa args ρ → Ends C f args x ρ a w td := by
  intro n
  induction n with
  | zero => exact ⟨fun q x h => (by cases h), fun f args td st x fn h => (by cases h)⟩
  | succ n ih =>
    obtain ⟨ih1, ih2⟩ := ih
    have IH : RecOk C (fun q => evN C n (.call q)) := ih1
    refine ⟨fun q x h => ?_, fun f args td st x fn h hfn ρ a w S G => ?_⟩
    · simp only [evN] at h
      split at h
      · rename_i fn hfn
        split at h
        · rename_i c hc
          refine ⟨fun ρ w cargs E => ?_, fn, c, hfn, hc⟩
          intro cs
          let b : Frame := { (default : Frame) with fn := q.f, kind := .normal }
          have henter : Frame.enter C.P q.f cargs .normal = b.at { tmps := cargs ++ Array.replicate (fn.ntmps - cargs.size) Go.undef, defers := [] } [.code c] := by
            simp [Frame.enter, Frame.at, hfn, hc, b]
          have G : IoGa (q.args.map argKind) ρ := fun i k hi => by
            simp only [List.getElem?_map, Option.map_eq_some_iff] at hi
            obtain ⟨y, hy, hk⟩ := hi
            obtain ⟨v, hv⟩ : ∃ v, cargs[i]? = some v := ⟨_, Array.getElem?_eq_getElem (by rw [E.size]; exact (List.getElem?_eq_some_iff.1 hy).1)⟩
            have := E.arg i y v hy hv
            cases y with
            | cv ag ls => simp [argKind] at hk
            | io ls => obtain ⟨blk, _, h2, _⟩ := this; exact ⟨blk, h2⟩
          obtain ⟨fr, v, w', s, h1, h2, ρ', e, g, r⟩ := steps_ok T IH NG hm FO CO hfn (fun td st x ρ a w h S G => ih2 q.f (q.args.map argKind) td st x fn h hfn ρ a w S G) 4000 true [.code c] _ x ρ _ w h (E.sim fn.ntmps) G b cs rfl rfl
          rw [← henter] at s
          exact ⟨.returned v, w', fr, ⟨v, rfl, ρ', e, g, r⟩, s, h1, h2⟩
        · cases h
      · cases h
    · simp only [evN, hfn] at h
      exact steps_ok T IH NG hm FO CO hfn (fun td st x ρ a w h S G => ih2 f args td st x fn h hfn ρ a w S G) 4000 true td st x ρ a w h S G
end
end Go.Proofs.Yticifedehhnjhaa.Eng
/- The end of a function: rows are taken from their places. -/
namespace Go.Proofs.Yticifedehhnjhaa.Eng
set_option linter.unusedVariables false
set_option linter.unusedSimpArgs false
open Go Go.RowKit
section
variable {C : Cfg} {D : Nat → Sh} {rec : (q : Req) → Option (D q.f).den} {ρ ρ' : Env} {st : St} {a : Act} {w w' : World} {N : Nat}
theorem At.not_loose {r : Ref} {e : Ty} {xs : List e.den} {v : Value} (h : At ρ st a w r (.own e xs) v) : ¬ Loose st r := by
  rintro ⟨h1, h2⟩
  cases r with
  | tm t g =>
    rcases h1 t g _ h.1 with q | q
    · exact q rfl
    · have := q (.own e xs) (by simp); cases this
  | tp => exact h.elim
  | bf b g o lg =>
    obtain ⟨ls, blk, cs, ty, q1, q2, _⟩ := h
    rcases h2 b g ls q1 o lg _ q2 with q | q
    · exact q rfl
    · cases q
theorem Loose.setRef {r r' : Ref} {l l0 : Leaf} {v0 : Value} {st' : St} (h : Loose st r) (hat : At ρ st a w r' l0 v0) (hl : l.isOwn = false) (hs : ev rec (Eng.setRef r' l) st = some ((), st')) : Loose st' r := by
  obtain ⟨h1, h2⟩ := h
  cases r' with
  | tp => cases hs
  | tm t g =>
    simp only [Eng.setRef, ev] at hs
    cases hs
    refine ⟨fun t' g' av e => ?_, fun b g' ls e => h2 b g' ls (by rwa [upd_ne _ _ (by simp)] at e)⟩
    by_cases ht : t' = t
    · subst ht
      rw [upd_same] at e
      cases e
      exact .inr (fun m hm => by simp at hm; subst hm; exact hl)
    · exact h1 t' g' av (by rwa [upd_ne _ _ (by simpa using ht)] at e)
  | bf b g o lg =>
    obtain ⟨g0, ls, e0, hs⟩ := ev_getBx hs
    simp only [ev] at hs
    cases hs
    refine ⟨fun t' g' av e => h1 t' g' av (by rwa [upd_ne _ _ (by simp)] at e), fun b' g' ls' e => ?_⟩
    by_cases hb : b' = b
    · subst hb
      rw [upd_same] at e
      cases e
      intro i lg' m hm
      rw [List.getElem?_set] at hm
      split at hm
      · split at hm
        · cases hm; exact .inr hl
        · cases hm
      · rename_i hne
        obtain ⟨ls0, blk, cs, ty, q1, q2, _⟩ := hat
        rw [e0] at q1; cases q1
        exact h2 b' g ls e0 i lg' m hm
    · exact h2 b' g' ls' (by rwa [upd_ne _ _ (by simpa using hb)] at e)
/-- Rows may have become stable, but for loose ones. -/
structure FrozeL (st : St) (ρ ρ' : Env) : Prop extends Froze ρ ρ' where
  loose : ∀ k r, ρ.lab k = .own r → Loose st r → ρ'.lab k = .own r
theorem FrozeL.refl (st : St) (ρ : Env) : FrozeL st ρ ρ := ⟨.refl _, fun _ _ h _ => h⟩
theorem FrozeL.trans {st1 : St} {ρ1 ρ2 ρ3 : Env} (h : FrozeL st ρ1 ρ2) (l : ∀ r, Loose st r → Loose st1 r) (k : FrozeL st1 ρ2 ρ3) : FrozeL st ρ1 ρ3 := ⟨h.toFroze.trans k.toFroze, fun i r hl hr => k.loose i r (h.loose i r hl hr) (l r hr)⟩
theorem rl_frozeL {r : Ref} {e : Ty} {xs : List e.den} {v : Value} (hat : At ρ st a w r (.own e xs) v) : FrozeL st ρ (ρ.rl r .st) :=
  ⟨rl_froze _ _, fun k q hk hq => by
    by_cases e : q = r
    · subst e; exact (hat.not_loose hq).elim
    · rw [rl_ne (by rw [hk]; simpa using e)]; exact hk⟩
/-- A leaf of a result: it owns nothing, or its row is loose. -/
def TakenOk (ρ : Env) (w : World) (st st' : St) (l : Leaf) (v : Value) : Prop :=
  (l.isOwn = false ∧ giveLeaf l = true ∧ ∀ r, RepLeaf ρ w r l v) ∨ ∃ r e xs, l = .own e xs ∧ OwnRow ρ.lab w r e v xs ∧ Loose st' r ∧ ¬ Loose st r
theorem ev_takeLeaf {l l' : Leaf} {st' : St} {v : Value} (h : ev rec (takeLeaf l) st = some (l', st')) (S : Sim ρ st a w N) (hl : ∀ r, RepLeaf ρ w r l v) :
    ∃ ρ', FrozeL st ρ ρ' ∧ Still ρ w ρ' w ∧ Sim ρ' st' a w N ∧ (∀ r, Loose st r → Loose st' r) ∧ TakenOk ρ' w st st' l' v := by
  unfold takeLeaf at h
  split at h
  · rename_i r
    obtain ⟨x, s1, h1, h2⟩ := ev_bind _ _ _ _ h
    obtain ⟨rfl, V, p1, p2⟩ := ev_resolve _ _ h1 S
    obtain ⟨q1, q2⟩ := p2 _ (hl (.tm 0 0)).1
    subst q1
    split at h2
    · rename_i r' e xs
      obtain ⟨_, s2, h3, h4⟩ := ev_bind _ _ _ _ h2
      cases ev_ret h4
      obtain ⟨S', ho, hlo, hat'⟩ := S.loosen p1 h3
      exact ⟨ρ, .refl _ _, .refl _ _, S', fun r hr => hr.setRef p1 rfl h3, .inr ⟨_, _, _, rfl, ho, hlo, p1.not_loose⟩⟩
    · cases ev_ret h2
      exact ⟨ρ, .refl _ _, .refl _ _, S, fun _ h => h, .inl ⟨rfl, rfl, fun r => (p1.rep S).any rfl⟩⟩
    · cases h2
  · rename_i r s lo hi
    obtain ⟨sv, s1, h1, h2⟩ := ev_bind _ _ _ _ h
    obtain ⟨rfl, ok⟩ := ev_slv h1 S hl
    split at h2
    · rename_i r' e xs lo2 hi2
      obtain ⟨_, s2, h3, h4⟩ := ev_bind _ _ _ _ h2
      cases ev_ret h4
      obtain ⟨V, hat, A, n, c, q, z0, z1, z2, z3, A', z4, z5⟩ := ok
      obtain ⟨S', hr⟩ := S.freeze hat h3
      have hV := hat.cur S q
      exact ⟨_, rl_frozeL hat, rl_still _ _ _ _, S', fun r hr => hr.setRef hat rfl h3, .inl ⟨rfl, rfl, fun _ => sub_stable hr hV.symm z0 z1 z2 z4 z5⟩⟩
    · cases ev_ret h2
      exact ⟨ρ, .refl _ _, .refl _ _, S, fun _ h => h, .inl ⟨rfl, rfl, fun _ => ok⟩⟩
    · cases h2
  · cases ev_ret h; exact ⟨ρ, .refl _ _, .refl _ _, S, fun _ h => h, .inl ⟨rfl, rfl, hl⟩⟩
  · cases ev_ret h; exact ⟨ρ, .refl _ _, .refl _ _, S, fun _ h => h, .inl ⟨rfl, rfl, hl⟩⟩
  · cases h
end
end Go.Proofs.Yticifedehhnjhaa.Eng
/- The end of a function: its results. -/
namespace Go.Proofs.Yticifedehhnjhaa.Eng
set_option linter.unusedVariables false
set_option linter.unusedSimpArgs false
open Go Go.RowKit
section
variable {C : Cfg} {D : Nat → Sh} {rec : (q : Req) → Option (D q.f).den} {ρ ρ' : Env} {st : St} {a : Act} {w w' : World} {N : Nat}
theorem ev_stabL {want : Ty} {l : Leaf} {s : SV} {st' : St} {val : Value} (h : ev rec (stab want l) st = some (s, st')) (S : Sim ρ st a w N) (hl : ∀ r, RepLeaf ρ w r l val) :
    ∃ ρ', FrozeL st ρ ρ' ∧ Still ρ w ρ' w ∧ Sim ρ' st' a w N ∧ (∀ r, Loose st r → Loose st' r) ∧ RepTy ρ'.lab w s.t [val] s.x := by
  have key : ∀ {s : SV} {st' : St}, ev rec ((slv l).bind stabSl) st = some (s, st') → ∃ ρ', FrozeL st ρ ρ' ∧ Still ρ w ρ' w ∧ Sim ρ' st' a w N ∧ (∀ r, Loose st r → Loose st' r) ∧ RepTy ρ'.lab w s.t [val] s.x := by
    intro s st' h
    obtain ⟨sv, st1, h1, h2⟩ := ev_bind _ _ _ _ h
    obtain ⟨rfl, ok⟩ := ev_slv h1 S hl
    unfold stabSl at h2
    split at h2
    · cases ev_ret h2; exact ⟨ρ, .refl _ _, .refl _ _, S, fun _ h => h, ok⟩
    · rename_i r e xs
      obtain ⟨_, st2, h3, h4⟩ := ev_bind _ _ _ _ h2
      cases ev_ret h4
      obtain ⟨S', hr⟩ := S.freeze ok h3
      exact ⟨_, rl_frozeL ok, rl_still _ _ _ _, S', fun r hr => hr.setRef ok rfl h3, hr⟩
    · rename_i r e xs lo hi
      obtain ⟨_, st2, h3, h4⟩ := ev_bind _ _ _ _ h2
      cases ev_ret h4
      obtain ⟨V, hat, A, n, c, q, z0, z1, z2, z3, A', z4, z5⟩ := ok
      obtain ⟨S', hr⟩ := S.freeze hat h3
      have hV := hat.cur S q
      exact ⟨_, rl_frozeL hat, rl_still _ _ _ _, S', fun r hr => hr.setRef hat rfl h3, sub_stable hr hV.symm z0 z1 z2 z4 z5⟩
    · cases h2
  unfold stab at h
  split at h
  · cases ev_ret h; exact ⟨ρ, .refl _ _, .refl _ _, S, fun _ h => h, hl (.tm 0 0)⟩
  · split at h
    · cases ev_ret h
      have := hl (.tm 0 0)
      simp only [RepLeaf] at this
      subst this
      exact ⟨ρ, .refl _ _, .refl _ _, S, fun _ h => h, none, 0, rfl, Nat.le_refl _, fun j x hx => by simp at hx⟩
    · cases h
  · exact key h
theorem ev_stabsL : ∀ {ts : List Ty} {ls : List Leaf} {ys : List SV} {vs : List Value} {ρ : Env} {st st' : St}, ev rec (stabs ts ls) st = some (ys, st') → Sim ρ st a w N → RepLs ρ w ls vs →
    ∃ ρ', FrozeL st ρ ρ' ∧ Still ρ w ρ' w ∧ Sim ρ' st' a w N ∧ (∀ r, Loose st r → Loose st' r) ∧ RepSVs ρ'.lab w ys vs
  | [], [], ys, vs, ρ, st, st', h, S, r => by
    cases ev_ret h
    match vs, r with
    | [], _ => exact ⟨ρ, .refl _ _, .refl _ _, S, fun _ h => h, trivial⟩
  | t :: ts, l :: ls, ys, vs, ρ, st, st', h, S, r => by
    match vs, r with
    | v :: vs, r =>
      unfold stabs at h
      obtain ⟨x, s1, h1, h2⟩ := ev_bind _ _ _ _ h
      obtain ⟨q, s2, h3, h4⟩ := ev_bind _ _ _ _ h2
      cases ev_ret h4
      obtain ⟨ρ1, f1, k1, S1, l1, o1⟩ := ev_stabL h1 S r.1.2
      obtain ⟨ρ2, f2, k2, S2, l2, o2⟩ := ev_stabsL h3 S1 (r.2.still k1)
      exact ⟨ρ2, f1.trans l1 f2, k1.trans k2, S2, fun r hr => l2 r (l1 r hr), o1.mono k2.st, o2⟩
  | [], _ :: _, _, _, _, _, _, h, _, _ => by cases h
  | _ :: _, [], _, _, _, _, _, h, _, _ => by cases h
/-- One result: a row taken from its place, or values that stay. -/
def ResOk (ρ : Env) (w : World) (st st' : St) (c : Bool × List Leaf) (v : Value) : Prop :=
  (∃ r e xs, c = (false, [.own e xs]) ∧ OwnRow ρ.lab w r e v xs ∧ Loose st' r ∧ ¬ Loose st r) ∨ (∀ l ∈ c.2, l.isOwn = false ∧ giveLeaf l = true) ∧ (c.1 = true → ∀ l ∈ c.2, ∃ t x, l = Leaf.v t x) ∧ ∀ r, RepCV ρ w r c.1 c.2 v
theorem TakenOk.res {st' : St} {l : Leaf} {v : Value} (h : TakenOk ρ w st st' l v) : ResOk ρ w st st' (false, [l]) v := by
  rcases h with ⟨h1, h2, h3⟩ | ⟨r, e, xs, rfl, h⟩
  · exact .inr ⟨fun m hm => (by simp at hm; subst hm; exact ⟨h1, h2⟩), fun e => (by cases e), h3⟩
  · exact .inl ⟨r, e, xs, rfl, h⟩
theorem svs_rep {lab : Nat → Lbl} {ys : List SV} {vs : List Value} (h : RepSVs lab w ys vs) : ∀ (i : Nat) l u, (ys.map Leaf.ofSV)[i]? = some l → vs[i]? = some u → l.isOwn = false ∧ giveLeaf l = true ∧ ∀ (ρ : Env) r, ρ.lab = lab → RepLeaf ρ w r l u := by
  induction ys generalizing vs with
  | nil => intro i l u hi; simp at hi
  | cons y ys ih =>
    match vs, h with
    | v :: vs, h =>
      intro i l u hi hu
      cases i with
      | zero => simp at hi hu; subst hi; subst hu; exact ⟨rfl, rfl, fun ρ r e => by subst e; exact h.1⟩
      | succ i => exact ih h.2 i l u (by simpa using hi) (by simpa using hu)
/-- The leaves of a record made stable. -/
theorem ev_resAgg {ag : Bool} {ls : List Leaf} {t : Nat} {c : Bool × List Leaf} {st' : St} {v : Value} (h : ev rec ((tdOf C t).bind fun td => (stabs (tys td.ty) ls).bind fun xs => .ret (ag, xs.map Leaf.ofSV)) st = some (c, st')) (S : Sim ρ st a w N) (ok : OpdOk ρ w (.cv ag ls) v) :
    ∃ ρ', FrozeL st ρ ρ' ∧ Still ρ w ρ' w ∧ Sim ρ' st' a w N ∧ (∀ r, Loose st r → Loose st' r) ∧ ResOk ρ' w st st' c v := by
  obtain ⟨td, s1, h1, h2⟩ := ev_bind _ _ _ _ h
  obtain ⟨rfl, _, _⟩ := ev_tdOf h1
  obtain ⟨xs, s2, h3, h4⟩ := ev_bind _ _ _ _ h2
  obtain ⟨ρ', f, k, S', l, o⟩ := ev_stabsL h3 S ok.leaves
  cases ev_ret h4
  have hr := svs_rep o
  have hlen : (xs.map Leaf.ofSV).length = v.cells.size := by simpa using o.len
  refine ⟨ρ', f, k, S', l, .inr ⟨fun m hm => ?_, fun _ m hm => ?_, fun r => ?_⟩⟩
  · obtain ⟨i, hi, rfl⟩ := List.getElem_of_mem hm
    obtain ⟨u, hu⟩ : ∃ u, v.cells.toList[i]? = some u := ⟨_, List.getElem?_eq_getElem (by simp at hi hlen ⊢; omega)⟩
    have := hr i _ u (List.getElem?_eq_getElem hi) hu
    exact ⟨this.1, this.2.1⟩
  · obtain ⟨y, _, rfl⟩ := List.mem_map.1 hm
    exact ⟨y.t, y.x, rfl⟩
  · have hok := ok.2 (.tm 0 0)
    cases ag with
    | false =>
      match ls, hok, ok with
      | [m], hok, ok =>
        have hv : v.cells = #[v] := RepLeaf.cells (ok.1 m (by simp)) hok
        rw [hv] at hr hlen
        match hxs : xs.map Leaf.ofSV, hlen with
        | [m'], _ => exact (hr 0 m' v (by rw [hxs]; rfl) rfl).2.2 ρ' r rfl
      | [], hok, _ => exact hok.elim
      | _ :: _ :: _, hok, _ => exact hok.elim
    | true =>
      obtain ⟨cs, rfl, hc, _⟩ := hok
      simp only [Value.cells] at hr hlen
      exact ⟨cs, rfl, hlen.symm, fun i l u p q => ⟨(hr i l u p (by simpa using q)).2.2 ρ' r rfl, (hr i l u p (by simpa using q)).1⟩⟩
def readRes (tmps : Array Value) : ResultVar → Sem Value
  | .tmp t => pure (tmps.getD t Go.undef)
  | .cell a t => do loadVar t (← asAddr (tmps.getD a Go.undef))
theorem ev_resG {r : ResultVar} {t : Nat} {c : Bool × List Leaf} {st' : St} (T : TtOk C) (h : ev rec (resG C r t) st = some (c, st')) (S : Sim ρ st a w N) :
    ∃ ρ' v, FrozeL st ρ ρ' ∧ Still ρ w ρ' w ∧ Sim ρ' st' a w N ∧ (∀ r, Loose st r → Loose st' r) ∧ ResOk ρ' w st st' c v ∧ (readRes a.tmps r).run C.P w = .ok v w := by
  cases r with
  | tmp d =>
    obtain ⟨av, s1, h1, h2⟩ := ev_bind _ _ _ _ (show ev rec ((opd (.tmp d)).bind _) st = _ from h)
    obtain ⟨rfl, ok⟩ := ev_opd h1 S
    have hrun : (readRes a.tmps (.tmp d)).run C.P w = .ok (a.eval (.tmp d)) w := rfl
    split at h2
    · rename_i e xs; have := ok.1 (.own e xs) (by simp); cases this
    · obtain ⟨l', s2, h3, h4⟩ := ev_bind _ _ _ _ h2
      cases ev_ret h4
      obtain ⟨ρ', f, k, S', l, o⟩ := ev_takeLeaf h3 S ok.2
      exact ⟨ρ', _, f, k, S', l, o.res, hrun⟩
    · obtain ⟨ρ', f, k, S', l, o⟩ := ev_resAgg h2 S ok
      exact ⟨ρ', _, f, k, S', l, o, hrun⟩
    · cases h2
  | cell d ty =>
    obtain ⟨l0, s1, h1, h2⟩ := ev_bind _ _ _ _ (show ev rec ((opd1 (.tmp d)).bind _) st = _ from h)
    obtain ⟨rfl, hno, hl⟩ := ev_opd1 h1 S
    obtain ⟨av, s2, h3, h4⟩ := ev_bind _ _ _ _ h2
    obtain ⟨rfl, v, hr, ok, hne⟩ := loadG_ok T h3 S hl
    have hrun : (readRes a.tmps (.cell d ty)).run C.P w = .ok v w := by
      have hp : ∃ ad, a.eval (.tmp d) = .pointer (some ad) := by
        obtain ⟨td, s3, h5, h6⟩ := ev_bind _ _ _ _ h3
        split at h6
        · obtain ⟨blk, _, e⟩ := hl (.tm 0 0); exact ⟨_, e⟩
        · obtain ⟨ad, e, _⟩ := hl (.tm 0 0); exact ⟨_, e⟩
        · obtain ⟨ad, n, c, _, _, _, e⟩ := hl (.tm 0 0); exact ⟨_, e⟩
        · cases h6
      obtain ⟨ad, hp⟩ := hp
      rw [hp] at hr
      have hp' : a.tmps.getD d Go.undef = .pointer (some ad) := hp
      simp only [readRes, hp']
      simpa [Instr.loadAt, Instr.sureAddr, asAddr] using hr
    split at h4
    · obtain ⟨l', s4, h5, h6⟩ := ev_bind _ _ _ _ h4
      cases ev_ret h6
      obtain ⟨ρ', f, k, S', l, o⟩ := ev_takeLeaf h5 S ok.2
      exact ⟨ρ', _, f, k, S', l, o.res, hrun⟩
    · obtain ⟨ρ', f, k, S', l, o⟩ := ev_resAgg h4 S ok
      exact ⟨ρ', _, f, k, S', l, o, hrun⟩
    · cases h4
/-- A result, with the name of its row if it is one. -/
def ResAt (ρ : Env) (w : World) (st st' : St) (c : Bool × List Leaf) (v : Value) : Option Ref → Prop
  | some r => ∃ e xs, c = (false, [.own e xs]) ∧ OwnRow ρ.lab w r e v xs ∧ Loose st' r ∧ ¬ Loose st r
  | none => (∀ l ∈ c.2, l.isOwn = false ∧ giveLeaf l = true) ∧ (c.1 = true → ∀ l ∈ c.2, ∃ t x, l = Leaf.v t x) ∧ ∀ r, RepCV ρ w r c.1 c.2 v
theorem ResOk.at {st' : St} {c : Bool × List Leaf} {v : Value} (h : ResOk ρ w st st' c v) : ∃ s, ResAt ρ w st st' c v s := by
  rcases h with ⟨r, h⟩ | h
  · exact ⟨some r, h⟩
  · exact ⟨none, h⟩
theorem OwnRow.frozeL {r : Ref} {e : Ty} {v : Value} {xs : List e.den} (f : FrozeL st ρ ρ') (k : Still ρ w ρ' w) (hl : Loose st r) (h : OwnRow ρ.lab w r e v xs) : OwnRow ρ'.lab w r e v xs := by
  obtain ⟨A, c, hv, hc, h⟩ := h
  refine ⟨A, c, hv, hc, h.imp id ?_⟩
  rintro ⟨blk, off, cells, ty, hA, hlab, hb, ho, hx⟩
  exact ⟨blk, off, cells, ty, hA, f.loose _ _ hlab hl, hb, ho, fun j x hj => let ⟨cs, h1, h2⟩ := hx j x hj; ⟨cs, h1.mono k.st, h2⟩⟩
/-- All results: the rows among them have different names. -/
theorem ev_resAll (T : TtOk C) : ∀ {rs : List ResultVar} {ts : List Nat} {cs : List (Bool × List Leaf)} {ρ : Env} {st st' : St}, ev rec (resAll C rs ts) st = some (cs, st') → Sim ρ st a w N →
    ∃ (ρ' : Env) (vs : List Value) (src : List (Option Ref)), FrozeL st ρ ρ' ∧ Still ρ w ρ' w ∧ Sim ρ' st' a w N ∧ (∀ r, Loose st r → Loose st' r) ∧ cs.length = rs.length ∧ vs.length = rs.length ∧ src.length = rs.length ∧
      (∀ (i : Nat) c v s, cs[i]? = some c → vs[i]? = some v → src[i]? = some s → ResAt ρ' w st st' c v s) ∧ (∀ (i j : Nat) r, src[i]? = some (some r) → src[j]? = some (some r) → i = j) ∧
      ∀ (i : Nat) r v, rs[i]? = some r → vs[i]? = some v → (readRes a.tmps r).run C.P w = .ok v w
  | [], ts, cs, ρ, st, st', h, S => by
    cases ev_ret h
    exact ⟨ρ, [], [], .refl _ _, .refl _ _, S, fun _ h => h, rfl, rfl, rfl, fun i c v s h => by simp at h, fun i j r h => by simp at h, fun i r v h => by simp at h⟩
  | r :: rs, [], cs, ρ, st, st', h, S => by cases h
  | r :: rs, t :: ts, cs, ρ, st, st', h, S => by
    unfold resAll at h
    obtain ⟨c, s1, h1, h2⟩ := ev_bind _ _ _ _ h
    obtain ⟨cs', s2, h3, h4⟩ := ev_bind _ _ _ _ h2
    cases ev_ret h4
    obtain ⟨ρ1, v, f1, k1, S1, l1, o1, run1⟩ := ev_resG T h1 S
    obtain ⟨ρ2, vs, src, f2, k2, S2, l2, e1, e2, e3, o2, d2, run2⟩ := ev_resAll T h3 S1
    obtain ⟨s, o1⟩ := o1.at
    refine ⟨ρ2, v :: vs, s :: src, f1.trans l1 f2, k1.trans k2, S2, fun r hr => l2 r (l1 r hr), by simp [e1], by simp [e2], by simp [e3], fun i c' v' s' hc hv hs => ?_, fun i j q hi hj => ?_, fun i r' v' hr hv => ?_⟩
    · cases i with
      | zero =>
        simp at hc hv hs; subst hc; subst hv; subst hs
        cases s with
        | none => exact ⟨o1.1, o1.2.1, (OpdOk.still (av := .cv c.1 c.2) k2 ⟨fun l hl => (o1.1 l hl).1, o1.2.2⟩).2⟩
        | some q =>
          obtain ⟨e, xs, p1, p2, p3, p4⟩ := o1
          exact ⟨e, xs, p1, p2.frozeL f2 k2 p3, l2 q p3, p4⟩
      | succ i =>
        have := o2 i c' v' s' (by simpa using hc) (by simpa using hv) (by simpa using hs)
        cases s' with
        | none => exact this
        | some q => obtain ⟨e, xs, p1, p2, p3, p4⟩ := this; exact ⟨e, xs, p1, p2, p3, fun h => p4 (l1 q h)⟩
    · have notail : ∀ i q, s = some q → src[i]? = some (some q) → False := fun i q hs hi => by
        subst hs
        obtain ⟨c', hc⟩ : ∃ c', cs'[i]? = some c' := ⟨_, List.getElem?_eq_getElem (by have := (List.getElem?_eq_some_iff.1 hi).1; omega)⟩
        obtain ⟨v', hv⟩ : ∃ v', vs[i]? = some v' := ⟨_, List.getElem?_eq_getElem (by have := (List.getElem?_eq_some_iff.1 hi).1; omega)⟩
        obtain ⟨_, _, _, _, _, p4⟩ := o2 i c' v' _ hc hv hi
        obtain ⟨_, _, _, _, q3, _⟩ := o1
        exact p4 q3
      cases i with
      | zero => cases j with
        | zero => rfl
        | succ j => simp at hi hj; exact (notail j q hi hj).elim
      | succ i => cases j with
        | zero => simp at hi hj; exact (notail i q hj hi).elim
        | succ j => simp at hi hj; rw [d2 i j q hi hj]
    · cases i with
      | zero => simp at hr hv; subst hr; subst hv; exact run1
      | succ i => exact run2 i r' v' (by simpa using hr) (by simpa using hv)
end
end Go.Proofs.Yticifedehhnjhaa.Eng
/- The end of a function: boxes; the last names. -/
namespace Go.Proofs.Yticifedehhnjhaa.Eng
set_option linter.unusedVariables false
set_option linter.unusedSimpArgs false
open Go Go.RowKit
/-- The boxes that came in, read at the end. -/
def IosSt (st : St) : Nat → List Nat → List (List Leaf) → Prop
  | _, [], q => q = []
  | i, 0 :: r, q => IosSt st (i + 1) r q
  | i, (_ + 1) :: r, l :: q => (∃ ls, st (.bx i) = .bx 0 ls ∧ l = ls.map (·.2) ∧ ∀ m ∈ ls, giveLeaf m.2 = true) ∧ IosSt st (i + 1) r q
  | _, (_ + 1) :: _, [] => False
section
variable {C : Cfg} {D : Nat → Sh} {rec : (q : Req) → Option (D q.f).den} {ρ ρ' : Env} {st : St} {a : Act} {w w' : World} {N : Nat}
theorem ev_iosG {args : List Nat} : ∀ {i : Nat} {q : List (List Leaf)} {st' : St}, ev rec (iosG i args) st = some (q, st') → st' = st ∧ IosSt st i args q := by
  induction args with
  | nil => intro i q st' h; cases ev_ret h; exact ⟨rfl, rfl⟩
  | cons k r ih =>
    intro i q st' h
    cases k with
    | zero => exact ih (i := i + 1) h
    | succ n =>
      obtain ⟨g, ls, hs, h⟩ := ev_getBx h
      cases hb : Nat.beq g 0 with
      | false => rw [hb] at h; cases h
      | true =>
        rw [hb] at h
        obtain rfl := Nat.eq_of_beq_eq_true hb
        cases hall : ls.all (fun l => giveLeaf l.2) with
        | false => rw [hall] at h; cases h
        | true =>
          rw [hall] at h
          obtain ⟨q', s1, h1, h2⟩ := ev_bind _ _ _ _ (show ev rec ((iosG (i + 1) r).bind _) st = _ from h)
          obtain ⟨e, k⟩ := ih h1
          cases ev_ret h2
          exact ⟨e, ⟨ls, hs, rfl, fun m hm => by simpa using List.all_eq_true.1 hall m hm⟩, k⟩
end
end Go.Proofs.Yticifedehhnjhaa.Eng
/- What is read at the end, and its form when it comes back. -/
namespace Go.Proofs.Yticifedehhnjhaa.Eng
set_option linter.unusedVariables false
set_option linter.unusedSimpArgs false
open Go Go.RowKit
/-- b is a as the shape wants it: a row may be wanted as a value; what is nil is an empty row. -/
def ConvL (a : Leaf) : Leaf → Prop
  | .v t x => a = .v t x ∨ ∃ e xs, (⟨t, x⟩ : SV) = ⟨.sl e, xs⟩ ∧ (a = .own e xs ∨ xs = [] ∧ ∃ e', a = .nil e')
  | .own e xs => a = .own e xs ∨ xs = [] ∧ ∃ e', a = .nil e'
  | _ => False
theorem dec_conv {s : LS} {l : Leaf} {y : s.den} (h : s.dec l = some y) : ConvL l (s.enc y) := by
  cases s with
  | v t =>
    cases l with
    | v t' x =>
      simp only [LS.dec] at h
      obtain ⟨rfl, rfl⟩ := cast_some h
      exact .inl rfl
    | own e xs =>
      simp only [LS.dec] at h
      obtain ⟨e1, e2⟩ := cast_some h
      subst e1
      subst e2
      exact .inr ⟨e, _, rfl, .inl rfl⟩
    | nil e' =>
      cases t with
      | sl e =>
        simp only [LS.dec, Option.some.injEq] at h
        subst h
        exact .inr ⟨e, [], rfl, .inr ⟨rfl, e', rfl⟩⟩
      | _ => simp [LS.dec] at h
    | _ => simp [LS.dec] at h
  | own e =>
    cases l with
    | own e' xs =>
      simp only [LS.dec] at h
      obtain ⟨e1, e2⟩ := cast_some h
      cases e1
      subst e2
      exact .inl rfl
    | nil e' =>
      simp only [LS.dec, Option.some.injEq] at h
      subst h
      exact .inr ⟨rfl, e', rfl⟩
    | _ => simp [LS.dec] at h
theorem lsDec_conv : ∀ {l : List LS} {q : List Leaf} {x : lsDen l}, lsDec l q = some x → (lsEnc l x).length = q.length ∧ ∀ (i : Nat) a b, q[i]? = some a → (lsEnc l x)[i]? = some b → ConvL a b
  | [], [], x, h => ⟨rfl, fun i a b h => by simp at h⟩
  | [s], [a], x, h => ⟨rfl, fun i a' b h1 h2 => by
      cases i with
      | zero => simp [lsEnc] at h1 h2; subst h1; subst h2; exact dec_conv h
      | succ i => simp at h1⟩
  | s :: t :: r, a :: q, x, h => by
    simp only [lsDec, Option.bind_eq_some_iff, Option.some.injEq] at h
    obtain ⟨y, h1, z, h2, rfl⟩ := h
    obtain ⟨e, k⟩ := lsDec_conv h2
    refine ⟨by simp [lsEnc, e], fun i a' b h3 h4 => ?_⟩
    cases i with
    | zero => simp [lsEnc] at h3 h4; subst h3; subst h4; exact dec_conv h1
    | succ i => exact k i a' b (by simpa using h3) (by simpa [lsEnc] using h4)
  | [], _ :: _, _, h => by simp [lsDec] at h
  | [_], [], _, h => by simp [lsDec] at h
  | [_], _ :: _ :: _, _, h => by simp [lsDec] at h
  | _ :: _ :: _, [], _, h => by simp [lsDec] at h
end Go.Proofs.Yticifedehhnjhaa.Eng
/- Results and boxes of a call, as they are read and as they come back. -/
namespace Go.Proofs.Yticifedehhnjhaa.Eng
set_option linter.unusedVariables false
set_option linter.unusedSimpArgs false
open Go Go.RowKit
def AllC : List Leaf → List Leaf → Prop
  | [], [] => True
  | a :: q, b :: r => ConvL a b ∧ AllC q r
  | _, _ => False
theorem AllC.len : ∀ {q r : List Leaf}, AllC q r → q.length = r.length
  | [], [], _ => rfl
  | _ :: _, _ :: _, h => by simp [AllC.len h.2]
  | [], _ :: _, h => h.elim
  | _ :: _, [], h => h.elim
theorem AllC.get : ∀ {q r : List Leaf}, AllC q r → ∀ (i : Nat) a b, q[i]? = some a → r[i]? = some b → ConvL a b
  | [], [], _, i, a, b, h, _ => by simp at h
  | x :: q, y :: r, h, i, a, b, h1, h2 => by
    cases i with
    | zero => simp at h1 h2; subst h1; subst h2; exact h.1
    | succ i => exact h.2.get i a b (by simpa using h1) (by simpa using h2)
  | [], _ :: _, h, _, _, _, _, _ => h.elim
  | _ :: _, [], h, _, _, _, _, _ => h.elim
theorem AllC.of : ∀ {q r : List Leaf}, r.length = q.length → (∀ (i : Nat) a b, q[i]? = some a → r[i]? = some b → ConvL a b) → AllC q r
  | [], [], _, _ => trivial
  | a :: q, b :: r, h, k => ⟨k 0 a b rfl rfl, AllC.of (by simpa using h) (fun i x y h1 h2 => k (i + 1) x y (by simpa using h1) (by simpa using h2))⟩
  | [], _ :: _, h, _ => by simp at h
  | _ :: _, [], h, _ => by simp at h
theorem AllC.split : ∀ {a b l : List Leaf}, AllC (a ++ b) l → AllC a (l.take a.length) ∧ AllC b (l.drop a.length)
  | [], b, l, h => by simpa [AllC] using h
  | x :: a, b, y :: l, h => by
    obtain ⟨h1, h2⟩ := AllC.split (a := a) (b := b) (l := l) h.2
    exact ⟨⟨h.1, h1⟩, h2⟩
  | _ :: _, _, [], h => h.elim
/-- Results one by one. -/
def AllV : List (Bool × List Leaf) → List (Bool × List Leaf) → Prop
  | [], [] => True
  | a :: q, b :: r => (a.1 = b.1 ∧ AllC a.2 b.2) ∧ AllV q r
  | _, _ => False
theorem varsOf_conv : ∀ {vs : List (Bool × List Leaf)} {rest l : List Leaf}, AllC (vs.flatMap (·.2) ++ rest) l → AllV vs (varsOf (vs.map fun v => (v.1, v.2.length)) l) ∧ AllC rest (l.drop (cntVars (vs.map fun v => (v.1, v.2.length))))
  | [], rest, l, h => by simpa [varsOf, AllV, cntVars] using h
  | (b, ls) :: vs, rest, l, h => by
    simp only [List.flatMap_cons, List.append_assoc] at h
    obtain ⟨h1, h2⟩ := AllC.split h
    obtain ⟨h3, h4⟩ := varsOf_conv h2
    refine ⟨⟨⟨rfl, h1⟩, h3⟩, ?_⟩
    simp only [List.map_cons, cntVars]
    rw [← List.drop_drop]; exact h4
/-- Boxes one by one. -/
def AllI : List (List Leaf) → List (List Leaf) → Prop
  | [], [] => True
  | a :: q, b :: r => AllC a b ∧ AllI q r
  | _, _ => False
theorem parts_conv : ∀ {ios : List (List Leaf)} {l : List Leaf}, AllC ios.flatten l → AllI ios (parts (ios.map (·.length)) l)
  | [], l, h => by simp [parts, AllI]
  | a :: q, l, h => by
    simp only [List.flatten_cons] at h
    obtain ⟨h1, h2⟩ := AllC.split h
    exact ⟨h1, parts_conv h2⟩
theorem AllV.len : ∀ {q r : List (Bool × List Leaf)}, AllV q r → q.length = r.length
  | [], [], _ => rfl
  | _ :: _, _ :: _, h => by simp [AllV.len h.2]
  | [], _ :: _, h => h.elim
  | _ :: _, [], h => h.elim
/-- What is decoded comes back leaf by leaf. -/
theorem enc_conv {s : Sh} {vs : List (Bool × List Leaf)} {ios : List (List Leaf)} {x : s.den} (h : s.dec vs ios = some x) : AllI ios (s.enc x).ios ∧ (s.bxr = false → match (s.enc x).a with
    | .cv b ls => s.tup = false ∧ ∃ v, vs = [v] ∧ v.1 = b ∧ AllC v.2 ls
    | .tup cs => s.tup = true ∧ vs.length ≠ 1 ∧ AllV vs cs) := by
  unfold Sh.dec at h
  cases h1 : decide (vs.map (fun v => (v.1, v.2.length)) = s.vars) with
  | false => rw [h1] at h; cases h
  | true =>
  cases h2 : decide (ios.map (·.length) = s.ios) with
  | false => rw [h1, h2] at h; cases h
  | true =>
  cases h3 : (s.bxr || (bif s.tup then !Nat.beq vs.length 1 else Nat.beq vs.length 1)) with
  | false => rw [h1, h2, h3] at h; cases h
  | true =>
  rw [h1, h2, h3] at h
  have e1 := of_decide_eq_true h1
  have e2 := of_decide_eq_true h2
  obtain ⟨k1, k2⟩ := lsDec_conv (show lsDec s.ls (vs.flatMap (·.2) ++ ios.flatten) = some x from h)
  have all : AllC (vs.flatMap (·.2) ++ ios.flatten) (lsEnc s.ls x) := AllC.of k1 k2
  obtain ⟨a1, a2⟩ := varsOf_conv all
  rw [e1] at a1 a2
  refine ⟨?_, fun hb => ?_⟩
  · have := parts_conv a2
    rw [e2] at this
    exact this
  · rw [hb, Bool.false_or] at h3
    simp only [Sh.enc]
    cases ht : s.tup with
    | true =>
      rw [ht] at h3
      simp only
      refine ⟨trivial, fun e => ?_, a1⟩
      rw [e] at h3; cases h3
    | false =>
      rw [ht] at h3
      have hl : vs.length = 1 := Nat.eq_of_beq_eq_true h3
      match vs, hl, a1 with
      | [v], _, a1 =>
        match hq : varsOf s.vars (lsEnc s.ls x), a1 with
        | [u], a1 => exact ⟨rfl, v, rfl, a1.1⟩
end Go.Proofs.Yticifedehhnjhaa.Eng
/- The end of a function: a new box that is returned. -/
namespace Go.Proofs.Yticifedehhnjhaa.Eng
set_option linter.unusedVariables false
set_option linter.unusedSimpArgs false
open Go Go.RowKit
section
variable {C : Cfg} {D : Nat → Sh} {rec : (q : Req) → Option (D q.f).den} {ρ ρ' : Env} {st : St} {a : Act} {w w' : World} {N : Nat}
theorem ev_newG {args : List Nat} {r : List ResultVar} {l : List Leaf} {st' : St} (h : ev rec (newG args r) st = some (l, st')) (S : Sim ρ st a w N) :
    st' = st ∧ ∃ d b g ls blk, r = [.tmp d] ∧ st (.bx b) = .bx g ls ∧ l = ls.map (·.2) ∧ (∀ m ∈ ls, giveLeaf m.2 = true) ∧ ls ≠ [] ∧ isIoIdx args b = false ∧ ρ.ga b g = some blk ∧ a.eval (.tmp d) = .pointer (some ⟨blk, 0, none⟩) := by
  unfold newG at h
  split at h
  · rename_i d
    obtain ⟨l0, s1, h1, h2⟩ := ev_bind _ _ _ _ h
    obtain ⟨e1, hno, hl⟩ := ev_opd1 h1 S
    subst e1
    split at h2
    · rename_i b g
      obtain ⟨g', ls, hs, h3⟩ := ev_getBx h2
      cases hb : Nat.beq g g' with
      | false => rw [hb] at h3; cases h3
      | true =>
      obtain rfl := Nat.eq_of_beq_eq_true hb
      cases hall : ls.all (fun l => giveLeaf l.2) with
      | false => rw [hb, hall] at h3; cases h3
      | true =>
      cases hlt : Nat.blt 0 ls.length with
      | false => rw [hb, hall, hlt] at h3; cases h3
      | true =>
      cases hio : isIoIdx args b with
      | true => rw [hb, hall, hlt, hio] at h3; cases h3
      | false =>
      rw [hb, hall, hlt, hio] at h3
      cases ev_ret h3
      obtain ⟨blk, q1, q2⟩ := hl (.tm 0 0)
      exact ⟨rfl, d, b, g, ls, blk, rfl, hs, rfl, fun m hm => by simpa using List.all_eq_true.1 hall m hm, fun e => by (rw [e] at hlt; cases hlt), hio, q1, q2⟩
    · cases h2
  · cases h
end
end Go.Proofs.Yticifedehhnjhaa.Eng
/- The end of a function: the last names. -/
namespace Go.Proofs.Yticifedehhnjhaa.Eng
set_option linter.unusedVariables false
set_option linter.unusedSimpArgs false
open Go Go.RowKit
noncomputable def Env.last (ρ : Env) (nm : Ref → Lbl) (bn : Nat → Nat → Lbl) (hd : Ref → Option Value) (L : Nat) (nb : Option Nat) : Env :=
  { lab := fun k => match ρ.lab k with | .own r => nm r | .box b g => bn b g | l => l
    hdr := hd
    ga := fun b g => if b = L ∧ g = 1 ∧ nb.isSome = true then nb else ρ.ga b g }
def Leaf.lbl (r2 : Ref) : Leaf → Lbl | .own _ _ => .own r2 | _ => .st
section
variable {ρ ρ' : Env} {w w' : World} {nm : Ref → Lbl} {bn : Nat → Nat → Lbl} {hd : Ref → Option Value} {L : Nat} {nb : Option Nat}
theorem last_st : StKeep ρ.lab w (ρ.last nm bn hd L nb).lab w := fun k _ h => ⟨by simp [Env.last, h], rfl⟩
theorem last_ext : Ext ρ w (ρ.last nm bn hd L nb) w := ⟨Nat.le_refl _, last_st, fun k _ h => ⟨by simp [Env.last, h], rfl⟩, rfl, rfl, rfl⟩
theorem last_leaf {a b : Leaf} {v : Value} {r r2 : Ref} (hc : ConvL a b) (hn : a.isOwn = false → RepLeaf ρ w r2 a v) (ho : ∀ e xs, a = .own e xs → OwnRow ρ.lab w r e v xs) (hnm : a.isOwn = true → nm r = b.lbl r2) (hh : b.isOwn = true → hd r2 = some v) :
    RepLeaf (ρ.last nm bn hd L nb) w r2 b v := by
  have own2 : ∀ {e : Ty} {xs : List e.den}, OwnRow ρ.lab w r e v xs → nm r = .own r2 → OwnRow (ρ.last nm bn hd L nb).lab w r2 e v xs := by
    intro e xs h hq
    obtain ⟨A, c, hv, hcc, h⟩ := h
    refine ⟨A, c, hv, hcc, h.imp id ?_⟩
    rintro ⟨blk, off, cells, ty, hA, hlab, hb, hof, hx⟩
    exact ⟨blk, off, cells, ty, hA, by simp [Env.last, hlab, hq], hb, hof, fun j x hj => let ⟨cs, h1, h2⟩ := hx j x hj; ⟨cs, h1.mono last_st, h2⟩⟩
  cases b with
  | v t x =>
    rcases hc with rfl | ⟨e, xs, e1, h⟩
    · exact RepTy.mono last_st (hn rfl)
    · cases e1
      rcases h with rfl | ⟨rfl, e', rfl⟩
      · exact (ho e xs rfl).stable last_st (fun k _ hk => ⟨by simp [Env.last, hk, hnm rfl, Leaf.lbl], rfl⟩)
      · have := hn rfl
        simp only [RepLeaf] at this
        subst this
        exact ⟨none, 0, rfl, Nat.le_refl _, fun j x hx => by simp at hx⟩
  | own e xs =>
    rcases hc with rfl | ⟨rfl, e', rfl⟩
    · exact ⟨hh rfl, own2 (ho e xs rfl) (hnm rfl)⟩
    · have := hn rfl
      simp only [RepLeaf] at this
      refine ⟨hh rfl, ?_⟩
      subst this
      exact ⟨none, 0, rfl, Nat.le_refl _, .inl rfl⟩
  | _ => exact hc.elim
end
end Go.Proofs.Yticifedehhnjhaa.Eng
/- The end of a function: the boxes that came in, by number. -/
namespace Go.Proofs.Yticifedehhnjhaa.Eng
set_option linter.unusedVariables false
set_option linter.unusedSimpArgs false
open Go Go.RowKit
/-- The list that belongs to a box that came in. -/
def ioAt : List Nat → List (List Leaf) → Nat → Option (List Leaf)
  | [], _, _ => none
  | 0 :: _, _, 0 => none
  | 0 :: r, q, i + 1 => ioAt r q i
  | (_ + 1) :: _, [], _ => none
  | (_ + 1) :: _, l :: _, 0 => some l
  | (_ + 1) :: r, _ :: q, i + 1 => ioAt r q i
section
variable {ρ ρ' : Env} {st : St} {w w' : World}
/-- Boxes at the end are right if each is. -/
theorem iosOk_of : ∀ {args : List Nat} {i : Nat} {ios ios' : List (List Leaf)}, IosSt st i args ios → AllI ios ios' →
    (∀ (j : Nat) l', ioAt args ios' j = some l' → (∃ ls, st (.bx (i + j)) = .bx 0 ls ∧ AllC (ls.map (·.2)) l' ∧ ∀ m ∈ ls, giveLeaf m.2 = true) → (l' = [] ∨ RepBox ρ w (i + j) 0 (l'.map fun l => (0, l))) ∧ CurB ρ w (i + j) 0 (l'.map fun l => (0, l))) → IosOk ρ w i args ios' := by
  intro args
  induction args with
  | nil =>
    intro i ios ios' h a k
    have : ios = [] := h
    subst this
    cases ios' with
    | nil => rfl
    | cons => exact a.elim
  | cons n r ih =>
    intro i ios ios' h a k
    cases n with
    | zero =>
      refine ih (i := i + 1) h a (fun j l' hj hs => ?_)
      have := k (j + 1) l' hj (by rw [show i + (j + 1) = i + 1 + j by omega]; exact hs)
      rwa [show i + (j + 1) = i + 1 + j by omega] at this
    | succ n =>
      match ios, ios', h, a with
      | l :: q, l' :: q', h, a =>
        obtain ⟨⟨ls, h1, rfl, h3⟩, h4⟩ := h
        refine ⟨k 0 l' rfl ⟨ls, h1, a.1, h3⟩, ih (i := i + 1) h4 a.2 (fun j l'' hj hs => ?_)⟩
        have := k (j + 1) l'' hj (by rw [show i + (j + 1) = i + 1 + j by omega]; exact hs)
        rwa [show i + (j + 1) = i + 1 + j by omega] at this
end
end Go.Proofs.Yticifedehhnjhaa.Eng
/- The end of a function is read rightly. -/
namespace Go.Proofs.Yticifedehhnjhaa.Eng
set_option linter.unusedVariables false
set_option linter.unusedSimpArgs false
open Go Go.RowKit
/-- The label that a result's row gets. -/
def resLbl (cs : List (Bool × List Leaf)) (i : Nat) : Lbl := match cs[i]? with | some (_, [l]) => l.lbl (.tp 0 0 i) | _ => .no
def boxLbl (q : Option (List Leaf)) (b g j : Nat) : Lbl := match q with | some ls => (match ls[j]? with | some l => l.lbl (.bf b g j 0) | none => .no) | none => .no
noncomputable def nmOf (args : List Nat) (src : List (Option Ref)) (cs : List (Bool × List Leaf)) (ios : List (List Leaf)) : Ref → Lbl := fun r => by
  classical exact if h : ∃ i, src[i]? = some (some r) then resLbl cs (Classical.choose h) else match r with | .bf b g j _ => if g = 0 then boxLbl (ioAt args ios b) b 0 j else .no | _ => .no
theorem nmOf_src {args : List Nat} {src : List (Option Ref)} {cs : List (Bool × List Leaf)} {ios : List (List Leaf)} {i : Nat} {r : Ref} (h : src[i]? = some (some r)) (hd : ∀ (i j : Nat) r, src[i]? = some (some r) → src[j]? = some (some r) → i = j) : nmOf args src cs ios r = resLbl cs i := by
  unfold nmOf
  have hex : ∃ i, src[i]? = some (some r) := ⟨i, h⟩
  rw [dif_pos hex, hd _ _ r (Classical.choose_spec hex) h]
theorem nmOf_box {args : List Nat} {src : List (Option Ref)} {cs : List (Bool × List Leaf)} {ios : List (List Leaf)} {b j lg : Nat} (h : ∀ i : Nat, src[i]? ≠ some (some (Ref.bf b 0 j lg))) : nmOf args src cs ios (.bf b 0 j lg) = boxLbl (ioAt args ios b) b 0 j := by
  unfold nmOf
  rw [dif_neg (by rintro ⟨i, hi⟩; exact h i hi)]
  simp
end Go.Proofs.Yticifedehhnjhaa.Eng
/- The end of a function is read rightly: the boxes that came in. -/
namespace Go.Proofs.Yticifedehhnjhaa.Eng
set_option linter.unusedVariables false
set_option linter.unusedSimpArgs false
open Go Go.RowKit
theorem ioAt_idx : ∀ {args : List Nat} {q : List (List Leaf)} {i : Nat} {l : List Leaf}, ioAt args q i = some l → ∃ k, args[i]? = some (k + 1)
  | 0 :: r, q, 0, l, h => by simp [ioAt] at h
  | 0 :: r, q, i + 1, l, h => by simpa using ioAt_idx (args := r) h
  | (n + 1) :: r, [], i, l, h => by simp [ioAt] at h
  | (n + 1) :: r, x :: q, 0, l, h => ⟨n, rfl⟩
  | (n + 1) :: r, x :: q, i + 1, l, h => by simpa using ioAt_idx (args := r) (q := q) (by simpa [ioAt] using h)
  | [], q, i, l, h => by simp [ioAt] at h
section
variable {ρ ρ' : Env} {st : St} {a : Act} {w w' : World} {N : Nat} {nm : Ref → Lbl} {bn : Nat → Nat → Lbl} {hd : Ref → Option Value} {L : Nat} {nb : Option Nat}
theorem last_box (S : Sim ρ st a w N) {b g B G blk : Nat} {ls : List (Nat × Leaf)} {cs : Array Value} {ty : Nat} {l' : List Leaf} (hs : st (.bx b) = .bx g ls) (hne : ls ≠ []) (hc : AllC (ls.map (·.2)) l') (hblk : ρ.ga b g = some blk) (hcs : w.heap[blk]? = some (.cells cs ty (0, 0))) (hbn : bn b g = .box B G)
    (hnm : ∀ (j lg : Nat) m m', ls[j]? = some (lg, m) → l'[j]? = some m' → m.isOwn = true → nm (.bf b g j lg) = m'.lbl (.bf B G j 0)) (hga : (ρ.last nm bn hd L nb).ga B G = some blk) (hhd : ∀ (j : Nat) u, hd (.bf B G j 0) = some u → cs[j]? = some u) (hhd2 : ∀ (j : Nat) u, cs[j]? = some u → hd (.bf B G j 0) = some u) :
    RepBox (ρ.last nm bn hd L nb) w B G (l'.map fun l => (0, l)) ∧ CurB (ρ.last nm bn hd L nb) w B G (l'.map fun l => (0, l)) := by
  obtain ⟨g', ls0, e, rb, cb⟩ := S.bx b
  rw [hs] at e; cases e
  rcases rb with rfl | ⟨blk', cs', ty', r0, r1, r2, r3, r4⟩
  · exact (hne rfl).elim
  rw [hblk] at r0; cases r0
  rw [hcs] at r1; cases r1
  have hlen := hc.len
  simp at hlen
  refine ⟨⟨blk, cs, ty, hga, hcs, by simp [Env.last, r2, hbn], by simp [r3, hlen], fun j lg l u hj hu => ?_⟩, fun o lg l v ho hv => ?_⟩
  · simp only [List.getElem?_map, Option.map_eq_some_iff] at hj
    obtain ⟨m', hm', e⟩ := hj
    cases e
    obtain ⟨⟨lg0, m⟩, hm⟩ : ∃ m, ls[j]? = some m := ⟨_, List.getElem?_eq_getElem (by rw [hlen]; exact (List.getElem?_eq_some_iff.1 hm').1)⟩
    have hcv := hc.get j m l (by simp [hm]) hm'
    have hrep := r4 j lg0 m u hm hu
    exact last_leaf (r := .bf b g j lg0) hcv (fun hn => hrep.any hn) (fun e xs he => by subst he; exact hrep.2) (fun ho => hnm j lg0 m l hm hm' ho) (fun _ => hhd2 j u hu)
  · simp only [List.getElem?_map, Option.map_eq_some_iff] at ho
    obtain ⟨m', hm', e⟩ := ho
    cases e
    exact ⟨blk, cs, ty, hga, hcs, hhd o v hv⟩
end
end Go.Proofs.Yticifedehhnjhaa.Eng
/- The end of a function: the machine's results. -/
namespace Go.Proofs.Yticifedehhnjhaa.Eng
set_option linter.unusedVariables false
set_option linter.unusedSimpArgs false
open Go Go.RowKit
theorem run_mapM {α β : Type} {P : Program} {f : α → Sem β} {w : World} : ∀ {l : List α} {vs : List β}, vs.length = l.length → (∀ (i : Nat) x v, l[i]? = some x → vs[i]? = some v → (f x).run P w = .ok v w) → (l.mapM f).run P w = .ok vs w
  | [], [], _, _ => by simp
  | x :: l, v :: vs, h, k => by
    have h1 := k 0 x v rfl rfl
    have h2 := run_mapM (l := l) (vs := vs) (by simpa using h) (fun i x v h1 h2 => k (i + 1) x v (by simpa using h1) (by simpa using h2))
    simp [List.mapM_cons, h1, h2]
  | [], _ :: _, h, _ => by simp at h
  | _ :: _, [], h, _ => by simp at h
def valRes : List Value → Value | [v] => v | vs => .tuple vs.toArray
theorem run_results {P : Program} {fn : Func} {tmps : Array Value} {w : World} {vs : List Value} (h : vs.length = fn.results.toList.length) (k : ∀ (i : Nat) r v, fn.results.toList[i]? = some r → vs[i]? = some v → (readRes tmps r).run P w = .ok v w) :
    (results fn tmps).run P w = .ok (valRes vs) w := by
  have := run_mapM (P := P) (w := w) h k
  have e : (fn.results.mapM (readRes tmps)).run P w = .ok vs.toArray w := by
    rw [Array.mapM_eq_mapM_toList]
    simp [this]
  have e2 : results fn tmps = (do let vs ← fn.results.mapM (readRes tmps); pure (if h : vs.size = 1 then vs[0] else .tuple vs)) := by
    unfold results
    congr 1
  rw [e2]
  simp only [Sem.run_bind, e, Result.andThen_ok]
  clear h k this e
  match vs with
  | [] => rfl
  | [v] => rfl
  | _ :: _ :: _ => rfl
end Go.Proofs.Yticifedehhnjhaa.Eng
/- The end of a function is read rightly. -/
namespace Go.Proofs.Yticifedehhnjhaa.Eng
set_option linter.unusedVariables false
set_option linter.unusedSimpArgs false
open Go Go.RowKit
theorem ConvL.give {a b : Leaf} (h : ConvL a b) : b.give = true := by
  cases b with
  | v => rfl
  | own => rfl
  | _ => exact h.elim
theorem AllC.give : ∀ {q r : List Leaf}, AllC q r → ∀ l ∈ r, l.give = true
  | [], [], _, l, h => by simp at h
  | a :: q, b :: r, h, l, hl => by
    rcases List.mem_cons.1 hl with rfl | hl
    · exact h.1.give
    · exact h.2.give l hl
  | [], _ :: _, h, _, _ => h.elim
  | _ :: _, [], h, _, _ => h.elim
theorem AllI.give : ∀ {q r : List (List Leaf)}, AllI q r → ∀ ls ∈ r, ∀ l ∈ ls, l.give = true
  | [], [], _, l, h => by simp at h
  | a :: q, b :: r, h, l, hl => by
    rcases List.mem_cons.1 hl with rfl | hl
    · exact h.1.give
    · exact h.2.give l hl
  | [], _ :: _, h, _, _ => h.elim
  | _ :: _, [], h, _, _ => h.elim
theorem AllV.get : ∀ {q r : List (Bool × List Leaf)}, AllV q r → ∀ (i : Nat) a b, q[i]? = some a → r[i]? = some b → a.1 = b.1 ∧ AllC a.2 b.2
  | [], [], h, i, a, b, h1, _ => by simp at h1
  | x :: q, y :: r, h, i, a, b, h1, h2 => by
    cases i with
    | zero => simp at h1 h2; subst h1; subst h2; exact h.1
    | succ i => exact h.2.get i a b (by simpa using h1) (by simpa using h2)
  | [], _ :: _, h, _, _, _, _, _ => h.elim
  | _ :: _, [], h, _, _, _, _, _ => h.elim
theorem AllI.split : ∀ {ios : List (List Leaf)} {l : List Leaf} {r : List (List Leaf)}, AllI (ios ++ [l]) r → ∃ q l', r = q ++ [l'] ∧ AllI ios q ∧ AllC l l'
  | [], l, [b], h => ⟨[], b, rfl, trivial, h.1⟩
  | [], l, [], h => h.elim
  | [], l, _ :: _ :: _, h => h.2.elim
  | a :: ios, l, [], h => h.elim
  | a :: ios, l, b :: r, h => by
    obtain ⟨q, l', rfl, h1, h2⟩ := AllI.split (ios := ios) h.2
    exact ⟨b :: q, l', rfl, ⟨h.1, h1⟩, h2⟩
section
variable {C : Cfg} {D : Nat → Sh} {rec : (q : Req) → Option (D q.f).den} {ρ ρ' : Env} {st st' : St} {a : Act} {w w' : World} {N : Nat} {nm : Ref → Lbl} {bn : Nat → Nat → Lbl} {hd : Ref → Option Value} {L : Nat} {nb : Option Nat}
theorem last_res {c c' : Bool × List Leaf} {v : Value} {s : Option Ref} {i : Nat} (h : ResAt ρ w st st' c v s) (e1 : c.1 = c'.1) (ac : AllC c.2 c'.2)
    (hnm : ∀ r b, s = some r → c' = (false, [b]) → nm r = b.lbl (.tp 0 0 i)) (hh : hd (.tp 0 0 i) = some v) : RepCV (ρ.last nm bn hd L nb) w (.tp 0 0 i) c'.1 c'.2 v := by
  obtain ⟨ag', ls'⟩ := c'
  cases s with
  | some r =>
    obtain ⟨e, xs, rfl, ho, _, _⟩ := h
    cases e1
    match ls', ac with
    | [b], ac =>
      refine last_leaf (r := r) (a := .own e xs) ac.1 (fun h => by cases h) (fun e' xs' q => ?_) (fun _ => hnm r b rfl rfl) (fun _ => hh)
      cases q; exact ho
    | _ :: _ :: _, ac => exact ac.2.elim
  | none =>
    obtain ⟨h1, h2, h3⟩ := h
    obtain ⟨ag, ls⟩ := c
    cases ag with
    | false =>
      cases ag' with
      | true => cases e1
      | false =>
      match ls, ls', ac, h1, h3 with
      | [l], [b], ac, h1, h3 =>
        have hno := (h1 l (by simp)).1
        refine last_leaf (r := .tm 0 0) (a := l) ac.1 (fun _ => h3 _) (fun e' xs' q => ?_) (fun q => ?_) (fun _ => hh)
        · subst q; cases hno
        · rw [hno] at q; cases q
      | [], _, _, _, h3 => exact (h3 (.tm 0 0)).elim
      | [_], [], ac, _, _ => exact ac.elim
      | [_], _ :: _ :: _, ac, _, _ => exact ac.2.elim
      | _ :: _ :: _, _, _, _, h3 => exact (h3 (.tm 0 0)).elim
    | true =>
      cases ag' with
      | false => cases e1
      | true =>
      obtain ⟨cs, rfl, hc, hx⟩ := h3 (.tp 0 0 i)
      have hlen := ac.len
      replace h2 := h2 rfl
      dsimp only at hc hlen h2 hx
      refine ⟨cs, rfl, by rw [hc, hlen], fun j l u hj hu => ?_⟩
      obtain ⟨m, hm⟩ : ∃ m, ls[j]? = some m := ⟨_, List.getElem?_eq_getElem (by have := (List.getElem?_eq_some_iff.1 hj).1; dsimp only at this; omega)⟩
      have hcv := ac.get j m l hm hj
      obtain ⟨t, x, rfl⟩ := h2 m (List.mem_of_getElem? hm)
      have hr := (hx j _ u hm hu).1
      cases l with
      | v t' x' =>
        rcases hcv with e | ⟨e, xs, _, q | ⟨_, e', q⟩⟩
        · cases e; exact ⟨RepTy.mono last_st hr, rfl⟩
        · cases q
        · cases q
      | own e xs =>
        rcases hcv with e | ⟨_, e', q⟩
        · cases e
        · cases q
      | _ => exact hcv.elim
/-- The cell of a box. -/
def cellOf (ρ : Env) (w : World) (b g j : Nat) : Option Value := match ρ.ga b g with
  | some blk => (match w.heap[blk]? with | some (.cells cs _ (0, 0)) => cs[j]? | _ => none)
  | none => none
theorem cellOf_eq {b g j blk ty : Nat} {cs : Array Value} (h1 : ρ.ga b g = some blk) (h2 : w.heap[blk]? = some (.cells cs ty (0, 0))) : cellOf ρ w b g j = cs[j]? := by simp [cellOf, h1, h2]
theorem AllC.nil {r : List Leaf} (h : AllC [] r) : r = [] := by cases r with | nil => rfl | cons => exact h.elim
/-- The boxes that came in, at the end. -/
theorem ios_last {args : List Nat} {ios ios' : List (List Leaf)} (S : Sim ρ st a w N) (h : IosSt st 0 args ios) (al : AllI ios ios') (hbn : ∀ b, isIoIdx args b = true → bn b 0 = .box b 0)
    (hnm : ∀ b j lg m m' ls l', st (.bx b) = .bx 0 ls → ioAt args ios' b = some l' → ls[j]? = some (lg, m) → l'[j]? = some m' → m.isOwn = true → nm (.bf b 0 j lg) = m'.lbl (.bf b 0 j 0))
    (hhd : ∀ b j l', ioAt args ios' b = some l' → hd (.bf b 0 j 0) = cellOf ρ w b 0 j) : IosOk (ρ.last nm bn hd L nb) w 0 args ios' := by
  refine iosOk_of h al (fun b l' hb hs => ?_)
  rw [Nat.zero_add] at hs ⊢
  obtain ⟨ls, hs, hac, hg⟩ := hs
  by_cases hne : ls = []
  · subst hne
    have := hac.nil
    subst this
    exact ⟨.inl rfl, fun o lg l v ho => by simp at ho⟩
  · obtain ⟨g', ls0, e, rb, cb⟩ := S.bx b
    rw [hs] at e; cases e
    rcases rb with rfl | ⟨blk, cs, ty, r0, r1, r2, r3, r4⟩
    · exact (hne rfl).elim
    obtain ⟨k, hk⟩ := ioAt_idx hb
    have := last_box (nm := nm) (bn := bn) (hd := hd) (L := L) (nb := nb) S (B := b) (G := 0) hs hne hac r0 r1 (hbn b (by simp [isIoIdx, hk])) (fun j lg m m' h1 h2 h3 => hnm b j lg m m' ls l' hs hb h1 h2 h3) (by simp [Env.last, r0]) (fun j u hu => by rw [hhd b j l' hb, cellOf_eq r0 r1] at hu; exact hu) (fun j u hu => by rw [hhd b j l' hb, cellOf_eq r0 r1]; exact hu)
    exact ⟨.inr this.1, this.2⟩
theorem not_src {src : List (Option Ref)} {b g j lg : Nat} {m : Leaf} {ls : List (Nat × Leaf)} (hs : st (.bx b) = .bx g ls) (hm : ls[j]? = some (lg, m)) (ho : m.isOwn = true) (hsrc : ∀ (i : Nat) r, src[i]? = some (some r) → Loose st r) : ∀ i : Nat, src[i]? ≠ some (some (Ref.bf b g j lg)) := fun i hi => by
  obtain ⟨_, h2⟩ := hsrc i _ hi
  rcases h2 b g ls hs j lg m hm with q | q
  · exact q rfl
  · rw [ho] at q; cases q
/-- The names in the last state. -/
def hdOf (ρ : Env) (w : World) (args : List Nat) (ios : List (List Leaf)) (vs : List Value) (nw : Option (Nat × Nat)) : Ref → Option Value
  | .tp 0 0 i => vs[i]?
  | .bf b 0 j 0 => (match ioAt args ios b with | some _ => cellOf ρ w b 0 j | none => none)
  | .bf b 1 j 0 => (match nw with | some (b', g') => if b = args.length then cellOf ρ w b' g' j else none | none => none)
  | _ => none
theorem fin_val {args : List Nat} {cs : List (Bool × List Leaf)} {vs : List Value} {src : List (Option Ref)} {ios : List (List Leaf)} {s : Sh} {x : s.den} (S : Sim ρ st' a w N) (hb : s.bxr = false)
    (l1 : vs.length = cs.length) (l2 : src.length = cs.length) (at_ : ∀ (i : Nat) c v s, cs[i]? = some c → vs[i]? = some v → src[i]? = some s → ResAt ρ w st st' c v s) (dist : ∀ (i j : Nat) r, src[i]? = some (some r) → src[j]? = some (some r) → i = j)
    (hios : IosSt st' 0 args ios) (hx : s.dec cs ios = some x) : ∃ ρ', Ext ρ w ρ' w ∧ GaIo args ρ ρ' ∧ RetOk ρ' w s args (valRes vs) x := by
  obtain ⟨al, hval⟩ := enc_conv hx
  have hval := hval hb
  have hlo : ∀ (i : Nat) r, src[i]? = some (some r) → Loose st' r := fun i r hi => by
    have hlt := (List.getElem?_eq_some_iff.1 hi).1
    obtain ⟨c, hc⟩ : ∃ c, cs[i]? = some c := ⟨_, List.getElem?_eq_getElem (by omega)⟩
    obtain ⟨v, hv⟩ : ∃ v, vs[i]? = some v := ⟨_, List.getElem?_eq_getElem (by omega)⟩
    obtain ⟨_, _, _, _, h3, _⟩ := at_ i c v _ hc hv hi
    exact h3
  let cs' : List (Bool × List Leaf) := match (s.enc x).a with | .cv b ls => [(b, ls)] | .tup cs => cs
  let ρ2 := ρ.last (nmOf args src cs' (s.enc x).ios) (fun b g => if g = 0 ∧ isIoIdx args b = true then .box b 0 else .no) (hdOf ρ w args (s.enc x).ios vs none) 0 none
  have hres : ∀ (i : Nat) c c' v, cs[i]? = some c → cs'[i]? = some c' → vs[i]? = some v → c.1 = c'.1 → AllC c.2 c'.2 → RepCV ρ2 w (.tp 0 0 i) c'.1 c'.2 v := by
    intro i c c' v hc hc' hv e1 ac
    obtain ⟨sr, hs⟩ : ∃ sr, src[i]? = some sr := ⟨_, List.getElem?_eq_getElem (by have := (List.getElem?_eq_some_iff.1 hc).1; omega)⟩
    refine last_res (at_ i c v sr hc hv hs) e1 ac (fun r b e2 e3 => ?_) (by simp [hdOf, hv])
    subst e2
    rw [nmOf_src hs dist]
    subst e3
    simp [resLbl, hc']
  refine ⟨ρ2, last_ext, fun i k y hi hy => ?_, fun ls hls l hl => al.give ls hls l hl, fun _ => ⟨ios_last S hios al (fun b hb => by simp [hb]) (fun b j lg m m' ls l' h1 h2 h3 h4 h5 => ?_) (fun b j l' h => by simp [hdOf, h]), ?_⟩, fun q => ?_⟩
  · simp [ρ2, Env.last, hy]
  · rw [nmOf_box (not_src h1 h3 h5 hlo)]
    simp [boxLbl, h2, h4]
  · cases hq : (s.enc x).a with
    | cv ag ls =>
      have hcs' : cs' = [(ag, ls)] := by simp only [cs', hq]
      rw [hq] at hval
      obtain ⟨e1, v, rfl, rfl, ac⟩ := hval
      obtain ⟨u, hu⟩ : ∃ u, vs = [u] := by
        match vs, l1 with
        | [u], _ => exact ⟨u, rfl⟩
      have hvr : valRes vs = u := by rw [hu]; rfl
      rw [hvr]
      refine ⟨e1, hres 0 v (v.1, ls) u rfl (by rw [hcs']; rfl) (by rw [hu]; rfl) rfl ac, ac.give, fun u' hu' => ?_⟩
      have : hdOf ρ w args (s.enc x).ios vs none (.tp 0 0 0) = some u' := hu'
      rw [hu] at this
      simpa [hdOf, eq_comm] using this
    | tup cs2 =>
      have hcs' : cs' = cs2 := by simp only [cs', hq]
      rw [hq] at hval
      obtain ⟨e1, e2, av⟩ := hval
      have hvr : valRes vs = .tuple vs.toArray := by
        unfold valRes
        split
        · simp at l1; omega
        · rfl
      refine ⟨e1, .inr ⟨vs.toArray, hvr, by simp [l1, av.len], fun i c u hc hu => ?_⟩, fun c hc => ?_⟩
      · obtain ⟨c0, hc0⟩ : ∃ c0, cs[i]? = some c0 := ⟨_, List.getElem?_eq_getElem (by rw [av.len]; exact (List.getElem?_eq_some_iff.1 hc).1)⟩
        obtain ⟨p1, p2⟩ := av.get i c0 c hc0 hc
        exact hres i c0 c u hc0 (by rw [hcs']; exact hc) (by simpa using hu) p1 p2
      · obtain ⟨i, hi, rfl⟩ := List.getElem_of_mem hc
        obtain ⟨c0, hc0⟩ : ∃ c0, cs[i]? = some c0 := ⟨_, List.getElem?_eq_getElem (by rw [av.len]; exact hi)⟩
        exact (av.get i c0 _ hc0 (List.getElem?_eq_getElem hi)).2.give
  · rw [hb] at q; cases q
theorem fin_box {args : List Nat} {ios : List (List Leaf)} {s : Sh} {x : s.den} {b g blk : Nat} {ls : List (Nat × Leaf)} (S : Sim ρ st a w N) (hb : s.bxr = true) (hs : st (.bx b) = .bx g ls) (hg : ∀ m ∈ ls, giveLeaf m.2 = true) (hne : ls ≠ []) (hnio : isIoIdx args b = false) (hblk : ρ.ga b g = some blk)
    (hios : IosSt st 0 args ios) (hx : s.dec [] (ios ++ [ls.map (·.2)]) = some x) : ∃ ρ', Ext ρ w ρ' w ∧ GaIo args ρ ρ' ∧ RetOk ρ' w s args (.pointer (some ⟨blk, 0, none⟩)) x := by
  obtain ⟨al, _⟩ := enc_conv hx
  obtain ⟨q, l', hq, alq, acl⟩ := al.split
  obtain ⟨g', ls0, e, rb, cb⟩ := S.bx b
  rw [hs] at e; cases e
  rcases rb with rfl | ⟨blk', cs, ty, r0, r1, r2, r3, r4⟩
  · exact (hne rfl).elim
  rw [hblk] at r0; cases r0
  let nm : Ref → Lbl := fun r => match r with | .bf b' g' j lg => if b' = b ∧ g' = g then (match l'[j]? with | some m => m.lbl (.bf args.length 1 j 0) | none => .no) else nmOf args [] [] q (.bf b' g' j lg) | _ => .no
  let bn : Nat → Nat → Lbl := fun b' g' => if g' = 0 ∧ isIoIdx args b' = true then .box b' 0 else if b' = b ∧ g' = g then .box args.length 1 else .no
  let ρ2 := ρ.last nm bn (hdOf ρ w args q [] (some (b, g))) args.length (some blk)
  have hga : ρ2.ga args.length 1 = some blk := by simp [ρ2, Env.last]
  have hio : IosOk ρ2 w 0 args q := by
    refine ios_last S hios alq (fun b hb => by simp [bn, hb]) (fun b' j lg m m' ls' l'' h1 h2 h3 h4 h5 => ?_) (fun b j l' h => by simp [hdOf, h])
    have hb' : ¬(b' = b ∧ 0 = g) := by
      rintro ⟨rfl, _⟩
      obtain ⟨k, hk⟩ := ioAt_idx h2
      simp [isIoIdx, hk] at hnio
    simp only [nm, if_neg hb']
    rw [nmOf_box (fun i => by simp)]
    simp [boxLbl, h2, h4]
  have hnew := last_box (nm := nm) (bn := bn) (hd := hdOf ρ w args q [] (some (b, g))) (L := args.length) (nb := some blk) S (B := args.length) (G := 1) hs hne acl hblk r1 (by simp [bn, hnio]) (fun j lg m m' h1 h2 h3 => by simp [nm, h2]) hga
    (fun j u hu => by simpa [hdOf, cellOf_eq hblk r1] using hu) (fun j u hu => by simpa [hdOf, cellOf_eq hblk r1] using hu)
  refine ⟨ρ2, last_ext, fun i k y hi hy => ?_, fun ls hls l hl => al.give ls hls l hl, fun q => ?_, fun _ => ⟨q, l', hq, hio, fun e => ?_, ⟨blk, rfl, hga⟩, hnew.1, hnew.2⟩⟩
  · simp [ρ2, Env.last, hy]
  · rw [hb] at q; cases q
  · have := acl.len; rw [e] at this; simp at this; exact hne this
/-- The end of a function is read rightly. -/
theorem fin_ok (T : TtOk C) : FinOk C := by
  intro rec f fn args st ρ a w x hfn S G h
  obtain ⟨r, st', tr', h1, h2⟩ := runG_evT _ _ _ _ _ h
  have h1 := evT_ev _ _ _ _ _ _ h1
  cases hb : (C.sh f).bxr with
  | false =>
    rw [hb] at h1
    obtain ⟨cs, s1, h3, h4⟩ := ev_bind _ _ _ _ (show ev rec ((resAll C fn.results.toList fn.resultTypes.toList).bind _) st = _ from h1)
    obtain ⟨ios, s2, h5, h6⟩ := ev_bind _ _ _ _ h4
    cases ev_ret h6
    obtain ⟨ρ1, vs, src, f1, k1, S1, lo, e1, e2, e3, at_, dist, run⟩ := ev_resAll T h3 S
    obtain ⟨e4, hios⟩ := ev_iosG h5
    subst e4
    refine ⟨valRes vs, run_results e2 run, ?_⟩
    obtain ⟨ρ2, p1, p2, p3⟩ := fin_val S1 hb (by omega) (by omega) at_ dist hios h2
    exact ⟨ρ2, k1.toExt.trans p1, (k1.gaIo args).trans p2, p3⟩
  | true =>
    rw [hb] at h1
    obtain ⟨ios, s1, h3, h4⟩ := ev_bind _ _ _ _ (show ev rec ((iosG 0 args).bind _) st = _ from h1)
    obtain ⟨l, s2, h5, h6⟩ := ev_bind _ _ _ _ h4
    cases ev_ret h6
    obtain ⟨e4, hios⟩ := ev_iosG h3
    subst e4
    obtain ⟨e5, d, b, g, ls, blk, hr, hs, rfl, hg, hne, hnio, hblk, hv⟩ := ev_newG h5 S
    subst e5
    refine ⟨.pointer (some ⟨blk, 0, none⟩), ?_, fin_box S hb hs hg hne hnio hblk hios h2⟩
    refine run_results (vs := [.pointer (some ⟨blk, 0, none⟩)]) (by rw [hr]; rfl) (fun i r v hi hv' => ?_)
    rw [hr] at hi
    cases i with
    | zero =>
      simp at hi hv'; subst hi; subst hv'
      show (pure (a.tmps.getD d Go.undef) : Sem Value).run C.P w = _
      rw [show a.tmps.getD d Go.undef = a.eval (.tmp d) from rfl, hv]; rfl
    | succ i => simp at hi
end
end Go.Proofs.Yticifedehhnjhaa.Eng
/- A cut keeps what it says. -/
namespace Go.Proofs.Yticifedehhnjhaa.Eng
set_option linter.unusedVariables false
set_option linter.unusedSimpArgs false
open Go Go.RowKit
section
variable {C : Cfg} {D : Nat → Sh} {rec : (q : Req) → Option (D q.f).den} {ρ ρ' : Env} {st st' : St} {a : Act} {w w' : World} {N : Nat}
theorem put_same {d : Nat} {v : Value} (h : a.tmps.getD d Go.undef = v) : a.put (some d) v = a := by
  subst h
  obtain ⟨tmps, defers⟩ := a
  simp only [Act.put, Act.mk.injEq, and_true]
  apply Array.ext
  · simp
  · intro i h1 h2
    by_cases hi : d = i
    · subst hi; simp [Array.getD_eq_getD_getElem?, h2]
    · rw [Array.getElem_setIfInBounds, if_neg hi]
theorem getD_slice {d : Nat} {A : Option Addr} {n c : Nat} (h : a.tmps.getD d Go.undef = .slice A n c) : d < a.tmps.size := by
  by_cases hd : d < a.tmps.size
  · exact hd
  · have : a.tmps[d]? = none := by simp; omega
    simp [Array.getD_eq_getD_getElem?, this, Go.undef] at h
theorem ev_prepTm {kt kb : List Nat} {t mode g : Nat} {av : AV} (h : ev rec (prepTm kt kb t mode g av) st = some ((), st')) (S : Sim ρ st a w N) (hs : st (.tm t) = .tm g av) : ∃ ρ', Still ρ w ρ' w ∧ Sim ρ' st' a w N := by
  obtain ⟨g', av', e, r, _⟩ := S.tm t
  rw [hs] at e; cases e
  unfold prepTm at h
  split at h
  · rename_i e xs
    cases hm : Nat.beq mode 2 with
    | false => rw [hm] at h; cases ev_ret h; exact ⟨ρ, .refl _ _, S⟩
    | true =>
      rw [hm] at h
      have hat : At ρ st a w (.tm t g) (.own e xs) (a.tmps.getD t Go.undef) := ⟨hs, rfl⟩
      exact ⟨_, rl_still _ _ _ _, (S.freeze hat h).1⟩
  · rename_i r' s lo hi
    obtain ⟨sv, s1, h1, h2⟩ := ev_bind _ _ _ _ h
    cases ev_ret h2
    obtain ⟨ρ1, k, S1, _⟩ := ev_stab h1 S (fun q => RepLeaf.any (r := .tm t g) rfl r)
    exact ⟨ρ1, k, S1⟩
  · rename_i r'
    cases hm : Nat.beq mode 2 with
    | true =>
      rw [hm] at h
      obtain ⟨sv, s1, h1, h2⟩ := ev_bind _ _ _ _ h
      cases ev_ret h2
      obtain ⟨ρ1, k, S1, _⟩ := ev_stab h1 S (fun q => RepLeaf.any (r := .tm t g) rfl r)
      exact ⟨ρ1, k, S1⟩
    | false =>
      rw [hm] at h
      obtain ⟨x, s1, h1, h2⟩ := ev_bind _ _ _ _ (show ev rec ((resolve 8 r').bind _) st = _ from h)
      obtain ⟨rfl, V, p1, p2⟩ := ev_resolve _ _ h1 S
      obtain ⟨q0, A, n, c, q1⟩ : RepLeaf ρ w (.tm t g) (.al r') _ := r
      obtain ⟨q2, q3⟩ := p2 _ q0
      split at h2
      · rename_i t' g' e xs
        cases hk : kt.contains t' with
        | true => rw [hk] at h2; cases ev_ret h2; exact ⟨ρ, .refl _ _, S⟩
        | false =>
          rw [hk] at h2
          obtain ⟨_, s2, h3, h4⟩ := ev_bind _ _ _ _ (show ev rec ((setRef (.tm t' g') .undef).bind _) s1 = _ from h2)
          obtain ⟨S', ho, hlo, hat'⟩ := S.loosen p1 h3
          obtain ⟨g2, a2, e2, e3⟩ := ev_put h4
          cases e3
          have S2 : Sim ρ s2 a w a.tmps.size := { S' with size := Nat.le_refl _ }
          obtain ⟨S3, k3⟩ := S2.take ho hlo (getD_slice q1) e2
          rw [put_same q2] at S3
          exact ⟨_, k3, { S3 with size := S.size }⟩
      · rename_i b g' o l e xs
        cases hk : kb.contains b with
        | true => rw [hk] at h2; cases ev_ret h2; exact ⟨ρ, .refl _ _, S⟩
        | false =>
          rw [hk] at h2
          exact ⟨_, rl_still _ _ _ _, (S.freeze p1 h2).1⟩
      · cases ev_ret h2; exact ⟨ρ, .refl _ _, S⟩
  · cases ev_ret h; exact ⟨ρ, .refl _ _, S⟩
theorem ev_prepTms {kt kb : List Nat} : ∀ {l : List (Nat × Nat)} {ρ : Env} {st st' : St}, ev rec (prepTms kt kb l) st = some ((), st') → Sim ρ st a w N → ∃ ρ', Still ρ w ρ' w ∧ Sim ρ' st' a w N
  | [], ρ, st, st', h, S => by cases ev_ret h; exact ⟨ρ, .refl _ _, S⟩
  | (t, m) :: r, ρ, st, st', h, S => by
    obtain ⟨u, s1, h1, h2⟩ := ev_bind _ _ _ _ (show ev rec ((getTm t fun g a => prepTm kt kb t m g a).bind _) st = _ from h)
    obtain ⟨g, av, hs, h3⟩ := ev_getTm h1
    obtain ⟨ρ1, k1, S1⟩ := ev_prepTm h3 S hs
    obtain ⟨ρ2, k2, S2⟩ := ev_prepTms h2 S1
    exact ⟨ρ2, k1.trans k2, S2⟩
theorem ev_ioG {args : List Nat} : ∀ {i : Nat} {st' : St}, ev rec (ioG i args) st = some ((), st') → st' = st ∧ ∀ (j k : Nat), args[j]? = some (k + 1) → ∃ ls, st (.bx (i + j)) = .bx 0 ls := by
  induction args with
  | nil => intro i st' h; cases ev_ret h; exact ⟨rfl, fun j k h => by simp at h⟩
  | cons n r ih =>
    intro i st' h
    cases n with
    | zero =>
      obtain ⟨e, k⟩ := ih (i := i + 1) h
      refine ⟨e, fun j m hj => ?_⟩
      cases j with
      | zero => simp at hj
      | succ j => rw [show i + (j + 1) = i + 1 + j by omega]; exact k j m (by simpa using hj)
    | succ n =>
      obtain ⟨g, ls, hs, h⟩ := ev_getBx h
      cases hb : Nat.beq g 0 with
      | false => rw [hb] at h; cases h
      | true =>
        rw [hb] at h
        obtain rfl := Nat.eq_of_beq_eq_true hb
        obtain ⟨e, k⟩ := ih (i := i + 1) h
        refine ⟨e, fun j m hj => ?_⟩
        cases j with
        | zero => exact ⟨ls, hs⟩
        | succ j => rw [show i + (j + 1) = i + 1 + j by omega]; exact k j m (by simpa using hj)
/-! ### names from now on -/
def ageB (st : St) (b : Nat) : Nat := match st (.bx b) with | .bx g _ => g | _ => 0
theorem ageB_eq {b g : Nat} {ls : List (Nat × Leaf)} (h : st (.bx b) = .bx g ls) : ageB st b = g := by simp [ageB, h]
noncomputable def Env.cut (ρ : Env) (st : St) (a : Act) (w : World) : Env :=
  { lab := fun k => by classical exact match ρ.lab k with
      | .own (.tm t g) => if ∃ av, st (.tm t) = .tm g av then .own (.tm t 0) else .no
      | .own (.bf b g o lg) => if ∃ ls l, st (.bx b) = .bx g ls ∧ ls[o]? = some (lg, l) then .own (.bf b 0 o 0) else .no
      | .own (.tp _ _ _) => .no
      | .box b g => if ∃ ls, st (.bx b) = .bx g ls then .box b 0 else .no
      | .st => .st
      | .no => .no
    hdr := fun r => match r with
      | .tm t 0 => some (a.tmps.getD t Go.undef)
      | .bf b 0 o 0 => cellOf ρ w b (ageB st b) o
      | _ => none
    ga := fun b g => if g = 0 then ρ.ga b (ageB st b) else none }
theorem cut_st : StKeep ρ.lab w (ρ.cut st a w).lab w := fun k _ h => ⟨by simp [Env.cut, h], rfl⟩
theorem cut_ext : Ext ρ w (ρ.cut st a w) w := ⟨Nat.le_refl _, cut_st, fun k _ h => ⟨by simp [Env.cut, h], rfl⟩, rfl, rfl, rfl⟩
theorem OwnRow.relab {lab lab' : Nat → Lbl} {r r2 : Ref} {e : Ty} {v : Value} {xs : List e.den} (h : OwnRow lab w r e v xs) (hk : ∀ k, lab k = .own r → lab' k = .own r2) (hs : StKeep lab w lab' w) : OwnRow lab' w r2 e v xs := by
  obtain ⟨A, c, hv, hc, h⟩ := h
  refine ⟨A, c, hv, hc, h.imp id ?_⟩
  rintro ⟨blk, off, cells, ty, hA, hl, hb, ho, hx⟩
  exact ⟨blk, off, cells, ty, hA, hk _ hl, hb, ho, fun j x hj => let ⟨cs, h1, h2⟩ := hx j x hj; ⟨cs, h1.mono hs, h2⟩⟩
theorem ev_keepLeaf {kt kb : List Nat} {l l' : Leaf} {v : Value} (h : ev rec (keepLeaf kt kb l) st = some (l', st')) (S : Sim ρ st a w N) (hl : ∀ r, RepLeaf ρ w r l v) : st' = st ∧ l'.isOwn = false ∧ ∀ r, RepLeaf (ρ.cut st a w) w r l' v := by
  unfold keepLeaf at h
  split at h
  · rename_i b g off
    obtain ⟨g', ls, hs, h⟩ := ev_getBx h
    cases hb : (Nat.beq g g' && kb.contains b) with
    | false => rw [hb] at h; cases h
    | true =>
      rw [hb] at h
      cases ev_ret h
      rw [Bool.and_eq_true] at hb
      obtain rfl := Nat.eq_of_beq_eq_true hb.1
      obtain ⟨blk, q1, q2⟩ := hl (.tm 0 0)
      exact ⟨rfl, rfl, fun r => ⟨blk, by simp [Env.cut, ageB_eq hs, q1], q2⟩⟩
  · rename_i r
    obtain ⟨x, s1, h1, h2⟩ := ev_bind _ _ _ _ h
    obtain ⟨rfl, V, p1, p2⟩ := ev_resolve _ _ h1 S
    obtain ⟨q0, hsl⟩ := hl (.tm 0 0)
    obtain ⟨q2, q3⟩ := p2 _ q0
    subst q2
    split at h2
    · rename_i t g e xs
      cases hk : kt.contains t with
      | false => rw [hk] at h2; cases h2
      | true =>
        rw [hk] at h2
        cases ev_ret h2
        exact ⟨rfl, rfl, fun r => ⟨by show some (a.tmps.getD t Go.undef) = _; rw [p1.2], hsl⟩⟩
    · rename_i b g o lg e xs
      cases hk : kb.contains b with
      | false => rw [hk] at h2; cases h2
      | true =>
        rw [hk] at h2
        cases ev_ret h2
        obtain ⟨ls, blk, cs, ty, c1, c2, c3, c4, c5⟩ := p1
        exact ⟨rfl, rfl, fun r => ⟨by simp [Env.cut, ageB_eq c1, cellOf_eq c3 c4, c5], hsl⟩⟩
    · rename_i t x
      cases ev_ret h2
      exact ⟨rfl, rfl, fun r => RepTy.mono cut_st (p1.rep S)⟩
    · cases h2
  · rename_i r s lo hi
    obtain ⟨sv, s1, h1, h2⟩ := ev_bind _ _ _ _ h
    obtain ⟨rfl, ok⟩ := ev_slv h1 S hl
    split at h2
    · cases ev_ret h2; exact ⟨rfl, rfl, fun r => RepTy.mono cut_st ok⟩
    · cases h2
  · cases ev_ret h; exact ⟨rfl, rfl, fun r => RepTy.mono cut_st (hl r)⟩
  · cases ev_ret h; exact ⟨rfl, rfl, fun r => RepPs.mono cut_st (hl r)⟩
  · cases ev_ret h
    obtain ⟨vs, q1, q2, q3⟩ := hl (.tm 0 0)
    exact ⟨rfl, rfl, fun r => ⟨vs, q1, q2, fun i s u h1 h2 => (q3 i s u h1 h2).mono cut_st⟩⟩
  · cases ev_ret h; exact ⟨rfl, rfl, fun r => hl r⟩
  · cases ev_ret h; exact ⟨rfl, rfl, fun r => hl r⟩
  · cases ev_ret h; exact ⟨rfl, rfl, fun r => hl r⟩
  · cases h
theorem ev_keepLeaves {kt kb : List Nat} : ∀ {ls ls' : List Leaf} {st st' : St}, ev rec (keepLeaves kt kb ls) st = some (ls', st') → Sim ρ st a w N → (∀ l ∈ ls, ∃ v, ∀ r, RepLeaf ρ w r l v) →
    st' = st ∧ ls'.length = ls.length ∧ ∀ (i : Nat) l', ls'[i]? = some l' → ∃ l, ls[i]? = some l ∧ ∀ v, (∀ r, RepLeaf ρ w r l v) → l'.isOwn = false ∧ ∀ r, RepLeaf (ρ.cut st a w) w r l' v
  | [], ls', st, st', h, S, hv => by cases ev_ret h; exact ⟨rfl, rfl, fun i l' hi => by simp at hi⟩
  | l :: r, ls', st, st', h, S, hv => by
    obtain ⟨x, s1, h1, h2⟩ := ev_bind _ _ _ _ (show ev rec ((keepLeaf kt kb l).bind _) st = _ from h)
    obtain ⟨q, s2, h3, h4⟩ := ev_bind _ _ _ _ h2
    cases ev_ret h4
    obtain ⟨v, hv0⟩ := hv l (by simp)
    obtain ⟨e1, _⟩ := ev_keepLeaf h1 S hv0
    subst e1
    obtain ⟨e2, e3, k⟩ := ev_keepLeaves h3 S (fun m hm => hv m (by simp [hm]))
    subst e2
    refine ⟨rfl, by simp [e3], fun i l' hi => ?_⟩
    cases i with
    | zero => simp at hi; subst hi; exact ⟨l, rfl, fun v hv => (ev_keepLeaf h1 S hv).2⟩
    | succ i => simpa using k i l' (by simpa using hi)
theorem cut_own_tm {t g : Nat} {e : Ty} {xs : List e.den} {v : Value} {av : AV} (hs : st (.tm t) = .tm g av) (hv : a.tmps.getD t Go.undef = v) (h : OwnRow ρ.lab w (.tm t g) e v xs) : RepLeaf (ρ.cut st a w) w (.tm t 0) (.own e xs) v :=
  ⟨by show some (a.tmps.getD t Go.undef) = _; rw [hv], h.relab (fun k hk => by simp [Env.cut, hk, hs]) cut_st⟩
theorem ev_keepTm {kt kb : List Nat} {t g : Nat} {av av' : AV} (h : ev rec (keepTm kt kb av) st = some (av', st')) (S : Sim ρ st a w N) (hs : st (.tm t) = .tm g av) : st' = st ∧ RepAV (ρ.cut st a w) w t 0 av' (a.tmps.getD t Go.undef) := by
  obtain ⟨g', av0, e, r, _⟩ := S.tm t
  rw [hs] at e; cases e
  unfold keepTm at h
  split at h
  · rename_i e xs
    cases ev_ret h
    exact ⟨rfl, cut_own_tm hs rfl r.2⟩
  · rename_i e
    cases ev_ret h
    have r : a.tmps.getD t Go.undef = .slice none 0 0 := r
    refine ⟨rfl, by simp [Env.cut], ?_⟩
    rw [r]
    exact ⟨none, 0, rfl, Nat.le_refl _, .inl rfl⟩
  · rename_i ag ls hn1 hn2
    obtain ⟨ls', s1, h1, h2⟩ := ev_bind _ _ _ _ h
    cases ev_ret h2
    cases ag with
    | false =>
      match ls, r with
      | [l], r =>
        have hno : l.isOwn = false := by
          cases l with
          | own e xs => exact (hn1 e xs rfl rfl).elim
          | _ => rfl
        have hv : ∀ r, RepLeaf ρ w r l (a.tmps.getD t Go.undef) := fun q => RepLeaf.any hno r
        obtain ⟨e1, e2, k⟩ := ev_keepLeaves h1 S (fun m hm => by simp at hm; subst hm; exact ⟨_, hv⟩)
        subst e1
        match ls', e2 with
        | [l'], _ =>
          obtain ⟨l0, e3, k⟩ := k 0 l' rfl
          cases e3
          exact ⟨rfl, (k _ hv).2 _⟩
    | true =>
      obtain ⟨cs, hcs, hc, hx⟩ := r
      obtain ⟨e1, e2, k⟩ := ev_keepLeaves h1 S (fun m hm => by
        obtain ⟨i, hi, rfl⟩ := List.getElem_of_mem hm
        obtain ⟨u, hu⟩ : ∃ u, cs[i]? = some u := ⟨_, Array.getElem?_eq_getElem (by omega)⟩
        have := hx i _ u (List.getElem?_eq_getElem hi) hu
        exact ⟨u, fun q => RepLeaf.any this.2 this.1⟩)
      subst e1
      refine ⟨rfl, cs, hcs, by omega, fun i l' u hi hu => ?_⟩
      obtain ⟨l, hl, k⟩ := k i l' hi
      have := hx i l u hl hu
      have := k u (fun q => RepLeaf.any this.2 this.1)
      exact ⟨this.2 _, this.1⟩
  · cases h
/-- A kept cell. -/
def KeptOk (ρ' : Env) (a : Act) (w : World) : Key → Cell → Prop
  | .tm t, c => ∃ av, c = .tm 0 av ∧ RepAV ρ' w t 0 av (a.tmps.getD t Go.undef)
  | .bx b, c => ∃ ls, c = .bx 0 ls ∧ (ls = [] ∨ RepBox ρ' w b 0 ls)
theorem ev_keepTms {kt kb : List Nat} : ∀ {l : List Nat} {r : List (Key × Cell)} {st st' : St}, ev rec (keepTms kt kb l) st = some (r, st') → Sim ρ st a w N → st' = st ∧ ∀ p ∈ r, KeptOk (ρ.cut st a w) a w p.1 p.2
  | [], r, st, st', h, S => by cases ev_ret h; exact ⟨rfl, fun p hp => by simp at hp⟩
  | t :: l, r, st, st', h, S => by
    obtain ⟨x, s1, h1, h2⟩ := ev_bind _ _ _ _ (show ev rec ((getTm t fun _ a => keepTm kt kb a).bind _) st = _ from h)
    obtain ⟨q, s2, h3, h4⟩ := ev_bind _ _ _ _ h2
    cases ev_ret h4
    obtain ⟨g, av, hs, h5⟩ := ev_getTm h1
    obtain ⟨e1, k1⟩ := ev_keepTm h5 S hs
    subst e1
    obtain ⟨e2, k2⟩ := ev_keepTms h3 S
    subst e2
    refine ⟨rfl, fun p hp => ?_⟩
    rcases List.mem_cons.1 hp with rfl | hp
    · exact ⟨_, rfl, k1⟩
    · exact k2 p hp
theorem ev_keepCell {l l' : Leaf} (h : ev rec (keepCell l) st = some (l', st')) : st' = st ∧ (l' = l ∧ ((∃ e xs, l = .own e xs) ∨ (∃ t x, l = .v t x) ∨ ∃ f c, l = .fn f c) ∨ ∃ e, l = .nil e ∧ l' = .own e []) := by
  unfold keepCell at h
  split at h
  · cases ev_ret h; exact ⟨rfl, .inl ⟨rfl, .inl ⟨_, _, rfl⟩⟩⟩
  · cases ev_ret h; exact ⟨rfl, .inr ⟨_, rfl, rfl⟩⟩
  · cases ev_ret h; exact ⟨rfl, .inl ⟨rfl, .inr (.inl ⟨_, _, rfl⟩)⟩⟩
  · cases ev_ret h; exact ⟨rfl, .inl ⟨rfl, .inr (.inr ⟨_, _, rfl⟩)⟩⟩
  · cases h
theorem ev_keepBox : ∀ {ls ls' : List (Nat × Leaf)} {st st' : St}, ev rec (keepBox ls) st = some (ls', st') → st' = st ∧ ls'.length = ls.length ∧ ∀ (i lg : Nat) l', ls'[i]? = some (lg, l') → lg = 0 ∧ ∃ lg0 l, ls[i]? = some (lg0, l) ∧ (l' = l ∧ ((∃ e xs, l = .own e xs) ∨ (∃ t x, l = .v t x) ∨ ∃ f c, l = .fn f c) ∨ ∃ e, l = .nil e ∧ l' = .own e [])
  | [], ls', st, st', h => by cases ev_ret h; exact ⟨rfl, rfl, fun i lg l' hi => by simp at hi⟩
  | (lg0, l) :: r, ls', st, st', h => by
    obtain ⟨x, s1, h1, h2⟩ := ev_bind _ _ _ _ (show ev rec ((keepCell l).bind _) st = _ from h)
    obtain ⟨q, s2, h3, h4⟩ := ev_bind _ _ _ _ h2
    cases ev_ret h4
    obtain ⟨e1, k1⟩ := ev_keepCell h1
    subst e1
    obtain ⟨e2, e3, k2⟩ := ev_keepBox h3
    subst e2
    refine ⟨rfl, by simp [e3], fun i lg l' hi => ?_⟩
    cases i with
    | zero => simp at hi; obtain ⟨rfl, rfl⟩ := hi; exact ⟨rfl, lg0, l, rfl, k1⟩
    | succ i => simpa using k2 i lg l' (by simpa using hi)
theorem cut_box {b g : Nat} {ls ls' : List (Nat × Leaf)} (h : ev rec (keepBox ls) st = some (ls', st')) (S : Sim ρ st a w N) (hs : st (.bx b) = .bx g ls) : st' = st ∧ (ls' = [] ∨ RepBox (ρ.cut st a w) w b 0 ls') := by
  obtain ⟨e1, e2, k⟩ := ev_keepBox h
  refine ⟨e1, ?_⟩
  obtain ⟨g', ls0, e, rb, _⟩ := S.bx b
  rw [hs] at e; cases e
  rcases rb with rfl | ⟨blk, cs, ty, r0, r1, r2, r3, r4⟩
  · left; simpa using e2
  · right
    have hage := ageB_eq hs
    refine ⟨blk, cs, ty, by simp [Env.cut, hage, r0], r1, by simp [Env.cut, r2, hs], by omega, fun i lg l' u hi hu => ?_⟩
    obtain ⟨rfl, lg0, l, hl, k⟩ := k i lg l' hi
    have hr := r4 i lg0 l u hl hu
    have hhd : (ρ.cut st a w).hdr (.bf b 0 i 0) = some u := by simp [Env.cut, hage, cellOf_eq r0 r1, hu]
    rcases k with ⟨rfl, ⟨e, xs, rfl⟩ | ⟨t, x, rfl⟩ | ⟨f, c, rfl⟩⟩ | ⟨e, rfl, rfl⟩
    · exact ⟨hhd, hr.2.relab (fun k hk => by
        simp only [Env.cut, hk]
        rw [if_pos ⟨ls, _, hs, hl⟩]) cut_st⟩
    · exact RepTy.mono cut_st hr
    · obtain ⟨vs, q1, q2, q3⟩ := hr
      exact ⟨vs, q1, q2, fun i s u h1 h2 => (q3 i s u h1 h2).mono cut_st⟩
    · have hr : u = .slice none 0 0 := hr
      refine ⟨hhd, ?_⟩
      rw [hr]
      exact ⟨none, 0, rfl, Nat.le_refl _, .inl rfl⟩
theorem ev_keepBxs : ∀ {l : List Nat} {r : List (Key × Cell)} {st st' : St}, ev rec (keepBxs l) st = some (r, st') → Sim ρ st a w N → st' = st ∧ ∀ p ∈ r, KeptOk (ρ.cut st a w) a w p.1 p.2
  | [], r, st, st', h, S => by cases ev_ret h; exact ⟨rfl, fun p hp => by simp at hp⟩
  | b :: l, r, st, st', h, S => by
    obtain ⟨x, s1, h1, h2⟩ := ev_bind _ _ _ _ (show ev rec ((getBx b fun _ ls => keepBox ls).bind _) st = _ from h)
    obtain ⟨q, s2, h3, h4⟩ := ev_bind _ _ _ _ h2
    cases ev_ret h4
    obtain ⟨g, ls, hs, h5⟩ := ev_getBx h1
    obtain ⟨e1, k1⟩ := cut_box h5 S hs
    subst e1
    obtain ⟨e2, k2⟩ := ev_keepBxs h3 S
    subst e2
    refine ⟨rfl, fun p hp => ?_⟩
    rcases List.mem_cons.1 hp with rfl | hp
    · exact ⟨_, rfl, k1⟩
    · exact k2 p hp
theorem mkSt_cell {P : Key → Cell → Prop} (h0 : ∀ k, P k (st0 k)) : ∀ {l : List (Key × Cell)}, (∀ p ∈ l, P p.1 p.2) → ∀ k, P k (mkSt l k)
  | [], _, k => h0 k
  | (k', c) :: r, h, k => by
    by_cases e : k = k'
    · subst e; simp only [mkSt, upd_same]; exact h (k, c) (by simp)
    · simp only [mkSt, upd_ne _ _ e]; exact mkSt_cell h0 (fun p hp => h p (by simp [hp])) k
theorem cellOf_some {b g j : Nat} {v : Value} (h : cellOf ρ w b g j = some v) : ∃ (blk : Nat) (cs : Array Value) (ty : Nat), ρ.ga b g = some blk ∧ w.heap[blk]? = some (.cells cs ty (0, 0)) ∧ cs[j]? = some v := by
  unfold cellOf at h
  split at h
  · rename_i blk hb
    split at h
    · rename_i cs ty hc; exact ⟨blk, cs, ty, hb, hc, h⟩
    · cases h
  · cases h
theorem cut_sim {l : List (Key × Cell)} (S : Sim ρ st a w N) (h : ∀ p ∈ l, KeptOk (ρ.cut st a w) a w p.1 p.2) : Sim (ρ.cut st a w) (mkSt l) a w N := by
  have key := mkSt_cell (P := KeptOk (ρ.cut st a w) a w) (fun k => by
    cases k with
    | tm t => exact ⟨.tup [], rfl, .inl rfl⟩
    | bx b => exact ⟨[], rfl, .inl rfl⟩) h
  refine ⟨S.size, S.defers, fun t => ?_, fun b => ?_, fun b g x hx => ?_, fun t g v hv => ?_, fun t g i v hv => ?_, fun b g o lg v hv => ?_⟩
  · obtain ⟨av, e, r⟩ := key (.tm t)
    refine ⟨0, av, e, r, fun v hv => ?_⟩
    simpa [Env.cut] using hv
  · obtain ⟨ls, e, r⟩ := key (.bx b)
    refine ⟨0, ls, e, r, fun o lg l v ho hv => ?_⟩
    cases lg with
    | succ => simp [Env.cut] at hv
    | zero =>
      obtain ⟨blk, cs, ty, c1, c2, c3⟩ := cellOf_some (show cellOf ρ w b (ageB st b) o = some v from hv)
      exact ⟨blk, cs, ty, by simp [Env.cut, c1], c2, c3⟩
  · obtain ⟨ls, e, _⟩ := key (.bx b)
    refine ⟨0, ls, e, ?_⟩
    cases g with
    | zero => exact Nat.le_refl _
    | succ => simp [Env.cut] at hx
  · obtain ⟨av, e, _⟩ := key (.tm t)
    refine ⟨0, av, e, ?_⟩
    cases g with
    | zero => exact Nat.le_refl _
    | succ => simp [Env.cut] at hv
  · simp [Env.cut] at hv
  · obtain ⟨ls, e, _⟩ := key (.bx b)
    refine ⟨0, ls, e, ?_⟩
    cases g with
    | succ => simp [Env.cut] at hv
    | zero =>
      cases lg with
      | succ => simp [Env.cut] at hv
      | zero => exact .inr ⟨rfl, fun _ _ _ => Nat.zero_le _⟩
theorem cut_ok : CutOk C := by
  intro rec f args kt kb recT st ρ a w N x S h
  obtain ⟨r, st', tr', h1, h2⟩ := runG_evT _ _ _ _ _ h
  have h1 := evT_ev _ _ _ _ _ _ h1
  obtain ⟨_, s1, h3, h4⟩ := ev_bind _ _ _ _ (show ev rec ((prepTms (kt.map (·.1)) kb kt).bind _) st = _ from h1)
  obtain ⟨_, s2, h5, h6⟩ := ev_bind _ _ _ _ h4
  obtain ⟨l1, s3, h7, h8⟩ := ev_bind _ _ _ _ h6
  obtain ⟨l2, s4, h9, h10⟩ := ev_bind _ _ _ _ h8
  cases ev_ret h10
  obtain ⟨ρ1, k1, S1⟩ := ev_prepTms h3 S
  obtain ⟨e1, k2⟩ := ev_ioG h5
  subst e1
  obtain ⟨e2, k3⟩ := ev_keepTms h7 S1
  subst e2
  obtain ⟨e3, k4⟩ := ev_keepBxs h9 S1
  subst e3
  refine ⟨_, ρ1.cut _ a w, h2, k1.toExt.trans cut_ext, fun i k y hi hy => ?_, cut_sim S1 (fun p hp => (List.mem_append.1 hp).elim (k3 p) (k4 p))⟩
  obtain ⟨ls, hs⟩ := k2 i k hi
  rw [Nat.zero_add] at hs
  simp [Env.cut, ageB_eq hs, k1.ga _ _ _ hy]
end
end Go.Proofs.Yticifedehhnjhaa.Eng
/- What a table tells of types is checked by reckoning. -/
namespace Go.Proofs.Yticifedehhnjhaa.Eng
set_option linter.unusedVariables false
set_option linter.unusedSimpArgs false
open Go Go.RowKit
def zEq : Value → Value → Bool
  | .int k n, .int k' n' => decide (k = k') && decide (n = n')
  | .bool b, .bool b' => b == b'
  | .string s, .string s' => decide (s.data.toList = s'.data.toList)
  | .slice none a b, .slice none a' b' => Nat.beq a a' && Nat.beq b b'
  | _, _ => false
theorem zEq_eq : ∀ {a b : Value}, zEq a b = true → a = b := by
  intro a b h
  unfold zEq at h
  split at h
  · simp at h; obtain ⟨rfl, rfl⟩ := h; rfl
  · simp at h; rw [h]
  · rename_i s s'
    have := of_decide_eq_true h
    congr 1
    cases s with
    | mk d => cases s' with
      | mk d' => exact congrArg ByteArray.mk (Array.ext' this)
  · simp at h; obtain ⟨rfl, rfl⟩ := h; rfl
  · cases h
def zsEq : List Value → List Value → Bool
  | [], [] => true
  | a :: r, b :: q => zEq a b && zsEq r q
  | _, _ => false
theorem zsEq_eq : ∀ {a b : List Value}, zsEq a b = true → a = b
  | [], [], _ => rfl
  | a :: r, b :: q, h => by
    simp only [zsEq, Bool.and_eq_true] at h
    rw [zEq_eq h.1, zsEq_eq h.2]
  | [], _ :: _, h => by cases h
  | _ :: _, [], h => by cases h
def fieldsChk (P : Program) (fs : Array Field) : List Nat → List Nat → Nat → Bool
  | o :: os, ft :: fts, k => (match fs[k]? with
      | some f => Nat.beq f.offset o && (Nat.beq f.type ft && (match P.info? f.type with | some i => Nat.blt 0 i.size | none => false))
      | none => false) && fieldsChk P fs os fts (k + 1)
  | _, _, _ => true
theorem fieldsChk_ok {P : Program} {fs : Array Field} : ∀ {os fts : List Nat} {k : Nat}, fieldsChk P fs os fts k = true → ∀ (j o ft : Nat), os[j]? = some o → fts[j]? = some ft →
    ∃ (f : Field) (i : TypeInfo), fs[k + j]? = some f ∧ f.offset = o ∧ f.type = ft ∧ P.info? f.type = some i ∧ i.size ≠ 0
  | o :: os, ft :: fts, k, h, j, o', ft', ho, hf => by
    simp only [fieldsChk, Bool.and_eq_true] at h
    obtain ⟨h1, h2⟩ := h
    cases j with
    | zero =>
      simp at ho hf; subst ho; subst hf
      split at h1
      · rename_i f hfs
        simp only [Bool.and_eq_true] at h1
        obtain ⟨h1, h3, h4⟩ := h1
        split at h4
        · rename_i i hi
          exact ⟨f, i, hfs, Nat.eq_of_beq_eq_true h1, Nat.eq_of_beq_eq_true h3, hi, fun e => by rw [e] at h4; cases h4⟩
        · cases h4
      · cases h1
    | succ j =>
      have := fieldsChk_ok h2 j o' ft' (by simpa using ho) (by simpa using hf)
      rwa [show k + 1 + j = k + (j + 1) by omega] at this
  | [], _, _, _, j, _, _, ho, _ => by simp at ho
  | _ :: _, [], _, _, j, _, _, _, hf => by simp at hf
def tdChk (P : Program) (t : Nat) (td : TD) : Bool :=
  (match P.info? t with | some i => Nat.beq i.size td.ty.sz && (Nat.beq i.bytes td.bytes && (match i.zero with | some z => zsEq z.cells.toList (zeroCells td.ty) | none => false)) | none => false) &&
  (td.ty.flat && (Nat.blt 0 td.bytes && ((td.agg || Nat.beq td.ty.sz 1) && (match P.underlying t with
    | none => false
    | some d => (match td.ty with | .sl _ => (match d with | .slice e => Nat.beq e td.elem | _ => false) | .int k => (match d with | .int k' => decide (k = k') | _ => false) | .str => (match d with | .string => true | _ => false) | .bool => (match d with | .bool => true | _ => false) | _ => true) &&
      (match d with
        | .struct fs => td.agg && (!td.offs.isEmpty && (Nat.beq td.offs.length fs.size && (Nat.beq td.ftys.length fs.size && fieldsChk P fs td.offs td.ftys 0)))
        | .array _ e => td.agg && (td.offs.isEmpty && (Nat.beq e td.elem && (P.info? e).isSome))
        | _ => !td.agg && td.offs.isEmpty)))))
theorem mapM_places {P : Program} : ∀ {fs : List Field}, (∀ (j : Nat) f, fs[j]? = some f → ∃ i, P.info? f.type = some i) → ∃ ps, fs.mapM (fun f => (P.info? f.type).map fun i => (f.offset, i.size)) = some ps ∧ ps.length = fs.length ∧
    ∀ (j : Nat) f i, fs[j]? = some f → P.info? f.type = some i → ps[j]? = some (f.offset, i.size)
  | [], _ => ⟨[], by simp, rfl, fun j f i h => by simp at h⟩
  | f :: r, h => by
    obtain ⟨ps, h1, h2, h3⟩ := mapM_places (fs := r) (fun j g hj => h (j + 1) g (by simpa using hj))
    obtain ⟨i, hi⟩ := h 0 f rfl
    refine ⟨(f.offset, i.size) :: ps, by simp [List.mapM_cons, hi, h1], by simp [h2], fun j g i' hj hi' => ?_⟩
    cases j with
    | zero => simp at hj; subst hj; rw [hi] at hi'; cases hi'; rfl
    | succ j => exact h3 j g i' (by simpa using hj) hi'
theorem tdChk_ok {P : Program} {t : Nat} {td : TD} (h : tdChk P t td = true) : TdVal P t td := by
  unfold tdChk at h
  rw [Bool.and_eq_true, Bool.and_eq_true, Bool.and_eq_true, Bool.and_eq_true] at h
  obtain ⟨hinfo, hflat, hbytes, hsz, hd⟩ := h
  have hb : 0 < td.bytes := Nat.le_of_ble_eq_true hbytes
  split at hinfo
  rotate_left
  · cases hinfo
  rename_i i hi
  simp only [Bool.and_eq_true] at hinfo
  obtain ⟨i1, i2, i3⟩ := hinfo
  split at i3
  rotate_left
  · cases i3
  rename_i z hz
  split at hd
  · cases hd
  rename_i d hu
  rw [Bool.and_eq_true] at hd
  obtain ⟨hty, hd⟩ := hd
  have hinfo : ∃ i z, P.info? t = some i ∧ i.size = td.ty.sz ∧ i.bytes = td.bytes ∧ i.zero = some z ∧ z.cells.toList = zeroCells td.ty := ⟨i, z, hi, Nat.eq_of_beq_eq_true i1, Nat.eq_of_beq_eq_true i2, hz, zsEq_eq i3⟩
  have hsl : ∀ e, td.ty = .sl e → P.underlying t = some (.slice td.elem) := fun e he => by
    rw [he] at hty
    simp only at hty
    split at hty
    · rw [hu, Nat.eq_of_beq_eq_true hty]
    · cases hty
  have hint : ∀ k, td.ty = .int k → P.underlying t = some (.int k) := fun k he => by
    rw [he] at hty
    simp only at hty
    split at hty
    · rw [hu, of_decide_eq_true hty]
    · cases hty
  have hstr : td.ty = .str → P.underlying t = some .string := fun he => by
    rw [he] at hty
    simp only at hty
    split at hty
    · exact hu
    · cases hty
  have hbool : td.ty = .bool → P.underlying t = some .bool := fun he => by
    rw [he] at hty
    simp only at hty
    split at hty
    · exact hu
    · cases hty
  have hsingle : td.agg = false → td.ty.sz = 1 := fun e => by
    rw [e] at hsz
    exact Nat.eq_of_beq_eq_true hsz
  split at hd
  · rename_i fs
    simp only [Bool.and_eq_true] at hd
    obtain ⟨d1, d2, d3, d4, d5⟩ := hd
    have hof : td.offs ≠ [] := fun e => by rw [e] at d2; cases d2
    have e3 := Nat.eq_of_beq_eq_true d3
    have e4 := Nat.eq_of_beq_eq_true d4
    have hf := fieldsChk_ok d5
    obtain ⟨ps, m1, m2, m3⟩ := mapM_places (P := P) (fs := fs.toList) (fun j f hj => by
      have hj2 : j < fs.size := by simpa using (List.getElem?_eq_some_iff.1 hj).1
      obtain ⟨f', i', q1, _, _, q4, _⟩ := hf j _ _ (List.getElem?_eq_getElem (by omega)) (List.getElem?_eq_getElem (by omega))
      rw [Nat.zero_add] at q1
      rw [Array.getElem?_toList, q1] at hj
      cases hj
      exact ⟨i', q4⟩)
    refine ⟨hinfo, ⟨_, hu, d1.symm ▸ rfl⟩, hflat, hb, hsl, fun k o ft ho hft => ?_, hint, hstr, hbool, fun _ => ⟨(ps.toArray[·]?), z, fun i' hi' => ?_, fun parts => ?_, fun k o ft ho hft => ?_, fun e => (hof e).elim⟩, hsingle⟩
    · obtain ⟨f, i', q1, q2, q3, q4, q5⟩ := hf k o ft ho hft
      rw [Nat.zero_add] at q1
      exact ⟨fs, f, i', hu, q1, q2, q4, q5⟩
    · rw [hi] at hi'; cases hi'; exact hz
    · unfold Program.built
      simp only [hi, hu, hz]
      rw [m1]
    · obtain ⟨f, i', q1, q2, q3, q4, q5⟩ := hf k o ft ho hft
      rw [Nat.zero_add] at q1
      refine ⟨i', by rw [← q3]; exact q4, ?_⟩
      have := m3 k f i' (by rw [Array.getElem?_toList]; exact q1) q4
      rw [← q2]
      simpa using this
  · rename_i n e
    simp only [Bool.and_eq_true] at hd
    obtain ⟨d1, d2, d3, d4⟩ := hd
    obtain ⟨ie, hie⟩ := Option.isSome_iff_exists.1 d4
    have hof : td.offs = [] := by simpa using d2
    have e3 := Nat.eq_of_beq_eq_true d3
    refine ⟨hinfo, ⟨_, hu, d1.symm ▸ rfl⟩, hflat, hb, hsl, fun k o ft ho hft => ?_, hint, hstr, hbool, fun _ => ⟨fun i => some (i * ie.size, ie.size), z, fun i' hi' => ?_, fun parts => ?_, fun k o ft ho hft => ?_, fun _ => ⟨ie, by rw [← e3]; exact hie, fun k => rfl⟩⟩, hsingle⟩
    · rw [hof] at ho; simp at ho
    · rw [hi] at hi'; cases hi'; exact hz
    · unfold Program.built
      simp only [hi, hu, hz, hie]
    · rw [hof] at ho; simp at ho
  · rename_i hn1 hn2
    simp only [Bool.and_eq_true, Bool.not_eq_true'] at hd
    obtain ⟨d1, d2⟩ := hd
    have hof : td.offs = [] := by simpa using d2
    refine ⟨hinfo, ⟨d, hu, ?_⟩, hflat, hb, hsl, fun k o ft ho hft => ?_, hint, hstr, hbool, fun e => ?_, hsingle⟩
    · rw [d1]
      cases d with
      | struct fs => exact (hn1 fs rfl).elim
      | array n e => exact (hn2 n e rfl).elim
      | _ => rfl
    · rw [hof] at ho; simp at ho
    · rw [d1] at e; cases e
def ttChk (P : Program) : List (Nat × TD) → Bool
  | [] => true
  | (k, d) :: r => (isUnit d.ty || tdChk P k d) && ttChk P r
theorem ttChk_ok {P : Program} : ∀ {l : List (Nat × TD)}, ttChk P l = true → ∀ t td, ttG l t = some td → isUnit td.ty = false → TdVal P t td
  | [], _, t, td, h, _ => by cases h
  | (k, d) :: r, hc, t, td, h, hu => by
    simp only [ttChk, Bool.and_eq_true, Bool.or_eq_true] at hc
    simp only [ttG] at h
    cases hb : Nat.beq k t with
    | false => rw [hb] at h; exact ttChk_ok hc.2 t td h hu
    | true =>
      rw [hb] at h
      cases h
      obtain rfl := Nat.eq_of_beq_eq_true hb
      exact tdChk_ok (hc.1.resolve_left (by rw [hu]; simp))
def namesChk : List Func → Bool
  | [] => true
  | f :: r => !(f.name == "runtime.NumGoroutine") && namesChk r
theorem namesChk_ok {P : Program} (h : namesChk P.funcs.toList = true) : NamesOk P := by
  have key : ∀ {l : List Func}, namesChk l = true → ∀ fn ∈ l, (fn.name == "runtime.NumGoroutine") = false := by
    intro l
    induction l with
    | nil => intro _ fn h; simp at h
    | cons f r ih =>
      intro h fn hm
      simp only [namesChk, Bool.and_eq_true, Bool.not_eq_true'] at h
      rcases List.mem_cons.1 hm with rfl | hm
      · exact h.1
      · exact ih h.2 fn hm
  exact fun f fn hf => key h fn (Array.mem_toList_iff.2 (Array.mem_of_getElem? hf))
end Go.Proofs.Yticifedehhnjhaa.Eng
/- A law over plain values: what came in is stable, and the call leaves it so. -/
namespace Go.Proofs.Yticifedehhnjhaa.Eng
set_option linter.unusedVariables false
set_option linter.unusedSimpArgs false
open Go Go.RowKit Go.ChangeShapes Go.WideShapes
def Env.in0 : Env := ⟨fun _ => .st, fun _ => none, fun _ _ => none⟩
theorem entry0 {w : World} {ys : List SV} {vs : List Value} (h : RepSVs (fun _ => .st) w ys vs) : Entry Env.in0 w (ys.map fun s => .cv false [.v s.t s.x]) vs.toArray := by
  refine ⟨by simpa using h.len.symm, fun i x v hx hv => ?_, fun r v h => (by cases h), fun i j v h => (by cases h), fun b g x h => (by cases h)⟩
  simp only [List.getElem?_map, Option.map_eq_some_iff] at hx
  obtain ⟨s, hs, rfl⟩ := hx
  have := svs_rep h i (Leaf.ofSV s) v (by simp [hs]) (by simpa using hv)
  exact ⟨fun l hl => by simp at hl; subst hl; rfl, this.2.2 Env.in0 (.tm i 0) rfl⟩
theorem law0 {C : Cfg} (T : TtOk C) (NG : NamesOk C.P) (hm : C.P.follows .mixedOrders = true) {n : Nat} {w : World} {q : Req} {ys : List SV} {vs : List Value} (h : RepSVs (fun _ => .st) w ys vs) (hq : q.args = ys.map fun s => .cv false [.v s.t s.x]) {x : (C.sh q.f).den}
    (hx : evN C n (.call q) = some x) : Calls C.P q.f vs.toArray w fun e w' => ∃ v, e = .returned v ∧ Below w.heap.size w w' ∧ ∃ ρ' as, RetOk ρ' w' (C.sh q.f) as v x := by
  have H := ((evN_ok T NG hm (fin_ok T) cut_ok n).1 q x hx).1
  refine (H Env.in0 w vs.toArray (by rw [hq]; exact entry0 h)).mono fun e w' hq => ?_
  obtain ⟨v, he, ρ', ext, _, r⟩ := hq
  exact ⟨v, he, ⟨ext.os, ext.tape, ext.output, ext.size, fun k hk => (ext.st k hk rfl).2⟩, ρ', _, r⟩
theorem retBool {ρ : Env} {w : World} {as : List Nat} {v : Value} {x : Bool} (h : RetOk ρ w ⟨false, [(false, 1)], [.v .bool], [], false⟩ as v x) : v = .bool x := by
  have := (h.val rfl).2.2.1
  simpa [Sh.enc, lsEnc, LS.enc, varsOf, RepCV, RepLeaf, RepTy] using this
/-! ### values that are opened -/
def OpTy (P : Program) (t : TypeId) (ty : Ty) (ok : ty.den → Prop) : Prop :=
  ∀ (H : Type) (enc : TypeId × Value → H) (w : World) (base : Nat) (spare : Nat → Bool) (held : Bool) (fuel : Nat) (cs : List Value) (x : DataW H × List MemPlace), DataW.trod enc P w base spare held fuel t cs = some x → ∃ y : ty.den, RepTy (fun _ => .st) w ty cs y ∧ ok y
theorem opTy_int {P : Program} {t : TypeId} {k : IntKind} (ht : P.underlying t = some (.int k)) : OpTy P t (.int k) (fun n => (Lit.int k n).wf = true) := fun _ _ _ _ _ _ _ _ _ h => by
  obtain ⟨n, rfl, _, hw⟩ := DataW.trod_int ht h
  exact ⟨n, rfl, hw⟩
theorem opTy_bool {P : Program} {t : TypeId} (ht : P.underlying t = some .bool) : OpTy P t .bool (fun _ => True) := fun _ _ _ _ _ _ _ _ _ h => by
  obtain ⟨n, rfl, _⟩ := DataW.trod_bool ht h
  exact ⟨n, rfl, trivial⟩
theorem opTy_string {P : Program} {t : TypeId} (ht : P.underlying t = some .string) : OpTy P t .str (fun s => s.size ≤ maxLen) := fun _ _ _ _ _ _ _ _ _ h => by
  obtain ⟨n, rfl, _, hw⟩ := DataW.trod_string ht h
  exact ⟨n, rfl, hw⟩
theorem opTy_slice {P : Program} {e : Ty} {ok : e.den → Prop} {t et : TypeId} (ht : P.underlying t = some (.slice et)) (hsz : P.cellsOf et = e.sz) (he : OpTy P et e ok) : OpTy P t (.sl e) (fun l => l.length ≤ maxLen ∧ ∀ x ∈ l, ok x) := fun H enc w base spare held fuel cs x h => by
  rcases Go.Deep.open_slice ht h with ⟨rfl, _⟩ | ⟨a, len, cap, m, n, D, Pl, rfl, _, hl, hm, hmeq, _, hel⟩
  · exact ⟨[], ⟨none, 0, rfl, Nat.le_refl _, fun j x hj => by simp at hj⟩, Nat.zero_le _, fun _ h => by cases h⟩
  · have hlm : len ≤ m := by rw [hmeq]; split <;> omega
    have key : ∀ i, i < len → ∃ y : e.den, ok y ∧ ∃ c : List Value, RepTy (fun _ => .st) w e c y ∧ ∀ j u, c[j]? = some u → w.cell? (a.add (i * e.sz + j)) = some u := fun i hi => by
      obtain ⟨cs', h1, h2⟩ := hel i (by omega)
      obtain ⟨y, hK, hok⟩ := he _ _ _ _ _ _ _ _ _ h2
      refine ⟨y, hok, cs', hK, fun j u hj => ?_⟩
      rw [hsz] at h1
      unfold World.cells? at h1
      split at h1
      · have hjl : j < e.sz := by rw [← hK.len]; exact (List.getElem?_eq_some_iff.1 hj).1
        have := mapM_some_get h1 j j (by simp [hjl])
        rw [add_add'] at this
        rw [this, hj]
      · cases h1
    refine ⟨List.ofFn (n := len) fun i => Classical.choose (key i.1 i.2), ⟨some a, cap, by simp, by simp; omega, fun j p hj => ⟨a, rfl, ?_⟩⟩, by simp; omega, fun x hx => ?_⟩
    · rw [List.getElem?_ofFn] at hj
      split at hj
      · rename_i hjl
        injection hj with hj
        subst hj
        obtain ⟨_, c, h1, h2⟩ := Classical.choose_spec (key j hjl)
        exact ⟨c, h1, fun i u hu => ⟨rfl, h2 i u hu⟩⟩
      · cases hj
    · obtain ⟨i, rfl⟩ := List.mem_ofFn.1 hx
      exact (Classical.choose_spec (key i.1 i.2)).1
end Go.Proofs.Yticifedehhnjhaa.Eng
/- What is read with a bound is read so with every greater bound. -/
namespace Go.Proofs.Yticifedehhnjhaa.Eng
set_option linter.unusedVariables false
set_option linter.unusedSimpArgs false
open Go
section
variable {α R : Type} {D : Nat → Sh} {rec rec' : (q : Req) → Option (D q.f).den}
theorem runG_mono (hr : ∀ q x, rec q = some x → rec' q = some x) : ∀ (g : G α) (st : St) (tr : List (Bool × Key)) (K K' : α → St → List (Bool × Key) → Option R) (r : R), (∀ a st tr r, K a st tr = some r → K' a st tr = some r) →
    runG rec g st tr K = some r → runG rec' g st tr K' = some r := by
  intro g
  induction g with
  | ret a => intro st tr K K' r hK h; exact hK _ _ _ _ h
  | fail => intro st tr K K' r hK h; cases h
  | get k f ih => intro st tr K K' r hK h; exact ih _ _ _ _ _ _ hK h
  | set k c g ih => intro st tr K K' r hK h; exact ih _ _ _ _ _ hK h
  | call q f ih =>
    intro st tr K K' r hK h
    simp only [runG, gBind] at h ⊢
    cases hq : rec q with
    | none => rw [hq] at h; cases h
    | some x =>
      rw [hq] at h
      rw [hr q x hq]
      exact ih _ _ _ _ _ _ hK h
  | ite c a b iha ihb =>
    intro st tr K K' r hK h
    simp only [runG, gIf] at h ⊢
    cases c with
    | true => simp only [if_true] at h ⊢; exact iha _ _ _ _ _ hK h
    | false => simp only [Bool.false_eq_true, if_false] at h ⊢; exact ihb _ _ _ _ _ hK h
  | br t a b u iha ihb ihu =>
    intro st tr K K' r hK h
    simp only [runG, gIf] at h ⊢
    split at h
    · rename_i g x hs
      cases x with
      | true => simp only [if_true] at h ⊢; exact iha _ _ _ _ _ hK h
      | false => simp only [Bool.false_eq_true, if_false] at h ⊢; exact ihb _ _ _ _ _ hK h
    · exact ihu _ _ _ _ _ hK h
    · cases h
end
section
variable {R : Type} {C : Cfg} {rec rec' : (q : Req) → Option (C.sh q.f).den}
theorem evOps_mono (hr : ∀ q x, rec q = some x → rec' q = some x) {N : Nat} {ops : Array Oper} : ∀ (l : List Oper) (st : St) (ts : List (List (Bool × Key))) (K K' : St → List (List (Bool × Key)) → Option R) (r : R), (∀ st ts r, K st ts = some r → K' st ts = some r) →
    evOps C rec N ops l st ts K = some r → evOps C rec' N ops l st ts K' = some r := by
  intro l
  induction l with
  | nil => intro st ts K K' r hK h; exact hK _ _ _ h
  | cons o l ih =>
    intro st ts K K' r hK h
    simp only [evOps] at h ⊢
    cases hb : dstOk N o with
    | false => rw [hb] at h; cases h
    | true =>
      rw [hb] at h
      exact runG_mono hr _ _ _ _ _ _ (fun a st tr r h => ih _ _ _ _ _ hK h) h
theorem eqList_refl {α : Type} {f : α → α → Bool} (hf : ∀ a, f a a = true) : ∀ a : List α, eqList f a a = true
  | [] => rfl
  | x :: a => by simp [eqList, hf x, eqList_refl hf a]
theorem Ty.eqD_refl : ∀ (t : Ty) (a : t.den), t.eqD a a = true := by
  intro t
  induction t with
  | int k => intro a; exact decide_eq_true rfl
  | bool => intro (a : Bool); cases a <;> rfl
  | str => intro a; exact decide_eq_true rfl
  | unit => intro a; rfl
  | pair p q ihp ihq => intro a; simp [Ty.eqD, ihp, ihq]
  | sl e ih => intro a; exact eqList_refl ih a
theorem LS.eqD_refl (s : LS) (a : s.den) : s.eqD a a = true := by
  cases s with
  | v t => exact t.eqD_refl a
  | own e => exact eqList_refl e.eqD_refl a
theorem eqLs_refl : ∀ (l : List LS) (a : lsDen l), eqLs l a a = true
  | [], a => rfl
  | [s], a => s.eqD_refl a
  | s :: t :: r, a => by simp [eqLs, s.eqD_refl, eqLs_refl (t :: r) a.2]
theorem agree_mk {l : List LS} {a b : Option (lsDen l)} {x : lsDen l} (ha : a = some x) (hb : b = some x) : agree l a b = some x := by
  subst ha; subst hb; simp [agree, eqLs_refl]
theorem evSteps_mono (hr : ∀ q x, rec q = some x → rec' q = some x) {f : Nat} {recT recT' : List Item → St → Option (C.sh f).den} (hT : ∀ td st x, recT td st = some x → recT' td st = some x) {fn : Func} {args : List Nat} :
    ∀ (m : Nat) (fresh : Bool) (todo : List Item) (st : St) (x : (C.sh f).den), evSteps C rec f recT fn args m fresh todo st = some x → evSteps C rec' f recT' fn args m fresh todo st = some x := by
  intro m
  induction m with
  | zero => intro fresh todo st x h; cases h
  | succ m ih =>
    intro fresh todo st x h
    unfold evSteps at h ⊢
    split at h
    · exact runG_mono hr _ _ _ _ _ _ (fun _ _ _ _ h => h) h
    · rename_i c k
      split at h
      · exact runG_mono hr _ _ _ _ _ _ (fun _ _ _ _ h => h) h
      · exact ih _ _ _ _ h
      · exact ih _ _ _ _ h
      · exact ih _ _ _ _ h
      · exact ih _ _ _ _ h
      · split at h
        · rename_i k' hk; try simp only [hk]
          exact ih _ _ _ _ h
        · cases h
      · split at h
        · rename_i g b hs
          simp only [gIf] at h
          try simp only [hs, gIf]
          cases b with
          | true => simp only [if_true] at h ⊢; exact ih _ _ _ _ h
          | false => simp only [Bool.false_eq_true, if_false] at h ⊢; exact ih _ _ _ _ h
        · rename_i g b hs
          simp only [gIf] at h
          try simp only [hs, gIf]
          cases b with
          | true =>
            simp only [if_true] at h ⊢
            obtain ⟨h1, h2⟩ := agree_some (show agree (C.sh f).ls _ _ = some x from h)
            exact agree_mk (ih _ _ _ _ h1) (ih _ _ _ _ h2)
          | false => simp only [Bool.false_eq_true, if_false] at h ⊢; exact ih _ _ _ _ h
        · cases h
      · split at h
        · rename_i kt kb hcut
          try simp only [hcut]
          exact runG_mono hr _ _ _ _ _ _ (fun _ _ _ _ h => hT _ _ _ h) h
        · rename_i hcut
          try simp only [hcut]
          refine evOps_mono hr _ _ _ _ _ _ (fun st ts r h => ?_) h
          cases hc : (!_ || okDraw _ ts) with
          | true => rw [hc] at h; exact ih _ _ _ _ h
          | false => rw [hc] at h; cases h
      · cases h
    · exact ih _ _ _ _ h
    · exact ih _ _ _ _ h
    · cases h
theorem evN_mono1 (C : Cfg) : ∀ (n : Nat) (t : Tgt) (x : (C.sh t.f).den), evN C n t = some x → evN C (n + 1) t = some x := by
  intro n
  induction n with
  | zero => intro t x h; cases t <;> cases h
  | succ n ih =>
    intro t x h
    cases t with
    | call q =>
      rw [evN] at h ⊢
      split at h
      · rename_i fn hfn
        split at h
        · rename_i c hc
          exact evSteps_mono (rec := fun q => evN C n (.call q)) (rec' := fun q => evN C (n + 1) (.call q)) (recT := fun td st => evN C n (.run q.f (q.args.map argKind) td st)) (recT' := fun td st => evN C (n + 1) (.run q.f (q.args.map argKind) td st)) (fun q x h => ih (.call q) x h) (fun td st x h => ih (.run q.f (q.args.map argKind) td st) x h) 4000 true [.code c] (initSt 0 q.args) x h
        · cases h
      · cases h
    | run f args td st =>
      rw [evN] at h ⊢
      split at h
      · rename_i fn hfn
        exact evSteps_mono (rec := fun q => evN C n (.call q)) (rec' := fun q => evN C (n + 1) (.call q)) (recT := fun td st => evN C n (.run f args td st)) (recT' := fun td st => evN C (n + 1) (.run f args td st)) (fun q x h => ih (.call q) x h) (fun td st x h => ih (.run f args td st) x h) 4000 true td st x h
      · cases h
theorem evN_mono {C : Cfg} {n m : Nat} {t : Tgt} {x : (C.sh t.f).den} (h : evN C n t = some x) (hm : n ≤ m) : evN C m t = some x := by
  induction m with
  | zero => obtain rfl : n = 0 := by omega
            exact h
  | succ m ih =>
    by_cases e : n = m + 1
    · subst e; exact h
    · exact evN_mono1 C m t x (ih (by omega))
end
end Go.Proofs.Yticifedehhnjhaa.Eng
