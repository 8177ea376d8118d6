-- WRITTEN BY wip/gprint.py, a program of this session's over the kit's print, with contracts given by hand
import Derived.Test.YtcfcohfniibpdaaProg
import Derived.Below
import Derived.Deep.Draws
import Derived.Deep.AppendLies
import Derived.Maps.AppendAt
import Derived.OwnWalk
import Derived.Laws.BytesArg
import Derived.Laws.MakeOwn
import Derived.Laws.OwnMore
import Derived.Deep.OwnRows
import Derived.Tactics
import Derived.Lib.ConvBytes
import Derived.Laws.Slices
import Derived.WalkKit
import Derived.KernelRfl
import Derived.RowKit3
import Derived.Deep.LoopGhost
import Derived.Deep.QuietTactic
import Derived.BigQuiet
import Derived.WideLaws
import Derived.Deep.DeepCutAuto
import Derived.Deep.CutBlock
import Derived.Deep.RegionHeld3
import Derived.Laws.Rows
import Derived.Lib.AppendStr
import Derived.ArgAppend
import Derived.Laws.IdiomCopy
import Derived.OrdersHeld
import Derived.Laws.BitsLemmas
import Derived.RowKit
import Derived.Shelf.Abstract
import Derived.WalkLawsBesides
import Derived.WalkSpells
import Derived.Shelf.SlicesE.DeleteFunc
import Derived.Lib.SliceRun
import Derived.Test.YtcfcohfniibpdaaVR
namespace Go.Proofs.Ytcfcohfniibpdaa.PR
open Go.RowKit Go.Proofs.YtcfcohfniibpdaaW.PrintWords Go.Proofs.YtcfcohfniibpdaaW.PrintLast Go.Proofs.YtcfcohfniibpdaaW.PrintMore
attribute [local go_sem] max2_int min2_int max_two min_two max_three min_three max_four min_four   -- for this text's walks alone
set_option linter.unusedVariables false
set_option linter.unusedSimpArgs false



def errW : Option Int → Value
  | none => .nilIface
  | some c => .iface 0 (.int .i64 c)
theorem errW_none : errW none = .nilIface := rfl
theorem errW_some (c : Int) : errW (some c) = .iface 0 (.int .i64 c) := rfl

theorem info2 : (Try.prog.info? 2).map (fun i => (i.zero, i.size, i.bytes)) = some (some (.int .i64 0), 1, 8) := by kernel_rfl
theorem info9 : (Try.prog.info? 9).map (fun i => (i.zero, i.size, i.bytes)) = some (some (.string ⟨#[]⟩), 1, 16) := by kernel_rfl
-- the values' own types
def rd_L3 (xs : List (List Int)) (i : Int) : (List Int) := xs.getD i.toNat ([] : List Int)
theorem at_L3 {w : World} {A : Option Addr} {n : Nat} {xs : List (List Int)} (h : Kd.C (Kd.slice 2 (Kd.int .i64)) w A n xs) (i : Int) (h0 : 0 ≤ i) (h1 : i < n) : ∃ ad A0 c0, A = some ad ∧ w.cell? (ad.add i.toNat) = some (.slice A0 (rd_L3 xs i).length c0) ∧ (rd_L3 xs i).length ≤ c0 ∧ (Kd.int .i64).C w A0 (rd_L3 xs i).length (rd_L3 xs i) := by
  obtain ⟨ad, c, e, _, hK, hc0⟩ := Kd.C_get h ([] : List Int) i h0 h1
  have hc : ∀ j u, c[j]? = some u → w.cell? (ad.add (i.toNat * 1 + j)) = some u := hc0
  obtain ⟨A0, c0, rfl, l0, g0⟩ := hK
  exact ⟨ad, A0, c0, e, by have hq := hc 0 _ rfl; rwa [Nat.mul_one, Nat.add_zero] at hq, l0, g0⟩

def rd_L4 (xs : List (List (List Int))) (i : Int) : (List (List Int)) := xs.getD i.toNat ([] : List (List Int))
theorem at_L4 {w : World} {A : Option Addr} {n : Nat} {xs : List (List (List Int))} (h : Kd.C (Kd.slice 24 (Kd.slice 2 (Kd.int .i64))) w A n xs) (i : Int) (h0 : 0 ≤ i) (h1 : i < n) : ∃ ad A0 c0, A = some ad ∧ w.cell? (ad.add i.toNat) = some (.slice A0 (rd_L4 xs i).length c0) ∧ (rd_L4 xs i).length ≤ c0 ∧ (Kd.slice 2 (Kd.int .i64)).C w A0 (rd_L4 xs i).length (rd_L4 xs i) := by
  obtain ⟨ad, c, e, _, hK, hc0⟩ := Kd.C_get h ([] : List (List Int)) i h0 h1
  have hc : ∀ j u, c[j]? = some u → w.cell? (ad.add (i.toNat * 1 + j)) = some u := hc0
  obtain ⟨A0, c0, rfl, l0, g0⟩ := hK
  exact ⟨ad, A0, c0, e, by have hq := hc 0 _ rfl; rwa [Nat.mul_one, Nat.add_zero] at hq, l0, g0⟩

def rd_L5 (xs : List (List Int)) (i : Int) : (List Int) := xs.getD i.toNat ([] : List Int)
theorem at_L5 {w : World} {A : Option Addr} {n : Nat} {xs : List (List Int)} (h : Kd.C (Kd.slice 5 (Kd.int .u8)) w A n xs) (i : Int) (h0 : 0 ≤ i) (h1 : i < n) : ∃ ad A0 c0, A = some ad ∧ w.cell? (ad.add i.toNat) = some (.slice A0 (rd_L5 xs i).length c0) ∧ (rd_L5 xs i).length ≤ c0 ∧ (Kd.int .u8).C w A0 (rd_L5 xs i).length (rd_L5 xs i) := by
  obtain ⟨ad, c, e, _, hK, hc0⟩ := Kd.C_get h ([] : List Int) i h0 h1
  have hc : ∀ j u, c[j]? = some u → w.cell? (ad.add (i.toNat * 1 + j)) = some u := hc0
  obtain ⟨A0, c0, rfl, l0, g0⟩ := hK
  exact ⟨ad, A0, c0, e, by have hq := hc 0 _ rfl; rwa [Nat.mul_one, Nat.add_zero] at hq, l0, g0⟩

-- words of this session's own
def bqL : Bool → List Nat → List Bool
  | _, [] => []
  | b, n :: l => List.replicate n b ++ bqL (!b) l
/-- Trues and falses by turns, by how many there are of each. -/
def bq (l : List Nat) : Array Bool := (bqL true l).toArray
theorem sx0 {α : Type} {l : List α} {i : Nat} {a : α} : l.toArray.setIfInBounds i a = (l.set i a).toArray := List.setIfInBounds_toArray ..
theorem sx1 {α : Type} {x a : α} {l : List α} : (x :: l).set 0 a = a :: l := rfl
theorem sx2 {α : Type} {x a : α} {l : List α} {n : Nat} : (x :: l).set (n + 1) a = x :: l.set n a := rfl
-- short names of words that stand often
abbrev qba := @below_alloc
abbrev qbn := @pw_below_drewN
abbrev qb1 := @below_drew1
abbrev qks := @KeepBut.set_
abbrev qkn := @keep_drewN
abbrev qkd := @keep_drew
abbrev qka := @keep_alloc
abbrev qra := @Kd.R_alloc
abbrev qrn := @Kd.R_drewN
abbrev qrd := @Kd.R_drew
abbrev qww := @World.drewN_drewN
-- steps of a region, with what is shown by rote shown by itself: an operation that is passed over (pU_), one that yields (pV_); with a table, and without (pu_, pv_)
section
variable {P : Program} {ops : Array Oper} {Q : Exit → Act → World → Prop} {md : Region.Mode} {S : World → Prop} {ds : List Nat} {T : Bool × List (List Nat × List Nat)}
theorem pU_ {i : Nat} {N : Option Tmp} {oi : Oper} {fuel : Nat} {l : Array Bool} {a : Act} {w : World} (l' : Array Bool) (hi : ops[i]? = some oi) (hN : oi.dst = N) (hT : rtab md ops = T) {a' : Act} (h : wpAnyLast P md ops Q S ds fuel l' a' w) (hc : anyT T l.toList l'.toList i = true := by kernel_rfl) (hQ : ∀ c a w, Q (.panic c) (a.put oi.dst undef) w → Q (.panic c) a w := by exact fun _ _ _ h => h) (hy : Region.wanted oi (yielded ops a.tmps) = false := by rfl) (ha : a.put N undef = a' := by (simp only [Act.put, sx0, sx1, sx2, i64_w, i32_w]; rfl)) : wpAnyLast P md ops Q S ds (fuel + 1) l a w :=
  pure_ l' hi hN (any_of hT hc) hQ (Or.inr ⟨hy, rfl⟩) ha h
theorem pV_ {i : Nat} {N : Option Tmp} {oi : Oper} {fuel : Nat} {l : Array Bool} {a : Act} {w : World} (l' : Array Bool) (hi : ops[i]? = some oi) (hN : oi.dst = N) (hT : rtab md ops = T) {a' : Act} {v : Value} (h : wpAnyLast P md ops Q S ds fuel l' a' w) (hc : anyT T l.toList l'.toList i = true := by kernel_rfl) (hQ : ∀ c a w, Q (.panic c) (a.put oi.dst v) w → Q (.panic c) a w := by exact fun _ _ _ h => h) (hy : Region.wanted oi (yielded ops a.tmps) = true := by rfl) (hv : ∀ w', (execOp a.eval oi).run P w' = .ok (.value v) w' := by (intro w'; go_simp; with_reducible rfl)) (ha : a.put N v = a' := by (simp only [Act.put, sx0, sx1, sx2, i64_w, i32_w]; rfl)) : wpAnyLast P md ops Q S ds (fuel + 1) l a w :=
  pure_ l' hi hN (any_of hT hc) hQ (Or.inl ⟨hy, hv⟩) ha h
theorem gL_ {rest : List Oper} {oi : Oper} {a : Act} {w : World} (N : Option Tmp) (hd : oi.dst = N) (hg : oi.guard = none) {f : FuncId} {fn : Func} {ar : Array Operand} {ts : Array TypeId} (hf : P.funcs[f]? = some fn) (args : Array Value)
    (hop : oi.op = .call { callee := .value (.func f), args := ar, argTypes := ts }) (h : Calls P f args w fun e w' => ∃ v, e = .returned v ∧ wpList P ops Q rest (a.put N v) w') (hname : (fn.name == "runtime.NumGoroutine") = false := by kernel_rfl) (hb : fn.body.isSome = true := by rfl)
    (hargs : ar.map a.eval = args := by ((try simp only [List.map_toArray, List.map_cons, List.map_nil]); first | done | rfl | (simp only [List.length_drop, List.length_take]; rfl))) : wpList P ops Q (oi :: rest) a w := goesL_ N hd hg hf hname hb args hop hargs h
theorem gS_ {oi : Oper} {N : Option Tmp} {a : Act} {w : World} {K : Act → World → Prop} {f : FuncId} {fn : Func} {ar : Array Operand} {ts : Array TypeId} (hf : P.funcs[f]? = some fn) (args : Array Value)
    (hN : oi.dst = N) (hop : oi.op = .call { callee := .value (.func f), args := ar, argTypes := ts }) (h : Calls P f args w fun e w' => ∃ v, e = .returned v ∧ K (a.put N v) w') (hname : (fn.name == "runtime.NumGoroutine") = false := by kernel_rfl) (hb : fn.body.isSome = true := by rfl) (hw : Region.wanted oi (yielded ops a.tmps) = true := by rfl)
    (hargs : ar.map a.eval = args := by ((try simp only [List.map_toArray, List.map_cons, List.map_nil]); first | done | rfl | (simp only [List.length_drop, List.length_take]; rfl))) : if Region.wanted oi (yielded ops a.tmps) = true then Oper.wp P oi a w K Q else K (a.put N undef) w := goes_ hf hname hb args hw hN hop hargs h
theorem pu_ {i : Nat} {N : Option Tmp} {oi : Oper} {fuel : Nat} {l : Array Bool} {a : Act} {w : World} (l' : Array Bool) (hi : ops[i]? = some oi) (hN : oi.dst = N) {a' : Act} (h : wpAnyLast P md ops Q S ds fuel l' a' w) (hc : anyB md ops l l' i = true := by kernel_rfl) (hQ : ∀ c a w, Q (.panic c) (a.put oi.dst undef) w → Q (.panic c) a w := by exact fun _ _ _ h => h) (hy : Region.wanted oi (yielded ops a.tmps) = false := by rfl) (ha : a.put N undef = a' := by (simp only [Act.put, sx0, sx1, sx2, i64_w, i32_w]; rfl)) : wpAnyLast P md ops Q S ds (fuel + 1) l a w :=
  pure_ l' hi hN hc hQ (Or.inr ⟨hy, rfl⟩) ha h
theorem pv_ {i : Nat} {N : Option Tmp} {oi : Oper} {fuel : Nat} {l : Array Bool} {a : Act} {w : World} (l' : Array Bool) (hi : ops[i]? = some oi) (hN : oi.dst = N) {a' : Act} {v : Value} (h : wpAnyLast P md ops Q S ds fuel l' a' w) (hc : anyB md ops l l' i = true := by kernel_rfl) (hQ : ∀ c a w, Q (.panic c) (a.put oi.dst v) w → Q (.panic c) a w := by exact fun _ _ _ h => h) (hy : Region.wanted oi (yielded ops a.tmps) = true := by rfl) (hv : ∀ w', (execOp a.eval oi).run P w' = .ok (.value v) w' := by (intro w'; go_simp; with_reducible rfl)) (ha : a.put N v = a' := by (simp only [Act.put, sx0, sx1, sx2, i64_w, i32_w]; rfl)) : wpAnyLast P md ops Q S ds (fuel + 1) l a w :=
  pure_ l' hi hN hc hQ (Or.inl ⟨hy, hv⟩) ha h
end
theorem ix_arr {P : Program} {t e : TypeId} {n : Nat} (h : P.underlying t = some (.array n e)) (w : World) (hz : (sizeOf e).run P w = .ok 1 w) (hg : (isAgg e).run P w = .ok false w) (cs : Array Value) (k : IntKind) (i : Int) (v : Value) (h0 : 0 ≤ i) (h1 : i < n) (hv : cs[i.toNat]? = some v) :
    (Instr.index t (.agg cs) (.int k i)).run P w = .ok v w := by
  simp [Instr.index, run_underlying h, asIntOf, h0, h1, hz, hg, hv, go_sem]
theorem arr_at {α : Type} (enc : α → Value) (d : α) (xs : List α) (i : Nat) (h : i < xs.length) : (xs.map enc).toArray[i]? = some (enc (xs.getD i d)) := by
  simp [List.getD_eq_getElem?_getD, List.getElem?_eq_getElem h]
theorem isSome_setCell (w : World) (a b : Addr) (u : Value) : ((w.setCell b u).cell? a).isSome = (w.cell? a).isSome := by
  simp only [World.cell?, World.setCell, Array.getElem?_modify]
  by_cases h : b.block = a.block
  · rw [if_pos h]
    rcases w.heap[a.block]? with _ | o
    · rfl
    · cases o with
      | cells c e f =>
        simp only [Option.map_some]
        cases a.spot <;> simp
        cases b.spot <;> simp [Array.getElem?_setIfInBounds]
        split
        · rename_i e2
          by_cases hl : a.off < c.size
          · simp [hl, e2]
          · simp [hl, e2]
        · rfl
      | _ => rfl
  · rw [if_neg h]
theorem cell_setCell_any (w : World) (a b : Addr) (u : Value) (h : (w.cell? b).isSome = true) : (w.setCell a u).cell? b = some (if b = a then u else (w.cell? b).getD u) := by
  by_cases e : b = a
  · subst e
    rw [if_pos rfl]
    exact World.cell?_setCell_same' w b u h
  · rw [if_neg e, World.cell?_setCell_other _ _ _ _ (fun h => e (by first | exact h | exact h.symm))]
    cases hc : w.cell? b with
    | none => rw [hc] at h; cases h
    | some v => rfl
theorem leq_strs : ∀ (a b : List UInt8), (Op.bytesLess a b || a == b) = !(Op.bytesLess b a)
  | [], [] => rfl
  | [], _ :: _ => by simp [Op.bytesLess]
  | _ :: _, [] => by simp [Op.bytesLess]
  | x :: xs, y :: ys => by
    have ih := leq_strs xs ys
    simp only [Op.bytesLess]
    by_cases h1 : x < y
    · have h2 : ¬ y < x := by rw [UInt8.lt_iff_toNat_lt] at *; omega
      have h3 : ¬ y = x := by rintro rfl; exact absurd h1 (by rw [UInt8.lt_iff_toNat_lt]; omega)
      simp [h1, h2, h3]
    · by_cases h2 : y < x
      · have h3 : ¬ x = y := by rintro rfl; exact absurd h2 (by rw [UInt8.lt_iff_toNat_lt]; omega)
        simp [h1, h2, h3]
      · have h3 : x = y := by rw [UInt8.lt_iff_toNat_lt] at h1 h2; exact UInt8.toNat_inj.1 (by omega)
        subst h3
        simp only [List.cons_beq_cons, beq_self_eq_true, Bool.true_and]
        simpa [h1] using ih
namespace Kd
theorem C_one {α : Type} {d : Kd α} {w : World} {n : Nat} {xs : List α} {ad : Addr} {z : α} {i : Int} (h : d.C w (some ad) n xs) (h0 : 0 ≤ i) (h1 : i < (xs.length : Int)) : d.C w (some (ad.add (i.toNat * d.sz))) 1 [xs.getD i.toNat z] := by
  obtain ⟨ad', e, hc⟩ := h.2.2 (by have := h.1; omega)
  injection e with e
  subst e
  refine ⟨rfl, by omega, fun _ => ⟨_, rfl, fun j p hj => ?_⟩⟩
  obtain ⟨rfl, rfl⟩ : j = 0 ∧ xs.getD i.toNat z = p := by
    cases j with
    | zero => exact ⟨rfl, by simpa using hj⟩
    | succ j => simp at hj
  obtain ⟨c, hl, hK, hcell⟩ := hc i.toNat _ (List.getElem?_eq_getElem (show i.toNat < xs.length by omega))
  refine ⟨c, hl, ?_, fun i2 u hu => ?_⟩
  · rw [List.getD_eq_getElem?_getD, List.getElem?_eq_getElem (show i.toNat < xs.length by omega)]; exact hK
  · rw [add_add, Nat.zero_mul, Nat.zero_add]; exact hcell i2 u hu
theorem C_one0 {α : Type} {d : Kd α} {w : World} {n : Nat} {xs : List α} {ad : Addr} {z : α} (h : d.C w (some ad) n xs) (h0 : 0 ≤ (0 : Int)) (h1 : 0 < (xs.length : Int)) : d.C w (some ad) 1 [xs.getD (0 : Int).toNat z] := by
  have := C_one (z := z) (i := 0) h h0 h1
  rwa [show (0 : Int).toNat * d.sz = 0 from Nat.zero_mul _, show ad.add 0 = ad from Addr.add_zero' ad] at this
theorem C_box {α : Type} {d : Kd α} {w : World} {g t : Nat} {cs : List Value} {x : α} (hk : d.K w x cs) (hb : w.heap[g]? = some (.cells cs.toArray t (0, 0))) : d.C w (some ⟨g, 0, none⟩) 1 [x] := by
  refine ⟨rfl, by omega, fun _ => ⟨_, rfl, fun j p hj => ?_⟩⟩
  obtain ⟨rfl, rfl⟩ : j = 0 ∧ x = p := by
    cases j with
    | zero => exact ⟨rfl, by simpa using hj⟩
    | succ j => simp at hj
  refine ⟨cs, d.K_len hk, hk, fun i2 u hu => ?_⟩
  rw [Nat.zero_mul, Nat.zero_add, add_plain, blk_cell hb]
  simpa using hu
end Kd

-- proofs by rote behind words
section
variable {p q a b c d e : Prop}
theorem tB (h : Aside0 p) (f : p → q := by intro h; (with_reducible repeat (first | refine blk_drewN ?_ _ | refine blk_drew ?_ | refine blk_alloc ?_ _)); exact h) : q := f h.out
theorem tR (h : Aside0 p) (f : p → q := by intro h; (with_reducible repeat (first | apply qra | apply qrn | apply qrd)); exact h) : q := f h.out
theorem tN (h : Aside0 p) (f : p → q := by intro h; (with_reducible repeat (first | apply Kd.N_alloc | apply Kd.N_drewN | apply Kd.N_drew)); exact h) : q := f h.out
theorem tH (h : Aside0 p) (f : p → q := by intro h; repeat (first | (with_reducible first | exact h | apply qba | apply qbn | apply qb1) | exact h)) : q := f h.out
theorem tH1 (h : Aside0 p) (g : a) (f : p → a → q := by intro h g; repeat (first | (with_reducible first | exact h | apply qba | apply qbn | apply qb1 | refine below_set ?_ g) | exact h)) : q := f h.out g
theorem tH2 (h : Aside0 p) (g : a) (g2 : b) (f : p → a → b → q := by intro h g g2; repeat (first | (with_reducible first | exact h | apply qba | apply qbn | apply qb1 | refine below_set ?_ g | refine below_set ?_ g2) | exact h)) : q := f h.out g g2
theorem tH3 (h : Aside0 p) (g : a) (g2 : b) (g3 : c) (f : p → a → b → c → q := by intro h g g2 g3; repeat (first | (with_reducible first | exact h | apply qba | apply qbn | apply qb1 | refine below_set ?_ g | refine below_set ?_ g2 | refine below_set ?_ g3) | exact h)) : q := f h.out g g2 g3
theorem tH4 (h : Aside0 p) (g : a) (g2 : b) (g3 : c) (g4 : d) (f : p → a → b → c → d → q := by intro h g g2 g3 g4; repeat (first | (with_reducible first | exact h | apply qba | apply qbn | apply qb1 | refine below_set ?_ g | refine below_set ?_ g2 | refine below_set ?_ g3 | refine below_set ?_ g4) | exact h)) : q := f h.out g g2 g3 g4
theorem tK (h : Aside0 p) (f : p → q := by intro h; repeat (first | (with_reducible first | exact h | apply qks | apply qkn | apply qkd | apply qka) | exact h)) : q := f h.out
theorem tK1 (h : Aside0 p) (g : Aside0 a) (f : p → Aside0 a → q := by intro h g; repeat (first | (with_reducible first | exact h | apply qks | apply qkn | apply qkd | apply qka | refine keep_far ?_ g.out _) | exact h)) : q := f h.out g
theorem tK2 (h : Aside0 p) (g : Aside0 a) (g2 : Aside0 b) (f : p → Aside0 a → Aside0 b → q := by intro h g g2; repeat (first | (with_reducible first | exact h | apply qks | apply qkn | apply qkd | apply qka | refine keep_far ?_ g.out _ | refine keep_far ?_ g2.out _) | exact h)) : q := f h.out g g2
theorem tC (h : p) (f : p → q := by intro h; repeat (first | exact h | (with_reducible refine Kd.C_alloc ?_ _) | (with_reducible refine Kd.C_drewN ?_ _) | (with_reducible refine Kd.C_drew ?_))) : q := f h
theorem tW {n : Nat} {w w' : World} {x : Addr} {v : Value} (h : Aside0 (Below n w w')) (e : w.cell? x = some v) (f : w'.cell? x = some v → q := by exact fun h => h) (hn : w.heap.size ≤ n := by exact Nat.le_refl _) : q := f ((h.out.cell (Nat.lt_of_lt_of_le (World.block_lt_of_cell? w _ e) hn)).trans e)
theorem tq (f : q := by first | rfl | (simp; done) | (simp [*]; done)) : q := f
theorem tA (f : q := by first | (with_reducible assumption) | assumption) : q := f
theorem tE (f : q := by first | rfl | (simp [errW_none, errW_some] <;> rfl) | (simp [*, errW_none, errW_some] <;> rfl)) : q := f
theorem tD (f : q := by first | exact ⟨rfl, _, qww _ _ _⟩ | exact ⟨rfl, _, Eq.trans (qww _ _ _) (congrArg (World.drewN _) (Nat.add_assoc _ _ _))⟩) : q := f
theorem tZ (f : q := by repeat (first | exact Drawn0.refl _ | apply Drawn0.step)) : q := f
theorem tKB {w w1 w2 : World} {g g' : Nat} {row : Option Nat} {o : Obj} (hk : KeepBut w1 w2 g row) (h : Aside0 (w.heap[g']? = some o)) (hg : g' ≠ g) (f : w.heap[g']? = some o → w1.heap[g']? = some o := by intro h; (with_reducible repeat (first | refine blk_drewN ?_ _ | refine blk_drew ?_ | refine blk_alloc ?_ _)); exact h) (hr : some g' ≠ row := by simp) : Aside0 (w2.heap[g']? = some o) := ⟨hk.blk (f h.out) hg hr⟩
theorem tbB {w w1 w2 : World} {g : Nat} {o : Obj} (h : Aside0 (w.heap[g]? = some o)) (hb : Below w1.heap.size w1 w2) (f : w.heap[g]? = some o → w1.heap[g]? = some o := by intro h; (with_reducible repeat (first | refine blk_drewN ?_ _ | refine blk_drew ?_ | refine blk_alloc ?_ _)); exact h) : Aside0 (w2.heap[g]? = some o) := ⟨blk_below (f h.out) hb⟩
section
variable {P : Program} {ops : Array Oper} {Q : Exit → Act → World → Prop} {md : Region.Mode} {S : World → Prop} {ds : List Nat} {T : Bool × List (List Nat × List Nat)}
theorem pT {B : List Nat} (i : Nat) (N : Option Tmp) {oi : Oper} {v : Value} {fuel : Nat} {l : Array Bool} {a : Act} {w : World} (l' : Array Bool) (hi : ops[i]? = some oi) (hN : oi.dst = N) (hT : Aside0 (rtab md ops = T)) (hB : Aside0 (waitsOk T.2 B = true)) (hS : S w) {a' : Act} (h : wpAnyLast P md ops Q S ds fuel l' a' w) (hc : takeW T B ds l.toList l'.toList i = true := by kernel_rfl) (hQ : ∀ c a w, Q (.panic c) (a.put oi.dst v) w → Q (.panic c) a w := by exact fun _ _ _ h => h) (hy : Region.wanted oi (yielded ops a.tmps) = true := by rfl) (hv : ∀ w', S w' → (execOp a.eval oi).run P w' = .ok (.value v) w' := by (intro w' s; (repeat' (obtain ⟨_, s⟩ := s)); go_simp; with_reducible rfl)) (ha : a.put N v = a' := by (simp only [Act.put, sx0, sx1, sx2, i64_w, i32_w]; rfl)) : wpAnyLast P md ops Q S ds (fuel + 1) l a w :=
  take_ l' hi hN (take_ofW hT.out hB.out hc) hQ (Or.inl ⟨hy, hv⟩) hS ha h
theorem pO (i : Nat) (N : Option Tmp) {oi : Oper} {fuel : Nat} {l : Array Bool} {a : Act} {w : World} (l' : Array Bool) (hi : ops[i]? = some oi) (hN : oi.dst = N) (hT : Aside0 (rtab md ops = T)) (h : ∀ K : Act → World → Prop, Shut (∀ a' w', S w' → (S w' → wpAnyLast P md ops Q S ds fuel l' a' w') → K a' w') → if Region.wanted oi (yielded ops a.tmps) = true then Oper.wp P oi a w K Q else K (a.put N undef) w) (hc : (readyT T.2 l.toList == [i] && l.toList.set i true == l'.toList) = true := by kernel_rfl) (hd : i ∉ ds := by decide) : wpAnyLast P md ops Q S ds (fuel + 1) l a w :=
  one_ l' hi hN (one_of hT.out hc) hd h
theorem nO (N : Option Tmp) {fuel : Nat} {l : Array Bool} {a a' : Act} {v : Value} {w : World} (h : wpAnyLast P md ops Q S ds fuel l a' w) (ha : a.put N v = a' := by (simp only [Act.put, sx0, sx1, sx2, i64_w, i32_w]; rfl)) : wpAnyLast P md ops Q S ds fuel l (a.put N v) w := norm_ ha h
theorem pV (i : Nat) (N : Option Tmp) {oi : Oper} {fuel : Nat} {l : Array Bool} {a : Act} {w : World} (l' : List Nat) (hi : ops[i]? = some oi) (hN : oi.dst = N) (hT : Aside0 (rtab md ops = T)) {a' : Act} {v : Value} (h : wpAnyLast P md ops Q S ds fuel (bq l') a' w) (hc : anyT T l.toList (bq l').toList i = true := by kernel_rfl) (hQ : ∀ c a w, Q (.panic c) (a.put oi.dst v) w → Q (.panic c) a w := by exact fun _ _ _ h => h) (hy : Region.wanted oi (yielded ops a.tmps) = true := by rfl) (hv : ∀ w', (execOp a.eval oi).run P w' = .ok (.value v) w' := by (intro w'; go_simp; with_reducible rfl)) (ha : a.put N v = a' := by (simp only [Act.put, sx0, sx1, sx2, i64_w, i32_w]; rfl)) : wpAnyLast P md ops Q S ds (fuel + 1) l a w := pure_ (bq l') hi hN (any_of hT.out hc) hQ (Or.inl ⟨hy, hv⟩) ha h
theorem pU (i : Nat) (N : Option Tmp) {oi : Oper} {fuel : Nat} {l : Array Bool} {a : Act} {w : World} (l' : List Nat) (hi : ops[i]? = some oi) (hN : oi.dst = N) (hT : Aside0 (rtab md ops = T)) {a' : Act} (h : wpAnyLast P md ops Q S ds fuel (bq l') a' w) (hc : anyT T l.toList (bq l').toList i = true := by kernel_rfl) (hQ : ∀ c a w, Q (.panic c) (a.put oi.dst undef) w → Q (.panic c) a w := by exact fun _ _ _ h => h) (hy : Region.wanted oi (yielded ops a.tmps) = false := by rfl) (ha : a.put N undef = a' := by (simp only [Act.put, sx0, sx1, sx2, i64_w, i32_w]; rfl)) : wpAnyLast P md ops Q S ds (fuel + 1) l a w := pure_ (bq l') hi hN (any_of hT.out hc) hQ (Or.inr ⟨hy, rfl⟩) ha h
end
theorem t0n : (0 : Int).toNat = 0 := rfl
theorem t1n : (1 : Int).toNat = 1 := rfl
theorem t2n : (2 : Int).toNat = 2 := rfl
theorem t3n : (3 : Int).toNat = 3 := rfl
theorem t4n : (4 : Int).toNat = 4 := rfl
theorem t5n : (5 : Int).toNat = 5 := rfl
theorem t6n : (6 : Int).toNat = 6 := rfl
end
end Go.Proofs.Ytcfcohfniibpdaa.PR
