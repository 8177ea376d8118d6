/- A reading of Go functions as functions on plain values, and the proof that it is right, part 0. -/
import Derived.Calls
import Derived.Orders
import Derived.KernelRfl
import Derived.RowKit
/- A functional reading of Go functions: values are numbers, truths, texts, lists and records; memory is read away. -/
namespace Go.Proofs.Yticifedehhnjhaa.Eng
open Go

/-! ### values -/
inductive Ty where
  | int (k : IntKind) | bool | str | unit | sl (e : Ty) | pair (a b : Ty)
@[reducible] def Ty.den : Ty → Type
  | .int _ => Int | .bool => Bool | .str => ByteArray | .unit => Unit | .sl e => List e.den | .pair a b => a.den × b.den
def Ty.sz : Ty → Nat
  | .unit => 0 | .pair _ b => b.sz + 1 | _ => 1
def Ty.dflt : (t : Ty) → t.den
  | .int _ => (0 : Int) | .bool => false | .str => ByteArray.empty | .unit => () | .sl _ => [] | .pair a b => (a.dflt, b.dflt)
def Ty.beq : Ty → Ty → Bool
  | .int k, .int k' => decide (k = k')
  | .bool, .bool => true | .str, .str => true | .unit, .unit => true
  | .sl e, .sl e' => e.beq e'
  | .pair a b, .pair a' b' => a.beq a' && b.beq b'
  | _, _ => false
theorem Ty.eq_of_beq : ∀ a b : Ty, a.beq b = true → a = b := by
  intro a
  induction a with
  | int k => intro b h; cases b <;> simp [Ty.beq] at h <;> simp [h]
  | bool => intro b h; cases b <;> simp [Ty.beq] at h <;> rfl
  | str => intro b h; cases b <;> simp [Ty.beq] at h <;> rfl
  | unit => intro b h; cases b <;> simp [Ty.beq] at h <;> rfl
  | sl e ih => intro b h; cases b <;> simp [Ty.beq] at h; rw [ih _ h]
  | pair a b iha ihb => intro c h; cases c <;> simp [Ty.beq] at h; rw [iha _ h.1, ihb _ h.2]
def Ty.cast (a b : Ty) (x : a.den) : Option b.den := if h : a.beq b = true then some (Ty.eq_of_beq a b h ▸ x) else none
structure SV where
  t : Ty
  x : t.den
inductive Ref where
  | tm (t g : Nat) | bf (b g off lg : Nat) | tp (t g i : Nat)
def Ref.beq : Ref → Ref → Bool
  | .tm t g, .tm t' g' => Nat.beq t t' && Nat.beq g g'
  | .bf b g o l, .bf b' g' o' l' => Nat.beq b b' && (Nat.beq g g' && (Nat.beq o o' && Nat.beq l l'))
  | _, _ => false
inductive Leaf where
  | v (t : Ty) (x : t.den)
  | own (e : Ty) (xs : List e.den)
  | al (r : Ref)
  | sub (r : Ref) (s : Nat) (lo hi : Int)
  | pb (b g off : Nat)
  | pe (r : Ref) (s : Nat) (i : Int) (off : Nat)
  | ps (t : Ty) (x : t.den)
  | fn (f : Nat) (caps : List SV)
  | fnp (f : Nat) (caps : List (Nat × Nat × Nat))
  | nil (e : Ty)
  | nilp
  | nq (b : Bool)
  | undef
inductive AV where
  | cv (agg : Bool) (ls : List Leaf)
  | tup (cs : List (Bool × List Leaf))
inductive Cell where
  | tm (g : Nat) (a : AV)
  | bx (g : Nat) (ls : List (Nat × Leaf))
inductive Key where
  | tm (t : Nat) | bx (b : Nat)
def Key.beq : Key → Key → Bool
  | .tm a, .tm b => Nat.beq a b
  | .bx a, .bx b => Nat.beq a b
  | _, _ => false
abbrev St := Key → Cell
def upd (st : St) (k : Key) (c : Cell) : St := fun k' => bif Key.beq k k' then c else st k'
def st0 : St := fun k => match k with | .tm _ => .tm 0 (.tup []) | .bx _ => .bx 0 []
inductive Arg where
  | cv (agg : Bool) (ls : List Leaf) | io (ls : List Leaf)
structure Req where
  f : Nat
  args : List Arg
/-- The shape of what a function returns: one value or several; how many leaves each has, and whether it is a record; the leaves' kinds; how many leaves each variable has that is handed back. -/
inductive LS where
  | v (t : Ty) | own (e : Ty)
@[reducible] def LS.den : LS → Type | .v t => t.den | .own e => List e.den
structure Sh where
  tup : Bool
  vars : List (Bool × Nat)
  ls : List LS
  ios : List Nat
  bxr : Bool
@[reducible] def lsDen : List LS → Type
  | [] => Unit
  | [a] => a.den
  | a :: b :: r => a.den × lsDen (b :: r)
@[reducible] def Sh.den (s : Sh) : Type := lsDen s.ls
structure Res where
  a : AV
  ios : List (List Leaf)
inductive G (α : Type) where
  | ret (a : α) | fail
  | get (k : Key) (f : Cell → G α)
  | set (k : Key) (c : Cell) (g : G α)
  | call (q : Req) (f : Res → G α)
  | ite (c : Bool) (a b : G α)
  | br (t : Nat) (a b u : G α)
def G.bind {α β : Type} : G α → (α → G β) → G β
  | .ret a, h => h a
  | .fail, _ => .fail
  | .get k f, h => .get k fun c => (f c).bind h
  | .set k c g, h => .set k c (g.bind h)
  | .call q f, h => .call q fun r => (f r).bind h
  | .ite c a b, h => .ite c (a.bind h) (b.bind h)
  | .br t a b u, h => .br t (a.bind h) (b.bind h) (u.bind h)
instance : Monad G where
  pure := G.ret
  bind := G.bind
def G.opt {α : Type} : Option α → G α | some a => .ret a | none => .fail
def LS.enc : (s : LS) → s.den → Leaf
  | .v t, x => .v t x
  | .own e, xs => .own e xs
def LS.dec : (s : LS) → Leaf → Option s.den
  | .v t, .v t' x => t'.cast t x
  | .v t, .own e xs => Ty.cast (.sl e) t xs
  | .v (.sl _), .nil _ => some []
  | .own e, .own e' xs => Ty.cast (.sl e') (.sl e) xs
  | .own _, .nil _ => some []
  | _, _ => none
def lsEnc : (l : List LS) → lsDen l → List Leaf
  | [], _ => []
  | [a], x => [a.enc x]
  | a :: b :: r, x => a.enc x.1 :: lsEnc (b :: r) x.2
def lsDec : (l : List LS) → List Leaf → Option (lsDen l)
  | [], [] => some ()
  | [a], [x] => a.dec x
  | a :: b :: r, x :: q => (a.dec x).bind fun x => (lsDec (b :: r) q).bind fun y => some (x, y)
  | _, _ => none
def parts {α : Type} : List Nat → List α → List (List α)
  | [], _ => []
  | n :: r, l => l.take n :: parts r (l.drop n)
def varsOf : List (Bool × Nat) → List Leaf → List (Bool × List Leaf)
  | [], _ => []
  | (b, n) :: r, l => (b, l.take n) :: varsOf r (l.drop n)
def cntVars : List (Bool × Nat) → Nat
  | [] => 0
  | (_, n) :: r => n + cntVars r
def Sh.enc (s : Sh) (x : s.den) : Res :=
  let l := lsEnc s.ls x
  ⟨match s.tup, varsOf s.vars l with
    | false, (b, ls) :: _ => .cv b ls
    | _, vs => .tup vs, parts s.ios (l.drop (cntVars s.vars))⟩
def Sh.dec (s : Sh) (vs : List (Bool × List Leaf)) (ios : List (List Leaf)) : Option s.den :=
  bif decide (vs.map (fun v => (v.1, v.2.length)) = s.vars) && (decide (ios.map (·.length) = s.ios) && (s.bxr || (bif s.tup then !Nat.beq vs.length 1 else Nat.beq vs.length 1))) then lsDec s.ls (vs.flatMap (·.2) ++ ios.flatten) else none
def gIf {α : Type} (c : Bool) (a b : α) : α := if c = true then a else b
def gBind {α β : Type} (x : Option α) (f : α → Option β) : Option β := x.bind f
def runG {α R : Type} {D : Nat → Sh} (rec : (q : Req) → Option (D q.f).den) : G α → St → List (Bool × Key) → (α → St → List (Bool × Key) → Option R) → Option R
  | .ret a, st, tr, K => K a st tr
  | .fail, _, _, _ => none
  | .get k f, st, tr, K => runG rec (f (st k)) st ((false, k) :: tr) K
  | .set k c g, st, tr, K => runG rec g (upd st k c) ((true, k) :: tr) K
  | .call q f, st, tr, K => gBind (rec q) fun x => runG rec (f ((D q.f).enc x)) st tr K
  | .ite c a b, st, tr, K => gIf c (runG rec a st tr K) (runG rec b st tr K)
  | .br t a b u, st, tr, K => match st (.tm t) with
    | .tm g (.cv false [.v .bool x]) => gIf x (runG rec a (upd st (.tm t) (.tm g (.cv false [.v .bool true]))) ((false, .tm t) :: tr) K) (runG rec b (upd st (.tm t) (.tm g (.cv false [.v .bool false]))) ((false, .tm t) :: tr) K)
    | .tm _ (.cv false [.undef]) => runG rec u st ((false, .tm t) :: tr) K
    | _ => none

/-! ### the operations on values -/
def wAdd (k : IntKind) (a b : Int) : Int := k.wrap (a + b)
def wSub (k : IntKind) (a b : Int) : Int := k.wrap (a - b)
def wMul (k : IntKind) (a b : Int) : Int := k.wrap (a * b)
def wQuo (k : IntKind) (a b : Int) : Int := k.wrap (a.tdiv b)
def vRem (a b : Int) : Int := a.tmod b
def wShl (k : IntKind) (a b : Int) : Int := k.wrap (a * 2 ^ (min b.toNat k.bits))
def vShr (k : IntKind) (a b : Int) : Int := a.fdiv (2 ^ (min b.toNat k.bits))
def wAnd (k : IntKind) (a b : Int) : Int := k.wrap (BitVec.ofInt k.bits a &&& BitVec.ofInt k.bits b).toNat
def wOr (k : IntKind) (a b : Int) : Int := k.wrap (BitVec.ofInt k.bits a ||| BitVec.ofInt k.bits b).toNat
def wXor (k : IntKind) (a b : Int) : Int := k.wrap (BitVec.ofInt k.bits a ^^^ BitVec.ofInt k.bits b).toNat
def wConv (k : IntKind) (a : Int) : Int := k.wrap a
def vEq (a b : Int) : Bool := decide (a = b)
def vLt (a b : Int) : Bool := decide (a < b)
def vLe (a b : Int) : Bool := decide (a ≤ b)
def vNot (a : Bool) : Bool := !a
def vBq (a b : Bool) : Bool := a == b
def sApp (a b : ByteArray) : ByteArray := a ++ b
def sEq (a b : ByteArray) : Bool := a.toList == b.toList
def sLt (a b : ByteArray) : Bool := Op.bytesLess a.toList b.toList
def sLe (a b : ByteArray) : Bool := Op.bytesLess a.toList b.toList || a.toList == b.toList
def sLen (a : ByteArray) : Int := (a.size : Int)
def sBig (a b : ByteArray) : Bool := !Nat.ble (a.size + b.size) 9223372036854775807
def sCut (s : ByteArray) (l h : Int) : ByteArray := s.extract l.toNat h.toNat
def byteAt (s : ByteArray) (i : Int) : Int := if h : i.toNat < s.size then ((s[i.toNat]'h).toNat : Int) else 0
def bytesOf (s : ByteArray) : List Int := s.toList.map fun b => (b.toNat : Int)
def sOf (xs : List Int) : ByteArray := ⟨(xs.map fun n => UInt8.ofNat n.toNat).toArray⟩
def vLen {α : Type} (xs : List α) : Int := (xs.length : Int)
def vGet {α : Type} (xs : List α) (i : Int) (d : α) : α := xs.getD i.toNat d
def vSet {α : Type} (xs : List α) (i : Int) (y : α) : List α := xs.set i.toNat y
def vApp {α : Type} (xs ys : List α) : List α := xs ++ ys
def vRep {α : Type} (n : Int) (d : α) : List α := List.replicate n.toNat d
def cut {α : Type} (xs : List α) (lo hi : Int) : List α := (xs.take hi.toNat).drop lo.toNat
def vSub (a b : Int) : Int := a - b
def vAdd (a b : Int) : Int := a + b
def inR (i n : Int) : Bool := decide (0 ≤ i ∧ i < n)
def cutOk (lo hi n : Int) : Bool := decide (0 ≤ lo ∧ lo ≤ hi ∧ hi ≤ n)
def makeOk (n c : Int) (bytes : Nat) : Bool := decide (0 ≤ n) && (decide (n ≤ c) && Nat.ble (c.toNat * bytes) 140737488351232)
def appOk (n m : Int) (bytes : Nat) : Bool := Nat.ble ((n + m).toNat * bytes) 140737488351232
def vMin (a b : Int) : Int := if b < a then b else a
def vMax (a b : Int) : Int := if b > a then b else a

/-! ### typed values and their leaves -/
def svOf : (t : Ty) → t.den → List SV
  | .pair a b, x => ⟨a, x.1⟩ :: svOf b x.2
  | .unit, _ => []
  | .int k, x => [⟨.int k, x⟩]
  | .bool, x => [⟨.bool, x⟩]
  | .str, x => [⟨.str, x⟩]
  | .sl e, x => [⟨.sl e, x⟩]
def toTy : (t : Ty) → List SV → Option t.den
  | .pair a b, s :: r => (s.t.cast a s.x).bind fun x => (toTy b r).map fun y => (x, y)
  | .pair _ _, [] => none
  | .unit, [] => some ()
  | .unit, _ :: _ => none
  | t, [s] => s.t.cast t s.x
  | _, _ => none
def Leaf.ofSV (s : SV) : Leaf := .v s.t s.x
def ofTy (t : Ty) (x : t.den) : List Leaf := (svOf t x).map Leaf.ofSV
def splice {α : Type} (l : List α) (off : Nat) (r : List α) : List α := l.take off ++ r ++ l.drop (off + r.length)
/-- What is told of a type: its leaves, its fields' places and types, its elements' type, whether it is a record, its bytes. -/
structure TD where
  ty : Ty
  agg : Bool
  offs : List Nat
  ftys : List Nat
  elem : Nat
  bytes : Nat
structure Cfg where
  P : Program
  tt : Nat → Option TD
  sig : Nat → List Nat
  sh : Nat → Sh
  cuts : Nat → Nat → Option (List (Nat × Nat) × List Nat)

/-! ### operands -/
def constLeaf : Value → Option Leaf
  | .int k n => some (.v (.int k) n)
  | .bool b => some (.v .bool b)
  | .string s => some (.v .str s)
  | .slice none 0 0 => some (.nil .unit)
  | .pointer none => some .nilp
  | _ => none
def opd : Operand → G AV
  | .tmp t => .get (.tm t) fun
    | .tm g (.cv false [.own _ _]) => .ret (.cv false [.al (.tm t g)])
    | .tm _ (.cv ag ls) => .ret (.cv ag ls)
    | _ => .fail
  | .const v => match constLeaf v with | some l => .ret (.cv false [l]) | none => .fail
  | .func f => .ret (.cv false [.fn f []])
  | .global _ => .fail
def one : AV → G Leaf
  | .cv false [l] => .ret l
  | _ => .fail
def opd1 (o : Operand) : G Leaf := (opd o).bind one
def getTm {α : Type} (t : Nat) (f : Nat → AV → G α) : G α := .get (.tm t) fun | .tm g a => f g a | .bx _ _ => .fail
def getBx {α : Type} (b : Nat) (f : Nat → List (Nat × Leaf) → G α) : G α := .get (.bx b) fun | .bx g ls => f g ls | .tm _ _ => .fail
/-- Writes a temporary; what was there before is forgotten. -/
def put (d : Nat) (a : AV) : G Unit := getTm d fun g _ => .set (.tm d) (.tm (g + 1) a) (.ret ())
def putO (d : Option Nat) (a : AV) : G Unit := match d with | some d => put d a | none => .ret ()
def content : Ref → G Leaf
  | .tm t g => getTm t fun g' a => bif Nat.beq g g' then one a else .fail
  | .tp _ _ _ => .fail
  | .bf b g off lg => getBx b fun g' ls => bif Nat.beq g g' then (match ls[off]? with | some (lg', l) => bif Nat.beq lg lg' then .ret l else .fail | none => .fail) else .fail
def resolve : Nat → Ref → G (Ref × Leaf)
  | 0, _ => .fail
  | n + 1, r => (content r).bind fun | .al r' => resolve n r' | l => .ret (r, l)
/-- Puts a leaf in a place that is known. -/
def setRef (r : Ref) (l : Leaf) : G Unit := match r with
  | .tm t g => .set (.tm t) (.tm g (.cv false [l])) (.ret ())
  | .bf b g off lg => getBx b fun _ ls => .set (.bx b) (.bx g (ls.set off (lg, l))) (.ret ())
  | .tp _ _ _ => .fail
inductive SlV where
  | st (e : Ty) (xs : List e.den)
  | ow (r : Ref) (e : Ty) (xs : List e.den)
  | sub (r : Ref) (e : Ty) (xs : List e.den) (lo hi : Int)
  | nil
def slv : Leaf → G SlV
  | .v (.sl e) xs => .ret (.st e xs)
  | .al r => (resolve 8 r).bind fun | (r, .own e xs) => .ret (.ow r e xs) | (_, .v (.sl e) xs) => .ret (.st e xs) | (_, .nil e) => .ret (.st e []) | _ => .fail
  | .sub r s lo hi => (resolve 8 r).bind fun | (r, .own e xs) => bif Nat.beq s e.sz then .ret (.sub r e xs lo hi) else .fail | (_, .v (.sl e) xs) => bif Nat.beq s e.sz then .ret (.st e (cut xs lo hi)) else .fail | _ => .fail
  | .nil _ => .ret .nil
  | _ => .fail
def stabSl : SlV → G SV
  | .st e xs => .ret ⟨.sl e, xs⟩
  | .ow r e xs => (setRef r (.v (.sl e) xs)).bind fun _ => .ret ⟨.sl e, xs⟩
  | .sub r e xs lo hi => (setRef r (.v (.sl e) xs)).bind fun _ => .ret ⟨.sl e, cut xs lo hi⟩
  | .nil => .fail
def valSl : SlV → G SV
  | .st e xs => .ret ⟨.sl e, xs⟩ | .ow _ e xs => .ret ⟨.sl e, xs⟩ | .sub _ e xs lo hi => .ret ⟨.sl e, cut xs lo hi⟩ | .nil => .fail
/-- The value of a leaf, read where it lies. -/
def valOf (want : Ty) : Leaf → G SV
  | .v t x => .ret ⟨t, x⟩
  | .nil _ => (match want with | .sl e => .ret ⟨.sl e, []⟩ | _ => .fail)
  | l => (slv l).bind valSl
/-- The value of a leaf that shall stay: what it lies in is not written any more. -/
def stab (want : Ty) : Leaf → G SV
  | .v t x => .ret ⟨t, x⟩
  | .nil _ => (match want with | .sl e => .ret ⟨.sl e, []⟩ | _ => .fail)
  | l => (slv l).bind stabSl
def tys : Ty → List Ty
  | .pair a b => a :: tys b
  | .unit => []
  | t => [t]
def stabs : List Ty → List Leaf → G (List SV)
  | t :: ts, l :: ls => (stab t l).bind fun x => (stabs ts ls).bind fun r => .ret (x :: r)
  | [], [] => .ret []
  | _, _ => .fail
def leavesOf : AV → G (List Leaf)
  | .cv _ ls => .ret ls
  | .tup _ => .fail
def zeroLeaf : Ty → Leaf
  | .sl e => .nil e
  | t => .v t t.dflt
def zeroLeaves (t : Ty) : List Leaf := (tys t).map zeroLeaf

/-! ### operations -/
def tdP (C : Cfg) (t : Nat) : G TD := G.opt (C.tt t)
def isUnit : Ty → Bool | .unit => true | _ => false
/-- What is told of a type of values. -/
def tdOf (C : Cfg) (t : Nat) : G TD := (tdP C t).bind fun td => bif isUnit td.ty then .fail else .ret td
def elemTy (C : Cfg) (t : Nat) : G TD := (tdP C t).bind fun td => tdOf C td.elem
/-- The elements' type of a type of slices. -/
def elemSl (C : Cfg) (t : Nat) : G TD := (tdOf C t).bind fun td => match td.ty with | .sl _ => tdOf C td.elem | _ => .fail
/-- The text of a row of bytes. -/
def sBytes (C : Cfg) (s : Nat) (a : Leaf) : G ByteArray := (elemSl C s).bind fun ed => match ed.ty with
  | .int .u8 => (valOf (.sl (.int .u8)) a).bind fun y => (G.opt (y.t.cast (.sl (.int .u8)) y.x)).bind fun xs => .ret (sOf xs)
  | _ => .fail
/-- A row moves from one temporary to another, which it then stands for. -/
def moveG (s g d : Nat) (e : Ty) (xs : List e.den) : G Unit := bif Nat.beq s d then .ret () else
  (setRef (.tm s g) .undef).bind fun _ => (put d (.cv false [.own e xs])).bind fun _ => getTm d fun gd _ => setRef (.tm s g) (.al (.tm d gd))
def assignA (d : Nat) (s : Nat) (g : Nat) : AV → G Unit
  | .cv false [.own e xs] => moveG s g d e xs
  | .cv false [.al r] => (resolve 8 r).bind fun
    | (.tm s' g', .own e xs) => moveG s' g' d e xs
    | (_, .v t x) => put d (.cv false [.v t x])
    | (r', _) => put d (.cv false [.al r'])
  | .cv false [.sub r z lo hi] => (slv (.sub r z lo hi)).bind fun
    | .sub (.tm s' _) e xs lo2 hi2 => bif Nat.beq s' d then put d (.cv false [.own e (cut xs lo2 hi2)]) else put d (.cv false [.sub r z lo hi])
    | _ => put d (.cv false [.sub r z lo hi])
  | .cv false [.nil e] => put d (.cv false [.own e []])
  | .cv ag ls => put d (.cv ag ls)
  | .tup _ => .fail
def assignG (C : Cfg) (d : Nat) (o : Operand) (type : Nat) : G Unit := match o with
  | .tmp s => getTm s fun g a => assignA d s g a
  | o => (opd o).bind fun
    | .cv false [.nil _] => (elemTy C type).bind fun td => put d (.cv false [.own td.ty []])
    | .cv ag ls => put d (.cv ag ls)
    | .tup _ => .fail
def bin (op : BinOp) : Leaf → Leaf → G Leaf
  | .v (.int k) a, .v (.int k') b => match op with
    | .shl => .ite (vLt b 0) .fail (.ret (.v (.int k) (wShl k a b)))
    | .shr => .ite (vLt b 0) .fail (.ret (.v (.int k) (vShr k a b)))
    | op => bif decide (k = k') then (match op with
      | .add => .ret (.v (.int k) (wAdd k a b))
      | .sub => .ret (.v (.int k) (wSub k a b))
      | .mul => .ret (.v (.int k) (wMul k a b))
      | .quo => .ite (vEq b 0) .fail (.ret (.v (.int k) (wQuo k a b)))
      | .rem => .ite (vEq b 0) .fail (.ret (.v (.int k) (vRem a b)))
      | .and => .ret (.v (.int k) (wAnd k a b))
      | .or => .ret (.v (.int k) (wOr k a b))
      | .xor => .ret (.v (.int k) (wXor k a b))
      | .eql => .ret (.v .bool (vEq a b))
      | .neq => .ret (.v .bool (vNot (vEq a b)))
      | .lss => .ret (.v .bool (vLt a b))
      | .leq => .ret (.v .bool (vLe a b))
      | .gtr => .ret (.v .bool (vLt b a))
      | .geq => .ret (.v .bool (vLe b a))
      | _ => .fail) else .fail
  | .v .str a, .v .str b => match op with
    | .add => .ite (sBig a b) .fail (.ret (.v .str (sApp a b)))
    | .eql => .ret (.v .bool (sEq a b))
    | .neq => .ret (.v .bool (vNot (sEq a b)))
    | .lss => .ret (.v .bool (sLt a b))
    | .leq => .ret (.v .bool (sLe a b))
    | .gtr => .ret (.v .bool (vNot (sLe a b)))
    | .geq => .ret (.v .bool (vNot (sLt a b)))
    | _ => .fail
  | _, _ => .fail
/-- Whether a row is nil: not told of an empty one. -/
def nilQ (op : BinOp) (t : Ty) (a : Leaf) : G Leaf := match op, t with
  | .eql, .sl _ => (slv a).bind fun
    | .st _ xs => .ret (.nq (vEq (vLen xs) 0))
    | .ow _ _ xs => .ret (.nq (vEq (vLen xs) 0))
    | .nil => .ret (.v .bool true)
    | .sub _ _ _ _ _ => .fail
  | _, _ => .fail
/-- Two truths compared: their type is asked. -/
def binB (op : BinOp) (ty : Ty) (a b : Bool) : G Leaf := match ty, op with
  | .bool, .eql => .ret (.v .bool (vBq a b))
  | .bool, .neq => .ret (.v .bool (vNot (vBq a b)))
  | _, _ => .fail
def un (op : UnOp) : Leaf → G Leaf
  | .v .bool a => match op with | .not => .ret (.v .bool (vNot a)) | _ => .fail
  | .v (.int k) a => match op with | .neg => .ret (.v (.int k) (wSub k 0 a)) | _ => .fail
  | _ => .fail
def leafAt (b g : Nat) (ls : List (Nat × Leaf)) (j : Nat) : Leaf := match ls[j]? with
  | some (lg, .own _ _) => .al (.bf b g j lg)
  | some (_, l) => l
  | none => .undef
def loadG (C : Cfg) (t : Nat) (l : Leaf) : G AV := (tdOf C t).bind fun td => match l with
  | .pb b g off => getBx b fun g' ls => bif Nat.beq g g' && Nat.ble (off + td.ty.sz) ls.length then .ret (.cv td.agg ((List.range' off td.ty.sz).map (leafAt b g ls))) else .fail
  | .ps t x => (G.opt (t.cast td.ty x)).bind fun y => .ret (.cv td.agg (ofTy td.ty y))
  | .pe r s i off => (resolve 8 r).bind fun
    | (_, .own e xs) => bif Nat.beq s e.sz then (G.opt (toTy td.ty (((svOf e (vGet xs i e.dflt)).drop off).take td.ty.sz))).bind fun y => .ret (.cv td.agg (ofTy td.ty y)) else .fail
    | _ => .fail
  | _ => .fail
/-- A leaf comes to a cell of a record's box. -/
def finLeaf (b g j lg : Nat) (l : Leaf) : G Unit := getBx b fun _ ls => .set (.bx b) (.bx g (ls.set j (lg + 1, l))) (.ret ())
def storeL (b g j lg : Nat) (t : Ty) : Leaf → G Unit
  | .al r => (resolve 8 r).bind fun
    | (.tm s g', .own e xs) => (setRef (.tm s g') .undef).bind fun _ => (finLeaf b g j lg (.own e xs)).bind fun _ => setRef (.tm s g') (.al (.bf b g j (lg + 1)))
    | (r', .own e xs) => bif Ref.beq r' (.bf b g j lg) then .ret () else (setRef r' (.v (.sl e) xs)).bind fun _ => finLeaf b g j lg (.v (.sl e) xs)
    | (_, .v t x) => finLeaf b g j lg (.v t x)
    | _ => .fail
  | .sub r s lo hi => (slv (.sub r s lo hi)).bind fun
    | .sub r' e xs lo hi => bif Ref.beq r' (.bf b g j lg) then finLeaf b g j lg (.own e (cut xs lo hi)) else (setRef r' (.v (.sl e) xs)).bind fun _ => finLeaf b g j lg (.v (.sl e) (cut xs lo hi))
    | .st e xs => finLeaf b g j lg (.v (.sl e) xs)
    | _ => .fail
  | .nil _ => (match t with | .sl e => finLeaf b g j lg (.own e []) | _ => .fail)
  | .own _ _ => .fail
  | .undef => .fail
  | l => finLeaf b g j lg l
/-- One leaf into a cell of a record's box. -/
def storeLeaf (b g j : Nat) (t : Ty) (l : Leaf) : G Unit := getBx b fun g' ls => bif Nat.beq g g' then (match ls[j]? with
  | none => .fail
  | some (lg, _) => storeL b g j lg t l) else .fail
def storeLeaves (b g : Nat) : Nat → List Ty → List Leaf → G Unit
  | j, t :: ts, l :: ls => (storeLeaf b g j t l).bind fun _ => storeLeaves b g (j + 1) ts ls
  | _, [], [] => .ret ()
  | _, _, _ => .fail
def storeG (C : Cfg) (t : Nat) (l : Leaf) (a : AV) : G Unit := (tdOf C t).bind fun td => (leavesOf a).bind fun vs => match l with
  | .pb b g off => storeLeaves b g off (tys td.ty) vs
  | .pe r s i off => (stabs (tys td.ty) vs).bind fun ys => (resolve 8 r).bind fun
    | (r', .own e xs) => bif Nat.beq s e.sz then (G.opt (toTy e (splice (svOf e (vGet xs i e.dflt)) off ys))).bind fun y => setRef r' (.own e (vSet xs i y)) else .fail
    | _ => .fail
  | _ => .fail
/-- A new box at a temporary. -/
def boxG (d : Nat) (ls : List Leaf) : G Unit := getBx d fun g _ => .set (.bx d) (.bx (g + 1) (ls.map fun l => (0, l))) (put d (.cv false [.pb d (g + 1) 0]))
def boxLeaf (t : Ty) (l : Leaf) : G Leaf := match l with
  | .nil _ => (match t with | .sl e => .ret (.own e []) | _ => .fail)
  | .v t x => .ret (.v t x)
  | .al r => (stab t (.al r)).bind fun x => .ret (.ofSV x)
  | .sub r s lo hi => (stab t (.sub r s lo hi)).bind fun x => .ret (.ofSV x)
  | .fn f c => .ret (.fn f c)
  | .fnp f c => .ret (.fnp f c)
  | _ => .fail
def boxLeaves : List Ty → List Leaf → G (List Leaf)
  | t :: ts, l :: ls => (boxLeaf t l).bind fun x => (boxLeaves ts ls).bind fun r => .ret (x :: r)
  | [], [] => .ret []
  | _, _ => .fail
/-- Where a part of a record stands, and how many cells it has. -/
def partOff (C : Cfg) (td : TD) (i : Nat) : G (Nat × Nat) := match td.offs[i]?, td.ftys[i]? with
  | some o, some ft => (tdOf C ft).bind fun fd => .ret (o, fd.ty.sz)
  | _, _ => bif td.offs.isEmpty then (tdOf C td.elem).bind fun ed => .ret (i * ed.ty.sz, ed.ty.sz) else .fail
def buildG (C : Cfg) (td : TD) : List (Nat × Operand) → List Leaf → G (List Leaf)
  | [], ls => .ret ls
  | (i, o) :: r, ls => (opd o).bind fun a => (leavesOf a).bind fun vs => (partOff C td i).bind fun p =>
    bif Nat.beq vs.length p.2 && Nat.ble (p.1 + p.2) ls.length then buildG C td r (splice ls p.1 vs) else .fail
def buildSliceG (e : Ty) : List (Nat × Operand) → List e.den → G (List e.den)
  | [], xs => .ret xs
  | (i, o) :: r, xs => (opd o).bind fun a => (leavesOf a).bind fun vs => (stabs (tys e) vs).bind fun ys => (G.opt (toTy e ys)).bind fun y => bif Nat.blt i xs.length then buildSliceG e r (xs.set i y) else .fail
/-- What is appended to, loose: its row and what it holds. -/
def appBase (td : TD) : SlV → G (List td.ty.den)
  | .nil => .ret []
  | .ow r e xs => (setRef r .undef).bind fun _ => G.opt (Ty.cast (.sl e) (.sl td.ty) xs)
  | .sub r e xs lo hi => (setRef r .undef).bind fun _ => G.opt (Ty.cast (.sl e) (.sl td.ty) (cut xs lo hi))
  | .st _ _ => .fail
def appendG (td : TD) (d : Nat) (s x : Leaf) : G Unit := (valOf (.sl td.ty) x).bind fun y => (G.opt (y.t.cast (.sl td.ty) y.x)).bind fun ys => (slv s).bind fun sv => (appBase td sv).bind fun xs =>
  .ite (appOk (vLen xs) (vLen ys) td.bytes) (put d (.cv false [.own td.ty (vApp xs ys)])) .fail
def num (o : Option Leaf) (dft : Int) : G Int := match o with | none => .ret dft | some (.v (.int _) n) => .ret n | _ => .fail
def isStr : Ty → Bool | .str => true | _ => false
def sliceG (td : TD) (es : Nat) (x : Leaf) (lo hi : Option Leaf) : G Leaf := match td.ty, x with
  | .str, .v .str s => (num hi (sLen s)).bind fun h => (num lo 0).bind fun l => .ite (cutOk l h (sLen s)) (.ret (.v .str (sCut s l h))) .fail
  | .sl _, x => (slv x).bind fun
    | .st e xs => bif Nat.beq es e.sz then (num hi (vLen xs)).bind fun h => (num lo 0).bind fun l => .ite (cutOk l h (vLen xs)) (.ret (.v (.sl e) (cut xs l h))) .fail else .fail
    | .ow r e xs => bif Nat.beq es e.sz then (num hi (vLen xs)).bind fun h => (num lo 0).bind fun l => .ite (cutOk l h (vLen xs)) (.ret (.sub r es l h)) .fail else .fail
    | .sub r e _ l0 h0 => bif Nat.beq es e.sz then (num hi (vSub h0 l0)).bind fun h => (num lo 0).bind fun l => .ite (cutOk l h (vSub h0 l0)) (.ret (.sub r es (vAdd l0 l) (vAdd l0 h))) .fail else .fail
    | .nil => .fail
  | _, _ => .fail
def fieldG (td : TD) (C : Cfg) (x : Leaf) (k : Nat) : G Leaf := match td.offs[k]?, td.ftys[k]? with
  | some o, some ft => (match x with
    | .pb b g off => .ret (.pb b g (off + o))
    | .pe r s i off => .ret (.pe r s i (off + o))
    | .ps t x => (tdOf C ft).bind fun fd => (G.opt (toTy fd.ty (((svOf t x).drop o).take fd.ty.sz))).bind fun y => .ret (.ps fd.ty y)
    | _ => .fail)
  | _, _ => .fail
def indexG (C : Cfg) (t : Nat) (x i : Leaf) : G Leaf := match i with
  | .v (.int _) n => match C.P.underlying t with
    | some (.array len e) => (tdOf C e).bind fun ed => .ite (inR n len) (match x with
      | .pe r s j off => .ret (.pe r s j (off + n.toNat * ed.ty.sz))
      | .pb b g off => .ret (.pb b g (off + n.toNat * ed.ty.sz))
      | _ => .fail) .fail
    | _ => (tdOf C t).bind fun td => bif td.agg then .fail else (match td.ty with
      | .sl _ => (tdOf C td.elem).bind fun ed => (slv x).bind fun
        | .st e xs => bif Nat.beq ed.ty.sz e.sz then .ite (inR n (vLen xs)) (.ret (.ps e (vGet xs n e.dflt))) .fail else .fail
        | .ow r e xs => bif Nat.beq ed.ty.sz e.sz then .ite (inR n (vLen xs)) (.ret (.pe r e.sz n 0)) .fail else .fail
        | .sub r e _ lo hi => bif Nat.beq ed.ty.sz e.sz then .ite (inR n (vSub hi lo)) (.ret (.pe r e.sz (vAdd lo n) 0)) .fail else .fail
        | .nil => .fail
      | _ => .fail)
  | _ => .fail
def flatTy : Ty → Bool
  | .sl _ => false | .pair a b => flatTy a && flatTy b | _ => true
def flatLeaf : Leaf → Bool
  | .v t _ => flatTy t | .own e _ => flatTy e | .nil _ => true | .undef => true | _ => false
def flatAV : AV → Bool
  | .cv _ ls => ls.all flatLeaf | .tup cs => cs.all fun c => c.2.all flatLeaf
def rootKey : Ref → Key
  | .tm t _ => .tm t | .bf b _ _ _ => .bx b | .tp t _ _ => .tm t
def pairUp : List SV → Option SV
  | [] => none
  | [s] => some s
  | s :: r => (pairUp r).map fun q => ⟨.pair s.t q.t, (s.x, q.x)⟩
def leafTy : Leaf → Ty
  | .v t _ => t | .own e _ => .sl e | .nil e => .sl e | _ => .unit
def giveLeaf : Leaf → Bool
  | .v _ _ => true | .own _ _ => true | .nil _ => true | _ => false
def snapBox (b g : Nat) : G SV := getBx b fun g' ls => bif Nat.beq g g' && ls.all (fun l => giveLeaf l.2) then
  (G.opt (pairUp (ls.filterMap fun l => match l.2 with | .v t x => some ⟨t, x⟩ | .own e xs => some ⟨.sl e, xs⟩ | .nil e => some ⟨.sl e, []⟩ | _ => none))) else .fail
def snapAll : List (Nat × Nat × Nat) → G (List SV)
  | [] => .ret []
  | (b, g, o) :: r => bif Nat.beq o 0 then (snapBox b g).bind fun x => (snapAll r).bind fun y => .ret (x :: y) else .fail
/-- What is handed to a call: the argument, what is lent for it, the box that it may write. -/
structure Handed where
  a : Arg
  lent : List Key
  io : Option (Nat × Nat)
def lentOf : Leaf → G (List Key)
  | .al r => (resolve 8 r).bind fun | (r', .own _ _) => .ret [rootKey r'] | _ => .ret []
  | .sub r _ _ _ => (resolve 8 r).bind fun | (r', .own _ _) => .ret [rootKey r'] | _ => .ret []
  | _ => .ret []
def handLeaf (lend : Bool) (t : Ty) (l : Leaf) : G (Leaf × List Key) := match l with
  | .v t x => .ret (.v t x, [])
  | .fn f c => .ret (.fn f c, [])
  | .ps t x => .ret (.ps t x, [])
  | .fnp f c => (snapAll c).bind fun xs => .ret (.fn f xs, c.map fun q => .bx q.1)
  | l => bif lend then (valOf t l).bind fun x => (lentOf l).bind fun k => .ret (.ofSV x, k) else (stab t l).bind fun x => .ret (.ofSV x, [])
def handLeaves (lend : Bool) : List Ty → List Leaf → G (List Leaf × List Key)
  | t :: ts, l :: ls => (handLeaf lend t l).bind fun x => (handLeaves lend ts ls).bind fun r => .ret (x.1 :: r.1, x.2 ++ r.2)
  | [], [] => .ret ([], [])
  | _, _ => .fail
def handPtr (et : G TD) (ro : Bool) : Leaf → G Handed
  | .pb b g off => bif ro then et.bind fun td => (snapBox b g).bind fun s => bif Nat.beq off 0 then (G.opt (s.t.cast td.ty s.x)).bind fun y => .ret ⟨.cv false [.ps td.ty y], [.bx b], none⟩ else .fail
    else bif Nat.beq off 0 then .ret ⟨.io [], [], some (b, g)⟩ else .fail
  | .nilp => .ret ⟨.cv false [.nilp], [], none⟩
  | .ps t x => .ret ⟨.cv false [.ps t x], [], none⟩
  | .pe r s i off => et.bind fun td => (resolve 8 r).bind fun
    | (r', .own e xs) => bif Nat.beq s e.sz then (G.opt (toTy td.ty (((svOf e (vGet xs i e.dflt)).drop off).take td.ty.sz))).bind fun y => .ret ⟨.cv false [.ps td.ty y], [rootKey r'], none⟩ else .fail
    | _ => .fail
  | _ => .fail
/-- A pointer, whatever the type that is told (a method's receiver is told by what it points to). -/
def isPtr : AV → Bool | .cv false [.pb _ _ _] => true | .cv false [.pe _ _ _ _] => true | .cv false [.ps _ _] => true | _ => false
def handG (C : Cfg) (t : Nat) (ro lend : Bool) (a : AV) : G Handed := match C.tt t with
  | some td => bif isUnit td.ty then (one a).bind (handPtr (elemTy C t) ro)
    else bif isPtr a then (one a).bind (handPtr (tdOf C t) ro)
    else (match a with | .cv agg ls => (handLeaves lend (tys td.ty) ls).bind fun x => .ret ⟨.cv agg x.1, x.2, none⟩ | .tup _ => .fail)
  | none => (one a).bind fun l => (handLeaf lend .unit l).bind fun x => .ret ⟨.cv false [x.1], x.2, none⟩
def flatSh (s : Sh) : Bool := s.ls.all fun | .v t => flatTy t | .own e => flatTy e
def handAll (C : Cfg) (f : Nat) : Nat → List (Nat × Operand) → G (List Handed)
  | _, [] => .ret []
  | i, (t, o) :: r => (opd o).bind fun a => (handG C t ((C.sig f).contains i) (flatSh (C.sh f)) a).bind fun h => (handAll C f (i + 1) r).bind fun q => .ret (h :: q)
/-- The arguments; the box that may be written is read when all else is handed. -/
def argsOf : List Handed → G (List Arg)
  | [] => .ret []
  | h :: r => (match h.io with
      | some (b, g) => getBx b fun g' ls => bif Nat.beq g g' && (ls.all (fun l => giveLeaf l.2) && Nat.blt 0 ls.length) then .ret (.io (ls.map (·.2))) else .fail
      | none => .ret h.a : G Arg).bind fun x => (argsOf r).bind fun q => .ret (x :: q)
def ioOf : List Handed → List (Nat × Nat)
  | [] => []
  | h :: r => h.io.toList ++ ioOf r
/-- The box gets what the call left in it. -/
def backG : List (Nat × Nat) → List (List Leaf) → G Unit
  | [], [] => .ret ()
  | [(b, g)], [ls] => getBx b fun g' old => bif Nat.beq g g' && Nat.beq old.length ls.length then .set (.bx b) (.bx g ((old.zip ls).map fun z => (z.1.1 + 1, z.2))) (.ret ()) else .fail
  | _, _ => .fail
def flatRes (r : Res) : Bool := flatAV r.a && r.ios.all fun ls => ls.all flatLeaf
def callG (C : Cfg) (d : Option Nat) (f : Nat) (caps : List SV) (args : List (Nat × Operand)) : G Unit :=
  (handAll C f 0 args).bind fun hs =>
    bif Nat.ble (ioOf hs).length 1 && (hs.all fun h => h.lent.all fun k => (ioOf hs).all fun x => !Key.beq k (.bx x.1)) then
      (argsOf hs).bind fun as => .call ⟨f, as ++ caps.map fun s => .cv false [.ps s.t s.x]⟩ fun res =>
        bif (hs.all fun h => h.lent.isEmpty) || flatRes res then
          (bif (C.sh f).bxr then (match d, res.ios.reverse with | some d, l :: r => (backG (ioOf hs) r.reverse).bind fun _ => boxG d l | _, _ => .fail)
            else (backG (ioOf hs) res.ios).bind fun _ => putO d res.a)
        else .fail
    else .fail
def mmV : BinOp → Int → Int → Int | .lss, a, b => vMin a b | _, a, b => vMax a b
def mmG (op : BinOp) : Leaf → List Leaf → G Leaf
  | x, [] => .ret x
  | .v (.int k) a, .v (.int _) b :: r => mmG op (.v (.int k) (mmV op a b)) r
  | _, _ => .fail
def lenG (C : Cfg) (d : Option Nat) (ts : List Nat) (args : List Operand) : G Unit := match ts, args with
  | [t], [x] => (tdOf C t).bind fun td => (opd1 x).bind fun l => match td.ty, l with
    | .str, .v .str s => putO d (.cv false [.v (.int .i64) (sLen s)])
    | .sl _, l => (slv l).bind fun
      | .st _ xs => putO d (.cv false [.v (.int .i64) (vLen xs)])
      | .ow _ _ xs => putO d (.cv false [.v (.int .i64) (vLen xs)])
      | .sub _ _ _ lo hi => putO d (.cv false [.v (.int .i64) (vSub hi lo)])
      | .nil => putO d (.cv false [.v (.int .i64) 0])
    | _, _ => .fail
  | _, _ => .fail
def appG (C : Cfg) (d : Option Nat) (ts : List Nat) (args : List Operand) : G Unit := match d, ts, args with
  | some d, [t, t'], [s, x] => bif Nat.beq t t' then (elemSl C t).bind fun td => (opd1 s).bind fun l => (opd1 x).bind fun m => appendG td d l m else .fail
  | _, _, _ => .fail
def mm2G (op : BinOp) (d : Option Nat) (args : List Operand) : G Unit := match args with
  | [x, y] => (opd1 x).bind fun a => (opd1 y).bind fun b => (mmG op a [b]).bind fun l => putO d (.cv false [l])
  | [x, y, z] => (opd1 x).bind fun a => (opd1 y).bind fun b => (opd1 z).bind fun c => (mmG op a [b, c]).bind fun l => putO d (.cv false [l])
  | _ => .fail
def builtinG (C : Cfg) (d : Option Nat) (b : Builtin) (ts : List Nat) (args : List Operand) : G Unit := match b with
  | .len => lenG C d ts args
  | .append => appG C d ts args
  | .min => mm2G .lss d args
  | .max => mm2G .gtr d args
  | _ => .fail
def capsOf : List Operand → G (List (Nat × Nat × Nat))
  | [] => .ret []
  | o :: r => (opd1 o).bind fun | .pb b g 0 => (capsOf r).bind fun q => .ret ((b, g, 0) :: q) | _ => .fail
def zip2 : List Nat → List Operand → List (Nat × Operand)
  | t :: ts, o :: os => (t, o) :: zip2 ts os
  | _, _ => []
def optG (o : Option Operand) : G (Option Leaf) := match o with | none => .ret none | some o => (opd1 o).bind fun l => .ret (some l)
/-- A result of several values moves as a whole. -/
def moveTup (d : Option Nat) (s g : Nat) (cs : List (Bool × List Leaf)) : G Unit := match d with
  | some d => bif Nat.beq s d || cs.isEmpty then .fail else (G.set (.tm s) (.tm g (.cv false [.undef])) (.ret ())).bind fun _ => put d (.tup cs)
  | none => .fail
def moveOp (d : Option Nat) (x : Operand) : G Unit := match x with
  | .tmp s => getTm s fun g a => (match a with | .tup cs => moveTup d s g cs | .cv _ _ => (opd (.tmp s)).bind fun a => putO d a)
  | x => (opd x).bind fun a => putO d a
def makeG (ed : TD) (d : Nat) : Leaf → Leaf → G Unit
  | .v (.int _) n, .v (.int _) c => .ite (makeOk n c ed.bytes) (put d (.cv false [.own ed.ty (vRep n ed.ty.dflt)])) .fail
  | _, _ => .fail
def extractG (d : Option Nat) (t g i : Nat) : AV → G Unit
  | .tup cs => (match cs[i]? with
    | some (false, [.own e xs]) => (match d with
      | some d => (G.set (.tm t) (.tm g (.tup (cs.set i (false, [.undef])))) (.ret ())).bind fun _ => put d (.cv false [.own e xs])
      | none => .fail)
    | some (ag, ls) => putO d (.cv ag ls)
    | none => .fail)
  | _ => .fail
def execG (C : Cfg) (o : Oper) : G Unit := match o.op with
  | .move x => moveOp o.dst x
  | .assign x => (match o.dst with | some d => assignG C d x o.type | none => .fail)
  | .pick c a b => (opd1 c).bind fun | .v .bool x => .ite x ((opd a).bind fun v => putO o.dst v) ((opd b).bind fun v => putO o.dst v) | _ => .fail
  | .alloc e => (match o.dst with | some d => (tdOf C e).bind fun td => (boxLeaves (tys td.ty) (zeroLeaves td.ty)).bind fun ls => boxG d ls | none => .fail)
  | .box e v => (match o.dst with | some d => (tdOf C e).bind fun td => (opd v).bind fun a => (leavesOf a).bind fun vs => (boxLeaves (tys td.ty) vs).bind fun ls => boxG d ls | none => .fail)
  | .build t ps => (tdOf C t).bind fun td => bif !td.agg then .fail else (buildG C td ps.toList (zeroLeaves td.ty)).bind fun ls => putO o.dst (.cv true ls)
  | .buildSlice t n ps => (match o.dst with
    | some d => (elemSl C t).bind fun ed => bif Nat.beq n 0 then (match ps.toList with | [] => put d (.cv false [.own ed.ty []]) | _ => .fail)
      else bif Nat.ble (n * ed.ty.sz) 16777216 then (buildSliceG ed.ty ps.toList (List.replicate n ed.ty.dflt)).bind fun xs => put d (.cv false [.own ed.ty xs]) else .fail
    | none => .fail)
  | .load t a => (opd1 a).bind fun l => (loadG C t l).bind fun v => putO o.dst v
  | .store t a x => (match o.dst with | none => (opd1 a).bind fun l => (opd x).bind fun v => storeG C t l v | some _ => .fail)
  | .nilCheck x => (opd1 x).bind fun | .pb b g q => putO o.dst (.cv false [.pb b g q]) | .ps t x => putO o.dst (.cv false [.ps t x]) | .pe r s i q => putO o.dst (.cv false [.pe r s i q]) | .fn f c => putO o.dst (.cv false [.fn f c]) | .fnp f c => putO o.dst (.cv false [.fnp f c]) | _ => .fail
  | .binOp op t x y _ => (opd1 x).bind fun a => (opd1 y).bind fun b => (match a, b with
    | .v .bool p, .v .bool q => (tdOf C t).bind fun td => (binB op td.ty p q).bind fun l => putO o.dst (.cv false [l])
    | a, .nil _ => (tdOf C t).bind fun td => (nilQ op td.ty a).bind fun l => putO o.dst (.cv false [l])
    | a, b => (bin op a b).bind fun l => putO o.dst (.cv false [l]))
  | .unOp op _ x => (opd1 x).bind fun a => (un op a).bind fun l => putO o.dst (.cv false [l])
  | .convert s t x => (tdOf C s).bind fun _ => (tdOf C t).bind fun td => (opd1 x).bind fun a => (match td.ty, a with
    | .int k, .v (.int _) n => putO o.dst (.cv false [.v (.int k) (wConv k n)])
    | .str, .v .str s => putO o.dst (.cv false [.v .str s])
    | .str, a => (sBytes C s a).bind fun z => putO o.dst (.cv false [.v .str z])
    | _, _ => .fail)
  | .makeFunc fn first caps => (match fn, first.toList with | .func f, [] => (capsOf caps.toList).bind fun c => putO o.dst (.cv false [.fnp f c]) | _, _ => .fail)
  | .makeSlice t n c => (match o.dst with | some d => (elemSl C t).bind fun ed => (opd1 n).bind fun a => (opd1 c).bind fun b => makeG ed d a b | none => .fail)
  | .slice t x lo hi none => (tdOf C t).bind fun td => (bif isUnit td.ty || isStr td.ty then G.ret 0 else (tdOf C td.elem).bind fun ed => .ret ed.ty.sz).bind fun es => (opd1 x).bind fun l => (optG lo).bind fun a => (optG hi).bind fun b => (sliceG td es l a b).bind fun r => putO o.dst (.cv false [r])
  | .fieldAddr t x k => (tdOf C t).bind fun td => (opd1 x).bind fun l => (fieldG td C l k).bind fun r => putO o.dst (.cv false [r])
  | .indexAddr t x i => (opd1 x).bind fun l => (opd1 i).bind fun j => (indexG C t l j).bind fun r => putO o.dst (.cv false [r])
  | .index t x i => (tdOf C t).bind fun td => (opd1 i).bind fun j => (opd x).bind fun a => (match td.ty, a, j with
    | .str, .cv false [.v .str s], .v (.int _) n => .ite (inR n (sLen s)) (putO o.dst (.cv false [.v (.int .u8) (byteAt s n)])) .fail
    | _, _, _ => .fail)
  | .extract (.tmp t) i => getTm t fun g a => extractG o.dst t g i a
  | .call c => (match c.callee with
    | .builtin b => builtinG C o.dst b c.argTypes.toList c.args.toList
    | .value f => (opd1 f).bind fun | .fn f caps => bif Nat.beq c.argTypes.toList.length c.args.toList.length then callG C o.dst f caps (zip2 c.argTypes.toList c.args.toList) else .fail | _ => .fail
    | .invoke _ _ => .fail)
  | _ => .fail
def opG (C : Cfg) (ops : Array Oper) (o : Oper) : G Unit := match o.guard with
  | none => execG C o
  | some (j, want) => match (ops[j]?).bind (·.dst) with
    | some t => let skip := putO o.dst (.cv false [.undef]); .br t (bif want then execG C o else skip) (bif want then skip else execG C o) skip
    | none => .fail

/-! ### regions that draw their order -/
def memK (k : Key) (l : List (Bool × Key)) (w : Bool) : Bool := l.any fun x => (x.1 || !w) && Key.beq x.2 k
/-- Nothing that the one writes is touched by the other. -/
def apartT (a b : List (Bool × Key)) : Bool := (a.all fun x => !x.1 || !memK x.2 b false) && (b.all fun x => !x.1 || !memK x.2 a false)
def okPairs (bf : List Nat) : Nat → List (List (Bool × Key)) → Bool
  | _, [] => true
  | j, t :: r => ((List.range j).all fun i => (bf.getD j 0).testBit i || (match r[j - 1 - i]? with | some u => apartT t u | none => false)) && okPairs bf (j - 1) r
/-- trs: the traces, the last operation's first. -/
def okAfter (ops : Array Oper) : Bool := (List.range ops.size).all fun i => match ops[i]? with | some o => o.after.toList.all fun e => !Region.binds .any e || Nat.blt e.on i | none => true
def okDraw (ops : Array Oper) (trs : List (List (Bool × Key))) : Bool := okAfter ops && okPairs (Region.before ops).toList (ops.size - 1) trs
def dstOk (N : Nat) (o : Oper) : Bool := match o.dst with | some d => Nat.blt d N | none => true
def evOps {R : Type} (C : Cfg) (rec : (q : Req) → Option (C.sh q.f).den) (N : Nat) (ops : Array Oper) : List Oper → St → List (List (Bool × Key)) → (St → List (List (Bool × Key)) → Option R) → Option R
  | [], st, trs, K => K st trs
  | o :: r, st, trs, K => bif dstOk N o then runG rec (opG C ops o) st [] fun _ st' tr => evOps C rec N ops r st' (tr :: trs) K else none

/-! ### the end of a function -/
def takeLeaf : Leaf → G Leaf
  | .al r => (resolve 8 r).bind fun
    | (r', .own e xs) => (setRef r' .undef).bind fun _ => .ret (.own e xs)
    | (_, .v t x) => .ret (.v t x)
    | _ => .fail
  | .sub r s lo hi => (slv (.sub r s lo hi)).bind fun
    | .sub r' e xs lo hi => (setRef r' (.v (.sl e) xs)).bind fun _ => .ret (.v (.sl e) (cut xs lo hi))
    | .st e xs => .ret (.v (.sl e) xs)
    | _ => .fail
  | .v t x => .ret (.v t x)
  | .nil e => .ret (.nil e)
  | _ => .fail
def resG (C : Cfg) (r : ResultVar) (t : Nat) : G (Bool × List Leaf) := match r with
  | .tmp d => (opd (.tmp d)).bind fun
    | .cv false [.own e xs] => .ret (false, [.own e xs])
    | .cv false [l] => (takeLeaf l).bind fun l => .ret (false, [l])
    | .cv ag ls => (tdOf C t).bind fun td => (stabs (tys td.ty) ls).bind fun xs => .ret (ag, xs.map Leaf.ofSV)
    | .tup _ => .fail
  | .cell d ty => (opd1 (.tmp d)).bind fun l => (loadG C ty l).bind fun
    | .cv false [l] => (takeLeaf l).bind fun l => .ret (false, [l])
    | .cv ag ls => (tdOf C ty).bind fun td => (stabs (tys td.ty) ls).bind fun xs => .ret (ag, xs.map Leaf.ofSV)
    | .tup _ => .fail
def resAll (C : Cfg) : List ResultVar → List Nat → G (List (Bool × List Leaf))
  | [], _ => .ret []
  | r :: rs, t :: ts => (resG C r t).bind fun x => (resAll C rs ts).bind fun y => .ret (x :: y)
  | _, _ => .fail
def argKind : Arg → Nat | .cv _ _ => 0 | .io _ => 1
def iosG : Nat → List Nat → G (List (List Leaf))
  | _, [] => .ret []
  | i, 0 :: r => iosG (i + 1) r
  | i, _ :: r => getBx i fun g ls => bif Nat.beq g 0 && ls.all (fun l => giveLeaf l.2) then (iosG (i + 1) r).bind fun q => .ret (ls.map (·.2) :: q) else .fail
def isIoIdx (args : List Nat) (b : Nat) : Bool := match args[b]? with | some (_ + 1) => true | _ => false
/-- The record in a new box that is returned. -/
def newG (args : List Nat) (r : List ResultVar) : G (List Leaf) := match r with
  | [.tmp d] => (opd1 (.tmp d)).bind fun | .pb b g 0 => getBx b fun g' ls => bif Nat.beq g g' && (ls.all (fun l => giveLeaf l.2) && (Nat.blt 0 ls.length && !isIoIdx args b)) then .ret (ls.map (·.2)) else .fail | _ => .fail
  | _ => .fail
def finG (C : Cfg) (bxr : Bool) (fn : Func) (args : List Nat) : G (List (Bool × List Leaf) × List (List Leaf)) :=
  bif bxr then (iosG 0 args).bind fun ios => (newG args fn.results.toList).bind fun l => .ret ([], ios ++ [l])
  else (resAll C fn.results.toList fn.resultTypes.toList).bind fun vs => (iosG 0 args).bind fun ios => .ret (vs, ios)

/-! ### cuts: what is kept of a state -/
def mkSt : List (Key × Cell) → St
  | [] => st0
  | (k, c) :: r => upd (mkSt r) k c
/-- What must happen before: rows are frozen or come to the temporary that is kept. -/
def prepTm (kt kb : List Nat) (t mode g : Nat) : AV → G Unit
  | .cv false [.own e xs] => bif Nat.beq mode 2 then setRef (.tm t g) (.v (.sl e) xs) else .ret ()
  | .cv false [.sub r s lo hi] => (stab .unit (.sub r s lo hi)).bind fun _ => .ret ()
  | .cv false [.al r] => bif Nat.beq mode 2 then (stab .unit (.al r)).bind fun _ => .ret () else (resolve 8 r).bind fun
    | (.tm t' g', .own e xs) => bif kt.contains t' then .ret () else (setRef (.tm t' g') .undef).bind fun _ => put t (.cv false [.own e xs])
    | (.bf b g' o l, .own e xs) => bif kb.contains b then .ret () else setRef (.bf b g' o l) (.v (.sl e) xs)
    | _ => .ret ()
  | _ => .ret ()
def prepTms (kt kb : List Nat) : List (Nat × Nat) → G Unit
  | [] => .ret ()
  | (t, mode) :: r => (getTm t fun g a => prepTm kt kb t mode g a).bind fun _ => prepTms kt kb r
/-- The boxes that came in are still the first ones. -/
def ioG : Nat → List Nat → G Unit
  | _, [] => .ret ()
  | i, 0 :: r => ioG (i + 1) r
  | i, _ :: r => getBx i fun g _ => bif Nat.beq g 0 then ioG (i + 1) r else .fail
def keepLeaf (kt kb : List Nat) : Leaf → G Leaf
  | .pb b g off => getBx b fun g' _ => bif Nat.beq g g' && kb.contains b then .ret (.pb b 0 off) else .fail
  | .al r => (resolve 8 r).bind fun
    | (.tm t _, .own _ _) => bif kt.contains t then .ret (.al (.tm t 0)) else .fail
    | (.bf b _ o _, .own _ _) => bif kb.contains b then .ret (.al (.bf b 0 o 0)) else .fail
    | (_, .v t x) => .ret (.v t x)
    | _ => .fail
  | .sub r s lo hi => (slv (.sub r s lo hi)).bind fun | .st e xs => .ret (.v (.sl e) xs) | _ => .fail
  | .v t x => .ret (.v t x)
  | .ps t x => .ret (.ps t x)
  | .fn f c => .ret (.fn f c)
  | .nil e => .ret (.nil e)
  | .nilp => .ret .nilp
  | .undef => .ret .undef
  | _ => .fail
def keepLeaves (kt kb : List Nat) : List Leaf → G (List Leaf)
  | [] => .ret []
  | l :: r => (keepLeaf kt kb l).bind fun x => (keepLeaves kt kb r).bind fun q => .ret (x :: q)
def keepTm (kt kb : List Nat) : AV → G AV
  | .cv false [.own e xs] => .ret (.cv false [.own e xs])
  | .cv false [.nil e] => .ret (.cv false [.own e []])
  | .cv ag ls => (keepLeaves kt kb ls).bind fun ls => .ret (.cv ag ls)
  | .tup _ => .fail
def keepTms (kt kb : List Nat) : List Nat → G (List (Key × Cell))
  | [] => .ret []
  | t :: r => (getTm t fun _ a => keepTm kt kb a).bind fun a => (keepTms kt kb r).bind fun q => .ret ((.tm t, .tm 0 a) :: q)
def keepCell : Leaf → G Leaf
  | .own e xs => .ret (.own e xs)
  | .nil e => .ret (.own e [])
  | .v t x => .ret (.v t x)
  | .fn f c => .ret (.fn f c)
  | _ => .fail
def keepBox : List (Nat × Leaf) → G (List (Nat × Leaf))
  | [] => .ret []
  | (_, l) :: r => (keepCell l).bind fun x => (keepBox r).bind fun q => .ret ((0, x) :: q)
def keepBxs : List Nat → G (List (Key × Cell))
  | [] => .ret []
  | b :: r => (getBx b fun _ ls => keepBox ls).bind fun ls => (keepBxs r).bind fun q => .ret ((.bx b, .bx 0 ls) :: q)
def keepG (args : List Nat) (kt : List (Nat × Nat)) (kb : List Nat) : G (List (Key × Cell)) :=
  (prepTms (kt.map (·.1)) kb kt).bind fun _ => (ioG 0 args).bind fun _ => (keepTms (kt.map (·.1)) kb (kt.map (·.1))).bind fun a => (keepBxs kb).bind fun b => .ret (a ++ b)

/-- Both ways lead to the same. -/
def eqList {α : Type} (f : α → α → Bool) : List α → List α → Bool
  | [], [] => true
  | a :: r, b :: q => f a b && eqList f r q
  | _, _ => false
def Ty.eqD : (t : Ty) → t.den → t.den → Bool
  | .int _, a, b => decide ((show Int from a) = (show Int from b))
  | .bool, a, b => (show Bool from a) == (show Bool from b)
  | .str, a, b => decide ((show ByteArray from a).data.toList = (show ByteArray from b).data.toList)
  | .unit, _, _ => true
  | .pair p q, a, b => p.eqD a.1 b.1 && q.eqD a.2 b.2
  | .sl e, a, b => eqList e.eqD a b
def LS.eqD : (s : LS) → s.den → s.den → Bool
  | .v t, a, b => t.eqD a b
  | .own e, a, b => eqList e.eqD a b
def eqLs : (l : List LS) → lsDen l → lsDen l → Bool
  | [], _, _ => true
  | [s], a, b => s.eqD a b
  | s :: t :: r, a, b => s.eqD a.1 b.1 && eqLs (t :: r) a.2 b.2
def agree (l : List LS) (a b : Option (lsDen l)) : Option (lsDen l) := a.bind fun x => b.bind fun y => bif eqLs l x y then some x else none

/-! ### running -/
def initSt : Nat → List Arg → St
  | _, [] => st0
  | i, .cv ag ls :: r => upd (initSt (i + 1) r) (.tm i) (.tm 0 (.cv ag ls))
  | i, .io ls :: r => upd (upd (initSt (i + 1) r) (.tm i) (.tm 0 (.cv false [.pb i 0 0]))) (.bx i) (.bx 0 (ls.map fun l => (0, l)))
def evSteps (C : Cfg) (rec : (q : Req) → Option (C.sh q.f).den) (f : Nat) (recT : List Item → St → Option (C.sh f).den) (fn : Func) (args : List Nat) : Nat → Bool → List Item → St → Option (C.sh f).den
  | 0, _, _, _ => none
  | m + 1, fresh, todo, st =>
    match todo with
    | [] => runG rec (finG C (C.sh f).bxr fn args) st [] fun r _ _ => (C.sh f).dec r.1 r.2
    | .code c :: k => (match c with
      | .ret => runG rec (finG C (C.sh f).bxr fn args) st [] fun r _ _ => (C.sh f).dec r.1 r.2
      | .skip => evSteps C rec f recT fn args m fresh k st
      | .seq a b => evSteps C rec f recT fn args m fresh (.code a :: .code b :: k) st
      | .block id c => evSteps C rec f recT fn args m fresh (.code c :: .inBlock id :: k) st
      | .loop c => evSteps C rec f recT fn args m fresh (.code c :: .inLoop c :: k) st
      | .exit id => (match exitTo id k with | some k' => evSteps C rec f recT fn args m fresh k' st | none => none)
      | .cond (.tmp t) x y => (match st (.tm t) with
        | .tm _ (.cv false [.v .bool b]) => gIf b (evSteps C rec f recT fn args m fresh (.code x :: k) st) (evSteps C rec f recT fn args m fresh (.code y :: k) st)
        | .tm _ (.cv false [.nq b]) => gIf b (agree (C.sh f).ls (evSteps C rec f recT fn args m fresh (.code x :: k) st) (evSteps C rec f recT fn args m fresh (.code y :: k) st)) (evSteps C rec f recT fn args m fresh (.code y :: k) st)
        | _ => none)
      | .region id ops draw => (match (bif fresh then none else C.cuts f id) with
        | some (kt, kb) => runG rec (keepG args kt kb) st [] fun l _ _ => recT todo (mkSt l)
        | none => evOps C rec fn.ntmps ops ops.toList st [] fun st' trs => bif !draw || okDraw ops trs then evSteps C rec f recT fn args m false k st' else none)
      | _ => none)
    | .inBlock _ :: k => evSteps C rec f recT fn args m fresh k st
    | .inLoop c :: k => evSteps C rec f recT fn args m fresh (.code c :: .inLoop c :: k) st
    | _ => none
inductive Tgt where
  | call (q : Req)
  | run (f : Nat) (args : List Nat) (todo : List Item) (st : St)
def Tgt.f : Tgt → Nat | .call q => q.f | .run f _ _ _ => f
def evN (C : Cfg) : Nat → (t : Tgt) → Option (C.sh t.f).den
  | 0, _ => none
  | n + 1, .call q => match C.P.funcs[q.f]? with
    | some fn => (match fn.body with
      | some c => evSteps C (fun q => evN C n (.call q)) q.f (fun td st => evN C n (.run q.f (q.args.map argKind) td st)) fn (q.args.map argKind) 4000 true [.code c] (initSt 0 q.args)
      | none => none)
    | none => none
  | n + 1, .run f args td st => match C.P.funcs[f]? with
    | some fn => evSteps C (fun q => evN C n (.call q)) f (fun td st => evN C n (.run f args td st)) fn args 4000 true td st
    | none => none
/-- The code from a region on, with what stands behind it. -/
def todoAt (id : Nat) : Nat → List Item → Option (List Item)
  | 0, _ => none
  | m + 1, todo => match todo with
    | .code (.region i _ _) :: k => bif Nat.beq i id then some todo else todoAt id m k
    | .code (.seq a b) :: k => (match todoAt id m (.code a :: .code b :: k) with | some r => some r | none => none)
    | .code (.block i c) :: k => todoAt id m (.code c :: .inBlock i :: k)
    | .code (.loop c) :: k => (match todoAt id m (.code c :: .inLoop c :: k) with | some r => some r | none => todoAt id m k)
    | .code (.cond _ x y) :: k => (match todoAt id m (.code x :: k) with | some r => some r | none => todoAt id m (.code y :: k))
    | .code _ :: k => todoAt id m k
    | .inBlock _ :: k => todoAt id m k
    | _ => none
def tdo (C : Cfg) (f id : Nat) : List Item := match C.P.funcs[f]? with | some fn => (match fn.body with | some c => (match todoAt id 4000 [.code c] with | some r => r | none => []) | none => []) | none => []
def ttG : List (Nat × TD) → Nat → Option TD
  | [], _ => none
  | (k, d) :: r, t => bif Nat.beq k t then some d else ttG r t
def shG : List (Nat × Sh) → Nat → Sh
  | [], _ => ⟨true, [], [], [], false⟩
  | (k, d) :: r, t => bif Nat.beq k t then d else shG r t
def cutG : List (Nat × Nat × List (Nat × Nat) × List Nat) → Nat → Nat → Option (List (Nat × Nat) × List Nat)
  | [], _, _ => none
  | (k, i, d) :: r, t, j => bif Nat.beq k t && Nat.beq i j then some d else cutG r t j
def sigG : List (Nat × List Nat) → Nat → List Nat
  | [], _ => []
  | (k, d) :: r, t => bif Nat.beq k t then d else sigG r t
end Go.Proofs.Yticifedehhnjhaa.Eng
