import PyProof.Rows.All
import Wide.All
import OpenK.AllK
import Wide.FinOn
import HandS.Base
import HandS.Call
import HandS.List
import HandS.Comp
import HandS.Exc
import HandS.TryOnly
import HandS.ExcOwn
import HandS.CallSlots
import HandS.Words
import HandS.WordsExc
import HandS.Text
import HandS.TupAny
import HandS.TupMul
import HandS.Wide
import HandS.IsInst
import HandS.Conv
import HandS.Style
import KE.DatumOrd
import HandS.More
import KE.DataFind
import HandS.Iter
import HandS.Walk
import KE.GoesNew
import KE.GoesEnum
import HandS.HeadHook1
import HandS.Defaults
import HandS.HotCalls
import HandS.ExcIs
import HandS.Ends
import HandS.EndBits
import HandS.Head0
import HandS.Head1
import HandS.Head2
import HandS.HeadEnd
import HandS.HeadHook2
import KE.KStateDown
import HandS.HeadHook3
import HandS.HeadHook4
import PySem.Challenge.RW_namescripts_k02_rules_refused
set_option Elab.async false
set_option linter.all false
set_option maxRecDepth 100000
set_option maxHeartbeats 4000000
/-! The compact syntax, the data, the interpreter. -/
namespace Nm
open PySem

/-! ### data -/
inductive D where
  | non | bl (b : Bool) | int (i : Int) | str (s : Str)
  | tup (xs : List D) | lst (xs : List D)
  | dic (ks vs : List D)
  | ins (c : Str) (ns : List Str) (vs : List D)
  | exc (c : Str) (p : List D)
  | fn (x : Str)
  | scr (ns : List Int)
deriving Inhabited

/-- lists, tuples, texts have at most so many items -/
abbrev LIM : Nat := 16777216
def okS (x : Str) : Bool := PySem.PyData.strOk x && decide (x.length ≤ LIM)

def isSome1 {α : Type} (o : Option α) : Bool := o.isSome

mutual
def D.eqv : D → D → Bool
  | .non, .non => true
  | .bl a, .bl b => a == b
  | .bl a, .int j => (if a then 1 else 0) == j
  | .int i, .bl b => i == (if b then 1 else 0)
  | .int i, .int j => i == j
  | .str x, .str y => x == y
  | .lst xs, .lst ys => D.eqvs xs ys
  | .tup xs, .tup ys => D.eqvs xs ys
  | _, _ => false
def D.eqvs : List D → List D → Bool
  | [], [] => true
  | x :: xs, y :: ys => D.eqv x y && D.eqvs xs ys
  | _, _ => false
end
mutual
/-- none, bools, ints, texts, lists, tuples alone, nested at most n deep -/
def D.plain : Nat → D → Bool
  | _, .non => true
  | _, .bl _ => true
  | _, .int _ => true
  | _, .str _ => true
  | n, .lst xs => D.plains n xs
  | n, .tup xs => D.plains n xs
  | _, _ => false
def D.plains : Nat → List D → Bool
  | 0, _ => false
  | _ + 1, [] => true
  | n + 1, x :: xs => D.plain n x && D.plains (n + 1) xs
end
/-- what == is told of -/
def D.eqOk (d e : D) : Bool := D.plain 60 d && D.plain 60 e

/-! ### slots -/
inductive Slot where
  | no | val (d : D) | own (d : D) | bor (d : D)
deriving Inhabited
abbrev Sl := List Slot

inductive R (α : Type) where
  | ok (a : α) (st : Sl) | err (c : Str) (p : List D) (st : Sl) | bad

@[inline] def R.bind {α β : Type} (r : R α) (f : α → Sl → R β) : R β := match r with
  | .ok a st => f a st
  | .err c p st => .err c p st
  | .bad => .bad

def R.noErr {α : Type} : R α → R α
  | .err _ _ _ => .bad
  | r => r
/-- an optional pure result -/
@[inline] def R.opt {α : Type} (o : Option α) (st : Sl) : R α := match o with
  | some a => .ok a st
  | none => .bad

abbrev Rv := D × Bool

/-! ### what a def does -/
inductive FR where
  | ok (r : D) (out : D) | err (c : Str) (p : List D) (out : D)
/-- n parameters; the one that is borrowed; what it gives, with what the borrowed one holds behind it -/
structure Fn where
  n : Nat
  bor : Option Nat
  sem : List D → Option FR

structure Tb where
  fn : Str → Option Fn
  gl : Str → Option D
  fu : Nat
  /-- exception classes without and with a field; which class is caught by which; what a def tells of a caught one; what isinstance tells of the caught one -/
  ex0 : Str → Bool := fun _ => false
  ex1 : Str → Bool := fun _ => false
  exm : Str → Str → Option Bool := fun _ _ => none
  wh : Str → Str → Option D := fun _ _ => none
  isx : Str → Option Bool := fun _ => none

/-! ### operations on data -/
def mulOk (i j : Int) : Bool := decide (i.natAbs < 2 ^ 64) || decide (j.natAbs < 2 ^ 64) || (decide (i.natAbs < 2 ^ 2000) && decide (j.natAbs < 2 ^ 2000))
def binD : Operator → D → D → Option Rv
  | .Add, .int i, .int j => some (.int (i + j), false)
  | .Add, .str x, .str y => if x.length + y.length ≤ LIM then some (.str (x ++ y), false) else none
  | .Add, .tup xs, .tup ys => if xs.length + ys.length ≤ LIM then some (.tup (xs ++ ys), false) else none
  | .Add, .lst xs, .lst ys => if xs.length + ys.length ≤ LIM then some (.lst (xs ++ ys), true) else none
  | .Sub, .int i, .int j => some (.int (i - j), false)
  | .Mult, .int i, .int j => if mulOk i j then some (.int (i * j), false) else none
  | .Mult, .lst xs, .int k => if k.natAbs < 2 ^ 20 ∧ xs.length * k.toNat ≤ LIM then some (.lst (List.replicate k.toNat xs).flatten, true) else none
  | .Mult, .tup xs, .int k => if 1 ≤ k ∧ k.toNat ≤ 1000 ∧ xs.length ≤ 1000 ∧ xs ≠ [] then some (.tup (List.replicate k.toNat xs).flatten, false) else none
  | .FloorDiv, .int i, .int j => if 0 < j ∧ j.toNat < 1073741824 then some (.int (i / j), false) else none
  | .Mod, .int i, .int j => if 0 < j then some (.int (i % j), false) else none
  | .Pow, .int i, .int j => if 0 ≤ j ∧ j ≤ 1000 ∧ i.natAbs < 2 ^ 64 then some (.int (i ^ j.toNat), false) else none
  | _, _, _ => none

def D.flat : D → Bool
  | .non | .bl _ | .int _ | .str _ => true
  | _ => false
/-- the sign of a text of one sign -/
def one1 (x : Str) : Option Nat := match x.cps.toList with
  | [c] => some c
  | _ => none
/-- x in xs -/
def inD (x : D) : List D → Bool
  | [] => false
  | y :: ys => D.eqv y x || inD x ys
def eqD (d e : D) : Option Bool := match d, e with
  | .scr ns, .lst [] => some ns.isEmpty
  | d, e => if D.eqOk d e then some (D.eqv d e) else none
def D.isStr : D → Bool
  | .str _ => true
  | _ => false
/-- the order of rows of texts -/
def ltD : List D → List D → Bool
  | [], [] => false
  | [], _ :: _ => true
  | _ :: _, [] => false
  | .str x :: xs, .str y :: ys => if x = y then ltD xs ys else decide (x.cps.toList < y.cps.toList)
  | _ :: _, _ :: _ => false
def cmpD : CmpOp → D → D → Option Bool
  | .Eq, d, e => eqD d e
  | .NotEq, d, e => (eqD d e).map fun b => !b
  | .Lt, .int i, .int j => some (decide (i < j))
  | .Lt, .str x, .str y => some (decide (x.cps.toList < y.cps.toList))
  | .Lt, .tup xs, .tup ys => if xs.all D.isStr && ys.all D.isStr then some (ltD xs ys) else none
  | .LtE, .int i, .int j => some (decide (i ≤ j))
  | .Gt, .int i, .int j => some (decide (j < i))
  | .GtE, .int i, .int j => some (decide (j ≤ i))
  | .In, .str x, .str y => (one1 x).map fun c => decide (c ∈ y.cps.toList)
  | .NotIn, .str x, .str y => (one1 x).map fun c => !decide (c ∈ y.cps.toList)
  | .In, d, .tup xs => if d.flat && xs.all D.flat then some (inD d xs) else none
  | .In, d, .lst xs => if d.flat && xs.all D.flat then some (inD d xs) else none
  | .NotIn, d, .tup xs => if d.flat && xs.all D.flat then some (!inD d xs) else none
  | .NotIn, d, .lst xs => if d.flat && xs.all D.flat then some (!inD d xs) else none
  | .Is, d, .non => some (match d with | .non => true | _ => false)
  | .IsNot, d, .non => some (match d with | .non => false | _ => true)
  | .Is, .bl a, .bl b => some (a == b)
  | .IsNot, .bl a, .bl b => some (!(a == b))
  | _, _, _ => none

/-- the item at an index of any sign -/
abbrev atD {α : Type} (xs : List α) (i : Int) : Option α := L2.atI xs i
def ixD : D → D → Option D
  | .tup xs, .int i => atD xs i
  | .lst xs, .int i => atD xs i
  | .scr ns, .int i => (atD ns i).map .int
  | .str z, .int i => (atD z.cps.toList i).map fun c => .str ⟨#[c]⟩
  | _, _ => none
def cutD {α : Type} (xs : List α) (lo hi : Option Int) : List α := (xs.drop (HT.sIx xs.length 0 lo)).take (HT.sIx xs.length xs.length hi - HT.sIx xs.length 0 lo)
def slD (d : D) (lo hi : Option Int) : Option Rv := match d with
  | .tup xs => some (.tup (cutD xs lo hi), false)
  | .lst xs => some (.lst (cutD xs lo hi), true)
  | _ => none
def isiN : List Str := ["bool", "int", "str", "tuple"]
def isiD (t : Str) (d : D) : Option Bool := if t ∈ isiN then match d with
  | .non => some false
  | .bl _ => some (decide (t = "bool" ∨ t = "int"))
  | .int _ => some (decide (t = "int"))
  | .str _ => some (decide (t = "str"))
  | .tup _ => some (decide (t = "tuple"))
  | .lst _ => some false
  | _ => none else none
def bls : List D → Option (List Bool)
  | [] => some []
  | .bl b :: r => (bls r).map (b :: ·)
  | _ => none
def rangeD (a : Int) (n : Nat) : List D := (List.range n).map fun (k : Nat) => .int (a + (k : Int))
def lenD : List D → Option Rv
  | [.tup xs] => some (.int xs.length, false)
  | [.lst xs] => some (.int xs.length, false)
  | [.str z] => some (.int z.cps.size, false)
  | [.scr ns] => some (.int ns.length, false)
  | _ => none
def allD' : List D → Option Rv
  | [.lst xs] => (bls xs).map fun bs => (.bl (bs.all id), false)
  | _ => none
def anyD' : List D → Option Rv
  | [.lst xs] => (bls xs).map fun bs => (.bl (bs.any id), false)
  | _ => none
def tupleD : List D → Option Rv
  | [.lst xs] => some (.tup xs, false)
  | [.tup xs] => some (.tup xs, false)
  | _ => none
def listD : List D → Option Rv
  | [.lst xs] => some (.lst xs, true)
  | [.tup xs] => some (.lst xs, true)
  | _ => none
def biD (f : Str) : List D → Option Rv :=
  if f = "len" then lenD
  else if f = "all" then allD'
  else if f = "any" then anyD'
  else if f = "tuple" then tupleD
  else if f = "list" then listD
  else fun _ => none
/-- a method that changes nothing -/
def meD (m : Str) (d : D) (ds : List D) : Option Rv :=
  if m = "count" then match d, ds with
    | .tup xs, [e] => if D.plain 60 (.tup xs) && D.plain 60 e then some (.int (xs.countP fun x => D.eqv x e), false) else none
    | .lst xs, [e] => if D.plain 60 (.lst xs) && D.plain 60 e then some (.int (xs.countP fun x => D.eqv x e), false) else none
    | _, _ => none
  else if m = "index" then match d, ds with
    | .lst xs, [e] => if xs.all D.flat && e.flat && xs.any (fun x => D.eqv x e) then some (.int (xs.findIdx fun x => D.eqv x e), false) else none
    | _, _ => none
  else none
/-- a method that changes: what is held behind it, what it gives -/
def mutD (m : Str) (d : D) (ds : List D) : Option (D × Rv) :=
  if m = "append" then match d, ds with
    | .lst xs, [e] => if xs.length < LIM then some (.lst (xs ++ [e]), (.non, false)) else none
    | _, _ => none
  else if m = "extend" then match d, ds with
    | .lst xs, [.lst ys] => if xs.length + ys.length ≤ LIM then some (.lst (xs ++ ys), (.non, false)) else none
    | .lst xs, [.tup ys] => if xs.length + ys.length ≤ LIM then some (.lst (xs ++ ys), (.non, false)) else none
    | _, _ => none
  else if m = "insert" then match d, ds with
    | .lst xs, [.int i, e] => if xs.length < LIM ∧ 0 ≤ i ∧ i ≤ xs.length then some (.lst (xs.take i.toNat ++ e :: xs.drop i.toNat), (.non, false)) else none
    | _, _ => none
  else none
/-- a[i] = e -/
def setD (d i e : D) : Option D := match d, i with
  | .lst xs, .int i => if 0 ≤ i ∧ i < xs.length then some (.lst (xs.set i.toNat e)) else none
  | _, _ => none

/-! ### syntax -/
inductive Tg where
  | one (i : Nat) | many (is : List Nat)
inductive Ik where
  | seq | range | enum | zip

inductive Ex where
  | nil
  | c (d : D)
  | v (i : Nat)
  | g (x : Str)
  | tup (es : List Ex)
  | lst (es : List Ex)
  | bin (o : Operator) (a b : Ex)
  | cmp (o : CmpOp) (a b : Ex)
  | chain (o o' : CmpOp) (a b c : Ex)
  | not (a : Ex) | and (a b : Ex) | or (a b : Ex) | ite (c a b : Ex)
  | ix (a i : Ex)
  | sl (a lo hi : Ex)
  | isi (t : Str) (a : Ex)
  | bi (f : Str) (es : List Ex)
  | rg (es : List Ex)
  | me (m : Str) (o : Ex) (es : List Ex)
  | mut (m : Str) (i : Nat) (es : List Ex)
  | call (f : Str) (es : List Ex)
  | lc (elt : Ex) (tg : Tg) (ik : Ik) (its : List Ex) (ifs : List Ex)
  | isx (y : Str) (i : Nat)
  | callv (f : Ex) (es : List Ex)
deriving Inhabited
/-- what an except clause gives back -/
inductive Hd where
  | which (f : Str) | told | ret (d : D)
deriving Inhabited

inductive Sx where
  | asg (i : Nat) (e : Ex)
  | unp (is : List Nat) (e : Ex)
  | par (i j : Nat) (a b : Ex)
  | aug (i : Nat) (o : Operator) (e : Ex)
  | setix (i : Nat) (ix e : Ex)
  | augix (i : Nat) (ix : Ex) (o : Operator) (e : Ex)
  | ex (e : Ex)
  | ret (e : Ex)
  | ifs (c : Ex) (t f : List Sx)
  | for_ (tg : Tg) (ik : Ik) (its : List Ex) (body : List Sx)
  | while_ (c : Ex) (body : List Sx)
  | raise_ (c : Str) (es : List Ex)
  | pass
  | brk
  | never
  | gh (fz wp : List Nat)
  | try_ (body : List Sx) (c : Str) (i : Option Nat) (h : Hd)
deriving Inhabited

/-! ### the interpreter -/
/-- an argument that is looked at: data, or what a slot holds -/
inductive Vw where
  | d (d : D) | s (i : Nat)
def Slot.get : Slot → Option D
  | .no => none
  | .val d | .own d | .bor d => some d
def getS (st : Sl) (i : Nat) : Option D := (st[i]?).bind Slot.get
def Vw.get (st : Sl) : Vw → Option D
  | .d x => some x
  | .s i => getS st i
def Vw.gets (st : Sl) : List Vw → Option (List D)
  | [] => some []
  | w :: ws => (w.get st).bind fun d => (Vw.gets st ws).map (d :: ·)
/-- store; a borrowed slot is not stored -/
def setS (st : Sl) (i : Nat) (r : Rv) : Option Sl := match st[i]? with
  | some (.bor _) => none
  | none => none
  | some _ => some (st.set i (if r.2 then .own r.1 else .val r.1))
/-- the content of an owned or borrowed slot is changed -/
def putS (st : Sl) (i : Nat) (d : D) : Option Sl := match st[i]? with
  | some (.bor _) => some (st.set i (.bor d))
  | some (.own _) => some (st.set i (.own d))
  | _ => none
def setsS : Sl → List Nat → List D → Option Sl
  | st, [], [] => some st
  | st, i :: is, d :: ds => (setS st i (d, false)).bind fun st => setsS st is ds
  | _, _, _ => none
def bindTg (st : Sl) (t : Tg) (d : D) : Option Sl := match t with
  | .one i => setS st i (d, false)
  | .many is => match d with
    | .tup ds => setsS st is ds
    | _ => none
/-- the slots of a comprehension's own names are forgotten -/
def Tg.slots : Tg → List Nat
  | .one i => [i]
  | .many is => is
def wipeS (st : Sl) : List Nat → Sl
  | [] => st
  | i :: is => (wipeS st is).set i .no
/-- owned slots are frozen -/
def fzS (st : Sl) : List Nat → Sl
  | [] => st
  | i :: is => match (fzS st is)[i]? with
    | some (.own d) => (fzS st is).set i (.val d)
    | _ => fzS st is
/-- .. and come back -/
def restS (st0 : Sl) : Sl → List Nat → Sl
  | st, [] => st
  | st, i :: is => match st0[i]? with
    | some (.val d) => (restS st0 st is).set i (.val d)
    | _ => (restS st0 st is).set i .no
def seqOf : D → Option (List D)
  | .lst xs => some xs
  | .tup xs => some xs
  | .str z => some (z.cps.toList.map fun c => .str ⟨#[c]⟩)
  | _ => none
def intOk (i : Int) : Bool := decide (i.natAbs < 2 ^ 62)
def zipD : List D → List D → List D
  | x :: xs, y :: ys => .tup [x, y] :: zipD xs ys
  | _, _ => []
def enumD : Nat → List D → List D
  | _, [] => []
  | k, x :: xs => .tup [.int (k : Nat), x] :: enumD (k + 1) xs
def pairOf : D → Option (List D)
  | .lst xs => some xs
  | .tup xs => some xs
  | _ => none
/-- the items that a loop walks -/
def itemsOf (ik : Ik) (ds : List D) : Option (List D) := match ik, ds with
  | .seq, [d] => seqOf d
  | .range, [.int j] => if intOk j && decide (j.toNat ≤ LIM) then some (rangeD 0 j.toNat) else none
  | .range, [.int i, .int j] => if intOk i && intOk j && decide ((j - i).toNat ≤ LIM) then some (rangeD i (j - i).toNat) else none
  | .enum, [d] => (pairOf d).map (enumD 0)
  | .zip, [d, e] => (pairOf d).bind fun xs => (pairOf e).map fun ys => zipD xs ys
  | _, _ => none
def optI : Option D → Option (Option Int)
  | none => some none
  | some (.int i) => some (some i)
  | _ => none

/-- the borrowed argument's slot -/
def borSlot (b : Option Nat) (ws : List Vw) : Option (Option Nat) := match b with
  | none => some none
  | some k => match ws[k]? with
    | some (.s i) => some (some i)
    | _ => none
def allD : List Vw → Option Nat → Nat → Bool
  | [], _, _ => true
  | .d _ :: r, b, k => allD r b (k + 1)
  | .s _ :: r, b, k => (b == some k) && allD r b (k + 1)
/-- what is behind a call -/
def backCall (st : Sl) (b : Option Nat) : FR → R Rv
  | .ok r out => match b with
    | none => .ok (r, false) st
    | some i => match putS st i out with
      | some st' => .ok (r, false) st'
      | none => .bad
  | .err c p out => match b with
    | none => .err c p st
    | some i => match putS st i out with
      | some st' => .err c p st'
      | none => .bad

section
variable (T : Tb)
/-- a list comprehension's turns, over the test and the element -/
def lcGo (tg : Tg) (ti : Sl → R Bool) (el : Sl → R Rv) : List D → List D → Sl → R (List D)
  | [], acc, st => .ok acc st
  | x :: xs, acc, st => match bindTg st tg x with
    | none => .bad
    | some st1 => (ti st1).bind fun b st2 => if b then (el st2).bind fun y st3 => lcGo tg ti el xs (acc ++ [y.1]) (wipeS st3 tg.slots) else lcGo tg ti el xs acc (wipeS st2 tg.slots)

/-- looked at: a slot that is owned or borrowed stays as it is -/
def vw (a : Ex) (f : Sl → R Rv) (st : Sl) : R Vw := match a with
  | .v i => (match st[i]? with
    | some (.val d) => .ok (.d d) st
    | some (.own _) => .ok (.s i) st
    | some (.bor _) => .ok (.s i) st
    | _ => .bad)
  | _ => (f st).bind fun r st => .ok (.d r.1) st
/-- an end of a slice, if there is one -/
def op (a : Ex) (f : Sl → R Rv) (st : Sl) : R (Option Int) := match a with
  | .nil => .ok none st
  | _ => (f st).bind fun r st => match r.1 with
    | .int i => .ok (some i) st
    | _ => .bad
/-- one, two that are looked at -/
def vw1 (a : Ex) (f : Sl → R Rv) (k : D → Option Rv) (st : Sl) : R Rv :=
  (vw a f st).bind fun w st => R.opt ((w.get st).bind k) st
def vw2 (a b : Ex) (f g : Sl → R Rv) (k : D → D → Option Rv) (st : Sl) : R Rv :=
  (vw a f st).bind fun w st => (vw b g st).bind fun u st => R.opt ((w.get st).bind fun d => (u.get st).bind fun e => k d e) st
def bV (o : Option Bool) : Option Rv := o.map fun b => (.bl b, false)
/-- the kinds whose methods differ -/
def kindD : D → Nat
  | .tup _ => 0
  | .lst _ => 1
  | .str _ => 2
  | .dic _ _ => 3
  | _ => 9
/-- whose methods are told -/
def meOk (m : Str) (d : D) : Bool := (decide (m = "count") && decide (kindD d = 0)) || (decide (m ∈ (["count", "index"] : List Str)) && decide (kindD d = 1))
/-- a list of one's own, or a borrowed one -/
def ownB (st : Sl) (i : Nat) : Bool := match st[i]? with
  | some (.own (.lst _)) => true
  | some (.bor (.lst _)) => true
  | _ => false
def mutE (m : Str) (i : Nat) (ds : List D) (st : Sl) : R Rv := match (getS st i).bind fun d => mutD m d ds with
  | some (d', r) => (match putS st i d' with
    | some st' => .ok r st'
    | none => .bad)
  | none => .bad
def lentB (st : Sl) : Option Nat → Bool
  | none => true
  | some i => ownB st i
def callE (F : Fn) (ws : List Vw) (st : Sl) : R Rv := match borSlot F.bor ws with
  | none => .bad
  | some b => if allD ws F.bor 0 && decide (ws.length = F.n) && lentB st b then match (Vw.gets st ws).bind F.sem with
      | some r => backCall st b r
      | none => .bad
    else .bad
def lcE (tg : Tg) (ik : Ik) (ds : List D) (ti : Sl → R Bool) (el : Sl → R Rv) (st : Sl) : R Rv := match itemsOf ik ds with
  | none => .bad
  | some xs => (lcGo tg ti el xs [] (wipeS st tg.slots)).noErr.bind fun ys st' => .ok (.lst ys, true) (restS st st' tg.slots)
def chE (o o' : CmpOp) (a b c : Ex) (f g h : Sl → R Rv) (st : Sl) : R Rv :=
  (vw a f st).bind fun w st => (vw b g st).bind fun u st => match (w.get st).bind fun d => (u.get st).bind fun e => cmpD o d e with
    | none => .bad
    | some false => .ok (.bl false, false) st
    | some true => (vw c h st).bind fun x st => R.opt ((u.get st).bind fun e => (x.get st).bind fun e' => bV (cmpD o' e e')) st

mutual
def evE : Ex → Sl → R Rv
  | .nil, _ => .bad
  | .c d, st => .ok (d, false) st
  | .v i, st => match st[i]? with
    | some (.val d) => .ok (d, false) st
    | some (.own d) => .ok (d, false) (st.set i (.val d))
    | _ => .bad
  | .g x, st => R.opt ((T.gl x).map fun d => (d, false)) st
  | .tup es, st => (evEs es st).bind fun ds st => .ok (.tup ds, false) st
  | .lst es, st => (evEs es st).bind fun ds st => .ok (.lst ds, true) st
  | .bin o a b, st => vw2 a b (evE a) (evE b) (binD o) st
  | .cmp o a b, st => vw2 a b (evE a) (evE b) (fun d e => bV (cmpD o d e)) st
  | .chain o o' a b c, st => chE o o' a b c (evE a) (evE b) (evE c) st
  | .not a, st => (evE a st).bind fun r st => match r.1 with | .bl b => .ok (.bl (!b), false) st | _ => .bad
  | .and a b, st => (evE a st).bind fun r st => match r.1 with | .bl true => evE b st | .bl false => .ok (.bl false, false) st | _ => .bad
  | .or a b, st => (evE a st).bind fun r st => match r.1 with | .bl false => evE b st | .bl true => .ok (.bl true, false) st | _ => .bad
  | .ite c a b, st => (evE c st).bind fun r st => match r.1 with | .bl true => evE a st | .bl false => evE b st | _ => .bad
  | .ix a i, st => vw2 a i (evE a) (evE i) (fun d e => (ixD d e).map fun x => (x, false)) st
  | .sl a lo hi, st => (vw a (evE a) st).bind fun w st => (op lo (evE lo) st).bind fun l st => (op hi (evE hi) st).bind fun h st => R.opt ((w.get st).bind fun d => slD d l h) st
  | .isi t a, st => vw1 a (evE a) (fun d => bV (isiD t d)) st
  | .bi f es, st => (evVs es st).bind fun ws st => R.opt ((Vw.gets st ws).bind fun ds => biD f ds) st
  | .rg es, st => (evEs es st).bind fun ds st => R.opt ((itemsOf .range ds).map fun xs => (.lst xs, true)) st
  | .me m o es, st => (vw o (evE o) st).bind fun w st => match w.get st with
    | none => .bad
    | some d0 => if meOk m d0 then (evVs es st).bind fun ws st => R.opt ((w.get st).bind fun d => (Vw.gets st ws).bind fun ds => if kindD d0 = kindD d then meD m d ds else none) st else .bad
  | .mut m i es, st => if ownB st i then (evEs es st).bind fun ds st => mutE m i ds st else .bad
  | .call f es, st => match T.fn f with
    | none => .bad
    | some F => (evVs es st).bind fun ws st => callE F ws st
  | .lc elt tg ik its ifs, st => (evEs its st).bind fun ds st => lcE tg ik ds (evTs ifs) (evE elt) st
  | .isx y i, st => match st[i]? with
    | some (.val (.exc _ _)) => R.opt ((T.isx y).map fun b => (.bl b, false)) st
    | _ => .bad
  | .callv f es, st => (evE f st).bind fun r st => match r.1 with
    | .fn g => (match T.fn g with
      | some F => (evVs es st).bind fun ws st => callE F ws st
      | none => .bad)
    | _ => .bad
/-- several, each as frozen data -/
def evEs : List Ex → Sl → R (List D)
  | [], st => .ok [] st
  | e :: es, st => (evE e st).bind fun r st => (evEs es st).bind fun ds st => .ok (r.1 :: ds) st
/-- several, to be looked at -/
def evVs : List Ex → Sl → R (List Vw)
  | [], st => .ok [] st
  | e :: es, st => (vw e (evE e) st).bind fun w st => (evVs es st).bind fun ws st => .ok (w :: ws) st
def evTs : List Ex → Sl → R Bool
  | [], st => .ok true st
  | e :: es, st => (evE e st).bind fun r st => match r.1 with | .bl true => evTs es st | .bl false => .ok false st | _ => .bad
end

/-! ### statements -/
inductive Fl where
  | next | brk | ret (r : D)
/-- an item of a list, counted from its front -/
def frontD (d u : D) : Option D := match d, u with
  | .lst xs, .int k => if 0 ≤ k then xs[k.toNat]? else none
  | _, _ => none
/-- `+=` on whole numbers -/
def augD (o : Operator) (d e : D) : Option D := match o, d, e with
  | .Add, .int a, .int b => some (.int (a + b))
  | _, _, _ => none
/-- a for's turns -/
def forGo (tg : Tg) (body : Sl → R Fl) : List D → Sl → R Fl
  | [], st => .ok .next st
  | x :: xs, st => match bindTg st tg x with
    | none => .bad
    | some st1 => (body st1).bind fun f st2 => match f with
      | .next => forGo tg body xs st2
      | .brk => .ok .next st2
      | .ret r => .ok (.ret r) st2
def whileGo (c : Sl → R Rv) (body : Sl → R Fl) : Nat → Sl → R Fl
  | 0, _ => .bad
  | n + 1, st => (c st).bind fun r st1 => match r.1 with
    | .bl false => .ok .next st1
    | .bl true => (body st1).bind fun f st2 => match f with
      | .next => whileGo c body n st2
      | .brk => .ok .next st2
      | .ret r => .ok (.ret r) st2
    | _ => .bad
/-- what a clause gives back of an exception -/
def hdR (T : Tb) (h : Hd) (c : Str) (p : List D) : Option D := match h with
  | .which f => (match p with
    | [] => T.wh f c
    | _ => none)
  | .told => (match p with
    | [x] => some x
    | _ => none)
  | .ret d => some d
def catchSt (i : Option Nat) (st : Sl) : Sl := match i with
  | some i => st.set i .no
  | none => st
def catchR (T : Tb) (c : Str) (i : Option Nat) (h : Hd) : R Fl → R Fl
  | .err c' p st => (match T.exm c' c with
    | some true => (match hdR T h c' p with
      | some d => .ok (.ret d) (catchSt i st)
      | none => .bad)
    | some false => .err c' p st
    | none => .bad)
  | r => r
def setR (st : Sl) (i : Nat) (r : Rv) : R Fl := match setS st i r with
  | some st' => .ok .next st'
  | none => .bad
def setsR (st : Sl) (is : List Nat) (ds : List D) : R Fl := match setsS st is ds with
  | some st' => .ok .next st'
  | none => .bad
def putR (st : Sl) (i : Nat) (o : Option D) : R Fl := match o.bind fun d => putS st i d with
  | some st' => .ok .next st'
  | none => .bad
mutual
def evS : Sx → Sl → R Fl
  | .asg i e, st => (evE T e st).bind fun r st => setR st i r
  | .unp is e, st => (evE T e st).bind fun r st => match r.1 with
    | .tup ds => setsR st is ds
    | _ => .bad
  | .par i j a b, st => (evE T a st).bind fun r st => (evE T b st).bind fun u st => (setR st i r).bind fun _ st => setR st j u
  | .aug i o e, st => match getS st i with
    | some d => (evE T e st).bind fun r st => (R.opt (augD o d r.1) st).bind fun z st => setR st i (z, false)
    | none => .bad
  | .setix i ix e, st => (evE T e st).bind fun r st => if ownB st i then (evE T ix st).bind fun u st => putR st i ((getS st i).bind fun d => setD d u.1 r.1) else .bad
  | .augix i ix o e, st => if ownB st i then (evE T ix st).bind fun u st => match (getS st i).bind fun d => frontD d u.1 with
    | some x => (evE T e st).bind fun r st => (R.opt (augD o x r.1) st).bind fun z st => putR st i ((getS st i).bind fun d => setD d u.1 z)
    | none => .bad
    else .bad
  | .ex e, st => (evE T e st).bind fun _ st => .ok .next st
  | .ret e, st => (evE T e st).bind fun r st => .ok (.ret r.1) st
  | .ifs c t f, st => (evE T c st).bind fun r st => match r.1 with | .bl true => evSs t st | .bl false => evSs f st | _ => .bad
  | .for_ tg ik its body, st => (evEs T its st).bind fun ds st => match itemsOf ik ds with
    | none => .bad
    | some xs => forGo tg (evSs body) xs st
  | .while_ c body, st => whileGo (evE T c) (evSs body) T.fu st
  | .raise_ c es, st => (match es with
    | [] => if T.ex0 c then .err c [] st else .bad
    | es => if T.ex1 c then (evEs T es st).bind fun ds st => .err c ds st else .bad)
  | .pass, st => .ok .next st
  | .brk, st => .ok .brk st
  | .never, _ => .bad
  | .gh fz wp, st => .ok .next (wipeS (fzS st fz) wp)
  | .try_ body c i h, st => (match T.exm c c with
    | some true => catchR T c i h (evSs body st)
    | _ => .bad)
def evSs : List Sx → Sl → R Fl
  | [], st => .ok .next st
  | s :: ss, st => (evS s st).bind fun f st => match f with
    | .next => evSs ss st
    | .brk => .ok .brk st
    | .ret r => .ok (.ret r) st
end
end

/-! ### a def -/
structure Df where
  ps : List Str
  ns : List Str
  bor : Option Nat
  body : List Sx
/-- the slots at the start -/
def startS (bor : Option Nat) : Nat → List D → Nat → Sl
  | _, [], n => List.replicate n .no
  | k, d :: ds, n => (if bor == some k then .bor d else .val d) :: startS bor (k + 1) ds n
def outOf (bor : Option Nat) (st : Sl) : Option D := match bor with
  | none => some .non
  | some k => match st[k]? with
    | some (.bor d) => some d
    | _ => none
def endR (bor : Option Nat) : R Fl → Option FR
  | .ok (.ret r) st => (outOf bor st).map fun o => .ok r o
  | .ok .next st => (outOf bor st).map fun o => .ok .non o
  | .ok .brk _ => none
  | .err c p st => (outOf bor st).map fun o => .err c p o
  | .bad => none
def runDf (T : Tb) (d : Df) (args : List D) : Option FR := endR d.bor (evSs T d.body (startS d.bor 0 args (d.ns.length - args.length)))
end Nm
set_option maxRecDepth 100000
set_option maxHeartbeats 4000000
/-! What data stand for in the abstract heap; tags of addresses. -/
namespace Nm
open PySem L2
open PySem.PyData (strOk)

inductive Tag where
  | fro | slot (i : Nat) | fld (i : Nat) (f : Str) | tmp (n : Nat) | outer
deriving DecidableEq
abbrev Gh := Addr → Tag
def mine (n : Nat) : Tag → Bool
  | .fro => false
  | .slot _ => true
  | .fld _ _ => true
  | .tmp m => decide (n ≤ m)
  | .outer => false
def updG (G : Gh) (a : Addr) (t : Tag) : Gh := fun b => if b = a then t else G b
theorem updG_same {G : Gh} {a : Addr} {t : Tag} : updG G a t a = t := by unfold updG; rw [if_pos rfl]
theorem updG_ne {G : Gh} {a b : Addr} {t : Tag} (h : b ≠ a) : updG G a t b = G b := by unfold updG; rw [if_neg h]

def FroL (G : Gh) (H : Hp) (a : Addr) (xs : List V) : Prop := H a = some (.lst xs) ∧ G a = .fro
/-- a tuple's object, known as it is -/
def tupObj (its : Array Value) (n : Nat) : Obj := { cls := .type "tuple", data := .seq its n }
def tupO (o : HO) (xs : List V) : Prop := ∃ its n, o = .frz (tupObj its n) (.tup xs)
def FroT (G : Gh) (H : Hp) (a : Addr) (xs : List V) : Prop := ∃ o, tupO o xs ∧ H a = some o ∧ G a = .fro
theorem FroT.sq {K : PySem.W.Frag} {G : Gh} {H : Hp} {a : Addr} {xs : List V} (h : FroT G H a xs) : SqT K H a xs := by
  obtain ⟨o, ⟨its, n, rfl⟩, e, _⟩ := h
  exact .inl (.inr ⟨_, e⟩)
/-- the script -/
def FroI (K : PySem.W.Frag) (G : Gh) (H : Hp) (a : Addr) (xs : List V) : Prop := (Rd H a (.lst xs) ∧ G a = .fro) ∨
  ∃ (o : Obj) (its : Array Value) (n : Nat), K.lookup a = some o ∧ o.cls = .type "list" ∧ o.dict = none ∧ o.data = .seq its n ∧ its.size ≤ sizeLine ∧ Vals xs its.toList
theorem FroI.sq {K : PySem.W.Frag} {G : Gh} {H : Hp} {a : Addr} {xs : List V} (h : FroI K G H a xs) : SqL K H a xs := by
  rcases h with ⟨h, _⟩ | h
  · exact .inl h
  · exact .inr h

/-- the surroundings: the written part, the module's names -/
structure Sr where
  K : PySem.W.Frag
  mg : Str → Option Value
  ea : Option Addr

mutual
inductive Rep (S : Sr) (G : Gh) (H : Hp) : D → V → Prop
  | non : Rep S G H .non .non
  | bl (b : Bool) : Rep S G H (.bl b) (.bl b)
  | int (i : Int) : Rep S G H (.int i) (.int i)
  | str (x : Str) (h : okS x = true) : Rep S G H (.str x) (.str x)
  | tup {a : Addr} {vs : List V} {xs : List D} : FroT G H a vs → xs.length ≤ LIM → Reps S G H xs vs → Rep S G H (.tup xs) (.ref a)
  | lst {a : Addr} {vs : List V} {xs : List D} : FroL G H a vs → xs.length ≤ LIM → Reps S G H xs vs → Rep S G H (.lst xs) (.ref a)
  | fn {x : Str} {f : Addr} : S.mg x = some (.ref f) → Rep S G H (.fn x) (.ref f)
  | exc {c : Str} {p : List D} {a : Addr} : S.ea = some a → Rep S G H (.exc c p) (.ref a)
  | scr {a : Addr} {ns : List Int} : FroI S.K G H a (ns.map V.int) → ns.length ≤ LIM → Rep S G H (.scr ns) (.ref a)
inductive Reps (S : Sr) (G : Gh) (H : Hp) : List D → List V → Prop
  | nil : Reps S G H [] []
  | cons {d : D} {v : V} {ds : List D} {vs : List V} : Rep S G H d v → Reps S G H ds vs → Reps S G H (d :: ds) (v :: vs)
end

/-- an object of its own tag -/
def Own (S : Sr) (G : Gh) (H : Hp) (t : Tag) : D → V → Prop
  | .lst xs, v => ∃ a vs, v = .ref a ∧ H a = some (.lst vs) ∧ G a = t ∧ xs.length ≤ LIM ∧ Reps S G H xs vs
  | _, _ => False
/-- what is looked at -/
def Vwd (S : Sr) (G : Gh) (H : Hp) (d : D) (v : V) : Prop := Rep S G H d v ∨ ∃ t, Own S G H t d v

section
variable {S : Sr} {G G' : Gh} {H H' : Hp} {n m : Nat}

theorem Reps.length : ∀ {ds : List D} {vs : List V}, Reps S G H ds vs → ds.length = vs.length
  | _, _, .nil => rfl
  | _, _, .cons _ t => by rw [List.length_cons, List.length_cons, t.length]
theorem Reps.get : ∀ {ds : List D} {vs : List V} {i : Nat} {d : D}, Reps S G H ds vs → ds[i]? = some d → ∃ v, vs[i]? = some v ∧ Rep S G H d v
  | _, _, _, _, .nil, e => by simp at e
  | _, _, 0, _, .cons r _, e => by simp at e; subst e; exact ⟨_, rfl, r⟩
  | _, _, i + 1, d, .cons _ t, e => by
    obtain ⟨u, h1, h2⟩ := Reps.get (i := i) (d := d) t (by simpa using e)
    exact ⟨u, by simpa using h1, h2⟩
theorem Reps.getV : ∀ {ds : List D} {vs : List V} {i : Nat} {v : V}, Reps S G H ds vs → vs[i]? = some v → ∃ d, ds[i]? = some d ∧ Rep S G H d v
  | _, _, _, _, .nil, e => by simp at e
  | _, _, 0, _, .cons r _, e => by simp at e; subst e; exact ⟨_, rfl, r⟩
  | _, _, i + 1, d, .cons _ t, e => by
    obtain ⟨u, h1, h2⟩ := Reps.getV (i := i) (v := d) t (by simpa using e)
    exact ⟨u, by simpa using h1, h2⟩
theorem Reps.append : ∀ {ds es : List D} {vs us : List V}, Reps S G H ds vs → Reps S G H es us → Reps S G H (ds ++ es) (vs ++ us)
  | _, _, _, _, .nil, s => s
  | _, _, _, _, .cons r t, s => .cons r (t.append s)
theorem Reps.take : ∀ {ds : List D} {vs : List V} (k : Nat), Reps S G H ds vs → Reps S G H (ds.take k) (vs.take k)
  | _, _, 0, _ => .nil
  | _, _, _ + 1, .nil => .nil
  | _, _, k + 1, .cons r t => .cons r (t.take k)
theorem Reps.drop : ∀ {ds : List D} {vs : List V} (k : Nat), Reps S G H ds vs → Reps S G H (ds.drop k) (vs.drop k)
  | _, _, 0, r => r
  | _, _, _ + 1, .nil => .nil
  | _, _, k + 1, .cons _ t => t.drop k
theorem Reps.set : ∀ {ds : List D} {vs : List V} (k : Nat) {d : D} {v : V}, Rep S G H d v → Reps S G H ds vs → Reps S G H (ds.set k d) (vs.set k v)
  | _, _, _, _, _, _, .nil => .nil
  | _, _, 0, _, _, q, .cons _ t => .cons q t
  | _, _, k + 1, _, _, q, .cons r t => .cons r (t.set k q)
theorem Reps.one {d : D} {v : V} (r : Rep S G H d v) : Reps S G H [d] [v] := .cons r .nil
theorem Reps.flat : ∀ (k : Nat) {ds : List D} {vs : List V}, Reps S G H ds vs → Reps S G H (List.replicate k ds).flatten (List.replicate k vs).flatten
  | 0, _, _, _ => .nil
  | k + 1, _, _, r => by
    rw [List.replicate_succ, List.replicate_succ, List.flatten_cons, List.flatten_cons]
    exact r.append (Reps.flat k r)
theorem Reps.reverse : ∀ {ds : List D} {vs : List V}, Reps S G H ds vs → Reps S G H ds.reverse vs.reverse
  | _, _, .nil => .nil
  | _, _, .cons r t => by
    rw [List.reverse_cons, List.reverse_cons]
    exact t.reverse.append (.cons r .nil)

/-- frozen things stay -/
def Stay (G G' : Gh) (H H' : Hp) : Prop := ∀ a o, H a = some o → G a = .fro → H' a = some o ∧ G' a = .fro
theorem Stay.refl : Stay G G H H := fun _ _ e t => ⟨e, t⟩
theorem Stay.trans {G2 : Gh} {H2 : Hp} (a : Stay G G' H H') (b : Stay G' G2 H' H2) : Stay G G2 H H2 := fun x o e t => by
  obtain ⟨e1, t1⟩ := a x o e t
  exact b x o e1 t1
theorem Stay.rd {a : Addr} {u : HO} (s : Stay G G' H H') (h : Rd H a u) (t : G a = .fro) : Rd H' a u ∧ G' a = .fro := by
  rcases h with h | ⟨o, h⟩
  · obtain ⟨e1, t1⟩ := s a _ h t
    exact ⟨.inl e1, t1⟩
  · obtain ⟨e1, t1⟩ := s a _ h t
    exact ⟨.inr ⟨o, e1⟩, t1⟩
theorem FroL.stay {a : Addr} {xs : List V} (s : Stay G G' H H') (h : FroL G H a xs) : FroL G' H' a xs := s a _ h.1 h.2
theorem FroT.stay {a : Addr} {xs : List V} (s : Stay G G' H H') (h : FroT G H a xs) : FroT G' H' a xs := by
  obtain ⟨o, k, e, t⟩ := h
  obtain ⟨e1, t1⟩ := s a _ e t
  exact ⟨o, k, e1, t1⟩
theorem FroI.stay {K : PySem.W.Frag} {a : Addr} {xs : List V} (s : Stay G G' H H') (h : FroI K G H a xs) : FroI K G' H' a xs := by
  rcases h with ⟨h, t⟩ | h
  · exact .inl (s.rd h t)
  · exact .inr h
mutual
theorem Rep.stay (s : Stay G G' H H') : ∀ {d : D} {v : V}, Rep S G H d v → Rep S G' H' d v
  | _, _, .non => .non
  | _, _, .bl b => .bl b
  | _, _, .int i => .int i
  | _, _, .str x h => .str x h
  | _, _, .tup h l r => .tup (h.stay s) l (Reps.stay s r)
  | _, _, .lst h l r => .lst (h.stay s) l (Reps.stay s r)
  | _, _, .fn h => .fn h
  | _, _, .exc h => .exc h
  | _, _, .scr h l => .scr (h.stay s) l
theorem Reps.stay (s : Stay G G' H H') : ∀ {ds : List D} {vs : List V}, Reps S G H ds vs → Reps S G' H' ds vs
  | _, _, .nil => .nil
  | _, _, .cons r t => .cons (Rep.stay s r) (Reps.stay s t)
end

/-- a step of ours: what is not ours is kept -/
structure Step (n : Nat) (G G' : Gh) (H H' : Hp) : Prop where
  keep : ∀ b o, H b = some o → mine n (G b) = false → H' b = some o ∧ G' b = G b
  there : ∀ b, H' b = none → H b = none
theorem Step.refl : Step n G G H H := ⟨fun _ _ e _ => ⟨e, rfl⟩, fun _ e => e⟩
theorem Step.stay (s : Step n G G' H H') : Stay G G' H H' := fun a o e t => by
  obtain ⟨e1, t1⟩ := s.keep a o e (by rw [t]; rfl)
  exact ⟨e1, t1.trans t⟩
theorem Step.trans {G2 : Gh} {H2 : Hp} (a : Step n G G' H H') (b : Step n G' G2 H' H2) : Step n G G2 H H2 where
  keep := fun x o e t => by
    obtain ⟨e1, t1⟩ := a.keep x o e t
    obtain ⟨e2, t2⟩ := b.keep x o e1 (by rw [t1]; exact t)
    exact ⟨e2, t2.trans t1⟩
  there := fun x e => a.there x (b.there x e)
theorem mine_mono (h : n ≤ m) {t : Tag} (e : mine n t = false) : mine m t = false := by
  cases t with
  | tmp k =>
    have e' : decide (n ≤ k) = false := e
    have e2 : ¬ n ≤ k := of_decide_eq_false e'
    show decide (m ≤ k) = false
    exact decide_eq_false (by omega)
  | fro => rfl
  | outer => rfl
  | slot i => cases e
  | fld i f => cases e
theorem Step.mono (h : n ≤ m) (s : Step m G G' H H') : Step n G G' H H' := ⟨fun b o e t => s.keep b o e (mine_mono h t), s.there⟩

/-- only tracked addresses have tags -/
def Wk (G : Gh) (H : Hp) : Prop := ∀ b, H b = none → G b = .fro

/-! ### the slots -/
def SlotOk (S : Sr) (G : Gh) (H : Hp) (i : Nat) : Slot → Option V → Prop
  | .no, _ => True
  | .val d, o => ∃ v, o = some v ∧ Rep S G H d v
  | .own d, o => ∃ v, o = some v ∧ Own S G H (.slot i) d v
  | .bor d, o => ∃ v, o = some v ∧ Own S G H (.slot i) d v
structure Rel (S : Sr) (G : Gh) (H : Hp) (st : Sl) (σ : St) : Prop where
  len : st.length = σ.length
  wk : Wk G H
  at_ : ∀ i s, st[i]? = some s → ∃ o, σ[i]? = some o ∧ SlotOk S G H i s o

variable {st : Sl} {σ : St}
theorem Own.stay {t : Tag} {d : D} {v : V} (s : Stay G G' H H') (k : ∀ a o, H a = some o → G a = t → H' a = some o ∧ G' a = t) (h : Own S G H t d v) : Own S G' H' t d v := by
  cases d with
  | lst xs =>
    obtain ⟨a, vs, e, ha, ht, hl, r⟩ := h
    obtain ⟨h1, h2⟩ := k a _ ha ht
    exact ⟨a, vs, e, h1, h2, hl, r.stay s⟩
  | _ => exact h.elim
theorem SlotOk.stay {i : Nat} {s : Slot} {o : Option V} (hs : Stay G G' H H') (k : ∀ a o, H a = some o → G a = .slot i → H' a = some o ∧ G' a = .slot i) (h : SlotOk S G H i s o) : SlotOk S G' H' i s o := by
  cases s with
  | no => trivial
  | val d => obtain ⟨v, e, r⟩ := h; exact ⟨v, e, r.stay hs⟩
  | own d => obtain ⟨v, e, r⟩ := h; exact ⟨v, e, r.stay hs k⟩
  | bor d => obtain ⟨v, e, r⟩ := h; exact ⟨v, e, r.stay hs k⟩
/-- the slots stand where nothing of theirs changed -/
theorem Rel.move (h : Rel S G H st σ) (hs : Stay G G' H H') (k : ∀ i a o, H a = some o → G a = .slot i → H' a = some o ∧ G' a = .slot i) (hw : Wk G' H') : Rel S G' H' st σ :=
  ⟨h.len, hw, fun i s e => by
    obtain ⟨o, e1, q⟩ := h.at_ i s e
    exact ⟨o, e1, q.stay hs (k i)⟩⟩
/-- a new object, frozen -/
theorem Rel.new {p : Addr} {o : HO} (h : Rel S G H st σ) (hp : H p = none) : Rel S G (upd H p o) st σ ∧ Step n G G H (upd H p o) := by
  have k : ∀ a u, H a = some u → upd H p o a = some u := fun a u e => by rw [upd_ne (ne_of_none e hp)]; exact e
  refine ⟨h.move (fun a u e t => ⟨k a u e, t⟩) (fun i a u e t => ⟨k a u e, t⟩) fun b e => ?_, fun b u e _ => ⟨k b u e, rfl⟩, fun b e => ?_⟩
  · by_cases hb : b = p
    · rw [hb, upd_same] at e; cases e
    · rw [upd_ne hb] at e; exact h.wk b e
  · by_cases hb : b = p
    · rw [hb, upd_same] at e; cases e
    · rw [upd_ne hb] at e; exact e
/-- a new object, owned for the moment -/
theorem Rel.newTmp {p : Addr} {o : HO} (h : Rel S G H st σ) (hp : H p = none) : Rel S (updG G p (.tmp n)) (upd H p o) st σ ∧ Step n G (updG G p (.tmp n)) H (upd H p o) := by
  have k : ∀ a u, H a = some u → upd H p o a = some u ∧ updG G p (.tmp n) a = G a := fun a u e => by
    have ne := ne_of_none e hp
    rw [upd_ne ne, updG_ne ne]; exact ⟨e, rfl⟩
  refine ⟨h.move (fun a u e t => ⟨(k a u e).1, (k a u e).2.trans t⟩) (fun i a u e t => ⟨(k a u e).1, (k a u e).2.trans t⟩) fun b e => ?_, fun b u e _ => k b u e, fun b e => ?_⟩
  · by_cases hb : b = p
    · rw [hb, upd_same] at e; cases e
    · rw [upd_ne hb] at e; rw [updG_ne hb]; exact h.wk b e
  · by_cases hb : b = p
    · rw [hb, upd_same] at e; cases e
    · rw [upd_ne hb] at e; exact e
/-- what is ours for the moment is frozen -/
theorem Rel.freezeTmp {d : D} {v : V} (h : Rel S G H st σ) (ho : Own S G H (.tmp n) d v) : ∃ G', Rel S G' H st σ ∧ Step n G G' H H ∧ Rep S G' H d v := by
  cases d with
  | lst xs =>
    obtain ⟨a, vs, rfl, ha, ht, hl, r⟩ := ho
    have ne : ∀ b, G b ≠ .tmp n → b ≠ a := fun b hb z => hb (by rw [z]; exact ht)
    have hs : Stay G (updG G a .fro) H H := fun b u e t => ⟨e, by rw [updG_ne (ne b (by rw [t]; intro z; cases z))]; exact t⟩
    refine ⟨updG G a .fro, h.move hs (fun i b u e t => ⟨e, by rw [updG_ne (ne b (by rw [t]; intro z; cases z))]; exact t⟩) (fun b e => ?_), ⟨fun b u e t => ⟨e, ?_⟩, fun b e => e⟩, .lst ⟨ha, updG_same⟩ hl (r.stay hs)⟩
    · rw [updG_ne (ne_of_none ha e).symm]; exact h.wk b e
    · refine updG_ne (ne b fun z => ?_)
      rw [z] at t
      have : decide (n ≤ n) = false := t
      rw [decide_eq_true (Nat.le_refl n)] at this; cases this
  | _ => exact ho.elim
/-- an owned slot is frozen -/
theorem Rel.freeze {i : Nat} {d : D} {v : V} (h : Rel S G H st σ) (hi : st[i]? = some (.own d)) (hv : σ[i]? = some (some v)) : ∃ G', Rel S G' H (st.set i (.val d)) σ ∧ Step n G G' H H ∧ Rep S G' H d v := by
  obtain ⟨o, e1, q⟩ := h.at_ i _ hi
  rw [hv] at e1; cases e1
  obtain ⟨v', e2, ho⟩ := q
  cases e2
  cases d with
  | lst xs =>
    obtain ⟨a, vs, rfl, ha, ht, hl, r⟩ := ho
    have ne : ∀ b, G b ≠ .slot i → b ≠ a := fun b hb z => hb (by rw [z]; exact ht)
    have hs : Stay G (updG G a .fro) H H := fun b u e t => ⟨e, by rw [updG_ne (ne b (by rw [t]; intro z; cases z))]; exact t⟩
    have R : Rep S (updG G a .fro) H (.lst xs) (.ref a) := .lst ⟨ha, updG_same⟩ hl (r.stay hs)
    refine ⟨updG G a .fro, ⟨by rw [List.length_set]; exact h.len, fun b e => ?_, fun j s e => ?_⟩, ⟨fun b u e t => ⟨e, ?_⟩, fun b e => e⟩, R⟩
    · rw [updG_ne (ne_of_none ha e).symm]; exact h.wk b e
    · by_cases hj : i = j
      · subst hj
        rw [List.getElem?_set_self (List.getElem?_eq_some_iff.mp hi).1] at e
        cases e
        exact ⟨_, hv, _, rfl, R⟩
      · rw [List.getElem?_set_ne hj] at e
        obtain ⟨o, e1, q⟩ := h.at_ j s e
        refine ⟨o, e1, q.stay hs fun b u eb tb => ⟨eb, ?_⟩⟩
        rw [updG_ne (ne b (by rw [tb]; intro z; cases z; exact hj rfl))]; exact tb
    · refine updG_ne (ne b fun z => ?_)
      rw [z] at t; cases t
  | _ => exact ho.elim
/-- a name is stored -/
theorem Rel.store {i : Nat} {d : D} {v : V} (h : Rel S G H st σ) (hi : i < st.length) (r : Rep S G H d v) : Rel S G H (st.set i (.val d)) (σ.set i (some v)) := by
  refine ⟨by rw [List.length_set, List.length_set]; exact h.len, h.wk, fun j s e => ?_⟩
  by_cases hj : i = j
  · subst hj
    rw [List.getElem?_set_self hi] at e
    cases e
    exact ⟨some v, List.getElem?_set_self (by rw [← h.len]; exact hi), v, rfl, r⟩
  · rw [List.getElem?_set_ne hj] at e
    obtain ⟨o, e1, q⟩ := h.at_ j s e
    exact ⟨o, by rw [List.getElem?_set_ne hj]; exact e1, q⟩
theorem Rel.storeOwn {i : Nat} {d : D} {v : V} (h : Rel S G H st σ) (hi : i < st.length) (ho : Own S G H (.tmp n) d v) : ∃ G', Rel S G' H (st.set i (.own d)) (σ.set i (some v)) ∧ Step n G G' H H ∧ ∀ b, G b ≠ .tmp n → G' b = G b := by
  cases d with
  | lst xs =>
    obtain ⟨a, vs, rfl, ha, ht, hl, r⟩ := ho
    have ne : ∀ b, G b ≠ .tmp n → b ≠ a := fun b hb z => hb (by rw [z]; exact ht)
    have hs : Stay G (updG G a (.slot i)) H H := fun b u e t => ⟨e, by rw [updG_ne (ne b (by rw [t]; intro z; cases z))]; exact t⟩
    refine ⟨updG G a (.slot i), ⟨by rw [List.length_set, List.length_set]; exact h.len, fun b e => ?_, fun j s e => ?_⟩, ⟨fun b u e t => ⟨e, ?_⟩, fun b e => e⟩, fun b hb => updG_ne (ne b hb)⟩
    · rw [updG_ne (ne_of_none ha e).symm]; exact h.wk b e
    · by_cases hj : i = j
      · subst hj
        rw [List.getElem?_set_self hi] at e
        cases e
        exact ⟨_, List.getElem?_set_self (by rw [← h.len]; exact hi), _, rfl, a, vs, rfl, ha, updG_same, hl, r.stay hs⟩
      · rw [List.getElem?_set_ne hj] at e
        obtain ⟨o, e1, q⟩ := h.at_ j s e
        refine ⟨o, by rw [List.getElem?_set_ne hj]; exact e1, q.stay hs fun b u eb tb => ⟨eb, ?_⟩⟩
        rw [updG_ne (ne b (by rw [tb]; intro z; cases z))]; exact tb
    · refine updG_ne (ne b fun z => ?_)
      rw [z] at t
      have : decide (n ≤ n) = false := t
      rw [decide_eq_true (Nat.le_refl n)] at this; cases this
  | _ => exact ho.elim
/-- the content of an owned or borrowed slot is changed -/
theorem Rel.put {i : Nat} {d d' : D} {st' : Sl} {a : Addr} {xs : List D} {vs : List V} (h : Rel S G H st σ) (hp : putS st i (.lst xs) = some st') (hv : σ[i]? = some (some (.ref a))) (hl : xs.length ≤ LIM) (r : Reps S G H xs vs) :
    Rel S G (upd H a (.lst vs)) st' σ ∧ Step n G G H (upd H a (.lst vs)) := by
  have key : ∀ {s : Slot} {d₀ : D}, st[i]? = some s → (s = .own d₀ ∨ s = .bor d₀) → ∃ o, H a = some o ∧ G a = .slot i := fun {s d₀} e hs => by
    obtain ⟨o, e1, q⟩ := h.at_ i s e
    rw [hv] at e1; cases e1
    have q' : ∃ v, some (V.ref a) = some v ∧ Own S G H (.slot i) d₀ v := by
      rcases hs with rfl | rfl
      · exact q
      · exact q
    obtain ⟨v, ev, ho⟩ := q'
    cases ev
    cases d₀ with
    | lst ys =>
      obtain ⟨b, us, eb, hb, tb, _⟩ := ho
      cases eb
      exact ⟨_, hb, tb⟩
    | _ => exact ho.elim
  obtain ⟨s, d₀, es, hs, est⟩ : ∃ s d₀, st[i]? = some s ∧ (s = .own d₀ ∨ s = .bor d₀) ∧ ∃ s', (s' = Slot.own (.lst xs) ∨ s' = .bor (.lst xs)) ∧ st' = st.set i s' := by
    unfold putS at hp
    cases e : st[i]? with
    | none => rw [e] at hp; cases hp
    | some s =>
      rw [e] at hp
      cases s with
      | no => cases hp
      | val _ => cases hp
      | own d₀ => cases hp; exact ⟨_, d₀, rfl, .inl rfl, _, .inl rfl, rfl⟩
      | bor d₀ => cases hp; exact ⟨_, d₀, rfl, .inr rfl, _, .inr rfl, rfl⟩
  obtain ⟨s', hs', rfl⟩ := est
  obtain ⟨o, ha, ht⟩ := key es hs
  have ne : ∀ b, G b ≠ .slot i → b ≠ a := fun b hb z => hb (by rw [z]; exact ht)
  have hst : Stay G G H (upd H a (.lst vs)) := fun b u e t => ⟨by rw [upd_ne (ne b (by rw [t]; intro z; cases z))]; exact e, t⟩
  refine ⟨⟨by rw [List.length_set]; exact h.len, fun b e => ?_, fun j s e => ?_⟩, ⟨fun b u e t => ⟨?_, rfl⟩, fun b e => ?_⟩⟩
  · by_cases hb : b = a
    · rw [hb, upd_same] at e; cases e
    · rw [upd_ne hb] at e; exact h.wk b e
  · by_cases hj : i = j
    · subst hj
      rw [List.getElem?_set_self (List.getElem?_eq_some_iff.mp es).1] at e
      cases e
      have O : Own S G (upd H a (.lst vs)) (.slot i) (.lst xs) (.ref a) := ⟨a, vs, rfl, upd_same, ht, hl, r.stay hst⟩
      refine ⟨_, hv, ?_⟩
      rcases hs' with rfl | rfl
      · exact ⟨_, rfl, O⟩
      · exact ⟨_, rfl, O⟩
    · rw [List.getElem?_set_ne hj] at e
      obtain ⟨o, e1, q⟩ := h.at_ j s e
      refine ⟨o, e1, q.stay hst fun b u eb tb => ⟨?_, tb⟩⟩
      rw [upd_ne (ne b (by rw [tb]; intro z; cases z; exact hj rfl))]; exact eb
  · rw [upd_ne (ne b fun z => by rw [z] at t; cases t)]; exact e
  · by_cases hb : b = a
    · rw [hb, upd_same] at e; cases e
    · rw [upd_ne hb] at e; exact e
/-- a slot is forgotten -/
theorem Rel.wipe {i : Nat} {o : Option V} (h : Rel S G H st σ) : Rel S G H (st.set i .no) (σ.set i o) := by
  refine ⟨by rw [List.length_set, List.length_set]; exact h.len, h.wk, fun j s e => ?_⟩
  by_cases hj : i = j
  · subst hj
    by_cases hi : i < st.length
    · rw [List.getElem?_set_self hi] at e
      cases e
      exact ⟨o, List.getElem?_set_self (by rw [← h.len]; exact hi), trivial⟩
    · rw [List.getElem?_eq_none (by rw [List.length_set]; omega)] at e; cases e
  · rw [List.getElem?_set_ne hj] at e
    obtain ⟨o, e1, q⟩ := h.at_ j s e
    exact ⟨o, by rw [List.getElem?_set_ne hj]; exact e1, q⟩
/-- what a slot holds -/
theorem Rel.get {i : Nat} {d : D} (h : Rel S G H st σ) (hd : getS st i = some d) : ∃ v, σ[i]? = some (some v) ∧ Vwd S G H d v := by
  unfold getS at hd
  cases e : st[i]? with
  | none => rw [e] at hd; cases hd
  | some s =>
    rw [e] at hd
    obtain ⟨o, e1, q⟩ := h.at_ i s e
    cases s with
    | no => cases hd
    | val d' =>
      have z : d' = d := Option.some.inj hd
      subst z
      obtain ⟨v, rfl, r⟩ := q
      exact ⟨v, e1, .inl r⟩
    | own d' =>
      have z : d' = d := Option.some.inj hd
      subst z
      obtain ⟨v, rfl, r⟩ := q
      exact ⟨v, e1, .inr ⟨_, r⟩⟩
    | bor d' =>
      have z : d' = d := Option.some.inj hd
      subst z
      obtain ⟨v, rfl, r⟩ := q
      exact ⟨v, e1, .inr ⟨_, r⟩⟩
end
end Nm
set_option maxRecDepth 100000
set_option maxHeartbeats 4000000
/-! Does a piece of the model's syntax say this piece of ours? (places are not looked at) -/
namespace Nm
open PySem L2
open PySem.PyData (strOk)

def visB (sc : Scope) (x : Str) : Bool := match sc.names.lookup x with
  | some .local => true | some .cell => true | some .free => true | _ => false
def locB (sc : Scope) (x : Str) : Bool := match sc.names.lookup x with
  | some .local => true | some .cell => true | _ => false
def glB (sc : Scope) (x : Str) : Bool := match sc.names.lookup x with
  | some .globalImplicit => true | _ => false
def nmB (x : Str) : Bool := !(x == ("__debug__" : Str)) && !(x == ("__classdict__" : Str)) && !(x == ("__name__" : Str))
def slotB (N : List Str) (i : Nat) (x : Str) : Bool := match N[i]? with
  | some y => decide (y = x)
  | none => false
def cB : D → Const → Bool
  | .non, .none => true
  | .bl a, .bool b => a == b
  | .int i, .int j => decide (i = j)
  | .str x, .str y => decide (x = y) && okS x
  | _, _ => false
/-- a name of the def, stored -/
def tgName (N : List Str) (sc : Scope) (i : Nat) : Expr → Bool
  | .Name x _ => slotB N i x && locB sc x && nmB x
  | _ => false
def tgNames (N : List Str) (sc : Scope) : List Nat → List Expr → Bool
  | [], [] => true
  | i :: is, e :: es => tgName N sc i e && tgNames N sc is es
  | _, _ => false
def mTg (N : List Str) (sc : Scope) : Tg → Expr → Bool
  | .one i, e => tgName N sc i e
  | .many is, .Tuple es _ _ => tgNames N sc is es && decide (is.Nodup)
  | _, _ => false
/-- the comprehension's own names and their slots -/
def ownOf : List Nat → List Expr → List (Str × Nat)
  | i :: is, .Name x _ :: es => (x, i) :: ownOf is es
  | _, _ => []
def tgOwn : Tg → Expr → List (Str × Nat)
  | .one i, .Name x _ => [(x, i)]
  | .many is, .Tuple es _ _ => ownOf is es
  | _, _ => []
def isTupTg : Tg → Bool
  | .many _ => true
  | _ => false
def builtinNames : List Str := ["len", "isinstance", "all", "any", "tuple", "list", "range", "enumerate", "zip", "int", "bool", "str", "sorted", "set", "dict", "min", "max"]

def biNames : List Str := ["len", "all", "any", "tuple", "list"]
def meNames : List Str := ["count", "index"]
def mutNames : List Str := ["append", "extend", "insert"]
/-- what may stand as a test -/
def tstB : Ex → Bool
  | .ite _ _ _ => false
  | .not a => tstB a
  | .and a b => tstB a && tstB b
  | .or a b => tstB a && tstB b
  | _ => true

/-- the arguments of what a loop walks -/
def itArgs (sc : Scope) (ik : Ik) (tg : Tg) (it : Expr) : Option (List Expr) := match ik with
  | .seq => some [it]
  | .range => (match it with
    | .Call (.Name f _) [x] [] _ => if f = ("range" : Str) ∧ glB sc f = true then some [x] else none
    | .Call (.Name f _) [x, y] [] _ => if f = ("range" : Str) ∧ glB sc f = true then some [x, y] else none
    | _ => none)
  | .enum => (match it with
    | .Call (.Name f _) [x] [] _ => if f = ("enumerate" : Str) ∧ glB sc f = true ∧ isTupTg tg = true then some [x] else none
    | _ => none)
  | .zip => (match it with
    | .Call (.Name f _) [x, y] [] _ => if f = ("zip" : Str) ∧ glB sc f = true ∧ isTupTg tg = true then some [x, y] else none
    | _ => none)

mutual
def mE (N : List Str) (sc : Scope) : Ex → Expr → Bool
  | .nil, _ => false
  | .c d, e => (match e with
    | .Constant k _ _ => cB d k
    | .UnaryOp .USub (.Constant (.int j) _ _) _ => (match d with | .int i => decide (i = -j) | _ => false)
    | _ => false)
  | .v i, e => (match e with
    | .Name x _ => slotB N i x && visB sc x && nmB x
    | _ => false)
  | .g x, e => (match e with
    | .Name y _ => decide (x = y) && glB sc x && nmB x
    | _ => false)
  | .tup es, e => (match e with
    | .Tuple es' _ _ => mEs N sc es es' && decide (es.length ≤ 1000)
    | _ => false)
  | .lst es, e => (match e with
    | .List es' _ => mEs N sc es es' && decide (es.length ≤ 1000)
    | _ => false)
  | .bin o a b, e => (match e with
    | .BinOp a' o' b' _ => decide (o = o') && mE N sc a a' && mE N sc b b'
    | _ => false)
  | .cmp o a b, e => (match e with
    | .Compare a' [o'] [b'] _ => decide (o = o') && mE N sc a a' && mE N sc b b' && !behindInMarks o b'
    | _ => false)
  | .chain o p a b c, e => (match e with
    | .Compare a' [o', p'] [b', c'] _ => decide (o = o') && decide (p = p') && mE N sc a a' && mE N sc b b' && mE N sc c c' && !lastMarks [o, p] [b', c']
    | _ => false)
  | .not a, e => (match e with
    | .UnaryOp .Not a' _ => mE N sc a a'
    | _ => false)
  | .and a b, e => (match e with
    | .BoolOp .And (x :: y :: rest) pos => mE N sc a x && (match rest with
      | [] => mE N sc b y
      | _ :: _ => mE N sc b (.BoolOp .And (y :: rest) pos))
    | _ => false)
  | .or a b, e => (match e with
    | .BoolOp .Or (x :: y :: rest) pos => mE N sc a x && (match rest with
      | [] => mE N sc b y
      | _ :: _ => mE N sc b (.BoolOp .Or (y :: rest) pos))
    | _ => false)
  | .ite c a b, e => (match e with
    | .IfExp c' a' b' _ => tstB c && mE N sc c c' && mE N sc a a' && mE N sc b b'
    | _ => false)
  | .ix a i, e => (match e with
    | .Subscript a' i' _ => mE N sc a a' && mE N sc i i'
    | _ => false)
  | .sl a lo hi, e => (match e with
    | .Subscript a' (.Slice lo' hi' none _) _ => mE N sc a a' && (match lo' with
        | none => (match lo with | .nil => true | _ => false)
        | some l => mE N sc lo l) && (match hi' with
        | none => (match hi with | .nil => true | _ => false)
        | some h => mE N sc hi h)
    | _ => false)
  | .isi t a, e => (match e with
    | .Call (.Name f _) [a', .Name t' _] [] _ => decide (f = ("isinstance" : Str)) && decide (t = t') && glB sc f && glB sc t && mE N sc a a' && nmB t
    | _ => false)
  | .bi f es, e => (match e with
    | .Call (.Name f' _) (x :: xs) [] _ => decide (f = f') && decide (f ∈ biNames) && glB sc f && mEs N sc es (x :: xs)
    | _ => false)
  | .rg es, e => (match e with
    | .Call (.Name f _) [.Call (.Name r _) (x :: xs) [] _] [] _ => decide (f = ("list" : Str)) && decide (r = ("range" : Str)) && glB sc f && glB sc r && mEs N sc es (x :: xs) && decide (xs.length ≤ 1)
    | _ => false)
  | .me m o es, e => (match e with
    | .Call (.Attribute o' m' apos) (x :: xs) [] pos => decide (m = m') && decide (m ∈ meNames) && mE N sc o o' && mEs N sc es (x :: xs) && (apos.endLine == pos.line) && decide (xs.length ≤ 10)
    | _ => false)
  | .mut m i es, e => (match e with
    | .Call (.Attribute (.Name x _) m' apos) (y :: ys) [] pos => decide (m = m') && decide (m ∈ mutNames) && slotB N i x && visB sc x && nmB x && mEs N sc es (y :: ys) && (apos.endLine == pos.line) && decide (ys.length ≤ 10)
    | _ => false)
  | .call f es, e => (match e with
    | .Call (.Name f' _) xs [] _ => decide (f = f') && glB sc f && (nmB f && !(f == ("super" : Str))) && mEs N sc es xs
    | _ => false)
  | .lc elt tg ik its ifs, e => (match e with
    | .ListComp elt' [⟨tg', it', ifs', a⟩] scope _ => decide (a = 0) && (match itArgs sc ik tg it' with
        | some es => mEs N sc its es
        | none => false) && mTg N (relS scope sc) tg tg' && blkC N sc scope (tgOwn tg tg') && decide (ifs.length ≤ 1) && mEs N (relS scope sc) ifs ifs' && mE N (relS scope sc) elt elt' &&
        decide ((tgOwn tg tg').map (·.2) = tg.slots) && ((tgOwn tg tg').all fun p => decide ((relS scope sc).names.lookup p.1 = some .local)) && ifs.all tstB
    | _ => false)
  | .isx y i, e => (match e with
    | .Call (.Name f _) [.Name x _, .Name y' _] [] _ => decide (f = ("isinstance" : Str)) && decide (y = y') && glB sc f && glB sc y && nmB y && slotB N i x && visB sc x && nmB x
    | _ => false)
  | .callv f es, e => (match e with
    | .Call (.Subscript a' b' p) (x :: xs) [] _ => mE N sc f (.Subscript a' b' p) && mEs N sc es (x :: xs)
    | _ => false)
def mEs (N : List Str) (sc : Scope) : List Ex → List Expr → Bool
  | [], es => es.isEmpty
  | a :: as, es => (match es with
    | [] => false
    | e :: es' => mE N sc a e && mEs N sc as es')
end
end Nm
set_option maxRecDepth 100000
set_option maxHeartbeats 4000000
/-! Readings by the interpreter. -/
namespace Nm
open PySem L2
open PySem.PyData (strOk)

/-- an exception of a class of the module -/
def ExOk (S : Sr) (G : Gh) (H : Hp) (c : Str) (p : List D) (cls : Value) (d : Option Addr) : Prop :=
  ∃ C, S.mg c = some (.ref C) ∧ cls = .ref C ∧ (match p with
    | [] => d = none
    | [x] => ∃ dd v, d = some dd ∧ H dd = some (.xd [(("told" : Str), v)]) ∧ Rep S G H x v
    | _ => False)
def RvOk (S : Sr) (n : Nat) (G : Gh) (H : Hp) (r : Rv) (v : V) : Prop := match r.2 with
  | true => Own S G H (.tmp n) r.1 v
  | false => Rep S G H r.1 v

section
variable {S : Sr} {n : Nat} {W : WX} {α β γ : Type}
/-- what is wanted of a result -/
def Fin (S : Sr) (n : Nat) (W : WX) (r : R α) (Ok : Gh → Hp → α → β → Prop) (G : Gh) (H : Hp) (σ : St) (Q : β → Hp → Prop) : Prop := match r with
  | .bad => False
  | .ok a st => ∀ v H' G', Step n G G' H H' → Rel S G' H' st σ → Ok G' H' a v → Q v H'
  | .err c p st => ∀ cls d H' G', Step n G G' H H' → Rel S G' H' st σ → ExOk S G' H' c p cls d → W cls d σ H'
/-- a reading -/
def Rdg (S : Sr) (n : Nat) (W : WX) (ev : Sl → R α) (Ok : St → Gh → Hp → α → β → Prop) : St → Hp → (β → Hp → Prop) → Prop := fun σ H Q =>
  ∃ G st, Rel S G H st σ ∧ Fin S n W (ev st) (Ok σ) G H σ Q
variable {Ok : Gh → Hp → α → β → Prop} {G G' : Gh} {H H' : Hp} {σ : St} {Q Q' : β → Hp → Prop} {r : R α}
theorem Fin.step (h : Fin S n W r Ok G H σ Q) (s : Step n G G' H H') : Fin S n W r Ok G' H' σ Q := by
  cases r with
  | bad => exact h
  | ok a st => exact fun v H2 G2 s2 rel o => h v H2 G2 (s.trans s2) rel o
  | err c p st => exact fun cls d H2 G2 s2 rel o => h cls d H2 G2 (s.trans s2) rel o
theorem Fin.imp {Ok' : Gh → Hp → α → γ → Prop} {Q' : γ → Hp → Prop} (h : Fin S n W r Ok G H σ Q) (k : ∀ a st v H' G', r = .ok a st → Step n G G' H H' → Rel S G' H' st σ → Ok' G' H' a v → Q' v H' ∨ ∃ w, Ok G' H' a w ∧ (Q w H' → Q' v H')) : Fin S n W r Ok' G H σ Q' := by
  cases r with
  | bad => exact h
  | ok a st =>
    intro v H2 G2 s2 rel o
    rcases k a st v H2 G2 rfl s2 rel o with q | ⟨w, o', q⟩
    · exact q
    · exact q (h w H2 G2 s2 rel o')
  | err c p st => exact h
/-- first the one, then the other -/
theorem Fin.bind {α' β' : Type} {r : R α} {f : α → Sl → R α'} {Ok1 : Gh → Hp → α → β → Prop} {Ok2 : Gh → Hp → α' → β' → Prop} {Q : β' → Hp → Prop} (h : Fin S n W (r.bind f) Ok2 G H σ Q) :
    Fin S n W r Ok1 G H σ (fun v H1 => ∃ a G1 st1, r = .ok a st1 ∧ Step n G G1 H H1 ∧ Rel S G1 H1 st1 σ ∧ Ok1 G1 H1 a v ∧ Fin S n W (f a st1) Ok2 G1 H1 σ Q) := by
  cases r with
  | bad => exact h
  | ok a st => exact fun v H2 G2 s2 rel o => ⟨a, G2, st, rfl, s2, rel, o, Fin.step (show Fin S n W (f a st) Ok2 G H σ Q from h) s2⟩
  | err c p st => exact h
theorem Rdg.bind {α' β' : Type} {ev : Sl → R α} {f : α → Sl → R α'} {Ok1 : St → Gh → Hp → α → β → Prop} {Ok2 : St → Gh → Hp → α' → β' → Prop} {Q : β' → Hp → Prop} (h : Rdg S n W (fun st => (ev st).bind f) Ok2 σ H Q) :
    Rdg S n W ev Ok1 σ H (fun v H1 => ∃ a G1 st1, Rel S G1 H1 st1 σ ∧ Ok1 σ G1 H1 a v ∧ Fin S n W (f a st1) (Ok2 σ) G1 H1 σ Q) := by
  obtain ⟨G, st, rel, h⟩ := h
  refine ⟨G, st, rel, ?_⟩
  refine (Fin.bind (Ok1 := Ok1 σ) h).imp fun a st' v H' G' e s rel' o => .inr ⟨v, o, ?_⟩
  rintro ⟨a', G1, st1, _, _, h2, h3, h4⟩
  exact ⟨a', G1, st1, h2, h3, h4⟩
theorem Fin.pure {a : α} {st : Sl} {v : β} (h : Fin S n W (.ok a st) Ok G H σ Q) (rel : Rel S G H st σ) (o : Ok G H a v) : Q v H := h v H G Step.refl rel o

/-- what is owned for the moment is frozen, if it is -/
theorem froz {st : Sl} {rv : Rv} {v : V} (rel : Rel S G H st σ) (o : RvOk S n G H rv v) : ∃ G', Rel S G' H st σ ∧ Step n G G' H H ∧ Rep S G' H rv.1 v := by
  obtain ⟨d, b⟩ := rv
  cases b with
  | true => exact rel.freezeTmp o
  | false => exact ⟨G, rel, Step.refl, o⟩
end

/-! ### the readings -/
def VwOk (S : Sr) (σ : St) (G : Gh) (H : Hp) (w : Vw) (v : V) : Prop := match w with
  | .d d => Rep S G H d v
  | .s i => σ[i]? = some (some v)
def VwsOk (S : Sr) (σ : St) (G : Gh) (H : Hp) : List Vw → List V → Prop
  | [], [] => True
  | w :: ws, v :: vs => VwOk S σ G H w v ∧ VwsOk S σ G H ws vs
  | _, _ => False
section
variable (T : Tb) (S : Sr) (n : Nat) (W : WX)
def tE (a : Ex) : TE := Rdg S n W (evE T a) fun _ => RvOk S n
/-- frozen -/
def tF (a : Ex) : TE := Rdg S n W (fun st => (evE T a st).bind fun r st => .ok r.1 st) fun _ G H d v => Rep S G H d v
def tVw (a : Ex) : TE := Rdg S n W (vw a (evE T a)) (VwOk S)
def tEs (as : List Ex) : TA := Rdg S n W (evEs T as) fun _ G H ds vs => Reps S G H ds vs
def tVs (as : List Ex) : TA := Rdg S n W (evVs T as) (VwsOk S)
def evB (a : Ex) (st : Sl) : R Bool := (evE T a st).bind fun r st => match r.1 with
  | .bl b => .ok b st
  | _ => .bad
def tT (a : Ex) : TT := Rdg S n W (evB T a) fun _ _ _ b b' => b = b'
end
section
variable {S : Sr} {G G' : Gh} {H H' : Hp} {σ : St} {n : Nat}
theorem VwOk.stay {w : Vw} {v : V} (s : Stay G G' H H') (h : VwOk S σ G H w v) : VwOk S σ G' H' w v := by
  cases w with
  | d x => exact Rep.stay s h
  | s i => exact h
theorem VwsOk.stay : ∀ {ws : List Vw} {vs : List V} (s : Stay G G' H H'), VwsOk S σ G H ws vs → VwsOk S σ G' H' ws vs
  | [], [], _, _ => trivial
  | _ :: _, _ :: _, s, h => ⟨h.1.stay s, VwsOk.stay s h.2⟩
  | [], _ :: _, _, h => h
  | _ :: _, [], _, h => h
theorem VwOk.get {w : Vw} {v : V} {st : Sl} {d : D} (rel : Rel S G H st σ) (h : VwOk S σ G H w v) (e : w.get st = some d) : Vwd S G H d v := by
  cases w with
  | d x =>
    have z : x = d := Option.some.inj e
    subst z
    exact .inl h
  | s i =>
    obtain ⟨v', e1, q⟩ := rel.get e
    have h' : σ[i]? = some (some v) := h
    rw [h'] at e1; cases e1
    exact q
theorem VwsOk.length : ∀ {ws : List Vw} {vs : List V}, VwsOk S σ G H ws vs → ws.length = vs.length
  | [], [], _ => rfl
  | _ :: ws, _ :: vs, h => by rw [List.length_cons, List.length_cons, VwsOk.length h.2]
  | [], _ :: _, h => h.elim
  | _ :: _, [], h => h.elim
def Vwds (S : Sr) (G : Gh) (H : Hp) : List D → List V → Prop
  | [], [] => True
  | d :: ds, v :: vs => Vwd S G H d v ∧ Vwds S G H ds vs
  | _, _ => False
theorem VwsOk.gets : ∀ {ws : List Vw} {vs : List V} {st : Sl} {ds : List D} (rel : Rel S G H st σ) (h : VwsOk S σ G H ws vs) (e : Vw.gets st ws = some ds), Vwds S G H ds vs
  | [], [], _, ds, _, _, e => by
    have z : [] = ds := Option.some.inj e
    subst z
    trivial
  | w :: ws, v :: vs, st, ds, rel, h, e => by
    have e' : (w.get st).bind (fun d => (Vw.gets st ws).map (d :: ·)) = some ds := e
    cases e1 : w.get st with
    | none => rw [e1] at e'; cases e'
    | some d =>
      rw [e1] at e'
      cases e2 : Vw.gets st ws with
      | none =>
        have e3 : (Vw.gets st ws).map (d :: ·) = some ds := e'
        rw [e2] at e3; cases e3
      | some ds' =>
        have e3 : (Vw.gets st ws).map (d :: ·) = some ds := e'
        rw [e2] at e3
        cases e3
        exact ⟨h.1.get rel e1, VwsOk.gets rel h.2 e2⟩
  | [], _ :: _, _, _, _, h, _ => h.elim
  | _ :: _, [], _, _, _, h, _ => h.elim

/-- new objects alone -/
structure Ext (G G' : Gh) (H H' : Hp) : Prop where
  keep : ∀ b o, H b = some o → H' b = some o ∧ G' b = G b
  wk : Wk G' H'
theorem Ext.there (e : Ext G G' H H') (b : Addr) (h : H' b = none) : H b = none := by
  cases q : H b with
  | none => rfl
  | some o => rw [(e.keep b o q).1] at h; cases h
theorem Ext.step (e : Ext G G' H H') : Step n G G' H H' := ⟨fun b o h _ => e.keep b o h, e.there⟩
theorem Ext.stay (e : Ext G G' H H') : Stay G G' H H' := fun a o h t => ⟨(e.keep a o h).1, (e.keep a o h).2.trans t⟩
theorem Ext.rel {st : Sl} (e : Ext G G' H H') (rel : Rel S G H st σ) : Rel S G' H' st σ := rel.move e.stay (fun i a o h t => ⟨(e.keep a o h).1, (e.keep a o h).2.trans t⟩) e.wk
theorem Ext.refl (h : Wk G H) : Ext G G H H := ⟨fun _ _ e => ⟨e, rfl⟩, h⟩
theorem Ext.new {p : Addr} {o : HO} (h : Wk G H) (hp : H p = none) : Ext G G H (upd H p o) := by
  refine ⟨fun b u e => ⟨by rw [upd_ne (ne_of_none e hp)]; exact e, rfl⟩, fun b e => ?_⟩
  by_cases hb : b = p
  · rw [hb, upd_same] at e; cases e
  · rw [upd_ne hb] at e; exact h b e
theorem Ext.newTmp {p : Addr} {o : HO} {t : Tag} (h : Wk G H) (hp : H p = none) : Ext G (updG G p t) H (upd H p o) := by
  refine ⟨fun b u e => ?_, fun b e => ?_⟩
  · have ne := ne_of_none e hp
    rw [upd_ne ne, updG_ne ne]
    exact ⟨e, rfl⟩
  · by_cases hb : b = p
    · rw [hb, upd_same] at e; cases e
    · rw [upd_ne hb] at e; rw [updG_ne hb]; exact h b e
end

/-! ### operations by values -/
def rB (S : Sr) (n : Nat) (k : D → D → Option Rv) : R2 := fun x y H Q => ∃ G d e z, Wk G H ∧ Vwd S G H d x ∧ Vwd S G H e y ∧ k d e = some z ∧ ∀ v H' G', Ext G G' H H' → RvOk S n G' H' z v → Q v H'
def r1 (S : Sr) (n : Nat) (k : D → Option Rv) : V → Hp → VK → Prop := fun x H Q => ∃ G d z, Wk G H ∧ Vwd S G H d x ∧ k d = some z ∧ ∀ v H' G', Ext G G' H H' → RvOk S n G' H' z v → Q v H'
def rA (S : Sr) (n : Nat) (k : List D → Option Rv) : List V → Hp → VK → Prop := fun xs H Q => ∃ G ds z, Wk G H ∧ Vwds S G H ds xs ∧ k ds = some z ∧ ∀ v H' G', Ext G G' H H' → RvOk S n G' H' z v → Q v H'

/-! ### promises -/
/-- the arguments of a def -/
def ArgsOk (S : Sr) (G : Gh) (H : Hp) (b : Option Nat) : Nat → List D → List V → Prop
  | _, [], [] => True
  | k, d :: ds, v :: vs => (if b = some k then Own S G H (.slot k) d v else Rep S G H d v) ∧ ArgsOk S G H b (k + 1) ds vs
  | _, _, _ => False
def OutOk (S : Sr) (G : Gh) (H : Hp) (b : Option Nat) (vs : List V) (out : D) : Prop := match b with
  | none => True
  | some k => ∃ v, vs[k]? = some v ∧ Own S G H (.slot k) out v
def spF (S : Sr) (F : Fn) : Sp := fun vs H Q E => ∃ G ds, Wk G H ∧ ArgsOk S G H F.bor 0 ds vs ∧ ds.length = F.n ∧ (match F.sem ds with
  | none => False
  | some (.ok d out) => ∀ v H' G', Step 0 G G' H H' → Wk G' H' → Rep S G' H' d v → OutOk S G' H' F.bor vs out → Q v H'
  | some (.err c p out) => ∀ cls dd H' G', Step 0 G G' H H' → Wk G' H' → ExOk S G' H' c p cls dd → OutOk S G' H' F.bor vs out → E cls dd H')
end Nm
set_option maxRecDepth 100000
set_option maxHeartbeats 4000000
/-! The operations by values. -/
namespace Nm
open PySem L2
open PySem.PyData (strOk)

section
variable {S : Sr} {G : Gh} {H : Hp} {x : V}
theorem Vwd.non (h : Vwd S G H .non x) : x = .non := by
  rcases h with h | ⟨t, h⟩
  · cases h; rfl
  · exact h.elim
theorem Vwd.bl {b : Bool} (h : Vwd S G H (.bl b) x) : x = .bl b := by
  rcases h with h | ⟨t, h⟩
  · cases h; rfl
  · exact h.elim
theorem Vwd.int {i : Int} (h : Vwd S G H (.int i) x) : x = .int i := by
  rcases h with h | ⟨t, h⟩
  · cases h; rfl
  · exact h.elim
theorem Vwd.str {z : Str} (h : Vwd S G H (.str z) x) : x = .str z ∧ okS z = true := by
  rcases h with h | ⟨t, h⟩
  · cases h with
    | str _ h => exact ⟨rfl, h⟩
  · exact h.elim
theorem Vwd.tup {xs : List D} (h : Vwd S G H (.tup xs) x) : ∃ a vs, x = .ref a ∧ FroT G H a vs ∧ xs.length ≤ LIM ∧ Reps S G H xs vs := by
  rcases h with h | ⟨t, h⟩
  · cases h with
    | tup f l r => exact ⟨_, _, rfl, f, l, r⟩
  · exact h.elim
theorem Vwd.lst {xs : List D} (h : Vwd S G H (.lst xs) x) : ∃ a vs, x = .ref a ∧ H a = some (.lst vs) ∧ xs.length ≤ LIM ∧ Reps S G H xs vs := by
  rcases h with h | ⟨t, h⟩
  · cases h with
    | lst f l r => exact ⟨_, _, rfl, f.1, l, r⟩
  · obtain ⟨a, vs, e, ha, _, hl, r⟩ := h
    exact ⟨a, vs, e, ha, hl, r⟩
theorem Vwd.scr {ns : List Int} (h : Vwd S G H (.scr ns) x) : ∃ a, x = .ref a ∧ SqL S.K H a (ns.map V.int) ∧ ns.length ≤ LIM := by
  rcases h with h | ⟨t, h⟩
  · cases h with
    | scr f l => exact ⟨_, rfl, f.sq, l⟩
  · exact h.elim
theorem lim_line : LIM = sizeLine := by rw [sizeLine_eq]
end

section
variable {X : Cx} {S : Sr} {n : Nat}
/-! ### binary operators -/
theorem fin0 {G : Gh} {H : Hp} {z : D} {v : V} {Q : VK} (wk : Wk G H) (k : ∀ v H' G', Ext G G' H H' → RvOk S n G' H' (z, false) v → Q v H') (r : Rep S G H z v) : Q v H := k v H G (Ext.refl wk) r
theorem finT {G : Gh} {H : Hp} {zs : List D} {vs : List V} {Q : VK} {p : Addr} {o : HO} (wk : Wk G H) (k : ∀ v H' G', Ext G G' H H' → RvOk S n G' H' (.tup zs, false) v → Q v H') (ho : tupO o vs) (hp : H p = none) (hl : zs.length ≤ LIM) (r : Reps S G H zs vs) : Q (.ref p) (upd H p o) := by
  have e : Ext G G H (upd H p o) := Ext.new wk hp
  exact k _ _ G e (.tup ⟨o, ho, upd_same, wk p hp⟩ hl (r.stay e.stay))
/-- a new tuple -/
theorem laidT {pins : List (Addr × Obj)} {σ : St} {H : Hp} {s : Shared} {xs : List V} {us : List Value} (I : Inv X pins σ H s) (r : Vals xs us) (hz : xs.length ≤ sizeLine) (t' : Nat) :
    Inv X pins σ (upd H s.heap.objs.size (.frz (tupObj us.toArray 0) (.tup xs))) { s with heap := s.heap.push (tupObj us.toArray 0), toks := t' } :=
  I.laid (fun b u e => Heap.get?_push_of_some _ e) (Nat.le_refl _) ⟨Heap.get?_push_size _ rfl, hz, us, r, ⟨_, Heap.get?_push_size _ rfl, rfl, _, rfl⟩⟩
theorem finL {G : Gh} {H : Hp} {zs : List D} {vs : List V} {Q : VK} {p : Addr} (wk : Wk G H) (k : ∀ v H' G', Ext G G' H H' → RvOk S n G' H' (.lst zs, true) v → Q v H') (hp : H p = none) (hl : zs.length ≤ LIM) (r : Reps S G H zs vs) : Q (.ref p) (upd H p (.lst vs)) := by
  have e : Ext G (updG G p (.tmp n)) H (upd H p (.lst vs)) := Ext.newTmp wk hp
  exact k _ _ _ e ⟨p, vs, rfl, upd_same, updG_same, hl, r.stay e.stay⟩
theorem strOk_append {a b : Str} (h1 : okS a = true) (h2 : okS b = true) (hl : a.length + b.length ≤ LIM) : okS (a ++ b) = true := by
  unfold okS at *
  obtain ⟨h1, _⟩ := Bool.and_eq_true_iff.mp h1
  obtain ⟨h2, _⟩ := Bool.and_eq_true_iff.mp h2
  have e : (a ++ b).cps = a.cps ++ b.cps := rfl
  have e2 : (a ++ b).length = a.length + b.length := by
    show (a ++ b).cps.size = _
    rw [e, Array.size_append]; rfl
  refine Bool.and_eq_true_iff.mpr ⟨?_, decide_eq_true (by rw [e2]; exact hl)⟩
  unfold strOk at *
  rw [e, Array.all_append, h1, h2]
  rfl
theorem mul_ok {i j : Int} (h : mulOk i j = true) : CMul i j ∨ CMulW i j := by
  unfold mulOk at h
  rcases Bool.or_eq_true_iff.mp h with h | h
  · rcases Bool.or_eq_true_iff.mp h with h | h
    · have := of_decide_eq_true h
      exact .inl (.inl (by omega))
    · have := of_decide_eq_true h
      exact .inl (.inr (by omega))
  · obtain ⟨h1, h2⟩ := Bool.and_eq_true_iff.mp h
    exact .inr (wide_mul (of_decide_eq_true h1) (of_decide_eq_true h2) (by decide) (by decide) (by decide))
/-- a tuple once is itself -/
theorem tuple_once (l : Addr) (items : Array Value) (m : Nat) (dd : Option Addr) (sl : Array (Option Value)) (u : Tok) :
    Meets (Builtin.«tuple.__mul__» ⟨[.ref l, .int 1 u], []⟩) (fun _ R s => s.heap.get? l = some { cls := .type "tuple", dict := dd, data := .seq items m, slots := sl } ∧ R (.ok (.ret (Value.ref l))) s) :=
  .of_wp fun prog w A R s h => by
    obtain ⟨hp, g, d, tk, os⟩ := s
    obtain ⟨hl, h⟩ := h
    have f1 := AutoSeq1.idx_int
    have c1 : (items.isEmpty || (1 : Int) == 1) = true := by cases items.isEmpty <;> rfl
    wp_walk using wpAny_loadPart' hl
    repeat (first
      | (refine wpAny_ite_false (decide_eq_false (by decide)) ?_; wp_walk using wpAny_loadPart' hl)
      | (refine wpAny_ite_true (decide_eq_true c1) ?_; wp_walk using wpAny_loadPart' hl))
    exact ⟨_, rfl, h⟩
theorem op_bin (hK : X.K = S.K) (o : Operator) : OpR X (binaryOp o) (rB S n (binD o)) := by
  intro pins s σ H x y v u Q I rx ry h
  obtain ⟨G, d, e, z, wk, hd, he, hk, q⟩ := h
  have ll := lim_line
  cases o with
  | Add =>
    cases d with
    | int i =>
      cases e with
      | int j =>
        cases hk
        obtain rfl := hd.int
        obtain rfl := he.int
        exact op_add pins s σ H _ _ v u Q I rx ry ⟨i, j, rfl, rfl, fin0 wk q (.int _)⟩
      | _ => cases hk
    | str a =>
      cases e with
      | str b =>
        have hk' : (if a.length + b.length ≤ LIM then some ((D.str (a ++ b), false) : Rv) else none) = some z := hk
        by_cases c : a.length + b.length ≤ LIM
        · rw [if_pos c] at hk'
          cases hk'
          obtain ⟨rfl, sa⟩ := hd.str
          obtain ⟨rfl, sb⟩ := he.str
          exact op_add_str pins s σ H _ _ v u Q I rx ry ⟨a, b, rfl, rfl, by rw [← ll]; exact c, fin0 wk q (.str _ (strOk_append sa sb c))⟩
        · rw [if_neg c] at hk'; cases hk'
      | _ => cases hk
    | tup xs =>
      cases e with
      | tup ys =>
        have hk' : (if xs.length + ys.length ≤ LIM then some ((D.tup (xs ++ ys), false) : Rv) else none) = some z := hk
        by_cases c : xs.length + ys.length ≤ LIM
        · rw [if_pos c] at hk'
          cases hk'
          obtain ⟨a, vs, rfl, ha, la, ra⟩ := hd.tup
          obtain ⟨b, us, rfl, hb, lb, rb⟩ := he.tup
          cases rx
          cases ry
          have sa : SqT X.K H a vs := ha.sq
          have sb : SqT X.K H b us := hb.sq
          have h1 := ra.length
          have h2 := rb.length
          cases ra with
          | nil =>
            obtain ⟨i1, v1, p1, _⟩ := I.tuple sa
            obtain ⟨i2, v2, p2, _⟩ := I.tuple sb
            cases v1
            exact cat_tup0 p1 p2 ⟨.ref b, H, I, rfl, fin0 wk q (.tup hb lb rb)⟩
          | @cons dx vx dxs vxs r0 r1 =>
            obtain ⟨i1, v1, p1, _⟩ := I.tuple sa
            obtain ⟨i2, v2, p2, _⟩ := I.tuple sb
            have c' : (vx :: vxs).length + us.length ≤ sizeLine := by rw [← ll, ← h1, ← h2]; exact c
            refine HT.cat_tup p1 p2 (fun z => by rw [z] at v1; cases v1) (fun z => ?_) (fun z => ?_) (by rw [← v1.length, ← v2.length]; exact c')
            · rw [z] at v2
              cases v2
              cases rb
              rw [List.append_nil] at q
              exact ⟨.ref a, H, I, rfl, fin0 wk q (.tup ha la (.cons r0 r1))⟩
            · exact ⟨.ref s.heap.objs.size, _, laidT I (v1.append v2) (by rw [List.length_append]; exact c') s.toks, rfl, finT wk q ⟨_, _, rfl⟩ I.fresh (by rw [List.length_append]; exact c) (Reps.append (.cons r0 r1) rb)⟩
        · rw [if_neg c] at hk'; cases hk'
      | _ => cases hk
    | lst xs =>
      cases e with
      | lst ys =>
        have hk' : (if xs.length + ys.length ≤ LIM then some ((D.lst (xs ++ ys), true) : Rv) else none) = some z := hk
        by_cases c : xs.length + ys.length ≤ LIM
        · rw [if_pos c] at hk'
          cases hk'
          obtain ⟨a, vs, rfl, ha, la, ra⟩ := hd.lst
          obtain ⟨b, us, rfl, hb, lb, rb⟩ := he.lst
          exact op_cat pins s σ H _ _ v u Q I rx ry ⟨a, b, vs, us, rfl, rfl, ha, hb, by rw [← ll, ← ra.length, ← rb.length]; exact c, fun p hp => finL wk q hp (by rw [List.length_append]; exact c) (ra.append rb)⟩
        · rw [if_neg c] at hk'; cases hk'
      | _ => cases hk
    | _ => cases e <;> cases hk
  | Sub =>
    cases d with
    | int i =>
      cases e with
      | int j =>
        cases hk
        obtain rfl := hd.int
        obtain rfl := he.int
        exact op_sub pins s σ H _ _ v u Q I rx ry ⟨i, j, rfl, rfl, fin0 wk q (.int _)⟩
      | _ => cases hk
    | _ => cases e <;> cases hk
  | Mult =>
    cases d with
    | int i =>
      cases e with
      | int j =>
        have hk' : (if mulOk i j = true then some ((D.int (i * j), false) : Rv) else none) = some z := hk
        by_cases c : mulOk i j = true
        · rw [if_pos c] at hk'
          cases hk'
          obtain rfl := hd.int
          obtain rfl := he.int
          rcases mul_ok c with c | c
          · exact op_mul pins s σ H _ _ v u Q I rx ry ⟨i, j, rfl, rfl, c, fin0 wk q (.int _)⟩
          · exact op_mulW pins s σ H _ _ v u Q I rx ry ⟨i, j, rfl, rfl, c, fin0 wk q (.int _)⟩
        · rw [if_neg c] at hk'; cases hk'
      | _ => cases hk
    | lst xs =>
      cases e with
      | int k =>
        have hk' : (if k.natAbs < 2 ^ 20 ∧ xs.length * k.toNat ≤ LIM then some ((D.lst (List.replicate k.toNat xs).flatten, true) : Rv) else none) = some z := hk
        by_cases c : k.natAbs < 2 ^ 20 ∧ xs.length * k.toNat ≤ LIM
        · rw [if_pos c] at hk'
          cases hk'
          obtain ⟨a, vs, rfl, ha, la, ra⟩ := hd.lst
          obtain rfl := he.int
          refine op_rep pins s σ H _ _ v u Q I rx ry ⟨a, k, vs, rfl, rfl, ha, by omega, by omega, by rw [← ll, ← ra.length]; exact c.2, fun p hp => finL wk q hp ?_ (Reps.flat _ ra)⟩
          rw [List.length_flatten, List.map_replicate, List.sum_replicate_nat, Nat.mul_comm]
          exact c.2
        · rw [if_neg c] at hk'; cases hk'
      | _ => cases hk
    | tup xs =>
      cases e with
      | int k =>
        have hk' : (if 1 ≤ k ∧ k.toNat ≤ 1000 ∧ xs.length ≤ 1000 ∧ xs ≠ [] then some ((D.tup (List.replicate k.toNat xs).flatten, false) : Rv) else none) = some z := hk
        by_cases c : 1 ≤ k ∧ k.toNat ≤ 1000 ∧ xs.length ≤ 1000 ∧ xs ≠ []
        · rw [if_pos c] at hk'
          cases hk'
          obtain ⟨c1, c2, c3, c4⟩ := c
          obtain ⟨a, vs, rfl, ha, la, ra⟩ := hd.tup
          obtain rfl := he.int
          cases rx
          obtain ⟨t, rfl⟩ := ry
          have hlen := ra.length
          obtain ⟨its, r, ⟨⟨cls, dd, data, sl⟩, ho, hc, m, hdat⟩, hs⟩ := I.tuple (show SqT X.K H a vs from ha.sq)
          dsimp only at hc hdat
          subst hc hdat
          have hle : its.length = xs.length := by rw [← r.length, hlen]
          have hemp : its.toArray.isEmpty = false := by
            cases its with
            | nil =>
              cases xs with
              | nil => exact absurd rfl c4
              | cons _ _ => cases hle
            | cons _ _ => rfl
          have flen : (List.replicate k.toNat xs).flatten.length ≤ LIM := by
            rw [List.length_flatten, List.map_replicate, List.sum_replicate_nat]
            have : k.toNat * xs.length ≤ 1000 * 1000 := Nat.mul_le_mul c2 c3
            show _ ≤ 16777216
            omega
          by_cases k1 : k = 1
          · subst k1
            refine wpAny_binaryOp_repeat_ref (T := "tuple") (U := "int") (by decide) ⟨_, ho, rfl⟩ (fun s' => typeIs_int s' 1 t) noFill_tuple_mul F.fills_int_mul F.slot_int_rmul repeat_tuple F.slot_int_index.lookup (call_meets F.slot_int_rmul (typeIs_int s 1 t) F.entry_int_rmul (F.args_int_rmul_2 _ _) (int_rmul_tuple 1 t a its.toArray m dd sl) ⟨ho, rfl, ⟨_, ho, rfl⟩, call_meets F.slot_tuple_mul ⟨_, ho, rfl⟩ F.entry_tuple_mul (F.args_tuple_mul_2 _ _) (tuple_once a its.toArray m dd sl t) ⟨ho, ?_⟩⟩)
            have e1 : (List.replicate (1 : Int).toNat xs).flatten = xs := by simp
            rw [e1] at q
            exact ⟨.ref a, H, I, rfl, fin0 wk q (.tup ha la ra)⟩
          · have c0 : (decide (k < -(2 ^ 63)) || decide (k ≥ 2 ^ 63)) = false := by
              rw [decide_eq_false (by omega), decide_eq_false (by omega)]; rfl
            have d1 : (its.toArray.isEmpty || k == 1) = false := by rw [hemp, Bool.false_or, beq_eq_false_iff_ne]; exact k1
            have d2 : (decide (k ≤ 0) || its.toArray.isEmpty) = false := by rw [hemp, Bool.or_false]; exact decide_eq_false (by omega)
            have ksz : ((its.toArray.size : Nat) : Int) * k ≤ 1000000 := by
              rw [List.size_toArray, hle]
              have : ((xs.length : Nat) : Int) * k ≤ 1000 * 1000 := Int.mul_le_mul (by omega) (by omega) (by omega) (by omega)
              omega
            have d4 : Builtin.Tuple.tupleTooMany (((its.toArray.size : Nat) : Int) * k) = false := by
              unfold Builtin.Tuple.tupleTooMany
              rw [sizeLine_eq]
              exact decide_eq_false (by omega)
            have flenV : (List.replicate k.toNat its).flatten.length ≤ sizeLine := by
              rw [List.length_flatten, List.map_replicate, List.sum_replicate_nat, hle, sizeLine_eq]
              have : k.toNat * xs.length ≤ 1000 * 1000 := Nat.mul_le_mul c2 c3
              omega
            refine wpAny_binaryOp_repeat_ref (T := "tuple") (U := "int") (by decide) ⟨_, ho, rfl⟩ (fun s' => typeIs_int s' k t) noFill_tuple_mul F.fills_int_mul F.slot_int_rmul repeat_tuple F.slot_int_index.lookup (call_meets F.slot_int_rmul (typeIs_int s k t) F.entry_int_rmul (F.args_int_rmul_2 _ _) (int_rmul_tuple k t a its.toArray m dd sl) ⟨ho, rfl, ⟨_, ho, rfl⟩, call_meets F.slot_tuple_mul ⟨_, ho, rfl⟩ F.entry_tuple_mul (F.args_tuple_mul_2 _ _) (tuple_mulW a its.toArray m dd sl k t c0 d1 d2 (by omega) d4 (by rw [size_rep, List.size_toArray]; exact flenV)) ⟨ho, ?_⟩⟩)
            rw [size_rep]
            exact ⟨.ref s.heap.objs.size, _, laidT I (r.rep k.toNat) (by rw [← (r.rep k.toNat).length] at flenV; exact flenV) s.toks, rfl, finT wk q ⟨_, _, rfl⟩ (I.hok.fresh (Nat.le_refl _)) flen (Reps.flat _ ra)⟩
        · rw [if_neg c] at hk'; cases hk'
      | _ => cases hk
    | _ => cases e <;> cases hk
  | FloorDiv =>
    cases d with
    | int i =>
      cases e with
      | int j =>
        have hk' : (if 0 < j ∧ j.toNat < 1073741824 then some ((D.int (i / j), false) : Rv) else none) = some z := hk
        by_cases c : 0 < j ∧ j.toNat < 1073741824
        · rw [if_pos c] at hk'
          cases hk'
          obtain rfl := hd.int
          obtain rfl := he.int
          exact op_fdiv pins s σ H _ _ v u Q I rx ry ⟨i, j, rfl, rfl, ⟨c.1, by omega⟩, fin0 wk q (.int _)⟩
        · rw [if_neg c] at hk'; cases hk'
      | _ => cases hk
    | _ => cases e <;> cases hk
  | Mod =>
    cases d with
    | int i =>
      cases e with
      | int j =>
        have hk' : (if 0 < j then some ((D.int (i % j), false) : Rv) else none) = some z := hk
        by_cases c : 0 < j
        · rw [if_pos c] at hk'
          cases hk'
          obtain rfl := hd.int
          obtain rfl := he.int
          exact op_mod pins s σ H _ _ v u Q I rx ry ⟨i, j, rfl, rfl, c, fin0 wk q (.int _)⟩
        · rw [if_neg c] at hk'; cases hk'
      | _ => cases hk
    | _ => cases e <;> cases hk
  | Pow =>
    cases d with
    | int i =>
      cases e with
      | int j =>
        have hk' : (if 0 ≤ j ∧ j ≤ 1000 ∧ i.natAbs < 2 ^ 64 then some ((D.int (i ^ j.toNat), false) : Rv) else none) = some z := hk
        by_cases c : 0 ≤ j ∧ j ≤ 1000 ∧ i.natAbs < 2 ^ 64
        · rw [if_pos c] at hk'
          cases hk'
          obtain rfl := hd.int
          obtain rfl := he.int
          exact op_pow pins s σ H _ _ v u Q I rx ry ⟨i, j, rfl, rfl, ⟨c.1, by omega, c.2.2⟩, fin0 wk q (.int _)⟩
        · rw [if_neg c] at hk'; cases hk'
      | _ => cases hk
    | _ => cases e <;> cases hk
  | _ => cases d <;> cases e <;> cases hk
end
end Nm
set_option maxRecDepth 100000
set_option maxHeartbeats 4000000
/-! Comparisons by values. -/
namespace Nm
open PySem L2
open PySem.PyData (strOk)

mutual
def D.py : D → PyData
  | .non => .none
  | .bl b => .bool b
  | .int i => .int i
  | .str x => .str x
  | .tup xs => .tuple (D.pys xs)
  | .lst xs => .list (D.pys xs)
  | _ => .none
def D.pys : List D → List PyData
  | [] => []
  | x :: xs => D.py x :: D.pys xs
end
theorem plains_cons {n : Nat} {x : D} {xs : List D} (h : D.plains n (x :: xs) = true) : ∃ m, n = m + 1 ∧ D.plain m x = true ∧ D.plains n xs = true := by
  cases n with
  | zero => rw [D.plains] at h; cases h
  | succ m =>
    rw [D.plains] at h
    obtain ⟨h1, h2⟩ := Bool.and_eq_true_iff.mp h
    exact ⟨m, rfl, h1, h2⟩
theorem strs_of : ∀ {xs : List D}, xs.all D.isStr = true → ∃ ws : List Str, xs = ws.map D.str
  | [], _ => ⟨[], rfl⟩
  | x :: xs, h => by
    rw [List.all_cons] at h
    obtain ⟨h1, h2⟩ := Bool.and_eq_true_iff.mp h
    obtain ⟨ws, rfl⟩ := strs_of h2
    cases x with
    | str w => exact ⟨w :: ws, rfl⟩
    | _ => cases h1
theorem ltD_strs : ∀ xs ys : List Str, ltD (xs.map D.str) (ys.map D.str) = PySem.W.listLt xs ys
  | [], [] => rfl
  | [], _ :: _ => rfl
  | _ :: _, [] => rfl
  | x :: xs, y :: ys => by
    show (if x = y then ltD (xs.map D.str) (ys.map D.str) else decide (x.cps.toList < y.cps.toList)) = (if x = y then PySem.W.listLt xs ys else _)
    rw [ltD_strs xs ys]
    rfl
mutual
theorem eqv_py : ∀ (d e : D) (n m : Nat), D.plain n d = true → D.plain m e = true → D.eqv d e = PyData.eqv d.py e.py
  | .non, e, n, m, hd, he => by cases e <;> first | (simp [D.eqv, D.py, PyData.eqv]; done) | (simp [D.plain] at he)
  | .bl _, e, n, m, hd, he => by cases e <;> first | (simp [D.eqv, D.py, PyData.eqv]; done) | (simp [D.plain] at he)
  | .int _, e, n, m, hd, he => by cases e <;> first | (simp [D.eqv, D.py, PyData.eqv]; done) | (simp [D.plain] at he)
  | .str _, e, n, m, hd, he => by cases e <;> first | (simp [D.eqv, D.py, PyData.eqv]; done) | (simp [D.plain] at he)
  | .tup xs, e, n, m, hd, he => by
    cases e with
    | tup ys =>
      rw [D.plain] at hd he
      simp only [D.eqv, D.py, PyData.eqv]
      exact eqvs_py xs ys n m hd he
    | _ => first | (simp [D.eqv, D.py, PyData.eqv]; done) | (simp [D.plain] at he)
  | .lst xs, e, n, m, hd, he => by
    cases e with
    | lst ys =>
      rw [D.plain] at hd he
      simp only [D.eqv, D.py, PyData.eqv]
      exact eqvs_py xs ys n m hd he
    | _ => first | (simp [D.eqv, D.py, PyData.eqv]; done) | (simp [D.plain] at he)
  | .dic _ _, _, _, _, hd, _ => by simp [D.plain] at hd
  | .ins _ _ _, _, _, _, hd, _ => by simp [D.plain] at hd
  | .exc _ _, _, _, _, hd, _ => by simp [D.plain] at hd
  | .fn _, _, _, _, hd, _ => by simp [D.plain] at hd
  | .scr _, _, _, _, hd, _ => by simp [D.plain] at hd
theorem eqvs_py : ∀ (xs ys : List D) (n m : Nat), D.plains n xs = true → D.plains m ys = true → D.eqvs xs ys = PyData.eqvAll (D.pys xs) (D.pys ys)
  | [], [], n, m, _, _ => by simp [D.eqvs, D.pys, PyData.eqvAll]
  | [], _ :: _, n, m, _, _ => by simp [D.eqvs, D.pys, PyData.eqvAll]
  | _ :: _, [], n, m, _, _ => by simp [D.eqvs, D.pys, PyData.eqvAll]
  | x :: xs, y :: ys, n, m, h1, h2 => by
    obtain ⟨n', e1, p1, q1⟩ := plains_cons h1
    obtain ⟨m', e2, p2, q2⟩ := plains_cons h2
    simp only [D.eqvs, D.pys, PyData.eqvAll]
    rw [eqv_py x y n' m' p1 p2, eqvs_py xs ys n m q1 q2]
end
section
variable {S : Sr} {G : Gh} {H : Hp}
mutual
theorem Rep.dp : ∀ {d : D} {v : V} (n : Nat), Rep S G H d v → D.plain n d = true → Dp S.K H v d.py ∧ d.py.canLay0 = true ∧ d.py.depth ≤ n
  | _, _, n, .non, _ => by rw [D.py]; exact ⟨.non, rfl, Nat.zero_le _⟩
  | _, _, n, .bl b, _ => by rw [D.py]; exact ⟨.bl b, rfl, Nat.zero_le _⟩
  | _, _, n, .int i, _ => by rw [D.py]; exact ⟨.int i, rfl, Nat.zero_le _⟩
  | _, _, n, .str x h, _ => by rw [D.py]; exact ⟨.str x, (Bool.and_eq_true_iff.mp h).1, Nat.zero_le _⟩
  | .tup xs, _, n, .tup f l r, h => by
    rw [D.plain] at h
    cases n with
    | zero => cases xs <;> (rw [D.plains] at h; cases h)
    | succ m =>
      obtain ⟨h1, h2, h3⟩ := Reps.dp m r h
      rw [D.py]
      exact ⟨.tup f.sq h1, h2, by rw [PyData.depth]; omega⟩
  | .lst xs, _, n, .lst f l r, h => by
    rw [D.plain] at h
    cases n with
    | zero => cases xs <;> (rw [D.plains] at h; cases h)
    | succ m =>
      obtain ⟨h1, h2, h3⟩ := Reps.dp m r h
      rw [D.py]
      exact ⟨.lst (.inl (.inl f.1)) h1, h2, by rw [PyData.depth]; omega⟩
  | _, _, _, .fn _, h => by simp [D.plain] at h
  | _, _, _, .exc _, h => by simp [D.plain] at h
  | _, _, _, .scr _ _, h => by simp [D.plain] at h
theorem Reps.dp : ∀ {ds : List D} {vs : List V} (m : Nat), Reps S G H ds vs → D.plains (m + 1) ds = true → DpAll S.K H vs (D.pys ds) ∧ PyData.canLayAll0 (D.pys ds) = true ∧ PyData.depthAll (D.pys ds) ≤ m
  | _, _, m, .nil, _ => by rw [D.pys]; exact ⟨.nil, rfl, Nat.zero_le _⟩
  | _, _, m, .cons r t, h => by
    obtain ⟨m', e, p, q⟩ := plains_cons h
    obtain rfl : m' = m := by omega
    obtain ⟨h1, h2, h3⟩ := Rep.dp _ r p
    obtain ⟨k1, k2, k3⟩ := Reps.dp _ t q
    rw [D.pys]
    refine ⟨.cons h1 k1, ?_, ?_⟩
    · rw [PyData.canLayAll0, h2, k2]; rfl
    · rw [PyData.depthAll]; omega
end
theorem Vwd.dp {d : D} {v : V} {n : Nat} (h : Vwd S G H d v) (p : D.plain n d = true) : Dp S.K H v d.py ∧ d.py.canLay0 = true ∧ d.py.depth ≤ n := by
  rcases h with h | ⟨t, h⟩
  · exact h.dp n p
  · cases d with
    | lst xs =>
      obtain ⟨a, vs, rfl, ha, _, _, r⟩ := h
      rw [D.plain] at p
      cases n with
      | zero => cases xs <;> (rw [D.plains] at p; cases p)
      | succ m =>
        obtain ⟨h1, h2, h3⟩ := Reps.dp m r p
        rw [D.py]
        exact ⟨.lst (.inl (.inl ha)) h1, h2, by rw [PyData.depth]; omega⟩
    | _ => exact h.elim
theorem shaped_of {d : D} (h1 : d.py.canLay0 = true) (h2 : d.py.depth ≤ 60) : SeqAt.shaped d.py = true := Bool.and_eq_true_iff.mpr ⟨h1, decide_eq_true (by omega)⟩

/-! ### in -/
theorem one1_eq {a : Str} {c : Nat} (h : one1 a = some c) : a = ⟨#[c]⟩ := by
  obtain ⟨⟨l⟩⟩ := a
  unfold one1 at h
  split at h
  · rename_i e
    cases h
    have e' : l = [c] := e
    rw [e']
  · cases h
theorem flat_of {d : D} {v : V} (h : Vwd S G H d v) (f : d.flat = true) : flatV v = true := by
  cases d with
  | non => rw [h.non] <;> rfl
  | bl b => rw [h.bl] <;> rfl
  | int i => rw [h.int] <;> rfl
  | str z => rw [h.str.1] <;> rfl
  | _ => cases f
theorem flats_of : ∀ {ds : List D} {vs : List V}, Reps S G H ds vs → ds.all D.flat = true → vs.all flatV = true
  | _, _, .nil, _ => rfl
  | _, _, .cons r t, h => by
    rw [List.all_cons] at h ⊢
    obtain ⟨h1, h2⟩ := Bool.and_eq_true_iff.mp h
    rw [flat_of (.inl r) h1, flats_of t h2]
    rfl
theorem eqV_of {d e : D} {v u : V} (h : Vwd S G H d v) (k : Vwd S G H e u) (f : d.flat = true) (g : e.flat = true) : eqV v u = D.eqv d e := by
  cases d with
  | non => rw [h.non]; cases e with
    | non => rw [k.non]; simp [eqV, D.eqv]
    | bl b => rw [k.bl]; simp [eqV, D.eqv]
    | int i => rw [k.int]; simp [eqV, D.eqv]
    | str z => rw [k.str.1]; simp [eqV, D.eqv]
    | _ => cases g
  | bl b => rw [h.bl]; cases e with
    | non => rw [k.non]; simp [eqV, D.eqv]
    | bl b => rw [k.bl]; simp [eqV, D.eqv]
    | int i => rw [k.int]; simp [eqV, D.eqv]
    | str z => rw [k.str.1]; simp [eqV, D.eqv]
    | _ => cases g
  | int i => rw [h.int]; cases e with
    | non => rw [k.non]; simp [eqV, D.eqv]
    | bl b => rw [k.bl]; simp [eqV, D.eqv]
    | int i => rw [k.int]; simp [eqV, D.eqv]
    | str z => rw [k.str.1]; simp [eqV, D.eqv]
    | _ => cases g
  | str z => rw [h.str.1]; cases e with
    | non => rw [k.non]; simp [eqV, D.eqv]
    | bl b => rw [k.bl]; simp [eqV, D.eqv]
    | int i => rw [k.int]; simp [eqV, D.eqv]
    | str z => rw [k.str.1]; simp [eqV, D.eqv]
    | _ => cases g
  | _ => cases f
theorem inV_of {d : D} {v : V} (h : Vwd S G H d v) (f : d.flat = true) : ∀ {ds : List D} {vs : List V}, Reps S G H ds vs → ds.all D.flat = true → inV v vs = inD d ds
  | _, _, .nil, _ => rfl
  | _, _, .cons r t, g => by
    rw [List.all_cons] at g
    obtain ⟨h1, h2⟩ := Bool.and_eq_true_iff.mp g
    have ih := inV_of h f t h2
    unfold inV at ih ⊢
    rw [List.any_cons, ih, eqV_of (.inl r) h h1 f, inD]
end

section
variable {X : Cx} {S : Sr} {n : Nat}
theorem fin1 {G : Gh} {H : Hp} {b : Bool} {Q : VK} {z : Rv} (wk : Wk G H) (k : ∀ v H' G', Ext G G' H H' → RvOk S n G' H' z v → Q v H') (e : z = (.bl b, false)) : Q (.bl b) H := by
  subst e
  exact k _ H G (Ext.refl wk) (.bl b)
theorem op_cmp (hK : X.K = S.K) (hu : X.A.units + 64 < cLine) (o : CmpOp) : OpR X (compareOp o) (rB S n fun d e => bV (cmpD o d e)) := by
  intro pins s σ H x y v u Q I rx ry h
  obtain ⟨G, d, e, z, wk, hd, he, hk, q⟩ := h
  have ll := lim_line
  obtain ⟨b, hb, rfl⟩ : ∃ b, cmpD o d e = some b ∧ z = (.bl b, false) := by
    have hk' : bV (cmpD o d e) = some z := hk
    cases c : cmpD o d e with
    | none => rw [c] at hk'; cases hk'
    | some b => rw [c] at hk'; cases hk'; exact ⟨b, rfl, rfl⟩
  have fin : ∀ b', b' = b → Q (.bl b') H := fun b' e => by subst e; exact fin1 wk q rfl
  have eqs : ∀ b, eqD d e = some b → (d.eqOk e = true ∧ b = D.eqv d e) ∨ ∃ ns, d = .scr ns ∧ e = .lst [] ∧ b = ns.isEmpty := fun b hb => by
    unfold eqD at hb
    split at hb
    · exact .inr ⟨_, rfl, rfl, (Option.some.inj hb).symm⟩
    · by_cases c : D.eqOk d e = true
      · rw [if_pos c] at hb; exact .inl ⟨c, (Option.some.inj hb).symm⟩
      · rw [if_neg c] at hb; cases hb
  have dps : D.eqOk d e = true → Dp X.K H x d.py ∧ Dp X.K H y e.py ∧ SeqAt.shaped d.py = true ∧ SeqAt.shaped e.py = true ∧ PyData.eqv d.py e.py = D.eqv d e := fun c => by
    obtain ⟨c1, c2⟩ := Bool.and_eq_true_iff.mp c
    obtain ⟨p1, p2, p3⟩ := hd.dp c1
    obtain ⟨q1, q2, q3⟩ := he.dp c2
    rw [hK]
    exact ⟨p1, q1, shaped_of p2 p3, shaped_of q2 q3, (eqv_py d e 60 60 c1 c2).symm⟩
  have scr : ∀ ns, d = .scr ns → e = .lst [] → ∃ a b, x = .ref a ∧ y = .ref b ∧ SqL X.K H a (ns.map V.int) ∧ H b = some (.lst []) := fun ns e1 e2 => by
    subst e1 e2
    obtain ⟨a, ea, sq, _⟩ := hd.scr
    obtain ⟨b, vs, eb, hb, _, r⟩ := he.lst
    cases r
    rw [hK]
    exact ⟨a, b, ea, eb, sq, hb⟩
  have dpi : ∀ ns : List Int, DpAll X.K H (ns.map V.int) (ns.map PyData.int) := fun ns => by
    induction ns with
    | nil => exact .nil
    | cons i r ih => exact .cons (.int i) ih
  have lay : ∀ ns : List Int, PyData.canLayAll0 (ns.map PyData.int) = true ∧ PyData.depthAll (ns.map PyData.int) = 0 := fun ns => by
    induction ns with
    | nil => exact ⟨rfl, rfl⟩
    | cons i r ih =>
      rw [List.map_cons, PyData.canLayAll0, PyData.depthAll, ih.1, ih.2]
      exact ⟨rfl, rfl⟩
  have shi : ∀ ns : List Int, SeqAt.shaped (.list (ns.map PyData.int)) = true := fun ns => by
    refine Bool.and_eq_true_iff.mpr ⟨(lay ns).1, decide_eq_true ?_⟩
    rw [PyData.depth, (lay ns).2]; omega
  have eqi : ∀ ns : List Int, PyData.eqv (.list (ns.map PyData.int)) (.list []) = ns.isEmpty := fun ns => by
    cases ns <;> simp [PyData.eqv, PyData.eqvAll]
  cases o with
  | Eq =>
    rcases eqs b hb with ⟨c, rfl⟩ | ⟨ns, e1, e2, rfl⟩
    · obtain ⟨p1, p2, p3, p4, p5⟩ := dps c
      exact op_eqD hu pins s σ H x y v u Q I rx ry ⟨_, _, p1, p2, p3, p4, fin _ p5⟩
    · obtain ⟨a, b, rfl, rfl, sq, hb⟩ := scr ns e1 e2
      exact op_eqD hu pins s σ H _ _ v u Q I rx ry ⟨.list (ns.map PyData.int), .list [], .lst sq (dpi ns), .lst (.inl (.inl hb)) .nil, shi ns, shi [], fin _ (eqi ns)⟩
  | NotEq =>
    have hb' : (eqD d e).map (fun b => !b) = some b := hb
    cases c0 : eqD d e with
    | none => rw [c0] at hb'; cases hb'
    | some b0 =>
      rw [c0] at hb'
      cases hb'
      rcases eqs b0 c0 with ⟨c, rfl⟩ | ⟨ns, e1, e2, rfl⟩
      · obtain ⟨p1, p2, p3, p4, p5⟩ := dps c
        exact op_neD hu pins s σ H x y v u Q I rx ry ⟨_, _, p1, p2, p3, p4, fin _ (by rw [p5])⟩
      · obtain ⟨a, b, rfl, rfl, sq, hb⟩ := scr ns e1 e2
        exact op_neD hu pins s σ H _ _ v u Q I rx ry ⟨.list (ns.map PyData.int), .list [], .lst sq (dpi ns), .lst (.inl (.inl hb)) .nil, shi ns, shi [], fin _ (by rw [eqi])⟩
  | Lt =>
    cases d with
    | int i =>
      cases e with
      | int j =>
        cases hb
        obtain rfl := hd.int
        obtain rfl := he.int
        exact op_lt pins s σ H _ _ v u Q I rx ry ⟨i, j, rfl, rfl, fin _ rfl⟩
      | _ => cases hb
    | str a =>
      cases e with
      | str b =>
        cases hb
        obtain ⟨rfl, _⟩ := hd.str
        obtain ⟨rfl, _⟩ := he.str
        exact op_lt_str pins s σ H _ _ v u Q I rx ry ⟨a, b, rfl, rfl, fin _ rfl⟩
      | _ => cases hb
    | tup xs =>
      cases e with
      | tup ys =>
        have hb' : (if (xs.all D.isStr && ys.all D.isStr) = true then some (ltD xs ys) else none) = some b := hb
        by_cases c : (xs.all D.isStr && ys.all D.isStr) = true
        · rw [if_pos c] at hb'
          obtain ⟨c1, c2⟩ := Bool.and_eq_true_iff.mp c
          obtain ⟨ws, rfl⟩ := strs_of c1
          obtain ⟨zs, rfl⟩ := strs_of c2
          rw [ltD_strs] at hb'
          cases hb'
          have hpl : ∀ l : List Str, D.plain 60 (.tup (l.map D.str)) = true := fun l => by
            rw [D.plain]
            induction l with
            | nil => rw [List.map_nil, D.plains]
            | cons x l ih => rw [List.map_cons, D.plains, ih, D.plain]; rfl
          obtain ⟨p1, _, _⟩ := hd.dp (hpl ws)
          obtain ⟨q1, _, _⟩ := he.dp (hpl zs)
          rw [← hK] at p1 q1
          obtain ⟨as, ra⟩ := Dp.reads I _ _ _ p1 rx
          obtain ⟨bs, rb⟩ := Dp.reads I _ _ _ q1 ry
          have e1 : ∀ l : List Str, (D.tup (l.map D.str)).py = PySem.W.Datum.toD (PySem.W.Tup.mk l) := fun l => by
            show PyData.tuple (D.pys (l.map D.str)) = PyData.tuple (l.map PySem.W.Datum.toD)
            congr 1
            induction l with
            | nil => rfl
            | cons x l ih => rw [List.map_cons, List.map_cons, D.pys, ih]; rfl
          rw [e1] at ra rb
          exact PySem.W.lt_datum (x := PySem.W.Tup.mk ws) (y := PySem.W.Tup.mk zs) ⟨as, ra⟩ ⟨bs, rb⟩ (by show _ + (0 + 1) < _; omega) ⟨.bl _, H, I, rfl, fin _ rfl⟩
        · rw [if_neg c] at hb'; cases hb'
      | _ => cases hb
    | _ => cases e <;> cases hb
  | LtE =>
    cases d with
    | int i =>
      cases e with
      | int j =>
        cases hb
        obtain rfl := hd.int
        obtain rfl := he.int
        exact op_le pins s σ H _ _ v u Q I rx ry ⟨i, j, rfl, rfl, fin _ rfl⟩
      | _ => cases hb
    | _ => cases e <;> cases hb
  | Gt =>
    cases d with
    | int i =>
      cases e with
      | int j =>
        cases hb
        obtain rfl := hd.int
        obtain rfl := he.int
        exact op_gt pins s σ H _ _ v u Q I rx ry ⟨i, j, rfl, rfl, fin _ rfl⟩
      | _ => cases hb
    | _ => cases e <;> cases hb
  | GtE =>
    cases d with
    | int i =>
      cases e with
      | int j =>
        cases hb
        obtain rfl := hd.int
        obtain rfl := he.int
        exact op_ge pins s σ H _ _ v u Q I rx ry ⟨i, j, rfl, rfl, fin _ rfl⟩
      | _ => cases hb
    | _ => cases e <;> cases hb
  | In =>
    cases e with
    | str z =>
      cases d with
      | str a =>
        have hb' : (one1 a).map (fun c => decide (c ∈ z.cps.toList)) = some b := hb
        cases c0 : one1 a with
        | none => rw [c0] at hb'; cases hb'
        | some c =>
          rw [c0] at hb'
          cases hb'
          obtain ⟨rfl, _⟩ := hd.str
          obtain ⟨rfl, _⟩ := he.str
          obtain rfl := one1_eq c0
          exact op_in_sign pins s σ H _ _ v u Q I rx ry ⟨c, z, rfl, rfl, fin _ rfl⟩
      | _ => cases hb
    | tup ys =>
      have hb' : (if (d.flat && ys.all D.flat) = true then some (inD d ys) else none) = some b := by cases d <;> exact hb
      by_cases c : (d.flat && ys.all D.flat) = true
      · rw [if_pos c] at hb'
        cases hb'
        obtain ⟨c1, c2⟩ := Bool.and_eq_true_iff.mp c
        obtain ⟨a, vs, rfl, ha, la, ra⟩ := he.tup
        exact op_in_seq pins s σ H _ _ v u Q I rx ry ⟨a, vs, rfl, .inr ha.sq, flat_of hd c1, flats_of ra c2, fin _ (inV_of hd c1 ra c2)⟩
      · rw [if_neg c] at hb'; cases hb'
    | lst ys =>
      have hb' : (if (d.flat && ys.all D.flat) = true then some (inD d ys) else none) = some b := by cases d <;> exact hb
      by_cases c : (d.flat && ys.all D.flat) = true
      · rw [if_pos c] at hb'
        cases hb'
        obtain ⟨c1, c2⟩ := Bool.and_eq_true_iff.mp c
        obtain ⟨a, vs, rfl, ha, la, ra⟩ := he.lst
        exact op_in_seq pins s σ H _ _ v u Q I rx ry ⟨a, vs, rfl, .inl (.inl (.inl ha)), flat_of hd c1, flats_of ra c2, fin _ (inV_of hd c1 ra c2)⟩
      · rw [if_neg c] at hb'; cases hb'
    | _ => cases d <;> cases hb
  | NotIn =>
    cases e with
    | str z =>
      cases d with
      | str a =>
        have hb' : (one1 a).map (fun c => !decide (c ∈ z.cps.toList)) = some b := hb
        cases c0 : one1 a with
        | none => rw [c0] at hb'; cases hb'
        | some c =>
          rw [c0] at hb'
          cases hb'
          obtain ⟨rfl, _⟩ := hd.str
          obtain ⟨rfl, _⟩ := he.str
          obtain rfl := one1_eq c0
          exact op_notIn_sign pins s σ H _ _ v u Q I rx ry ⟨c, z, rfl, rfl, fin _ rfl⟩
      | _ => cases hb
    | tup ys =>
      have hb' : (if (d.flat && ys.all D.flat) = true then some (!inD d ys) else none) = some b := by cases d <;> exact hb
      by_cases c : (d.flat && ys.all D.flat) = true
      · rw [if_pos c] at hb'
        cases hb'
        obtain ⟨c1, c2⟩ := Bool.and_eq_true_iff.mp c
        obtain ⟨a, vs, rfl, ha, la, ra⟩ := he.tup
        exact op_notIn_seq pins s σ H _ _ v u Q I rx ry ⟨a, vs, rfl, .inr ha.sq, flat_of hd c1, flats_of ra c2, fin _ (by rw [if_pos rfl, inV_of hd c1 ra c2])⟩
      · rw [if_neg c] at hb'; cases hb'
    | lst ys =>
      have hb' : (if (d.flat && ys.all D.flat) = true then some (!inD d ys) else none) = some b := by cases d <;> exact hb
      by_cases c : (d.flat && ys.all D.flat) = true
      · rw [if_pos c] at hb'
        cases hb'
        obtain ⟨c1, c2⟩ := Bool.and_eq_true_iff.mp c
        obtain ⟨a, vs, rfl, ha, la, ra⟩ := he.lst
        exact op_notIn_seq pins s σ H _ _ v u Q I rx ry ⟨a, vs, rfl, .inl (.inl (.inl ha)), flat_of hd c1, flats_of ra c2, fin _ (by rw [if_pos rfl, inV_of hd c1 ra c2])⟩
      · rw [if_neg c] at hb'; cases hb'
    | _ => cases d <;> cases hb
  | Is =>
    cases e with
    | non =>
      obtain rfl := he.non
      have hx : decide (x = V.non) = b := by
        cases d with
        | non => rw [hd.non]; cases hb; rfl
        | bl c => rw [hd.bl]; cases hb; rfl
        | int c => rw [hd.int]; cases hb; rfl
        | str c => rw [hd.str.1]; cases hb; rfl
        | tup c => obtain ⟨a, vs, rfl, _⟩ := hd.tup; cases hb; rfl
        | lst c => obtain ⟨a, vs, rfl, _⟩ := hd.lst; cases hb; rfl
        | scr c => obtain ⟨a, rfl, _⟩ := hd.scr; cases hb; rfl
        | fn c => rcases hd with hd | ⟨_, hd⟩ <;> cases hd <;> cases hb <;> rfl
        | exc c p => rcases hd with hd | ⟨_, hd⟩ <;> cases hd <;> cases hb <;> rfl
        | _ => rcases hd with hd | ⟨_, hd⟩ <;> cases hd
      exact op_isN pins s σ H _ _ v u Q I rx ry ⟨rfl, fin _ hx⟩
    | bl c =>
      cases d with
      | bl a =>
        cases hb
        obtain rfl := hd.bl
        obtain rfl := he.bl
        exact op_isBl pins s σ H _ _ v u Q I rx ry ⟨a, c, rfl, rfl, fin _ (by cases a <;> cases c <;> rfl)⟩
      | _ => cases hb
    | _ => cases d <;> cases hb
  | IsNot =>
    cases e with
    | non =>
      obtain rfl := he.non
      have hx : (!decide (x = V.non)) = b := by
        cases d with
        | non => rw [hd.non]; cases hb; rfl
        | bl c => rw [hd.bl]; cases hb; rfl
        | int c => rw [hd.int]; cases hb; rfl
        | str c => rw [hd.str.1]; cases hb; rfl
        | tup c => obtain ⟨a, vs, rfl, _⟩ := hd.tup; cases hb; rfl
        | lst c => obtain ⟨a, vs, rfl, _⟩ := hd.lst; cases hb; rfl
        | scr c => obtain ⟨a, rfl, _⟩ := hd.scr; cases hb; rfl
        | fn c => rcases hd with hd | ⟨_, hd⟩ <;> cases hd <;> cases hb <;> rfl
        | exc c p => rcases hd with hd | ⟨_, hd⟩ <;> cases hd <;> cases hb <;> rfl
        | _ => rcases hd with hd | ⟨_, hd⟩ <;> cases hd
      exact op_notN pins s σ H _ _ v u Q I rx ry ⟨rfl, fin _ hx⟩
    | bl c =>
      cases d with
      | bl a =>
        cases hb
        obtain rfl := hd.bl
        obtain rfl := he.bl
        exact op_notBl pins s σ H _ _ v u Q I rx ry ⟨a, c, rfl, rfl, fin _ (by cases a <;> cases c <;> rfl)⟩
      | _ => cases hb
    | _ => cases d <;> cases hb
end
end Nm
set_option maxRecDepth 100000
set_option maxHeartbeats 4000000
/-! Items, slices, calls of built-ins, by values. -/
namespace Nm
open PySem L2
open PySem.PyData (strOk)

section
variable {X : Cx} {S : Sr} {n : Nat} {G : Gh} {H : Hp}
theorem Reps.atI {xs : List D} {vs : List V} {i : Int} {d : D} (r : Reps S G H xs vs) (h : L2.atI xs i = some d) : ∃ v, L2.atI vs i = some v ∧ Rep S G H d v := by
  unfold L2.atI at h ⊢
  rw [← r.length]
  cases e : ixN xs.length i with
  | none => rw [e] at h; cases h
  | some j =>
    rw [e] at h
    exact r.get h
theorem op_ix (hK : X.K = S.K) : IxR X (rB S n fun d e => (ixD d e).map fun x => (x, false)) := by
  intro value slice pins s σ H x y v u Q I rx ry h hs
  obtain ⟨G, d, e, z, wk, hd, he, hk, q⟩ := h
  have ll := lim_line
  obtain ⟨w, hw, rfl⟩ : ∃ w, ixD d e = some w ∧ z = (w, false) := by
    have hk' : (ixD d e).map (fun x => ((x, false) : Rv)) = some z := hk
    cases c : ixD d e with
    | none => rw [c] at hk'; cases hk'
    | some w => rw [c] at hk'; cases hk'; exact ⟨w, rfl, rfl⟩
  cases e with
  | int i =>
    obtain rfl := he.int
    cases d with
    | tup xs =>
      obtain ⟨a, vs, rfl, ha, la, ra⟩ := hd.tup
      obtain ⟨v', e1, r1⟩ := ra.atI hw
      exact ix_tup value slice pins s σ H _ _ v u Q I rx ry ⟨a, vs, i, v', rfl, rfl, ha.sq, e1, fin0 wk q r1⟩ hs
    | lst xs =>
      obtain ⟨a, vs, rfl, ha, la, ra⟩ := hd.lst
      obtain ⟨v', e1, r1⟩ := ra.atI hw
      exact ix_list value slice pins s σ H _ _ v u Q I rx ry ⟨a, vs, i, v', rfl, rfl, .inl (.inl ha), e1, fin0 wk q r1⟩ hs
    | scr ns =>
      obtain ⟨a, rfl, sq, _⟩ := hd.scr
      have hw' : (atD ns i).map D.int = some w := hw
      cases c : atD ns i with
      | none => rw [c] at hw'; cases hw'
      | some j =>
        rw [c] at hw'
        cases hw'
        have e1 : L2.atI (ns.map V.int) i = some (.int j) := by
          have c' : L2.atI ns i = some j := c
          unfold L2.atI at c' ⊢
          rw [List.length_map]
          cases e : ixN ns.length i with
          | none => rw [e] at c'; cases c'
          | some k =>
            rw [e] at c'
            have c2 : ns[k]? = some j := c'
            show (ns.map V.int)[k]? = some (.int j)
            rw [List.getElem?_map, c2]
            rfl
        rw [← hK] at sq
        exact ix_list value slice pins s σ H _ _ v u Q I rx ry ⟨a, _, i, _, rfl, rfl, sq, e1, fin0 wk q (.int j)⟩ hs
    | str t =>
      obtain ⟨rfl, ok⟩ := hd.str
      have hw' : (atD t.cps.toList i).map (fun c => D.str ⟨#[c]⟩) = some w := hw
      cases c : atD t.cps.toList i with
      | none => rw [c] at hw'; cases hw'
      | some k =>
        rw [c] at hw'
        cases hw'
        obtain ⟨o1, o2⟩ := Bool.and_eq_true_iff.mp ok
        refine ix_str value slice pins s σ H _ _ v u Q I rx ry ⟨t, i, k, rfl, rfl, by rw [← ll]; exact of_decide_eq_true o2, c, fin0 wk q (.str _ ?_)⟩ hs
        refine Bool.and_eq_true_iff.mpr ⟨?_, decide_eq_true (show 1 ≤ 16777216 by decide)⟩
        have c' : L2.atI t.cps.toList i = some k := c
        unfold L2.atI at c'
        cases e : ixN t.cps.toList.length i with
        | none => rw [e] at c'; cases c'
        | some j =>
          rw [e] at c'
          have c2 : t.cps.toList[j]? = some k := c'
          have m : k ∈ t.cps := by
            have := List.mem_of_getElem? c2
            simpa using this
          have hall : t.cps.all (· < 0x110000) = true := o1
          have h3 := Array.all_eq_true_iff_forall_mem.mp hall k m
          show (#[k] : Array Nat).all (· < 0x110000) = true
          simpa using h3
    | _ => cases hw
  | _ => cases d <;> cases hw

/-! ### slices -/
def rSl (S : Sr) (n : Nat) : V → Option Int → Option Int → Hp → VK → Prop := fun x lo hi H Q => ∃ G d z, Wk G H ∧ Vwd S G H d x ∧ slD d lo hi = some z ∧ ∀ v H' G', Ext G G' H H' → RvOk S n G' H' z v → Q v H'
theorem Reps.cut {xs : List D} {vs : List V} (lo hi : Option Int) (r : Reps S G H xs vs) : Reps S G H (cutD xs lo hi) (cutV vs lo hi) := by
  unfold cutD cutV
  rw [← r.length]
  exact (r.drop _).take _
theorem cutD_length {α : Type} (xs : List α) (lo hi : Option Int) : (cutD xs lo hi).length ≤ xs.length := by
  unfold cutD
  rw [List.length_take, List.length_drop]
  omega
theorem op_sl (hK : X.K = S.K) : SlR X (rSl S n) := by
  intro pins s σ H x v vl vu lo hi sl Q I rx hs pl pu h
  obtain ⟨G, d, z, wk, hd, hk, q⟩ := h
  have ll := lim_line
  cases d with
  | lst xs =>
    cases hk
    obtain ⟨a, vs, rfl, ha, la, ra⟩ := hd.lst
    exact sl_list pins s σ H _ v vl vu lo hi sl Q I rx hs pl pu ⟨a, vs, rfl, .inl (.inl ha), fun p hp => finL wk q hp (Nat.le_trans (cutD_length xs lo hi) la) (ra.cut lo hi)⟩
  | tup xs =>
    cases hk
    obtain ⟨a, vs, rfl, ha, la, ra⟩ := hd.tup
    cases rx
    have sa : SqT X.K H a vs := ha.sq
    obtain ⟨its, r, ht, hz⟩ := I.tuple sa
    have hlen : its.toArray.size = vs.length := by rw [List.size_toArray]; exact r.length.symm
    refine ⟨"tuple", _, PyProof.Rows.slot_tuple_getitem.lookup, ht.typeIs, ?_⟩
    by_cases hw : HT.sIx vs.length 0 lo = 0 ∧ HT.sIx vs.length vs.length hi = vs.length
    · refine getItem_tuple_whole ht hs pl pu (by rw [hlen]; exact hw) ⟨.ref a, H, I, rfl, ?_⟩
      have e : cutD xs lo hi = xs := by
        unfold cutD
        rw [ra.length, hw.1, hw.2, List.drop_zero, Nat.sub_zero, ← ra.length, List.take_length]
      rw [e] at q
      exact fin0 wk q (.tup ha la ra)
    · refine HT.getItem_tuple_cut ht hs pl pu (by rw [hlen]; exact hw) ?_ (by rw [hlen]; exact hz)
      rw [hlen]
      have rr := (r.drop (HT.sIx vs.length 0 lo)).take (HT.sIx vs.length vs.length hi - HT.sIx vs.length 0 lo)
      exact ⟨.ref s.heap.objs.size, _, laidT I rr (Nat.le_trans (cutV_length vs lo hi) hz) s.toks, rfl, finT wk q ⟨_, _, rfl⟩ I.fresh (Nat.le_trans (cutD_length xs lo hi) la) (ra.cut lo hi)⟩
  | _ => cases hk

/-! ### isinstance -/
theorem kit_names {t : Str} {b : Bool} {d : D} {x : V} (hd : Vwd S G H d x) (h : isiD t d = some b) : ∃ (ty : String) (u : Value), bootBuiltins t = some (.type ty) ∧ t ∈ isiN ∧ TyX S.K H x u ∧ PySem.W.kitOne S.K u (.type ty) = some b := by
  unfold isiD at h
  by_cases ht : t ∈ isiN
  · rw [if_pos ht] at h
    have hc : t = "bool" ∨ t = "int" ∨ t = "str" ∨ t = "tuple" := by
      have := ht
      unfold isiN at this
      simpa using this
    have key : ∀ (u : String), TyX S.K H x (.type u) → (∀ ty, kitB u ty = kitB u ty) → (t = "bool" → kitB u "bool" = some b) → (t = "int" → kitB u "int" = some b) → (t = "str" → kitB u "str" = some b) → (t = "tuple" → kitB u "tuple" = some b) →
        ∃ (ty : String) (u : Value), bootBuiltins t = some (.type ty) ∧ t ∈ isiN ∧ TyX S.K H x u ∧ PySem.W.kitOne S.K u (.type ty) = some b := by
      intro u tx _ k1 k2 k3 k4
      rcases hc with rfl | rfl | rfl | rfl
      · exact ⟨"bool", _, by decide +kernel, ht, tx, kit_ty (k1 rfl)⟩
      · exact ⟨"int", _, by decide +kernel, ht, tx, kit_ty (k2 rfl)⟩
      · exact ⟨"str", _, by decide +kernel, ht, tx, kit_ty (k3 rfl)⟩
      · exact ⟨"tuple", _, by decide +kernel, ht, tx, kit_ty (k4 rfl)⟩
    cases d with
    | non =>
      obtain rfl := hd.non
      cases h
      exact key "NoneType" (.base .non) (fun _ => rfl) (fun _ => by decide +kernel) (fun _ => by decide +kernel) (fun _ => by decide +kernel) (fun _ => by decide +kernel)
    | bl c =>
      obtain rfl := hd.bl
      cases h
      exact key "bool" (.base (.bl c)) (fun _ => rfl) (fun e => by subst e; decide +kernel) (fun e => by subst e; decide +kernel) (fun e => by subst e; decide +kernel) (fun e => by subst e; decide +kernel)
    | int c =>
      obtain rfl := hd.int
      cases h
      exact key "int" (.base (.int c)) (fun _ => rfl) (fun e => by subst e; decide +kernel) (fun e => by subst e; decide +kernel) (fun e => by subst e; decide +kernel) (fun e => by subst e; decide +kernel)
    | str c =>
      obtain ⟨rfl, _⟩ := hd.str
      cases h
      exact key "str" (.base (.str c)) (fun _ => rfl) (fun e => by subst e; decide +kernel) (fun e => by subst e; decide +kernel) (fun e => by subst e; decide +kernel) (fun e => by subst e; decide +kernel)
    | tup xs =>
      obtain ⟨a, vs, rfl, ⟨o, ⟨its, m, rfl⟩, ha, _⟩, _⟩ := hd.tup
      cases h
      exact key "tuple" (.fTuple ha) (fun _ => rfl) (fun e => by subst e; decide +kernel) (fun e => by subst e; decide +kernel) (fun e => by subst e; decide +kernel) (fun e => by subst e; decide +kernel)
    | lst xs =>
      obtain ⟨a, vs, rfl, ha, _⟩ := hd.lst
      cases h
      exact key "list" (.base (.lst ha)) (fun _ => rfl) (fun e => by decide +kernel) (fun e => by decide +kernel) (fun e => by decide +kernel) (fun e => by decide +kernel)
    | _ => cases h
  · rw [if_neg ht] at h; cases h
def rIs (S : Sr) (n : Nat) (t : Str) : List V → Hp → VK → Prop := fun xs H Q => ∃ x c, xs = [x, c] ∧ (∀ ty, bootBuiltins t = some (.type ty) → c = .ty ty) ∧ r1 S n (fun d => bV (isiD t d)) x H Q
theorem op_isi (hK : X.K = S.K) (t : Str) : CallR X (.builtin "isinstance") (rIs S n t) := by
  intro pins s σ H xs us Q I r h
  obtain ⟨x, c, rfl, hc, G, d, z, wk, hd, hk, q⟩ := h
  obtain ⟨b, hb, rfl⟩ : ∃ b, isiD t d = some b ∧ z = (.bl b, false) := by
    have hk' : bV (isiD t d) = some z := hk
    cases c : isiD t d with
    | none => rw [c] at hk'; cases hk'
    | some b => rw [c] at hk'; cases hk'; exact ⟨b, rfl, rfl⟩
  obtain ⟨ty, u, e1, _, e3, e4⟩ := kit_names hd hb
  obtain rfl := hc ty e1
  rw [← hK] at e3 e4
  exact call_isi pins s σ H _ us Q I r ⟨x, .ty ty, u, .type ty, b, rfl, .ty ty, e3, e4, fin1 wk q rfl⟩

/-! ### len, all, any, tuple, list -/
theorem bls_reps : ∀ {xs : List D} {vs : List V} {bs : List Bool}, Reps S G H xs vs → bls xs = some bs → vs = bs.map V.bl
  | _, _, _, .nil, h => by cases h; rfl
  | _, _, bs, .cons (d := d) (ds := ds) r t, h => by
    cases d with
    | bl b =>
      have h' : (bls ds).map (b :: ·) = some bs := h
      cases e : bls ds with
      | none => rw [e] at h'; cases h'
      | some bs' =>
        rw [e] at h'
        cases h'
        cases r
        rw [List.map_cons, bls_reps t e]
    | _ => cases h
theorem Vwds.one {ds : List D} {x : V} (h : Vwds S G H ds [x]) : ∃ d, ds = [d] ∧ Vwd S G H d x := by
  cases ds with
  | nil => exact h.elim
  | cons d r =>
    cases r with
    | nil => exact ⟨d, rfl, h.1⟩
    | cons _ _ => exact h.2.elim
theorem one_of {ds : List D} {xs : List V} {d : D} (hd : Vwds S G H ds xs) (e : ds = [d]) : ∃ x, xs = [x] ∧ Vwd S G H d x := by
  subst e
  cases xs with
  | nil => exact hd.elim
  | cons x t => cases t with
    | nil => exact ⟨x, rfl, hd.1⟩
    | cons _ _ => exact hd.2.elim
theorem op_len (hK : X.K = S.K) : CallR X (.builtin "len") (rA S n lenD) := by
  intro pins s σ H xs us Q I r h
  obtain ⟨G, ds, z, wk, hd, hk, q⟩ := h
  have ll := lim_line
  unfold lenD at hk
  split at hk
  · obtain ⟨x, rfl, hx⟩ := one_of hd rfl
    cases hk
    obtain ⟨a, vs, rfl, ha, la, ra⟩ := hx.tup
    exact call_len_seq pins s σ H _ us Q I r ⟨a, vs, rfl, .inr ha.sq, by rw [← ra.length]; exact fin0 wk q (.int _)⟩
  · obtain ⟨x, rfl, hx⟩ := one_of hd rfl
    cases hk
    obtain ⟨a, vs, rfl, ha, la, ra⟩ := hx.lst
    exact call_len_seq pins s σ H _ us Q I r ⟨a, vs, rfl, .inl (.inl (.inl ha)), by rw [← ra.length]; exact fin0 wk q (.int _)⟩
  · obtain ⟨x, rfl, hx⟩ := one_of hd rfl
    cases hk
    obtain ⟨rfl, ok⟩ := hx.str
    exact call_len_str pins s σ H _ us Q I r ⟨_, rfl, by rw [← ll]; exact of_decide_eq_true (Bool.and_eq_true_iff.mp ok).2, fin0 wk q (.int _)⟩
  · obtain ⟨x, rfl, hx⟩ := one_of hd rfl
    cases hk
    obtain ⟨a, rfl, sq, _⟩ := hx.scr
    rw [← hK] at sq
    exact call_len_seq pins s σ H _ us Q I r ⟨a, _, rfl, .inl sq, by rw [List.length_map]; exact fin0 wk q (.int _)⟩
  · cases hk
theorem one_lst {ds : List D} {xs : List V} {ys : List D} (hd : Vwds S G H ds xs) (e : ds = [.lst ys]) : ∃ a vs, xs = [.ref a] ∧ H a = some (.lst vs) ∧ ys.length ≤ LIM ∧ Reps S G H ys vs := by
  subst e
  cases xs with
  | nil => exact hd.elim
  | cons x t => cases t with
    | nil =>
      obtain ⟨a, vs, rfl, ha, la, ra⟩ := hd.1.lst
      exact ⟨a, vs, rfl, ha, la, ra⟩
    | cons _ _ => exact hd.2.elim
theorem one_tup {ds : List D} {xs : List V} {ys : List D} (hd : Vwds S G H ds xs) (e : ds = [.tup ys]) : ∃ a vs, xs = [.ref a] ∧ FroT G H a vs ∧ ys.length ≤ LIM ∧ Reps S G H ys vs := by
  subst e
  cases xs with
  | nil => exact hd.elim
  | cons x t => cases t with
    | nil =>
      obtain ⟨a, vs, rfl, ha, la, ra⟩ := hd.1.tup
      exact ⟨a, vs, rfl, ha, la, ra⟩
    | cons _ _ => exact hd.2.elim
theorem op_all (hc : X.calm = true) : CallR X (.builtin "all") (rA S n allD') := by
  intro pins s σ H xs us Q I r h
  obtain ⟨G, ds, z, wk, hd, hk, q⟩ := h
  unfold allD' at hk
  split at hk
  · obtain ⟨a, vs, rfl, ha, la, ra⟩ := one_lst hd rfl
    rename_i ys
    cases e : bls ys with
    | none => rw [e] at hk; cases hk
    | some bs =>
      rw [e] at hk
      cases hk
      rw [bls_reps ra e] at ha
      exact cr_all hc pins s σ H _ us Q I r ⟨a, bs, rfl, .inl (.inl ha), fin0 wk q (.bl _)⟩
  · cases hk
theorem op_any (hc : X.calm = true) : CallR X (.builtin "any") (rA S n anyD') := by
  intro pins s σ H xs us Q I r h
  obtain ⟨G, ds, z, wk, hd, hk, q⟩ := h
  unfold anyD' at hk
  split at hk
  · obtain ⟨a, vs, rfl, ha, la, ra⟩ := one_lst hd rfl
    rename_i ys
    cases e : bls ys with
    | none => rw [e] at hk; cases hk
    | some bs =>
      rw [e] at hk
      cases hk
      rw [bls_reps ra e] at ha
      exact cr_any hc pins s σ H _ us Q I r ⟨a, bs, rfl, .inl (.inl ha), fin0 wk q (.bl _)⟩
  · cases hk
theorem op_list (hK : X.K = S.K) : CallR X (.type "list") (rA S n listD) := by
  intro pins s σ H xs us Q I r h
  obtain ⟨G, ds, z, wk, hd, hk, q⟩ := h
  unfold listD at hk
  split at hk
  · obtain ⟨a, vs, rfl, ha, la, ra⟩ := one_lst hd rfl
    cases hk
    exact call_list_of pins s σ H _ us Q I r ⟨a, vs, rfl, .inl (.inl (.inl ha)), fun l hl => finL wk q hl la ra⟩
  · obtain ⟨a, vs, rfl, ha, la, ra⟩ := one_tup hd rfl
    cases hk
    exact call_list_of pins s σ H _ us Q I r ⟨a, vs, rfl, .inr ha.sq, fun l hl => finL wk q hl la ra⟩
  · cases hk
theorem op_tuple (hK : X.K = S.K) : CallR X (.type "tuple") (rA S n tupleD) := by
  intro pins s σ H xs us Q I r h
  obtain ⟨G, ds, z, wk, hd, hk, q⟩ := h
  have ll := lim_line
  unfold tupleD at hk
  split at hk
  · obtain ⟨a, vs, rfl, ha, la, ra⟩ := one_lst hd rfl
    cases hk
    obtain ⟨u, rfl, rx⟩ := vals1 r
    cases rx
    obtain ⟨its, r', pl, hz⟩ := I.list (SqL.of ha)
    have hlen := r'.length
    refine call_tuple_list pl.isList (fun h' kp => ?_) (by rw [List.size_toArray] <;> omega)
    have I1 : Inv X pins σ H { s with heap := h' } := I.kept (t' := s.toks) kp
    exact ⟨.ref h'.objs.size, _, laidT I1 r' hz s.toks, rfl, finT wk q ⟨_, _, rfl⟩ I1.fresh la ra⟩
  · obtain ⟨a, vs, rfl, ha, la, ra⟩ := one_tup hd rfl
    cases hk
    exact call_tupleT pins s σ H _ us Q I r ⟨a, vs, rfl, ha.sq, fin0 wk q (.tup ha la ra)⟩
  · cases hk
end
end Nm
set_option maxRecDepth 100000
set_option maxHeartbeats 4000000
/-! Methods of built-in things. -/
namespace Nm
open PySem L2
open PySem.PyData (strOk)

/-- lists and tuples by their types -/
def tyM (T : String) (x : V) (H : Hp) : Prop := ∃ a, x = .ref a ∧ ((T = "list" ∧ ∃ xs, H a = some (.lst xs)) ∨ (T = "tuple" ∧ ∃ o xs, tupO o xs ∧ H a = some o))
def tM (T : String) (r : V → List V → Hp → VK → Prop) (to : TE) (t : TA) : TE := fun σ H Q => to σ H fun x H1 => tyM T x H1 ∧ t σ H1 fun xs H2 => r x xs H2 Q
section
variable {X : Cx} {S : Sr} {n : Nat} {G : Gh} {H : Hp}
theorem tyM_is {pins : List (Addr × Obj)} {σ : St} {s : Shared} {T : String} {x : V} {v : Value} (I : L2.Inv X pins σ H s) (r : RelV x v) (ty : tyM T x H) : s.TypeIs v T ∧ ∀ a, v = .ref a → ∃ ob, s.heap.get? a = some ob ∧ ob.dict = none := by
  obtain ⟨a, rfl, h⟩ := ty
  cases r
  rcases h with ⟨rfl, xs, h⟩ | ⟨rfl, o, xs, ⟨its, m, rfl⟩, h⟩
  · obtain ⟨_, its, m, _, e⟩ := (show ObjOk X.prog X.w H s.heap a (.lst xs) from I.hok a _ h)
    exact ⟨⟨_, e, rfl⟩, fun b eb => by cases eb; exact ⟨_, e, rfl⟩⟩
  · obtain ⟨e, _⟩ := (show ObjOk X.prog X.w H s.heap a (.frz (tupObj its m) (.tup xs)) from I.hok a _ h)
    exact ⟨⟨_, e, rfl⟩, fun b eb => by cases eb; exact ⟨_, e, rfl⟩⟩
theorem few_of {es : List Expr} {env : Env} {cpos : Pos} (hs : (backTo cpos (starEach es env)).any (·.1) = false) (hl : es.length < 30) :
    ((backTo cpos (starEach es env)).all (fun x => !x.1) && (backToKw cpos (keywordEach [] env)).all (fun x => x.1.isSome) && decide (es.length + ([] : List Keyword).length + (if ([] : List Keyword).isEmpty then 0 else 1) < 30)) = true := by
  have h1 : (backTo cpos (starEach es env)).all (fun x => !x.1) = true := by
    rw [List.all_eq_true]
    intro p hp
    rw [List.any_eq_false] at hs
    have := hs p hp
    simpa using this
  have h3 : decide (es.length + ([] : List Keyword).length + (if ([] : List Keyword).isEmpty then 0 else 1) < 30) = true := decide_eq_true (by simpa using hl)
  rw [h1, h3]
  rfl
theorem pe_mth {o e : Expr} {es : List Expr} {to : TE} {t : TA} {name : Str} {apos cpos : Pos} {T id : String} {r : V → List V → Hp → VK → Prop} (pa : PlainAttrs T) (slot : PySem.Slot T name id) (hty : typeOf (.builtin id) = pure (.type "method_descriptor")) (hm : MtR X id r) (ho : PE X o to) (ha : PA X (e :: es) t)
    (hb : attributeBase o name X.env (eval o X.env) = eval o X.env) (hl : (apos.endLine == cpos.line) = true) (hs : starEach (e :: es) X.env = (false, eval e X.env) :: starEach es X.env) (hp : (backTo cpos (starEach es X.env)).any (·.1) = false) (hfew : es.length < 29) :
    PE X (.Call (.Attribute o name apos) (e :: es) [] cpos) (tM T r to t) := by
  have hany : (backTo cpos (starEach (e :: es) X.env)).any (·.1) = false := by
    rw [hs]
    show (false || (backTo cpos (starEach es X.env)).any (·.1)) = false
    rw [hp]
    rfl
  refine ⟨fun pins s σ H Q I h => wpAny_Call_method_late hb (few_of hany (by rw [List.length_cons]; omega)) hl rfl (thn (ho.run pins s σ H _ I h) fun v s1 ⟨x, H1, I1, r1, ty, q1⟩ => ?_)⟩
  obtain ⟨h1, h2⟩ := tyM_is I1 r1 ty
  refine ⟨T, id, pa, slot, hty, h1, h2, ?_⟩
  have hA := ha.run cpos pins s1 σ H1 _ I1 q1
  refine Calls.callWith_builtin hany ?_
  rw [hs] at hA ⊢
  refine Calls.evalArgs_plain ?_
  exact thn hA fun us s2 ⟨vs, H2, I2, r2, q2⟩ => hm pins s2 σ H2 x vs v us Q I2 r1 r2 q2

/-! ### methods that change a list -/
def rMu (S : Sr) (m : Str) : V → List V → Hp → VK → Prop := fun x vs H Q => ∃ G a us xs ds xs', x = .ref a ∧ H a = some (.lst us) ∧ Reps S G H xs us ∧ Reps S G H ds vs ∧ mutD m (.lst xs) ds = some (.lst xs', (.non, false)) ∧ ∀ us', Reps S G H xs' us' → xs'.length ≤ LIM → Q .non (upd H a (.lst us'))
theorem op_append : MtR X "list.append" (rMu S "append") := by
  intro pins s σ H x vs v us Q I rx rv h
  obtain ⟨G, a, ws, xs, ds, xs', rfl, ha, r, rd, hk, q⟩ := h
  have ll := lim_line
  cases rd with
  | nil => cases hk
  | @cons d v0 ds' vs' r0 r1 =>
    cases r1 with
    | cons _ _ => cases hk
    | nil =>
      have hk' : (if xs.length < LIM then some (D.lst (xs ++ [d]), ((D.non, false) : Rv)) else none) = some (.lst xs', (.non, false)) := hk
      by_cases c : xs.length < LIM
      · rw [if_pos c] at hk'
        cases hk'
        exact mt_append pins s σ H _ _ v us Q I rx rv ⟨a, ws, v0, rfl, rfl, ha, by rw [← ll, ← r.length]; exact c, q _ (r.append (.cons r0 .nil)) (by rw [List.length_append]; exact c)⟩
      · rw [if_neg c] at hk'; cases hk'
theorem tuple_exact {pins : List (Addr × Obj)} {σ : St} {s : Shared} {a : Addr} {vs : List V} (I : L2.Inv X pins σ H s) (h : FroT G H a vs) : ∃ its n, Vals vs its ∧ s.heap.get? a = some (tupObj its.toArray n) ∧ vs.length ≤ sizeLine := by
  obtain ⟨o, ⟨its, m, rfl⟩, h, _⟩ := h
  obtain ⟨e, hz, us, r, ⟨o', e', hc, k, hd⟩⟩ := (show ObjOk X.prog X.w H s.heap a (.frz (tupObj its m) (.tup vs)) from I.hok a _ h)
  rw [e] at e'
  cases e'
  have hd' : Data.seq its m = Data.seq us.toArray k := hd
  cases hd'
  exact ⟨us, m, r, e, hz⟩
theorem op_extend (hK : X.K = S.K) : MtR X "list.extend" (rMu S "extend") := by
  intro pins s σ H x vs v us Q I rx rv h
  obtain ⟨G, a, ws, xs, ds, xs', rfl, ha, r, rd, hk, q⟩ := h
  have ll := lim_line
  cases rd with
  | nil => cases hk
  | @cons d v0 ds' vs' r0 r1 =>
    cases r1 with
    | cons _ _ => cases d <;> cases hk
    | nil =>
      cases d with
      | lst ys =>
        have hk' : (if xs.length + ys.length ≤ LIM then some (D.lst (xs ++ ys), ((D.non, false) : Rv)) else none) = some (.lst xs', (.non, false)) := hk
        by_cases c : xs.length + ys.length ≤ LIM
        · rw [if_pos c] at hk'
          cases hk'
          cases r0 with
          | @lst b zs _ f l rr =>
            exact mt_extend pins s σ H _ _ v us Q I rx rv ⟨a, b, ws, zs, rfl, rfl, ha, f.1, by rw [← ll, ← r.length, ← rr.length]; exact c, q _ (r.append rr) (by rw [List.length_append]; exact c)⟩
        · rw [if_neg c] at hk'; cases hk'
      | tup ys =>
        have hk' : (if xs.length + ys.length ≤ LIM then some (D.lst (xs ++ ys), ((D.non, false) : Rv)) else none) = some (.lst xs', (.non, false)) := hk
        by_cases c : xs.length + ys.length ≤ LIM
        · rw [if_pos c] at hk'
          cases hk'
          cases r0 with
          | @tup b zs _ f l rr =>
            cases rx
            obtain ⟨u, rfl, ru⟩ := vals1 rv
            cases ru
            obtain ⟨z, its, m, rI, hl, e⟩ := I.lstM ha
            obtain ⟨its2, m2, rI2, e2, hz2⟩ := tuple_exact I f
            have h1 := r.length
            have h2 := rr.length
            have h3 := rI2.length
            have hsz : its.toArray.size + its2.toArray.size ≤ sizeLine := by rw [List.size_toArray, List.size_toArray]; omega
            have hlong : ¬ (!its.toArray.isEmpty && Builtin.List.listTooLong (its.toArray.size + its2.toArray.size)) = true := PyProof.Rows.extend_door hsz
            refine call_meets F.slot_list_extend ⟨_, e, rfl⟩ F.entry_list_extend (F.args_list_extend_2 _ _) (AutoSeq1.list_extend_list_tuple_0 a its.toArray m b its2.toArray m2 hlong (by rw [List.size_toArray]; omega) (by omega)) ⟨e, e2, ?_⟩
            exact ⟨.non, _, I.lset (its' := its ++ its2) ha e (by simp) (rI.append rI2) (by rw [List.length_append]; omega), rfl, q _ (r.append rr) (by rw [List.length_append]; exact c)⟩
        · rw [if_neg c] at hk'; cases hk'
      | _ => cases hk
theorem op_insert : MtR X "list.insert" (rMu S "insert") := by
  intro pins s σ H x vs v us Q I rx rv h
  obtain ⟨G, a, ws, xs, ds, xs', rfl, ha, r, rd, hk, q⟩ := h
  have ll := lim_line
  cases rd with
  | nil => cases hk
  | @cons d v0 ds' vs' r0 r1 =>
    cases d with
    | int i =>
      cases r1 with
      | nil => cases hk
      | @cons d1 v1 _ _ r1 r2 =>
        cases r2 with
        | cons _ _ => cases hk
        | nil =>
          have hk' : (if xs.length < LIM ∧ 0 ≤ i ∧ i ≤ xs.length then some (D.lst (xs.take i.toNat ++ d1 :: xs.drop i.toNat), ((D.non, false) : Rv)) else none) = some (.lst xs', (.non, false)) := hk
          by_cases c : xs.length < LIM ∧ 0 ≤ i ∧ i ≤ xs.length
          · rw [if_pos c] at hk'
            cases hk'
            cases r0
            have h1 := r.length
            have c1 : xs.length < 16777216 := c.1
            refine mt_insert pins s σ H _ _ v us Q I rx rv ⟨a, ws, i, v1, rfl, rfl, ha, by rw [← ll, ← r.length]; exact c.1, c.2.1, by omega, q _ ?_ ?_⟩
            · rw [List.append_assoc]
              exact (r.take _).append (.cons r1 (r.drop _))
            · rw [List.length_append, List.length_cons, List.length_take, List.length_drop]
              show _ ≤ 16777216
              omega
          · rw [if_neg c] at hk'; cases hk'
    | _ => cases r1 with
      | nil => cases hk
      | cons _ r2 => cases r2 <;> cases hk

/-! ### methods that change nothing -/
def rMe (S : Sr) (n : Nat) (m : Str) : V → List V → Hp → VK → Prop := fun x vs H Q => ∃ G d ds z, Wk G H ∧ Vwd S G H d x ∧ Vwds S G H ds vs ∧ meD m d ds = some z ∧ ∀ v H' G', Ext G G' H H' → RvOk S n G' H' z v → Q v H'
theorem countP_py : ∀ (xs : List D) (e : D) (k j : Nat), D.plains k xs = true → D.plain j e = true → (xs.countP fun x => D.eqv x e) = ((D.pys xs).countP fun y => PyData.eqv y e.py)
  | [], _, _, _, _, _ => by simp [D.pys]
  | x :: xs, e, k, j, h, he => by
    obtain ⟨m, e1, p, q⟩ := plains_cons h
    rw [D.pys, List.countP_cons, List.countP_cons, countP_py xs e k j q he, eqv_py x e m j p he]
theorem op_countT (hK : X.K = S.K) (hu : X.A.units + 64 < cLine) : MtR X "tuple.count" (fun x vs H Q => (∃ xs, ∃ G, Vwd S G H (.tup xs) x) ∧ rMe S n "count" x vs H Q) := by
  intro pins s σ H x vs v us Q I rx rv h
  obtain ⟨⟨xs0, G0, hx0⟩, G, d, ds, z, wk, hd, hds, hk, q⟩ := h
  obtain ⟨a0, vs0, rfl, ha0, _, _⟩ := hx0.tup
  cases d with
  | tup xs =>
    cases ds with
    | nil => cases hk
    | cons e ds' =>
      cases ds' with
      | cons _ _ => cases hk
      | nil =>
        have hk' : (if (D.plain 60 (.tup xs) && D.plain 60 e) = true then some ((D.int (xs.countP fun x => D.eqv x e), false) : Rv) else none) = some z := hk
        by_cases c : (D.plain 60 (.tup xs) && D.plain 60 e) = true
        · rw [if_pos c] at hk'
          cases hk'
          obtain ⟨c1, c2⟩ := Bool.and_eq_true_iff.mp c
          obtain ⟨v1, rfl, hv1⟩ := one_of hds rfl
          obtain ⟨a, ws, ea, ha, la, ra⟩ := hd.tup
          cases ea
          cases rx
          obtain ⟨u1, rfl, ru⟩ := vals1 rv
          obtain ⟨its, rI, pI, _⟩ := I.tuple (FroT.sq (K := X.K) ha)
          obtain ⟨p1, p2, p3⟩ := hv1.dp c2
          have c1' := c1
          rw [D.plain] at c1'
          obtain ⟨q1, q2, q3⟩ := Reps.dp 59 ra c1'
          rw [← hK] at p1 q1
          obtain ⟨bs, rd⟩ := Dp.reads I _ _ _ p1 ru
          obtain ⟨as, rs⟩ := Dp.readsAll I _ _ _ q1 rI
          have hpl : ∀ l : List PyData, PyData.canLayAll0 l = true → PyData.plainAll l = true := fun l h => PyData.plainAll_of_canLay0 l h
          refine PySem.SeqAt.count_tuple_data (vs := its.toArray) pI (by simpa using rs) rd (hpl _ q2) (PyData.plain_of_canLay0 _ p2) (by omega) ?_
          rw [← countP_py xs e 60 60 c1' c2]
          exact ⟨.int _, H, I.tok _, ⟨_, rfl⟩, fin0 wk q (.int _)⟩
        · rw [if_neg c] at hk'; cases hk'
  | lst xs =>
    exfalso
    obtain ⟨a1, vs1, e1, h1, _⟩ := hd.lst
    cases e1
    obtain ⟨o1, ⟨i1, m1, rfl⟩, e2, _⟩ := ha0
    rw [h1] at e2
    cases e2
  | _ => cases ds with
    | nil => cases hk
    | cons _ t => cases t <;> cases hk
theorem op_countL (hK : X.K = S.K) (hu : X.A.units + 64 < cLine) : MtR X "list.count" (fun x vs H Q => (∃ xs, ∃ G, Vwd S G H (.lst xs) x) ∧ rMe S n "count" x vs H Q) := by
  intro pins s σ H x vs v us Q I rx rv h
  obtain ⟨⟨xs0, G0, hx0⟩, G, d, ds, z, wk, hd, hds, hk, q⟩ := h
  obtain ⟨a0, vs0, rfl, ha0, _, _⟩ := hx0.lst
  cases d with
  | lst xs =>
    cases ds with
    | nil => cases hk
    | cons e ds' =>
      cases ds' with
      | cons _ _ => cases hk
      | nil =>
        have hk' : (if (D.plain 60 (.lst xs) && D.plain 60 e) = true then some ((D.int (xs.countP fun x => D.eqv x e), false) : Rv) else none) = some z := hk
        by_cases c : (D.plain 60 (.lst xs) && D.plain 60 e) = true
        · rw [if_pos c] at hk'
          cases hk'
          obtain ⟨c1, c2⟩ := Bool.and_eq_true_iff.mp c
          obtain ⟨v1, rfl, hv1⟩ := one_of hds rfl
          obtain ⟨a, ws, ea, ha, la, ra⟩ := hd.lst
          cases ea
          cases rx
          obtain ⟨u1, rfl, ru⟩ := vals1 rv
          obtain ⟨its, rI, pI, _⟩ := I.list (SqL.of (K := X.K) ha)
          obtain ⟨p1, p2, p3⟩ := hv1.dp c2
          have c1' := c1
          rw [D.plain] at c1'
          obtain ⟨q1, q2, q3⟩ := Reps.dp 59 ra c1'
          rw [← hK] at p1 q1
          obtain ⟨bs, rd⟩ := Dp.reads I _ _ _ p1 ru
          obtain ⟨as, rs⟩ := Dp.readsAll I _ _ _ q1 rI
          have hpl : ∀ l : List PyData, PyData.canLayAll0 l = true → PyData.plainAll l = true := fun l h => PyData.plainAll_of_canLay0 l h
          refine PySem.SeqAt.count_list_data (vs := its.toArray) pI.isList (by simpa using rs) rd (hpl _ q2) (PyData.plain_of_canLay0 _ p2) (by omega) ?_
          rw [← countP_py xs e 60 60 c1' c2]
          exact ⟨.int _, H, I.tok _, ⟨_, rfl⟩, fin0 wk q (.int _)⟩
        · rw [if_neg c] at hk'; cases hk'
  | tup xs =>
    exfalso
    obtain ⟨a1, vs1, e1, h1, _⟩ := hd.tup
    cases e1
    obtain ⟨o1, ⟨i1, m1, rfl⟩, e2, _⟩ := h1
    rw [ha0] at e2
    cases e2
  | _ => cases ds with
    | nil => cases hk
    | cons _ t => cases t <;> cases hk
theorem op_indexL (hK : X.K = S.K) : MtR X "list.index" (fun x vs H Q => (∃ xs, ∃ G, Vwd S G H (.lst xs) x) ∧ rMe S n "index" x vs H Q) := by
  intro pins s σ H x vs v us Q I rx rv h
  obtain ⟨⟨xs0, G0, hx0⟩, G, d, ds, z, wk, hd, hds, hk, q⟩ := h
  cases d with
  | lst xs =>
    cases ds with
    | nil => cases hk
    | cons e ds' =>
      cases ds' with
      | cons _ _ => cases hk
      | nil =>
        have hk' : (if (xs.all D.flat && e.flat && xs.any (fun x => D.eqv x e)) = true then some ((D.int (xs.findIdx fun x => D.eqv x e), false) : Rv) else none) = some z := hk
        by_cases c : (xs.all D.flat && e.flat && xs.any (fun x => D.eqv x e)) = true
        · rw [if_pos c] at hk'
          cases hk'
          obtain ⟨c0, c3⟩ := Bool.and_eq_true_iff.mp c
          obtain ⟨c1, c2⟩ := Bool.and_eq_true_iff.mp c0
          obtain ⟨v1, rfl, hv1⟩ := one_of hds rfl
          obtain ⟨a, ws, rfl, ha, la, ra⟩ := hd.lst
          have hlt : (xs.findIdx fun x => D.eqv x e) < xs.length := by
            rw [List.findIdx_lt_length]
            obtain ⟨x, hx, hex⟩ := List.any_eq_true.mp c3
            exact ⟨x, hx, hex⟩
          obtain ⟨w1, hw1, rw1⟩ := ra.get (List.getElem?_eq_getElem hlt)
          have fx : ∀ (i : Nat) (d : D), xs[i]? = some d → d.flat = true := fun i d hi => List.all_eq_true.mp c1 d (List.mem_of_getElem? hi)
          refine mt_index pins s σ H _ _ v us Q I rx rv ⟨a, ws, v1, _, w1, rfl, rfl, SqL.of ha, flat_of hv1 c2, flats_of ra c1, hw1, ?_, fun m z' hm hz => ?_, fin0 wk q (.int _)⟩
          · rw [eqV_of (.inl rw1) hv1 (fx _ _ (List.getElem?_eq_getElem hlt)) c2]
            exact List.findIdx_getElem (w := hlt)
          · obtain ⟨d', hd', rd'⟩ := ra.getV hz
            rw [eqV_of (.inl rd') hv1 (fx _ _ hd') c2]
            have hml : m < xs.length := (List.getElem?_eq_some_iff.mp hd').1
            have := List.not_of_lt_findIdx hm
            rw [List.getElem?_eq_getElem hml] at hd'
            cases hd'
            simpa using this
        · rw [if_neg c] at hk'; cases hk'
  | _ => cases ds with
    | nil => cases hk
    | cons _ t => cases t <;> cases hk
end
end Nm
set_option maxRecDepth 100000
set_option maxHeartbeats 4000000
/-! What is walked: lists, tuples, texts, ranges; enumerate and zip over lists and tuples in any mix. -/
namespace Nm
open PySem L2
open PySem.PyData (strOk)

/-! ### enumerate(v) begins -/
set_option maxHeartbeats 2000000 in
theorem meets_enum1 {v : Value} {ob : Obj} {Hb : Heap → Prop} (B : Begins v ob Hb) : Meets (Builtin.«enumerate.__new__» ⟨[.type "enumerate", v], []⟩) (fun _ R s => Hb s.heap ∧ R (.ok (.ret (.ref (s.heap.push ob).objs.size))) { s with heap := (s.heap.push ob).push { cls := .type "enumerate", data := .fields #[.none, .bool false, .ref s.heap.objs.size, rawInt 0, .none, .none] } }) :=
  .of_wp fun prog w A R s h => by
    obtain ⟨hp, gs, dr, tk, os⟩ := s
    obtain ⟨h1, h⟩ := h
    have hsub := sub_enumerate
    have it1 : ∀ {B' : Around} {E' : Value → Shared → Prop} {Q' : Value → Shared → Prop}, Q' (.ref hp.objs.size) ⟨hp.push ob, gs, dr, tk, os⟩ → wpAny (model prog w) B' (pyIter v) Q' E' ⟨hp, gs, dr, tk, os⟩ := fun q => B.iter prog w _ _ ⟨hp, gs, dr, tk, os⟩ _ h1 q
    wp_walk using it1
    refine wpAny_stack_any fun st => wpAny_pure ?_
    split
    · rename_i c _ _ _ _ _
      cases (c == Value.type "enumerate")
      · wp_walk using it1
        exact ⟨_, rfl, h⟩
      · wp_walk using it1
        exact ⟨_, rfl, h⟩
    · wp_walk using it1
      exact ⟨_, rfl, h⟩
section
variable {prog : Program} {w : World} {A : Around} {E : Value → Shared → Prop} {s : Shared}
theorem enum1_begins {v : Value} {ob : Obj} {Hb : Heap → Prop} {Q : Value → Shared → Prop} (B : Begins v ob Hb) (h1 : Hb s.heap)
    (h : ∀ h', IsEnum h' (s.heap.objs.size + 1) s.heap.objs.size 0 .none → h'.get? s.heap.objs.size = some ob → (∀ b o, s.heap.get? b = some o → h'.get? b = some o) → Q (.ref (s.heap.objs.size + 1)) { s with heap := h' }) :
    wpAny (model prog w) A (call (.type "enumerate") [v]) Q E s := by
  refine callType_new F.called_enumerate (by decide) (F.typeCall_enumerate_1 _) (F.newCall_enumerate_1 _) (fun obj => F.args_object_init_2 obj _) F.entry_enumerate_new (meets_enum1 B) ⟨h1, ?_⟩
  have sz : (s.heap.push ob).objs.size = s.heap.objs.size + 1 := Heap.size_push ..
  show _ ∧ _
  rw [sz]
  have en : IsEnum ((s.heap.push ob).push { cls := .type "enumerate", data := .fields #[.none, .bool false, .ref s.heap.objs.size, rawInt 0, .none, .none] }) (s.heap.objs.size + 1) s.heap.objs.size 0 .none := by
    have g := Heap.get?_push_size (s.heap.push ob) (o := { cls := .type "enumerate", data := .fields #[.none, .bool false, .ref s.heap.objs.size, rawInt 0, .none, .none] }) rfl
    rw [sz] at g
    exact g
  exact ⟨⟨_, en, rfl⟩, h _ en (Heap.get?_push_of_some _ (Heap.get?_push_size _ B.free)) fun b o x => Heap.get?_push_of_some _ (Heap.get?_push_of_some _ x)⟩
end

/-! ### a list or a tuple -/
def isItr (k : Bool) (h : Heap) (it a : Addr) (i : Nat) : Prop := match k with
  | true => h.IsListIter it a i
  | false => h.IsTupleIter it a i
def isSeq (k : Bool) (h : Heap) (a : Addr) (items : Array Value) : Prop := match k with
  | true => h.IsList a items
  | false => h.IsTuple a items
def itrObj (k : Bool) (a : Addr) : Obj := match k with
  | true => { cls := .type "list_iterator", data := .fields #[.ref a, .int 0 0] }
  | false => { cls := .type "tuple_iterator", data := .fields #[.ref a, .int 0 0] }
def SqK (k : Bool) (H : Hp) (a : Addr) (xs : List V) : Prop := match k with
  | true => H a = some (.lst xs)
  | false => ∃ o, tupO o xs ∧ H a = some o
theorem begins_k (k : Bool) (a : Addr) (items : Array Value) : Begins (.ref a) (itrObj k a) fun h => isSeq k h a items := by
  cases k with
  | true => exact begins_list a items
  | false => exact begins_tuple a items
theorem draws_k {prog : Program} {w : World} {A : Around} (hh : A.handled = none) (k : Bool) (it a : Addr) (hne : a ≠ it) (items : Array Value) :
    Draws prog w A it [it, a] items.size (fun i v => items[i]? = some v) (fun i h => isItr k h it a i ∧ isSeq k h a items) := by
  cases k with
  | true => exact Draws.list hh it a hne items
  | false => exact Draws.tuple hh it a hne items
theorem isItr_new {k : Bool} {h : Heap} {it a : Addr} (e : h.get? it = some (itrObj k a)) : isItr k h it a 0 := by
  cases k with
  | true => exact ⟨_, e, rfl, rfl⟩
  | false => exact ⟨_, e, rfl, rfl⟩
theorem isItr_at {k : Bool} {h h' : Heap} {it a : Addr} {i : Nat} (x : isItr k h it a i) (q : ∀ o, h.get? it = some o → h'.get? it = some o) : isItr k h' it a i := by
  cases k with
  | true => exact Heap.IsListIter.at x q
  | false => exact Heap.IsTupleIter.at x q
theorem isItr_obj {k : Bool} {h : Heap} {it a : Addr} {i : Nat} (x : isItr k h it a i) : ∃ o, h.get? it = some o ∧ ∀ v, o.data ≠ .cell v := by
  cases k with
  | true =>
    obtain ⟨o, ho, _, hd⟩ := x
    exact ⟨o, ho, fun v q => by rw [hd] at q; cases q⟩
  | false =>
    obtain ⟨o, ho, _, hd⟩ := x
    exact ⟨o, ho, fun v q => by rw [hd] at q; cases q⟩
section
variable {X : Cx} {pins : List (Addr × Obj)} {σ : St} {H : Hp} {s : Shared}
theorem seq_k (I : L2.Inv X pins σ H s) {k : Bool} {a : Addr} {xs : List V} (h : SqK k H a xs) : ∃ its : List Value, Vals xs its ∧ isSeq k s.heap a its.toArray ∧ xs.length ≤ sizeLine := by
  cases k with
  | true =>
    obtain ⟨its, r, p, z⟩ := I.list (SqL.of h)
    exact ⟨its, r, p.isList, z⟩
  | false =>
    obtain ⟨o, ⟨i0, m, rfl⟩, h⟩ := h
    obtain ⟨its, r, p, z⟩ := I.tuple (show SqT X.K H a xs from .inl (.inr ⟨_, h⟩))
    exact ⟨its, r, p, z⟩
theorem SqK.tracked {k : Bool} {a : Addr} {xs : List V} (h : SqK k H a xs) : ∃ o, H a = some o := by
  cases k with
  | true => exact ⟨_, h⟩
  | false => obtain ⟨o, _, h⟩ := h; exact ⟨o, h⟩
theorem SqK.inj {k : Bool} {a : Addr} {xs ys : List V} (h : SqK k H a xs) (h' : SqK k H a ys) : xs = ys := by
  cases k with
  | true =>
    have e : H a = some (.lst xs) := h
    have e' : H a = some (.lst ys) := h'
    rw [e] at e'
    cases e'
    rfl
  | false =>
    obtain ⟨_, ⟨_, _, rfl⟩, e⟩ := h
    obtain ⟨_, ⟨_, _, rfl⟩, e'⟩ := h'
    rw [e] at e'
    cases e'
    rfl
end

/-! ### enumerate -/
def Itn (k : Bool) (a : Addr) : It :=
  ⟨fun i H => ∃ xs x, SqK k H a xs ∧ xs[i]? = some x, fun i H v H' => ∃ T x, v = .ref T ∧ H T = none ∧ H' = upd H T (.tup [.int (i : Nat), x]) ∧ ∀ xs, SqK k H a xs → xs[i]? = some x, fun i H => ∃ xs, SqK k H a xs ∧ xs.length = i⟩
theorem turn_en {P : Program} {w : World} {K : PySem.W.Frag} {elts : List Expr} {kk : Nat} {tpos : Pos} (k : Bool) (a e it : Addr) :
    Turn P w K (.Tuple elts kk tpos) (Itn k a) [e, it] e (fun i h => (∃ old, IsEnum h e it (0 + ((i : Nat) : Int)) old) ∧ isItr k h it a i ∧ e ≠ it) where
  mem := by simp
  obj := fun i h st b hb => by
    obtain ⟨⟨old, he⟩, hi, _⟩ := st
    have z : b = e ∨ b = it := by simpa using hb
    rcases z with rfl | rfl
    · exact ⟨_, he, fun v q => nomatch q⟩
    · exact isItr_obj hi
  keep := fun i h h' st q => by
    obtain ⟨⟨old, he⟩, hi, hne⟩ := st
    exact ⟨⟨old, q e (by simp) _ he⟩, isItr_at hi fun o r => q it (by simp) o r, hne⟩
  item := by
    intro X hP hw hK hc i pins s σ H E I hf st hg
    subst hP hw hK
    obtain ⟨⟨old, he⟩, hit, hne⟩ := st
    obtain ⟨xs, x, hq, hx⟩ := hg
    obtain ⟨its, rv, p, hz⟩ := seq_k I hq
    obtain ⟨u, hu, ru⟩ := rv.get hx
    obtain ⟨oa, ha⟩ := hq.tracked
    have nea : a ≠ e := fun z => by rw [z, (hf e (by simp)).1] at ha; cases ha
    have nia : a ≠ it := fun z => by rw [z, (hf it (by simp)).1] at ha; cases ha
    have hi : i < its.toArray.size := by
      rw [List.size_toArray]
      exact (List.getElem?_eq_some_iff.mp hu).1
    have G := GoesN.enumFrom (prog := X.prog) (w := X.w) (A := X.A) (elts := elts) (x1 := kk) (pos := tpos) 0 (draws_k (A := X.A.in1) (I.ok.hd hc) k it a nia its.toArray) e hne (by simp [hne, nea.symm]) (by simp)
    refine G.goes i s _ E hi ⟨⟨old, he⟩, hit, p⟩ fun v h' tk hy st' hk htk => ?_
    obtain ⟨T, t, y, rfl, hT, hy, hTu⟩ := hy
    have ey : y = u := by
      have hy' : its.toArray[i]? = some y := hy
      rw [← Array.getElem?_toList] at hy'
      rw [hu] at hy'
      exact (Option.some.inj hy').symm
    subst ey
    have new : ObjOk X.prog X.w (upd H T (.tup [.int (i : Nat), x])) h' T (.tup [.int (i : Nat), x]) := by
      refine ⟨by show 2 ≤ sizeLine; decide, [.int (0 + (i : Int)) t, y], .cons ⟨t, ?_⟩ (.cons ru .nil), hTu⟩
      rw [Int.zero_add]
    have I1 := I.turnedNew (t' := tk) (ch := [e, it]) hk hf hT new
    refine ⟨.ref T, _, I1, rfl, ⟨T, x, rfl, I.hok.fresh hT, rfl, fun ys hy => by rw [hy.inj hq]; exact hx⟩, ⟨st'.1, st'.2.1, hne⟩, fun b hb => ?_⟩
    have hlt : b < s.heap.objs.size := by
      have z : b = e ∨ b = it := by simpa using hb
      rcases z with rfl | rfl
      · exact Heap.lt_size he
      · obtain ⟨o, ho, _⟩ := isItr_obj hit
        exact Heap.lt_size ho
    rw [upd_ne (Nat.ne_of_lt (Nat.lt_of_lt_of_le hlt hT))]
    exact (hf b hb).1
  done := by
    intro X hP hw hK hc i pins s σ H E I hf st hg
    subst hP hw hK
    obtain ⟨⟨old, he⟩, hit, hne⟩ := st
    obtain ⟨xs, hq, hx⟩ := hg
    obtain ⟨its, rv, p, hz⟩ := seq_k I hq
    obtain ⟨oa, ha⟩ := hq.tracked
    have nea : a ≠ e := fun z => by rw [z, (hf e (by simp)).1] at ha; cases ha
    have nia : a ≠ it := fun z => by rw [z, (hf it (by simp)).1] at ha; cases ha
    have G := GoesN.enumFrom (prog := X.prog) (w := X.w) (A := X.A) (elts := elts) (x1 := kk) (pos := tpos) 0 (draws_k (A := X.A.in1) (I.ok.hd hc) k it a nia its.toArray) e hne (by simp [hne, nea.symm]) (by simp)
    have en : its.toArray.size = i := by rw [List.size_toArray, ← rv.length]; exact hx
    refine G.stops s _ E (by rw [en]; exact ⟨⟨old, he⟩, hit, p⟩) fun h' tk hk htk => ?_
    refine I.step (g' := s.gens) (d' := s.drawn) (ch := [e, it]) (fun b hb => ?_) (fun b o _ _ hb q _ => hk b o hb q) (fun b o _ _ hb q _ => ⟨o.slots, hk b o hb q⟩) (fun _ _ _ _ n => n) (fun b o hb q => ⟨o, hk b o hb q⟩) (fun _ _ q => q) (fun _ _ _ q => q) (fun b ps q => ⟨#[], by rw [q]; simp⟩) (fun m hm => ?_) (fun b u q => ?_) I.bare
    · obtain ⟨f0, f1, f2, f3, f4, f5⟩ := hf b hb
      exact ⟨f3, f1, f4, f5⟩
    · obtain ⟨o, es, ep, ho, r⟩ := hm
      exact ⟨o, es, ep, hk _ o (fun z => (hf _ z).2.1 rfl) ho, r⟩
    · refine (I.hok b u q).stay (fun c v hc' r => hk c v (fun z => ?_) r) (fun _ r => r) fun _ _ r => r
      have z0 := (hf c z).1
      rcases hc' with z1 | z1
      · rw [z1, q] at z0; cases z0
      · rw [z1] at z0; cases z0
  self := fun A i s Q E st h => by
    obtain ⟨⟨_, he⟩, _⟩ := st
    exact wpAny_pyIter_enum he h
end Nm
set_option maxRecDepth 100000
set_option maxHeartbeats 4000000
/-! zip, and what a loop walks as data. -/
namespace Nm
open PySem L2
open PySem.PyData (strOk)

section
variable {X : Cx} {pins : List (Addr × Obj)} {σ : St} {H : Hp} {s : Shared}
/-- iterators of ours have turned, all else is kept -/
theorem Inv_turned {ch : List Addr} {h' : Heap} {tk : Nat} (I : L2.Inv X pins σ H s) (hf : ∀ b ∈ ch, FpOk X pins H b) (hk : ∀ b o, b ∉ ch → s.heap.get? b = some o → h'.get? b = some o) : L2.Inv X pins σ H { s with heap := h', toks := tk } := by
  refine I.step (g' := s.gens) (d' := s.drawn) (ch := ch) (fun b hb => ?_) (fun b o _ _ hb q _ => hk b o hb q) (fun b o _ _ hb q _ => ⟨o.slots, hk b o hb q⟩) (fun _ _ _ _ n => n) (fun b o hb q => ⟨o, hk b o hb q⟩) (fun _ _ q => q) (fun _ _ _ q => q) (fun b ps q => ⟨#[], by rw [q]; simp⟩) (fun m hm => ?_) (fun b u q => ?_) I.bare
  · obtain ⟨f0, f1, f2, f3, f4, f5⟩ := hf b hb
    exact ⟨f3, f1, f4, f5⟩
  · obtain ⟨o, es, ep, ho, r⟩ := hm
    exact ⟨o, es, ep, hk _ o (fun z => (hf _ z).2.1 rfl) ho, r⟩
  · refine (I.hok b u q).stay (fun c v hc' r => hk c v (fun z => ?_) r) (fun _ r => r) fun _ _ r => r
    have z0 := (hf c z).1
    rcases hc' with z1 | z1
    · rw [z1, q] at z0; cases z0
    · rw [z1] at z0; cases z0
end
def Itzk (k k' : Bool) (a b : Addr) : It :=
  ⟨fun i H => ∃ xs ys x y, SqK k H a xs ∧ SqK k' H b ys ∧ xs[i]? = some x ∧ ys[i]? = some y, fun i H v H' => ∃ T x y, v = .ref T ∧ H T = none ∧ H' = upd H T (.tup [x, y]) ∧ (∀ xs, SqK k H a xs → xs[i]? = some x) ∧ ∀ ys, SqK k' H b ys → ys[i]? = some y,
    fun i H => ∃ xs ys, SqK k H a xs ∧ SqK k' H b ys ∧ min xs.length ys.length = i⟩
structure Sep5 (z TI TO i1 i2 : Addr) : Prop where
  a1 : TI ≠ z
  a2 : TO ≠ z
  a3 : TI ≠ TO
  a4 : TI ≠ i1
  a5 : TI ≠ i2
  a6 : z ≠ i1
  a7 : z ≠ i2
  a8 : TO ≠ i1
  a9 : TO ≠ i2
  a10 : i1 ≠ i2
theorem Sep5.zip {z TI TO i1 i2 a b : Addr} (S : Sep5 z TI TO i1 i2) (za : z ≠ a) (zb : z ≠ b) (Ta : TO ≠ a) (Tb : TO ≠ b) (ib : i1 ≠ b) (ja : i2 ≠ a) : ZipSep2 z TI TO i1 i2 [i1, a] [i2, b] where
  TIz := S.a1
  TOz := S.a2
  TITO := S.a3
  TIi1 := S.a4
  mem1 := by simp
  zf1 := by simp [S.a6, za]
  Tf1 := by simp [S.a8, Ta]
  TIi2 := S.a5
  mem2 := by simp
  zf2 := by simp [S.a7, zb]
  Tf2 := by simp [S.a9, Tb]
  sep1_2 := by simp [S.a10, ib]
  sep2_1 := by simp [S.a10.symm, ja]
theorem turn_zp {P : Program} {w : World} {K : PySem.W.Frag} {elts : List Expr} {kk : Nat} {tpos : Pos} (k k' : Bool) (a b z TI TO i1 i2 : Addr) :
    Turn P w K (.Tuple elts kk tpos) (Itzk k k' a b) [z, TI, TO, i1, i2] z (fun i h => IsZip h z TI TO .none ∧ IsTupOf2 h TI (.ref i1) (.ref i2) ∧ (∃ a1 a2, IsTupOf2 h TO a1 a2) ∧ isItr k h i1 a i ∧ isItr k' h i2 b i ∧ Sep5 z TI TO i1 i2) where
  mem := by simp
  obj := fun i h st c hc => by
    obtain ⟨h1, g2, ⟨_, _, g3⟩, h4, h5, _⟩ := st
    have q : c = z ∨ c = TI ∨ c = TO ∨ c = i1 ∨ c = i2 := by simpa using hc
    rcases q with rfl | rfl | rfl | rfl | rfl
    · exact ⟨_, h1, fun v q => nomatch q⟩
    · exact ⟨_, g2, fun v q => nomatch q⟩
    · exact ⟨_, g3, fun v q => nomatch q⟩
    · exact isItr_obj h4
    · exact isItr_obj h5
  keep := fun i h h' st q => by
    obtain ⟨h1, g2, ⟨x1, x2, g3⟩, h4, h5, h6⟩ := st
    exact ⟨q z (by simp) _ h1, q TI (by simp) _ g2, ⟨x1, x2, q TO (by simp) _ g3⟩, isItr_at h4 fun o r => q i1 (by simp) o r, isItr_at h5 fun o r => q i2 (by simp) o r, h6⟩
  item := by
    intro X hP hw hK hc i pins s σ H E I hf st hg
    subst hP hw hK
    obtain ⟨t1, t2, t3, t4, t5, t6⟩ := st
    obtain ⟨xs, ys, x, y, hq, hq', hx, hy⟩ := hg
    obtain ⟨its, rv, p, hz⟩ := seq_k I hq
    obtain ⟨its', rv', p', hz'⟩ := seq_k I hq'
    obtain ⟨u, hu, ru⟩ := rv.get hx
    obtain ⟨u', hu', ru'⟩ := rv'.get hy
    obtain ⟨oa, ha⟩ := hq.tracked
    obtain ⟨ob, hb⟩ := hq'.tracked
    have na : ∀ c ∈ [z, TI, TO, i1, i2], c ≠ a := fun c hc' e => by rw [← e, (hf c hc').1] at ha; cases ha
    have nb : ∀ c ∈ [z, TI, TO, i1, i2], c ≠ b := fun c hc' e => by rw [← e, (hf c hc').1] at hb; cases hb
    have hi : i < min its.toArray.size its'.toArray.size := by
      rw [List.size_toArray, List.size_toArray]
      have h1 := (List.getElem?_eq_some_iff.mp hu).1
      have h2 := (List.getElem?_eq_some_iff.mp hu').1
      omega
    have G := GoesN.zip2 (prog := X.prog) (w := X.w) (A := X.A) (elts := elts) (x1 := kk) (pos := tpos) (t6.zip (na z (by simp)) (nb z (by simp)) (na TO (by simp)) (nb TO (by simp)) (nb i1 (by simp)) (na i2 (by simp)))
      (draws_k (A := X.A.in1) (I.ok.hd hc) k i1 a (na i1 (by simp)).symm its.toArray) (draws_k (A := X.A.in1) (I.ok.hd hc) k' i2 b (nb i2 (by simp)).symm its'.toArray)
    refine G.goes i s _ E hi ⟨t1, t2, t3, ⟨t4, p⟩, ⟨t5, p'⟩⟩ fun v h' tk hy' st' hk htk => ?_
    obtain ⟨T, w1, w2, rfl, hT, hy1, hy2, hTu⟩ := hy'
    have ey : w1 = u := by
      have hy' : its.toArray[i]? = some w1 := hy1
      rw [← Array.getElem?_toList] at hy'
      rw [hu] at hy'
      exact (Option.some.inj hy').symm
    have ey' : w2 = u' := by
      have hy' : its'.toArray[i]? = some w2 := hy2
      rw [← Array.getElem?_toList] at hy'
      rw [hu'] at hy'
      exact (Option.some.inj hy').symm
    subst ey ey'
    have new : ObjOk X.prog X.w (upd H T (.tup [x, y])) h' T (.tup [x, y]) := ⟨by show 2 ≤ sizeLine; decide, [w1, w2], .cons ru (.cons ru' .nil), hTu⟩
    have I1 := I.turnedNew (t' := tk) (ch := [z, TI, TO, i1, i2]) (fun c o hc' q => hk c o (fun m => hc' (by
      have : c = z ∨ c = TO ∨ c = i1 ∨ c = i2 := by simpa using m
      rcases this with rfl | rfl | rfl | rfl <;> simp)) q) hf hT new
    refine ⟨.ref T, _, I1, rfl, ⟨T, x, y, rfl, I.hok.fresh hT, rfl, fun ws hw => by rw [hw.inj hq]; exact hx, fun ws hw => by rw [hw.inj hq']; exact hy⟩, ⟨st'.1, st'.2.1, st'.2.2.1, st'.2.2.2.1.1, st'.2.2.2.2.1, t6⟩, fun c hc' => ?_⟩
    have hlt : c < s.heap.objs.size := by
      have q : c = z ∨ c = TI ∨ c = TO ∨ c = i1 ∨ c = i2 := by simpa using hc'
      obtain ⟨_, _, g3⟩ := t3
      rcases q with rfl | rfl | rfl | rfl | rfl
      · exact Heap.lt_size t1
      · exact Heap.lt_size t2
      · exact Heap.lt_size g3
      · obtain ⟨o, ho, _⟩ := isItr_obj t4
        exact Heap.lt_size ho
      · obtain ⟨o, ho, _⟩ := isItr_obj t5
        exact Heap.lt_size ho
    rw [upd_ne (Nat.ne_of_lt (Nat.lt_of_lt_of_le hlt hT))]
    exact (hf c hc').1
  done := by
    intro X hP hw hK hc i pins s σ H E I hf st hg
    subst hP hw hK
    obtain ⟨t1, t2, t3, t4, t5, t6⟩ := st
    obtain ⟨xs, ys, hq, hq', hx⟩ := hg
    obtain ⟨its, rv, p, hz⟩ := seq_k I hq
    obtain ⟨its', rv', p', hz'⟩ := seq_k I hq'
    obtain ⟨oa, ha⟩ := hq.tracked
    obtain ⟨ob, hb⟩ := hq'.tracked
    have na : ∀ c ∈ [z, TI, TO, i1, i2], c ≠ a := fun c hc' e => by rw [← e, (hf c hc').1] at ha; cases ha
    have nb : ∀ c ∈ [z, TI, TO, i1, i2], c ≠ b := fun c hc' e => by rw [← e, (hf c hc').1] at hb; cases hb
    have G := GoesN.zip2 (prog := X.prog) (w := X.w) (A := X.A) (elts := elts) (x1 := kk) (pos := tpos) (t6.zip (na z (by simp)) (nb z (by simp)) (na TO (by simp)) (nb TO (by simp)) (nb i1 (by simp)) (na i2 (by simp)))
      (draws_k (A := X.A.in1) (I.ok.hd hc) k i1 a (na i1 (by simp)).symm its.toArray) (draws_k (A := X.A.in1) (I.ok.hd hc) k' i2 b (nb i2 (by simp)).symm its'.toArray)
    have en : min its.toArray.size its'.toArray.size = i := by rw [List.size_toArray, List.size_toArray, ← rv.length, ← rv'.length]; exact hx
    refine G.stops s _ E (by rw [en]; exact ⟨t1, t2, t3, ⟨t4, p⟩, ⟨t5, p'⟩⟩) fun h' tk hk htk => ?_
    exact Inv_turned I hf fun c o hc' q => hk c o (fun m => hc' (by
      have : c = z ∨ c = TO ∨ c = i1 ∨ c = i2 := by simpa using m
      rcases this with rfl | rfl | rfl | rfl <;> simp)) q
  self := fun A i s Q E st h => by
    obtain ⟨h1, _⟩ := st
    exact wpAny_pyIter_zip h1 h
end Nm
set_option maxRecDepth 100000
set_option maxHeartbeats 4000000
/-! What a loop walks, as data. -/
namespace Nm
open PySem L2
open PySem.PyData (strOk)

/-- an item: data, or a new pair (pr) -/
def ItemOk (pr : Bool) (S : Sr) (G : Gh) (H H' : Hp) (d : D) (v : V) : Prop := match pr with
  | false => H' = H ∧ Rep S G H d v
  | true => ∃ t tv ds, v = .ref t ∧ H t = none ∧ H' = upd H t (.tup tv) ∧ d = .tup ds ∧ Reps S G H ds tv
def isPr : Ik → Bool
  | .enum => true
  | .zip => true
  | _ => false
structure WalkD (pr : Bool) (S : Sr) (G : Gh) (H : Hp) (J : It) (xs : List D) : Prop where
  walk : Walk J xs.length (fun H' => ∃ G', Stay G G' H H') (fun i H1 v H2 => ∃ d, xs[i]? = some d ∧ ∀ G1, Stay G G1 H H1 → ItemOk pr S G1 H1 H2 d v)
  lim : xs.length ≤ LIM
def itR (ik : Ik) (r : R (List D)) : R (List D) := r.bind fun ds st => R.opt (itemsOf ik ds) st
def tIt (T : Tb) (S : Sr) (n : Nat) (W : WX) (ik : Ik) (its : List Ex) : TI := Rdg S n W (fun st => itR ik (evEs T its st)) fun _ G H xs J => WalkD (isPr ik) S G H J xs

section
variable {S : Sr} {G G' : Gh} {H H' : Hp}
theorem FroT.k {a : Addr} {vs : List V} (h : FroT G H a vs) : SqK false H a vs := by
  obtain ⟨o, k, e, _⟩ := h
  exact ⟨o, k, e⟩
theorem walkD_lst {K : PySem.W.Frag} {a : Addr} {vs : List V} {xs : List D} (h : FroL G H a vs) (hl : xs.length ≤ LIM) (r : Reps S G H xs vs) : WalkD false S G H (Itl K a) xs := by
  refine ⟨?_, hl⟩
  have w := walk_list (K := K) (a := a) (xs := vs)
  rw [← r.length] at w
  refine w.mono (fun H' ⟨G', s⟩ => .inl (.inl (h.stay s).1)) fun i H1 v H2 hi hG y => ?_
  obtain ⟨e, y⟩ := y
  obtain ⟨d, hd, _⟩ := r.getV y
  refine ⟨d, hd, fun G1 s => ⟨e, ?_⟩⟩
  obtain ⟨v', e1, r1⟩ := (r.stay s).get hd
  rw [y] at e1; cases e1
  exact r1
theorem walkD_tup {K : PySem.W.Frag} {a : Addr} {vs : List V} {xs : List D} (h : FroT G H a vs) (hl : xs.length ≤ LIM) (r : Reps S G H xs vs) : WalkD false S G H (Itt K a) xs := by
  refine ⟨?_, hl⟩
  have w := walk_tup (K := K) (a := a) (xs := vs)
  rw [← r.length] at w
  refine w.mono (fun H' ⟨G', s⟩ => (h.stay s).sq) fun i H1 v H2 hi hG y => ?_
  obtain ⟨e, y⟩ := y
  obtain ⟨d, hd, _⟩ := r.getV y
  refine ⟨d, hd, fun G1 s => ⟨e, ?_⟩⟩
  obtain ⟨v', e1, r1⟩ := (r.stay s).get hd
  rw [y] at e1; cases e1
  exact r1
theorem walkD_str {z : Str} (ok : okS z = true) : WalkD false S G H (Its z) (z.cps.toList.map fun c => .str ⟨#[c]⟩) := by
  have w := walk_str (z := z)
  have e : (z.cps.toList.map fun c => D.str ⟨#[c]⟩).length = z.cps.size := by rw [List.length_map, Array.length_toList]
  have hz : z.length ≤ LIM := of_decide_eq_true (Bool.and_eq_true_iff.mp ok).2
  refine ⟨?_, by rw [e]; exact hz⟩
  rw [e]
  refine w.mono (fun _ _ => trivial) fun i H1 v H2 hi hG y => ?_
  obtain ⟨e, c, hc, rfl⟩ := y
  refine ⟨.str ⟨#[c]⟩, by rw [List.getElem?_map, Array.getElem?_toList, hc]; rfl, fun G1 s => ⟨e, .str _ ?_⟩⟩
  refine Bool.and_eq_true_iff.mpr ⟨?_, decide_eq_true (show 1 ≤ 16777216 by decide)⟩
  have hall : z.cps.all (· < 0x110000) = true := (Bool.and_eq_true_iff.mp ok).1
  have h3 := Array.all_eq_true_iff_forall_mem.mp hall c (Array.mem_of_getElem? hc)
  show (#[c] : Array Nat).all (· < 0x110000) = true
  simpa using h3
theorem rangeD_length (a : Int) (n : Nat) : (rangeD a n).length = n := by
  unfold rangeD
  rw [List.length_map, List.length_range]
theorem walkD_range {lo : Int} {n : Nat} (hn : n ≤ LIM) : WalkD false S G H (Itr lo n) (rangeD lo n) := by
  have w := walk_range (lo := lo) (n := n)
  refine ⟨?_, by rw [rangeD_length]; exact hn⟩
  rw [rangeD_length]
  refine w.mono (fun _ _ => trivial) fun i H1 v H2 hi hG y => ?_
  obtain ⟨e, rfl⟩ := y
  refine ⟨.int (lo + i), ?_, fun G1 s => ⟨e, .int _⟩⟩
  unfold rangeD
  rw [List.getElem?_map, List.getElem?_range hi]
  rfl
theorem enumD_get : ∀ (xs : List D) (k i : Nat) (x : D), xs[i]? = some x → (enumD k xs)[i]? = some (.tup [.int ((k + i : Nat) : Int), x])
  | [], _, _, _, h => by simp at h
  | y :: ys, k, 0, x, h => by
    have e : y = x := by simpa using h
    subst e
    rfl
  | y :: ys, k, i + 1, x, h => by
    have h' : ys[i]? = some x := by simpa using h
    have ih := enumD_get ys (k + 1) i x h'
    show (enumD (k + 1) ys)[i]? = _
    rw [ih, show k + 1 + i = k + (i + 1) by omega]
theorem enumD_length : ∀ (xs : List D) (k : Nat), (enumD k xs).length = xs.length
  | [], _ => rfl
  | y :: ys, k => by
    show (enumD (k + 1) ys).length + 1 = ys.length + 1
    rw [enumD_length ys]
theorem walkD_enum {k : Bool} {a : Addr} {vs : List V} {xs : List D} (h : ∀ G' H', Stay G G' H H' → SqK k H' a vs) (hlim : xs.length ≤ LIM) (r : Reps S G H xs vs) : WalkD true S G H (Itn k a) (enumD 0 xs) := by
  refine ⟨?_, by rw [enumD_length]; exact hlim⟩
  rw [enumD_length]
  have hl := r.length
  refine ⟨fun i H' hi ⟨G', s⟩ => ⟨vs, vs[i]'(by omega), h G' H' s, by simp [show i < vs.length by omega]⟩, fun H' ⟨G', s⟩ => ⟨vs, h G' H' s, by omega⟩, fun i H1 v H2 hi ⟨G', s⟩ y => ?_⟩
  obtain ⟨t, x, rfl, ht, e2, hx⟩ := y
  have hx' := hx vs (h G' H1 s)
  obtain ⟨d, hd, _⟩ := r.getV hx'
  refine ⟨.tup [.int (i : Int), d], ?_, fun G1 s1 => ⟨t, [.int (i : Nat), x], [.int (i : Int), d], rfl, ht, e2, rfl, ?_⟩⟩
  · have := enumD_get xs 0 i d hd
    rw [Nat.zero_add] at this
    exact this
  · obtain ⟨v', e1, r1⟩ := (r.stay s1).get hd
    rw [hx'] at e1; cases e1
    exact .cons (.int _) (.cons r1 .nil)
theorem zipD_length : ∀ (xs ys : List D), (zipD xs ys).length = min xs.length ys.length
  | [], ys => by simp [zipD]
  | _ :: _, [] => by simp [zipD]
  | _ :: xs, _ :: ys => by
    show (zipD xs ys).length + 1 = min (xs.length + 1) (ys.length + 1)
    rw [zipD_length xs ys]
    omega
theorem zipD_get : ∀ (xs ys : List D) (i : Nat) (x y : D), xs[i]? = some x → ys[i]? = some y → (zipD xs ys)[i]? = some (.tup [x, y])
  | [], _, _, _, _, h, _ => by simp at h
  | _ :: _, [], _, _, _, _, h => by simp at h
  | a :: xs, b :: ys, 0, x, y, h, h' => by
    have e1 : a = x := by simpa using h
    have e2 : b = y := by simpa using h'
    subst e1 e2
    rfl
  | a :: xs, b :: ys, i + 1, x, y, h, h' => zipD_get xs ys i x y (by simpa using h) (by simpa using h')
theorem walkD_zip {k k' : Bool} {a b : Addr} {vs us : List V} {xs ys : List D} (h : ∀ G' H', Stay G G' H H' → SqK k H' a vs) (h' : ∀ G' H', Stay G G' H H' → SqK k' H' b us) (hlim : xs.length ≤ LIM) (r : Reps S G H xs vs) (r' : Reps S G H ys us) : WalkD true S G H (Itzk k k' a b) (zipD xs ys) := by
  refine ⟨?_, by rw [zipD_length]; omega⟩
  rw [zipD_length]
  have hl := r.length
  have hl' := r'.length
  refine ⟨fun i H' hi ⟨G', s⟩ => ⟨vs, us, vs[i]'(by omega), us[i]'(by omega), h G' H' s, h' G' H' s, by simp [show i < vs.length by omega], by simp [show i < us.length by omega]⟩, fun H' ⟨G', s⟩ => ⟨vs, us, h G' H' s, h' G' H' s, by omega⟩, fun i H1 v H2 hi ⟨G', s⟩ y => ?_⟩
  obtain ⟨t, x, y, rfl, ht, e2, hx, hy⟩ := y
  have hx' := hx vs (h G' H1 s)
  have hy' := hy us (h' G' H1 s)
  obtain ⟨d, hd, _⟩ := r.getV hx'
  obtain ⟨e, he, _⟩ := r'.getV hy'
  refine ⟨.tup [d, e], zipD_get xs ys i d e hd he, fun G1 s1 => ⟨t, [x, y], [d, e], rfl, ht, e2, rfl, ?_⟩⟩
  obtain ⟨v', e1, r1⟩ := (r.stay s1).get hd
  rw [hx'] at e1; cases e1
  obtain ⟨v', e1, r2⟩ := (r'.stay s1).get he
  rw [hy'] at e1; cases e1
  exact .cons r1 (.cons r2 .nil)
end

section
variable {X : Cx} {S : Sr} {T : Tb} {n : Nat} {W : WX}
theorem evEs_nil (st : Sl) : evEs T [] st = .ok [] st := by rw [evEs]
theorem evEs_cons (a : Ex) (as : List Ex) (st : Sl) : evEs T (a :: as) st = (evE T a st).bind fun r st => (evEs T as st).bind fun ds st => .ok (r.1 :: ds) st := by rw [evEs]
theorem evEs_len : ∀ (as : List Ex) (st : Sl) (ds : List D) (st' : Sl), evEs T as st = .ok ds st' → ds.length = as.length
  | [], st, ds, st', h => by
    rw [evEs_nil] at h
    cases h
    rfl
  | a :: as, st, ds, st', h => by
    rw [evEs_cons] at h
    cases e : evE T a st with
    | bad => rw [e] at h; cases h
    | err _ _ _ => rw [e] at h; cases h
    | ok r s1 =>
      rw [e] at h
      have h' : (evEs T as s1).bind (fun ds st => .ok (r.1 :: ds) st) = .ok ds st' := h
      cases e2 : evEs T as s1 with
      | bad => rw [e2] at h'; cases h'
      | err _ _ _ => rw [e2] at h'; cases h'
      | ok ds2 s2 =>
        rw [e2] at h'
        cases h'
        rw [List.length_cons, List.length_cons, evEs_len as s1 ds2 _ e2]
/-- one item -/
theorem pi_seq {tg e : Expr} {a : Ex} (he : PE X e (tE T S n W a)) : PI X tg e (tIt T S n W .seq [a]) := by
  refine ⟨fun pins s σ H Z0 I h => ?_⟩
  obtain ⟨G, st, rel, fin⟩ := h
  have ev : itR .seq (evEs T [a] st) = (evE T a st).bind fun r st => R.opt (seqOf r.1) st := by
    unfold itR
    rw [evEs_cons]
    cases evE T a st with
    | bad => rfl
    | err c p s => rfl
    | ok r s =>
      simp only [R.bind, evEs_nil]
      rfl
  have fin : Fin S n W (itR .seq (evEs T [a] st)) (fun G H xs J => WalkD false S G H J xs) G H σ Z0 := fin
  rw [ev] at fin
  cases hr : evE T a st with
  | bad => rw [hr] at fin; exact fin.elim
  | err c p s' =>
    rw [hr] at fin
    refine thn (he.run pins s σ H (fun _ _ => False) I ⟨G, st, rel, ?_⟩) fun v s1 ⟨x, H1, I1, r1, q⟩ => q.elim
    rw [hr]
    exact fin
  | ok r st' =>
    rw [hr] at fin
    have key : ∀ (Z : V → Hp → Prop), (∀ v H' G', Step n G G' H H' → Rel S G' H' st' σ → Rep S G' H' r.1 v → Z v H') → tE T S n W a σ H Z := fun Z hZ => by
      refine ⟨G, st, rel, ?_⟩
      rw [hr]
      intro v H' G' sp rel' o
      obtain ⟨G2, rel2, sp2, rp⟩ := froz rel' o
      exact hZ v H' G2 (sp.trans sp2) rel2 rp
    obtain ⟨d, b⟩ := r
    cases d with
    | lst xs =>
      have fin' : Fin S n W (.ok xs st') (fun G H xs J => WalkD false S G H J xs) G H σ Z0 := fin
      refine (pi_list he).run pins s σ H Z0 I (key _ fun v H' G' sp rel' rp => ?_)
      cases rp with
      | @lst a0 vs _ f l rr => exact ⟨a0, rfl, ⟨vs, .inl (.inl f.1)⟩, fin' _ _ G' sp rel' (walkD_lst f l rr)⟩
    | tup xs =>
      have fin' : Fin S n W (.ok xs st') (fun G H xs J => WalkD false S G H J xs) G H σ Z0 := fin
      refine (pi_tup he).run pins s σ H Z0 I (key _ fun v H' G' sp rel' rp => ?_)
      cases rp with
      | @tup a0 vs _ f l rr => exact ⟨a0, rfl, ⟨vs, f.sq⟩, fin' _ _ G' sp rel' (walkD_tup f l rr)⟩
    | str z =>
      have fin' : Fin S n W (.ok (z.cps.toList.map fun c => D.str ⟨#[c]⟩) st') (fun G H xs J => WalkD false S G H J xs) G H σ Z0 := fin
      refine (pi_str he).run pins s σ H Z0 I (key _ fun v H' G' sp rel' rp => ?_)
      cases rp with
      | str _ ok => exact ⟨z, rfl, fin' _ _ G' sp rel' (walkD_str ok)⟩
    | _ => exact fin.elim

/-- a reading of arguments whose result is known -/
theorem args_key {α β : Type} {Ok : Gh → Hp → α → β → Prop} {as : List Ex} {G : Gh} {H : Hp} {σ : St} {st : Sl} {k : List D → Sl → R α} {R0 : β → Hp → Prop} (rel : Rel S G H st σ) (fin : Fin S n W ((evEs T as st).bind k) Ok G H σ R0) :
    (∃ ds st', evEs T as st = .ok ds st' ∧ ds.length = as.length ∧ Fin S n W (k ds st') Ok G H σ R0 ∧ ∀ (Z : List V → Hp → Prop), (∀ vs H' G', Step n G G' H H' → Rel S G' H' st' σ → Reps S G' H' ds vs → Z vs H') → tEs T S n W as σ H Z) ∨ ∀ Z, tEs T S n W as σ H Z := by
  cases hr : evEs T as st with
  | bad => rw [hr] at fin; exact fin.elim
  | err c p s' =>
    rw [hr] at fin
    refine .inr fun Z => ⟨G, st, rel, ?_⟩
    rw [hr]
    exact fin
  | ok ds st' =>
    rw [hr] at fin
    refine .inl ⟨ds, st', rfl, evEs_len _ _ _ _ hr, fin, fun Z hZ => ⟨G, st, rel, ?_⟩⟩
    rw [hr]
    exact fun vs H' G' sp rel' o => hZ vs H' G' sp rel' o
theorem intOk_of {j : Int} (h : intOk j = true) : -(2 ^ 62) ≤ j ∧ j < 2 ^ 62 := by
  have := of_decide_eq_true h
  constructor <;> omega
theorem starPlain {a : Expr} {env : Env} {rest : List Expr} (h : ∀ x p, a ≠ .Starred x p) : starEach (a :: rest) env = (false, eval a env) :: starEach rest env := by
  cases a <;> first | rfl | exact absurd rfl (h _ _)
theorem pi_rng1 {tg x : Expr} {a : Ex} {p pos : Pos} (hg : Gl X "range") (hm : X.mg "range" = none) (ha : PA X [x] (tEs T S n W [a])) (hs : ∀ y q, x ≠ .Starred y q) : PI X tg (.Call (.Name "range" p) [x] [] pos) (tIt T S n W .range [a]) := by
  refine ⟨fun pins s σ H Z0 I h => ?_⟩
  obtain ⟨G, st, rel, fin⟩ := h
  have R1 := pi_range1 (tg := tg) (p := p) (pos := pos) hg hm ha (starPlain hs)
  rcases args_key rel fin with ⟨ds, st', e, hl, fin, key⟩ | bad
  · refine R1.run pins s σ H Z0 I (key _ fun vs H' G' sp rel' rp => ?_)
    cases rp with
    | nil => cases hl
    | @cons d v _ _ r0 r1 =>
      cases r1 with
      | cons _ _ => simp at hl
      | nil =>
        cases d with
        | int j =>
          cases r0
          have fin' : Fin S n W (R.opt (if (intOk j && decide (j.toNat ≤ LIM)) = true then some (rangeD 0 j.toNat) else none) st') (fun G H xs J => WalkD false S G H J xs) G H σ Z0 := fin
          by_cases c : (intOk j && decide (j.toNat ≤ LIM)) = true
          · rw [if_pos c] at fin'
            obtain ⟨c1, c2⟩ := intOk_of (Bool.and_eq_true_iff.mp c).1
            exact ⟨j, rfl, c1, c2, fin' _ _ G' sp rel' (walkD_range (by have := of_decide_eq_true (Bool.and_eq_true_iff.mp c).2; omega))⟩
          · rw [if_neg c] at fin'; exact fin'.elim
        | _ => exact fin.elim
  · exact R1.run pins s σ H Z0 I (bad _)
theorem pi_rng2 {tg x y : Expr} {a b : Ex} {p pos : Pos} (hg : Gl X "range") (hm : X.mg "range" = none) (ha : PA X [x, y] (tEs T S n W [a, b])) (hs : ∀ z q, x ≠ .Starred z q) (hs' : ∀ z q, y ≠ .Starred z q) : PI X tg (.Call (.Name "range" p) [x, y] [] pos) (tIt T S n W .range [a, b]) := by
  refine ⟨fun pins s σ H Z0 I h => ?_⟩
  obtain ⟨G, st, rel, fin⟩ := h
  have e2 : starEach [y] X.env = [(false, eval y X.env)] := starPlain hs'
  have R1 := pi_range2 (tg := tg) (p := p) (pos := pos) hg hm ha (by rw [starPlain hs, e2]) e2
  rcases args_key rel fin with ⟨ds, st', e, hl, fin, key⟩ | bad
  · refine R1.run pins s σ H Z0 I (key _ fun vs H' G' sp rel' rp => ?_)
    cases rp with
    | nil => cases hl
    | @cons d v _ _ r0 r1 =>
      cases r1 with
      | nil => simp at hl
      | @cons d' v' _ _ r1 r2 =>
        cases r2 with
        | cons _ _ => simp at hl
        | nil =>
          cases d with
          | int i =>
            cases d' with
            | int j =>
              cases r0
              cases r1
              have fin' : Fin S n W (R.opt (if (intOk i && intOk j && decide ((j - i).toNat ≤ LIM)) = true then some (rangeD i (j - i).toNat) else none) st') (fun G H xs J => WalkD false S G H J xs) G H σ Z0 := fin
              by_cases c : (intOk i && intOk j && decide ((j - i).toNat ≤ LIM)) = true
              · rw [if_pos c] at fin'
                obtain ⟨c0, _⟩ := Bool.and_eq_true_iff.mp c
                obtain ⟨c1, c2⟩ := Bool.and_eq_true_iff.mp c0
                obtain ⟨i1, i2⟩ := intOk_of c1
                obtain ⟨j1, j2⟩ := intOk_of c2
                exact ⟨i, j, rfl, ⟨i1, i2, j1, j2⟩, fin' _ _ G' sp rel' (walkD_range (by have := of_decide_eq_true (Bool.and_eq_true_iff.mp c).2; omega))⟩
              · rw [if_neg c] at fin'; exact fin'.elim
            | _ => exact fin.elim
          | _ => cases d' <;> exact fin.elim
  · exact R1.run pins s σ H Z0 I (bad _)
theorem le_five (N b : Nat) (h : b ∈ [N + 4, N + 2, N + 3, N, N + 1]) : N ≤ b := by
  simp at h
  omega
theorem src_of {G : Gh} {H : Hp} {d : D} {v : V} {xs : List D} (r : Rep S G H d v) (e : pairOf d = some xs) : ∃ k a vs, v = .ref a ∧ xs.length ≤ LIM ∧ Reps S G H xs vs ∧ ∀ G' H', Stay G G' H H' → SqK k H' a vs := by
  cases r with
  | @lst a vs _ f l rr =>
    cases e
    exact ⟨true, a, vs, rfl, l, rr, fun G' H' s => (f.stay s).1⟩
  | @tup a vs _ f l rr =>
    cases e
    exact ⟨false, a, vs, rfl, l, rr, fun G' H' s => (f.stay s).k⟩
  | _ => cases e
theorem pi_en {x : Expr} {a : Ex} {p pos tpos : Pos} {elts : List Expr} {kk : Nat} (hg : Gl X "enumerate") (hm : X.mg "enumerate" = none) (ha : PA X [x] (tEs T S n W [a])) (hs : ∀ y q, x ≠ .Starred y q) :
    PI X (.Tuple elts kk tpos) (.Call (.Name "enumerate" p) [x] [] pos) (tIt T S n W .enum [a]) := by
  refine ⟨fun pins s σ H Z0 I h => ?_⟩
  obtain ⟨G, st, rel, fin⟩ := h
  have run : ∀ Z, tEs T S n W [a] σ H Z → (∀ us s1 vs H1, L2.Inv X pins σ H1 s1 → Vals vs us → Z vs H1 → wpAny (model X.prog X.w) X.A (call (.type "enumerate") us) (fun v s2 => wpAny (model X.prog X.w) X.A (pyIter v) (PIE X pins σ (.Tuple elts kk tpos) Z0) X.xe s2) X.xe s1) →
      wpAny (model X.prog X.w) X.A (eval (.Call (.Name "enumerate" p) [x] [] pos) X.env) (fun v s1 => wpAny (model X.prog X.w) X.A (pyIter v) (PIE X pins σ (.Tuple elts kk tpos) Z0) X.xe s1) X.xe s := fun Z hZ hk => by
    refine PyProof.Rows.Call_ (ld_blt I hg hm PyProof.Rows.boot_enumerate (PyProof.Rows.callWith_type1 (thn (ha.run pos pins s σ H Z I hZ) fun us s1 ⟨vs, H1, I1, r1, q1⟩ => hk us s1 vs H1 I1 r1 q1) (starPlain hs) rfl))
  rcases args_key rel fin with ⟨ds, st', e, hl, fin, key⟩ | bad
  · refine run _ (key (fun vs H1 => ∃ G1, Step n G G1 H H1 ∧ Rel S G1 H1 st' σ ∧ Reps S G1 H1 ds vs) fun vs H' G' sp rel' rp => ⟨G', sp, rel', rp⟩) fun us s1 vs H1 I1 rv ⟨G1, sp, rel1, rp⟩ => ?_
    cases rp with
    | nil => cases hl
    | @cons d v _ _ r0 r1 =>
      cases r1 with
      | cons _ _ => simp at hl
      | nil =>
        obtain ⟨u, rfl, ru⟩ := vals1 rv
        have fin' : Fin S n W (R.opt ((pairOf d).map (enumD 0)) st') (fun G H xs J => WalkD true S G H J xs) G H σ Z0 := fin
        cases ep : pairOf d with
        | none => rw [ep] at fin'; exact fin'.elim
        | some xs =>
          rw [ep] at fin'
          obtain ⟨k, a0, ws, rfl, hlim, rr, hsq⟩ := src_of r0 ep
          cases ru
          obtain ⟨its, rI, p1, _⟩ := seq_k I1 (hsq G1 H1 Stay.refl)
          refine enum1_begins (begins_k k a0 its.toArray) p1 fun h' he hit hk => wpAny_pyIter_enum he ?_
          have I2 : L2.Inv X pins σ H1 { s1 with heap := h' } := I1.kept (t' := s1.toks) hk
          refine ⟨s1.heap.objs.size + 1, [s1.heap.objs.size + 1, s1.heap.objs.size], _, _, H1, rfl, I2, turn_en k a0 (s1.heap.objs.size + 1) s1.heap.objs.size, ⟨⟨_, he⟩, isItr_new hit, Nat.succ_ne_self _⟩, fun b hb => ?_, fin' _ _ G1 sp rel1 (walkD_enum hsq hlim rr)⟩
          have hle : s1.heap.objs.size ≤ b := by
            have z : b = s1.heap.objs.size + 1 ∨ b = s1.heap.objs.size := by simpa using hb
            rcases z with rfl | rfl
            · exact Nat.le_succ _
            · exact Nat.le_refl _
          obtain ⟨f0, f1, f2, f3, f4, f5⟩ := I1.fpOk (H' := H1) hle (I1.hok.fresh hle)
          exact ⟨f0, f1, f2, f3, f4, f5⟩
  · exact run _ (bad (fun _ _ => False)) fun _ _ _ _ _ _ z => z.elim
theorem pi_zp {x y : Expr} {a b : Ex} {p pos tpos : Pos} {elts : List Expr} {kk : Nat} (hg : Gl X "zip") (hm : X.mg "zip" = none) (ha : PA X [x, y] (tEs T S n W [a, b])) (hs : ∀ z q, x ≠ .Starred z q) (hs' : ∀ z q, y ≠ .Starred z q) :
    PI X (.Tuple elts kk tpos) (.Call (.Name "zip" p) [x, y] [] pos) (tIt T S n W .zip [a, b]) := by
  refine ⟨fun pins s σ H Z0 I h => ?_⟩
  obtain ⟨G, st, rel, fin⟩ := h
  have e2 : starEach [y] X.env = [(false, eval y X.env)] := starPlain hs'
  have run : ∀ Z, tEs T S n W [a, b] σ H Z → (∀ us s1 vs H1, L2.Inv X pins σ H1 s1 → Vals vs us → Z vs H1 → wpAny (model X.prog X.w) X.A (call (.type "zip") us) (fun v s2 => wpAny (model X.prog X.w) X.A (pyIter v) (PIE X pins σ (.Tuple elts kk tpos) Z0) X.xe s2) X.xe s1) →
      wpAny (model X.prog X.w) X.A (eval (.Call (.Name "zip" p) [x, y] [] pos) X.env) (fun v s1 => wpAny (model X.prog X.w) X.A (pyIter v) (PIE X pins σ (.Tuple elts kk tpos) Z0) X.xe s1) X.xe s := fun Z hZ hk => by
    refine PyProof.Rows.Call_ (ld_blt I hg hm PyProof.Rows.boot_zip (PyProof.Rows.callWith_type1 (thn (ha.run pos pins s σ H Z I hZ) fun us s1 ⟨vs, H1, I1, r1, q1⟩ => hk us s1 vs H1 I1 r1 q1) (starPlain hs) (by rw [e2]; rfl)))
  rcases args_key rel fin with ⟨ds, st', e, hl, fin, key⟩ | bad
  · refine run _ (key (fun vs H1 => ∃ G1, Step n G G1 H H1 ∧ Rel S G1 H1 st' σ ∧ Reps S G1 H1 ds vs) fun vs H' G' sp rel' rp => ⟨G', sp, rel', rp⟩) fun us s1 vs H1 I1 rv ⟨G1, sp, rel1, rp⟩ => ?_
    cases rp with
    | nil => cases hl
    | @cons d v _ _ r0 r1 =>
      cases r1 with
      | nil => simp at hl
      | @cons d' v' _ _ r1 r2 =>
        cases r2 with
        | cons _ _ => simp at hl
        | nil =>
          obtain ⟨u, u', rfl, ru, ru'⟩ := vals2 rv
          have fin' : Fin S n W (R.opt ((pairOf d).bind fun xs => (pairOf d').map fun ys => zipD xs ys) st') (fun G H xs J => WalkD true S G H J xs) G H σ Z0 := fin
          cases ep : pairOf d with
          | none => rw [ep] at fin'; exact fin'.elim
          | some xs =>
            rw [ep] at fin'
            have fin' : Fin S n W (R.opt ((pairOf d').map fun ys => zipD xs ys) st') (fun G H xs J => WalkD true S G H J xs) G H σ Z0 := fin'
            cases ep' : pairOf d' with
            | none => rw [ep'] at fin'; exact fin'.elim
            | some ys =>
              rw [ep'] at fin'
              obtain ⟨k, a0, ws, rfl, hlim, rr, hsq⟩ := src_of r0 ep
              obtain ⟨k', b0, ws', rfl, hlim', rr', hsq'⟩ := src_of r1 ep'
              cases ru
              cases ru'
              obtain ⟨its, rI, p1, _⟩ := seq_k I1 (hsq G1 H1 Stay.refl)
              obtain ⟨its', rI', p1', _⟩ := seq_k I1 (hsq' G1 H1 Stay.refl)
              refine zip_begins2 (begins_k k a0 its.toArray) (begins_k k' b0 its'.toArray) p1 p1' fun h' hz hTI hTO h1 h2 hsz hk => wpAny_pyIter_zip hz ?_
              have I2 : L2.Inv X pins σ H1 { s1 with heap := h' } := I1.kept (t' := s1.toks) hk
              have sep : ∀ N : Nat, Sep5 (N + 4) (N + 2) (N + 3) N (N + 1) := fun N =>
                ⟨show (N + 2 : Nat) ≠ N + 4 by omega, show (N + 3 : Nat) ≠ N + 4 by omega, show (N + 2 : Nat) ≠ N + 3 by omega, show (N + 2 : Nat) ≠ N by omega, show (N + 2 : Nat) ≠ N + 1 by omega, show (N + 4 : Nat) ≠ N by omega, show (N + 4 : Nat) ≠ N + 1 by omega, show (N + 3 : Nat) ≠ N by omega, show (N + 3 : Nat) ≠ N + 1 by omega, show (N : Nat) ≠ N + 1 by omega⟩
              refine ⟨s1.heap.objs.size + 4, [s1.heap.objs.size + 4, s1.heap.objs.size + 2, s1.heap.objs.size + 3, s1.heap.objs.size, s1.heap.objs.size + 1], _, _, H1, rfl, I2, turn_zp k k' a0 b0 (s1.heap.objs.size + 4) (s1.heap.objs.size + 2) (s1.heap.objs.size + 3) s1.heap.objs.size (s1.heap.objs.size + 1),
                ⟨hz, hTI, ⟨_, _, hTO⟩, isItr_new h1, isItr_new h2, sep _⟩, fun b hb => ?_, fin' _ _ G1 sp rel1 (walkD_zip hsq hsq' hlim rr rr')⟩
              have hle : ∀ N : Nat, b ∈ [N + 4, N + 2, N + 3, N, N + 1] → N ≤ b := fun N h => le_five N b h
              obtain ⟨f0, f1, f2, f3, f4, f5⟩ := I1.fpOk (H' := H1) (hle _ hb) (I1.hok.fresh (hle _ hb))
              exact ⟨f0, f1, f2, f3, f4, f5⟩
  · exact run _ (bad (fun _ _ => False)) fun _ _ _ _ _ _ z => z.elim
end
end Nm
set_option maxRecDepth 100000
set_option maxHeartbeats 4000000
/-! Expressions, construct by construct. -/
namespace Nm
open PySem L2
open PySem.PyData (strOk)

section
variable {X : Cx} {S : Sr} {T : Tb} {n : Nat} {W : WX} {e e' : Expr} {a b c : Ex} {σ : St} {H : Hp}
theorem PE_imp {t t' : TE} (h : PE X e t) (k : ∀ σ H Q, t' σ H Q → t σ H Q) : PE X e t' := ⟨fun pins s σ H Q I q => h.run pins s σ H Q I (k σ H Q q)⟩
theorem PT_imp {t t' : TT} (h : PT X e t) (k : ∀ σ H Q, t' σ H Q → t σ H Q) : PT X e t' := ⟨fun pins s σ H Q I q => h.run pins s σ H Q I (k σ H Q q)⟩
theorem PA_imp {es : List Expr} {t t' : TA} (h : PA X es t) (k : ∀ σ H Q, t' σ H Q → t σ H Q) : PA X es t' := ⟨fun pos pins s σ H Q I q => h.run pos pins s σ H Q I (k σ H Q q)⟩

/-- an atom -/
theorem atom {d : D} {v : V} (he : PE X e (tC v)) (hev : ∀ st, evE T a st = .ok (d, false) st) (hr : ∀ G H, Rep S G H d v) : PE X e (tE T S n W a) := by
  refine PE_imp he fun σ H Q h => ?_
  obtain ⟨G, st, rel, fin⟩ := h
  rw [hev st] at fin
  exact fin.pure rel (hr G H)
theorem pe_con {d : D} {k : Const} {j : Nat} {pos : Pos} (h : cB d k = true) : PE X (.Constant k j pos) (tE T S n W (.c d)) := by
  have hev : ∀ st, evE T (.c d) st = .ok (d, false) st := fun st => by rw [evE]
  cases d with
  | non =>
    cases k with
    | none => exact atom pe_non hev fun _ _ => .non
    | _ => cases h
  | bl b =>
    cases k with
    | bool b' =>
      have e : b = b' := by simpa [cB] using h
      subst e
      exact atom pe_bl hev fun _ _ => .bl b
    | _ => cases h
  | int i =>
    cases k with
    | int i' =>
      have e : i = i' := of_decide_eq_true h
      subst e
      exact atom pe_int hev fun _ _ => .int i
    | _ => cases h
  | str x =>
    cases k with
    | str x' =>
      obtain ⟨h1, h2⟩ := Bool.and_eq_true_iff.mp (show (decide (x = x') && okS x) = true from h)
      have e : x = x' := of_decide_eq_true h1
      subst e
      exact atom pe_str hev fun _ _ => .str x h2
    | _ => cases h
  | _ => cases k <;> cases h
theorem pe_neg {i j : Int} {m : Nat} {p pos : Pos} (h : i = -j) : PE X (.UnaryOp .USub (.Constant (.int j) m p) pos) (tE T S n W (.c (.int i))) := by
  have hev : ∀ st, evE T (.c (.int i)) st = .ok (.int i, false) st := fun st => by rw [evE]
  refine PE_imp (pe_un un_neg pe_int) fun σ H Q q => ?_
  obtain ⟨G, st, rel, fin⟩ := q
  rw [hev st] at fin
  refine ⟨j, rfl, ?_⟩
  show Q (.int (-j)) H
  rw [← h]
  exact fin.pure rel (.int i)
theorem Rel.slot {G : Gh} {st : Sl} {i : Nat} {s : Slot} (rel : Rel S G H st σ) (e : st[i]? = some s) (h : s ≠ .no) : ∃ v, σ[i]? = some (some v) := by
  obtain ⟨o, e1, q⟩ := rel.at_ i s e
  cases s with
  | no => exact absurd rfl h
  | val d => obtain ⟨v, rfl, _⟩ := q; exact ⟨v, e1⟩
  | own d => obtain ⟨v, rfl, _⟩ := q; exact ⟨v, e1⟩
  | bor d => obtain ⟨v, rfl, _⟩ := q; exact ⟨v, e1⟩
theorem pe_v {i : Nat} (he : PE X e (tVar i)) : PE X e (tE T S n W (.v i)) := by
  refine PE_imp he fun σ H Q h => ?_
  obtain ⟨G, st, rel, fin⟩ := h
  rw [evE] at fin
  cases hs : st[i]? with
  | none => rw [hs] at fin; exact fin.elim
  | some s =>
    rw [hs] at fin
    cases s with
    | no => exact fin.elim
    | bor d => exact fin.elim
    | val d =>
      obtain ⟨o, e1, v, rfl, r⟩ := rel.at_ i _ hs
      exact ⟨v, e1, Fin.pure fin rel r⟩
    | own d =>
      obtain ⟨v, e1⟩ := rel.slot hs (by simp)
      obtain ⟨G', rel', sp, r⟩ := rel.freeze (n := n) hs e1
      exact ⟨v, e1, fin v H G' sp rel' r⟩
theorem pe_vwv {i : Nat} (he : PE X e (tVar i)) : PE X e (tVw T S n W (.v i)) := by
  refine PE_imp he fun σ H Q h => ?_
  obtain ⟨G, st, rel, fin⟩ := h
  have fin : Fin S n W (match st[i]? with
    | some (.val d) => .ok (.d d) st
    | some (.own _) => .ok (.s i) st
    | some (.bor _) => .ok (.s i) st
    | _ => .bad) (VwOk S σ) G H σ Q := fin
  cases hs : st[i]? with
  | none => rw [hs] at fin; exact fin.elim
  | some s =>
    rw [hs] at fin
    cases s with
    | no => exact fin.elim
    | bor d =>
      obtain ⟨v, e1⟩ := rel.slot hs (by simp)
      exact ⟨v, e1, Fin.pure (a := Vw.s i) fin rel e1⟩
    | val d =>
      obtain ⟨o, e1, v, rfl, r⟩ := rel.at_ i _ hs
      exact ⟨v, e1, Fin.pure (a := Vw.d d) fin rel r⟩
    | own d =>
      obtain ⟨v, e1⟩ := rel.slot hs (by simp)
      exact ⟨v, e1, Fin.pure (a := Vw.s i) fin rel e1⟩
def isV : Ex → Bool
  | .v _ => true
  | _ => false
theorem vw_else (h : isV a = false) (f : Sl → R Rv) (st : Sl) : vw a f st = (f st).bind fun r st => .ok (.d r.1) st := by
  cases a <;> first | rfl | cases h
theorem pe_vwe (h : isV a = false) (he : PE X e (tE T S n W a)) : PE X e (tVw T S n W a) := by
  refine PE_imp he fun σ H Q q => ?_
  obtain ⟨G, st, rel, fin⟩ := q
  rw [vw_else h] at fin
  refine ⟨G, st, rel, ?_⟩
  refine (Fin.bind (Ok1 := RvOk S n) fin).imp fun r st' v H' G' e sp rel' o => .inr ⟨v, o, ?_⟩
  rintro ⟨r', G1, st1, e1, sp1, rel1, o1, fin1⟩
  obtain ⟨G2, rel2, sp2, rp⟩ := froz rel1 o1
  exact fin1 v _ G2 sp2 rel2 rp
theorem pe_glo {x : Str} {pos : Pos} (hg : Gl X x) (h : ∀ d, T.gl x = some d → ∃ u v, X.mg x = some u ∧ RelV v u ∧ ∀ G H, Rep S G H d v) (hd : (x == ("__debug__" : Str)) = false) : PE X (.Name x pos) (tE T S n W (.g x)) := by
  cases e : T.gl x with
  | none =>
    refine ⟨fun pins s σ H Q I q => ?_⟩
    obtain ⟨G, st, rel, fin⟩ := q
    rw [evE, e] at fin
    exact fin.elim
  | some d =>
    obtain ⟨u, v, hm, r, hr⟩ := h d e
    exact atom (pe_glob hg hm r hd) (fun st => by rw [evE, e]; rfl) hr
theorem pe_tupx {es : List Expr} {as : List Ex} {m : Nat} {pos : Pos} (ha : PA X es (tEs T S n W as)) (hl : as.length ≤ 1000) : PE X (.Tuple es m pos) (tE T S n W (.tup as)) := by
  refine ⟨fun pins s σ H Q I q => ?_⟩
  obtain ⟨G, st, rel, fin⟩ := q
  rw [evE] at fin
  have lim : ∀ {xs : List V}, xs.length ≤ 1000 → xs.length ≤ sizeLine := fun h => by rw [sizeLine_eq]; omega
  refine wpAny_Tuple_spliced ?_
  rcases args_key rel fin with ⟨ds, st', e, hlen, fin, key⟩ | bad
  · refine thn (ha.run pos pins s σ H (fun vs H1 => ∃ G1, Step n G G1 H H1 ∧ Rel S G1 H1 st' σ ∧ Reps S G1 H1 ds vs) I (key _ fun vs H' G' sp rel' rp => ⟨G', sp, rel', rp⟩)) fun us s1 ⟨vs, H1, I1, rv, G1, sp, rel1, rp⟩ => ?_
    have l1 : vs.length ≤ 1000 := by rw [← rp.length, hlen]; exact hl
    refine ⟨by rw [← rv.length]; exact lim l1, .ref s1.heap.objs.size, _, laidT I1 rv (lim l1) s1.toks, rfl, ?_⟩
    refine finT (G := G1) rel1.wk (fun v H' G' ext ok => fin v H' G' (sp.trans ext.step) (ext.rel rel1) ok) ⟨_, _, rfl⟩ I1.fresh ?_ rp
    rw [hlen]
    show as.length ≤ 16777216
    omega
  · exact thn (ha.run pos pins s σ H (fun _ _ => False) I (bad _)) fun us s1 ⟨vs, H1, I1, rv, z⟩ => z.elim
theorem pe_lstx {es : List Expr} {as : List Ex} {pos : Pos} (ha : PA X es (tEs T S n W as)) (hl : as.length ≤ 1000) : PE X (.List es pos) (tE T S n W (.lst as)) := by
  refine PE_imp (pe_lst ha) fun σ H Q q => ?_
  obtain ⟨G, st, rel, fin⟩ := q
  rw [evE] at fin
  rcases args_key rel fin with ⟨ds, st', e, hlen, fin, key⟩ | bad
  · refine key _ fun vs H' G' sp rel' rp => ⟨?_, fun p hp => ?_⟩
    · rw [← rp.length, hlen, sizeLine_eq]
      omega
    · refine finL (n := n) (G := G') rel'.wk (fun v H2 G2 ext ok => fin v H2 G2 (sp.trans ext.step) (ext.rel rel') ok) hp ?_ rp
      rw [hlen]
      show as.length ≤ 16777216
      omega
  · exact bad _
theorem two_vw {f g : Sl → R Rv} {k : D → D → Option Rv} {Q : VK} (h : Rdg S n W (vw2 a b f g k) (fun _ => RvOk S n) σ H Q) :
    Rdg S n W (vw a f) (VwOk S) σ H fun x H1 => Rdg S n W (vw b g) (VwOk S) σ H1 fun y H2 => rB S n k x y H2 Q := by
  obtain ⟨G, st, rel, fin⟩ := h
  refine ⟨G, st, rel, ?_⟩
  unfold vw2 at fin
  refine (Fin.bind (Ok1 := VwOk S σ) fin).imp fun w st' v H' G' e sp rel' o => .inr ⟨v, o, ?_⟩
  rintro ⟨w', G1, st1, e1, sp1, rel1, o1, fin1⟩
  refine ⟨G1, st1, rel1, ?_⟩
  refine (Fin.bind (Ok1 := VwOk S σ) fin1).imp fun u st2 y H2 G2 e2 sp2 rel2 o2 => .inr ⟨y, o2, ?_⟩
  rintro ⟨u', G3, st3, e3, sp3, rel3, o3, fin3⟩
  have o1' := o1.stay sp3.stay
  cases c1 : w'.get st3 with
  | none => rw [c1] at fin3; exact fin3.elim
  | some d =>
    cases c2 : u'.get st3 with
    | none => rw [c1, c2] at fin3; exact fin3.elim
    | some d' =>
      rw [c1, c2] at fin3
      have fin3 : Fin S n W (R.opt (k d d') st3) (RvOk S n) G3 H2 σ Q := fin3
      cases c3 : k d d' with
      | none => rw [c3] at fin3; exact fin3.elim
      | some z =>
        rw [c3] at fin3
        exact ⟨G3, d, d', z, rel3.wk, o1'.get rel3 c1, o3.get rel3 c2, c3, fun v H' G' ext ok => fin3 v H' G' ext.step (ext.rel rel3) ok⟩
theorem one_vw {f : Sl → R Rv} {k : D → Option Rv} {Q : VK} (h : Rdg S n W (vw1 a f k) (fun _ => RvOk S n) σ H Q) : Rdg S n W (vw a f) (VwOk S) σ H fun x H1 => r1 S n k x H1 Q := by
  obtain ⟨G, st, rel, fin⟩ := h
  refine ⟨G, st, rel, ?_⟩
  unfold vw1 at fin
  refine (Fin.bind (Ok1 := VwOk S σ) fin).imp fun w st' v H' G' e sp rel' o => .inr ⟨v, o, ?_⟩
  rintro ⟨w', G1, st1, e1, sp1, rel1, o1, fin1⟩
  cases c1 : w'.get st1 with
  | none => rw [c1] at fin1; exact fin1.elim
  | some d =>
    rw [c1] at fin1
    have fin1 : Fin S n W (R.opt (k d) st1) (RvOk S n) G1 H' σ Q := fin1
    cases c3 : k d with
    | none => rw [c3] at fin1; exact fin1.elim
    | some z =>
      rw [c3] at fin1
      exact ⟨G1, d, z, rel1.wk, o1.get rel1 c1, c3, fun v H' G' ext ok => fin1 v H' G' ext.step (ext.rel rel1) ok⟩
variable {a' b' c' : Expr} {pos : Pos}
theorem pe_binx {o : Operator} (hK : X.K = S.K) (ha : PE X a' (tVw T S n W a)) (hb : PE X b' (tVw T S n W b)) : PE X (.BinOp a' o b' pos) (tE T S n W (.bin o a b)) := by
  refine PE_imp (pe_op (op_bin (n := n) hK o) ha hb) fun σ H Q q => ?_
  have q : Rdg S n W (evE T (.bin o a b)) (fun _ => RvOk S n) σ H Q := q
  have e : evE T (.bin o a b) = vw2 a b (evE T a) (evE T b) (binD o) := funext fun st => by rw [evE]
  rw [e] at q
  exact two_vw q
theorem pe_cmpx {o : CmpOp} (hK : X.K = S.K) (hu : X.A.units + 64 < cLine) (ha : PE X a' (tVw T S n W a)) (hb : PE X b' (tVw T S n W b)) (hm : behindInMarks o b' = false) : PE X (.Compare a' [o] [b'] pos) (tE T S n W (.cmp o a b)) := by
  refine PE_imp (pe_cmpR (op_cmp (n := n) hK hu o) ha hb hm) fun σ H Q q => ?_
  have q : Rdg S n W (evE T (.cmp o a b)) (fun _ => RvOk S n) σ H Q := q
  have e : evE T (.cmp o a b) = vw2 a b (evE T a) (evE T b) (fun d e => bV (cmpD o d e)) := funext fun st => by rw [evE]
  rw [e] at q
  exact two_vw q
theorem pe_ixx (hK : X.K = S.K) (ha : PE X a' (tVw T S n W a)) (hb : PE X b' (tVw T S n W b)) (hp : PlainIx b') : PE X (.Subscript a' b' pos) (tE T S n W (.ix a b)) := by
  refine PE_imp (pe_ix (op_ix (n := n) hK) ha hb hp) fun σ H Q q => ?_
  have q : Rdg S n W (evE T (.ix a b)) (fun _ => RvOk S n) σ H Q := q
  have e : evE T (.ix a b) = vw2 a b (evE T a) (evE T b) (fun d e => (ixD d e).map fun x => (x, false)) := funext fun st => by rw [evE]
  rw [e] at q
  exact two_vw q
/-- from a value's reading to a test's -/
theorem bool_of {Q : Bool → Hp → Prop} {ev : Sl → R Rv} (h : Rdg S n W (fun st => (ev st).bind fun r st => match r.1 with
    | .bl b => .ok b st
    | _ => .bad) (fun _ _ _ b b' => b = b') σ H Q) : Rdg S n W ev (fun _ => RvOk S n) σ H fun x H1 => ∃ k, x = .bl k ∧ Q k H1 := by
  obtain ⟨G, st, rel, fin⟩ := h
  refine ⟨G, st, rel, ?_⟩
  refine (Fin.bind (Ok1 := RvOk S n) fin).imp fun r st' v H' G' e sp rel' o => .inr ⟨v, o, ?_⟩
  rintro ⟨r', G1, st1, e1, sp1, rel1, o1, fin1⟩
  obtain ⟨d, b⟩ := r'
  obtain ⟨G2, rel2, sp2, rp⟩ := froz rel1 o1
  cases d with
  | bl k =>
    cases rp
    exact ⟨k, rfl, fin1 k _ G2 sp2 rel2 rfl⟩
  | _ => exact fin1.elim
theorem pt_cmpx {o : CmpOp} (hK : X.K = S.K) (hu : X.A.units + 64 < cLine) (ha : PE X a' (tVw T S n W a)) (hb : PE X b' (tVw T S n W b)) (hm : behindInMarks o b' = false) : PT X (.Compare a' [o] [b'] pos) (tT T S n W (.cmp o a b)) := by
  refine PT_imp (pt_cmpR (op_cmp (n := n) hK hu o) ha hb hm) fun σ H Q q => ?_
  have q := bool_of q
  have e : evE T (.cmp o a b) = vw2 a b (evE T a) (evE T b) (fun d e => bV (cmpD o d e)) := funext fun st => by rw [evE]
  rw [e] at q
  exact two_vw q
theorem pt_any (he : PE X e (tE T S n W a)) (hp : ∀ whole, isTrue e X.env whole = (do let v ← whole; standAt e.pos; holding [v] (truthy v))) : PT X e (tT T S n W a) :=
  PT_imp (pt_val he hp) fun σ H Q q => bool_of q
end
end Nm
set_option maxRecDepth 100000
set_option maxHeartbeats 4000000
/-! Expressions, further. -/
namespace Nm
open PySem L2
open PySem.PyData (strOk)

section
variable {X : Cx} {S : Sr} {T : Tb} {n : Nat} {W : WX} {e e' : Expr} {a b c : Ex} {σ : St} {H : Hp} {a' b' c' : Expr} {pos : Pos}
/-! ### chains -/
theorem chain_vw {o o' : CmpOp} {f g h : Sl → R Rv} {Q : VK} (q : Rdg S n W (chE o o' a b c f g h) (fun _ => RvOk S n) σ H Q) :
    Rdg S n W (vw a f) (VwOk S) σ H fun x H1 => Rdg S n W (vw b g) (VwOk S) σ H1 fun y H2 => rB S n (fun d e => bV (cmpD o d e)) x y H2 fun z H3 => ∃ k, z = .bl k ∧
      (if k = true then Rdg S n W (vw c h) (VwOk S) σ H3 fun w' H4 => rB S n (fun d e => bV (cmpD o' d e)) y w' H4 Q else Q (.bl false) H3) := by
  obtain ⟨G, st, rel, fin⟩ := q
  refine ⟨G, st, rel, ?_⟩
  unfold chE at fin
  refine (Fin.bind (Ok1 := VwOk S σ) fin).imp fun w st' v H' G' e sp rel' o0 => .inr ⟨v, o0, ?_⟩
  rintro ⟨w', G1, st1, e1, sp1, rel1, o1, fin1⟩
  refine ⟨G1, st1, rel1, ?_⟩
  refine (Fin.bind (Ok1 := VwOk S σ) fin1).imp fun u st2 y H2 G2 e2 sp2 rel2 o2 => .inr ⟨y, o2, ?_⟩
  rintro ⟨u', G3, st3, e3, sp3, rel3, o3, fin3⟩
  have o1' := o1.stay sp3.stay
  cases c1 : w'.get st3 with
  | none => rw [c1] at fin3; exact fin3.elim
  | some d =>
    cases c2 : u'.get st3 with
    | none => rw [c1, c2] at fin3; exact fin3.elim
    | some d' =>
      rw [c1, c2] at fin3
      cases c3 : cmpD o d d' with
      | none =>
        have fin3 : Fin S n W (match cmpD o d d' with
          | none => .bad
          | some false => .ok (.bl false, false) st3
          | some true => (vw c h st3).bind fun x st => R.opt ((u'.get st).bind fun e => (x.get st).bind fun e' => bV (cmpD o' e e')) st) (RvOk S n) G3 H2 σ Q := fin3
        rw [c3] at fin3; exact fin3.elim
      | some k =>
        have fin3 : Fin S n W (match cmpD o d d' with
          | none => .bad
          | some false => .ok (.bl false, false) st3
          | some true => (vw c h st3).bind fun x st => R.opt ((u'.get st).bind fun e => (x.get st).bind fun e' => bV (cmpD o' e e')) st) (RvOk S n) G3 H2 σ Q := fin3
        rw [c3] at fin3
        refine ⟨G3, d, d', (.bl k, false), rel3.wk, o1'.get rel3 c1, o3.get rel3 c2, by show bV (cmpD o d d') = _; rw [c3]; rfl, fun v H4 G4 ext ok => ?_⟩
        have ok : Rep S G4 H4 (.bl k) v := ok
        cases ok
        refine ⟨k, rfl, ?_⟩
        have rel4 := ext.rel rel3
        cases k with
        | false => exact (Fin.step fin3 (ext.step (n := n))).pure rel4 (.bl false)
        | true =>
          refine ⟨G4, st3, rel4, ?_⟩
          refine (Fin.bind (Ok1 := VwOk S σ) (Fin.step fin3 (ext.step (n := n)))).imp fun x st5 v H5 G5 e5 sp5 rel5 o5 => .inr ⟨v, o5, ?_⟩
          rintro ⟨x', G6, st6, e6, sp6, rel6, o6, fin6⟩
          have o3' := (o3.stay ext.stay).stay sp6.stay
          cases c4 : u'.get st6 with
          | none => rw [c4] at fin6; exact fin6.elim
          | some d4 =>
            cases c5 : x'.get st6 with
            | none => rw [c4, c5] at fin6; exact fin6.elim
            | some d5 =>
              rw [c4, c5] at fin6
              have fin6 : Fin S n W (R.opt (bV (cmpD o' d4 d5)) st6) (RvOk S n) G6 H5 σ Q := fin6
              cases c6 : bV (cmpD o' d4 d5) with
              | none => rw [c6] at fin6; exact fin6.elim
              | some z =>
                rw [c6] at fin6
                exact ⟨G6, d4, d5, z, rel6.wk, o3'.get rel6 c4, o6.get rel6 c5, c6, fun v H' G' ext' ok' => fin6 v H' G' ext'.step (ext'.rel rel6) ok'⟩
theorem pe_chx {o o' : CmpOp} (hK : X.K = S.K) (hu : X.A.units + 64 < cLine) (ha : PE X a' (tVw T S n W a)) (hb : PE X b' (tVw T S n W b)) (hc : PE X c' (tVw T S n W c)) (hm : lastMarks [o, o'] [b', c'] = false) :
    PE X (.Compare a' [o, o'] [b', c'] pos) (tE T S n W (.chain o o' a b c)) := by
  refine PE_imp (pe_chain (op_cmp (n := n) hK hu o) (op_cmp (n := n) hK hu o') ha hb hc hm) fun σ H Q q => ?_
  have q : Rdg S n W (evE T (.chain o o' a b c)) (fun _ => RvOk S n) σ H Q := q
  have e : evE T (.chain o o' a b c) = chE o o' a b c (evE T a) (evE T b) (evE T c) := funext fun st => by rw [evE]
  rw [e] at q
  exact chain_vw q
theorem pt_chx {o o' : CmpOp} (hK : X.K = S.K) (hu : X.A.units + 64 < cLine) (ha : PE X a' (tVw T S n W a)) (hb : PE X b' (tVw T S n W b)) (hc : PE X c' (tVw T S n W c)) (hm : lastMarks [o, o'] [b', c'] = false) :
    PT X (.Compare a' [o, o'] [b', c'] pos) (tT T S n W (.chain o o' a b c)) := by
  refine PT_imp (pt_chain (op_cmp (n := n) hK hu o) (op_cmp (n := n) hK hu o') ha hb hc hm) fun σ H Q q => ?_
  have q := bool_of q
  have e : evE T (.chain o o' a b c) = chE o o' a b c (evE T a) (evE T b) (evE T c) := funext fun st => by rw [evE]
  rw [e] at q
  exact chain_vw q
/-! ### not, and, or, if -/
theorem evB_eq (a : Ex) (st : Sl) : evB T a st = (evE T a st).bind fun r st => match r.1 with
    | .bl b => .ok b st
    | _ => .bad := rfl
/-- what follows a value that is True or False -/
theorem val_then {k : Bool → Sl → R Rv} {Q : VK} (h : Rdg S n W (fun st => (evE T a st).bind fun r st => match r.1 with
    | .bl b => k b st
    | _ => .bad) (fun _ => RvOk S n) σ H Q) : tE T S n W a σ H fun x H1 => ∃ c, x = .bl c ∧ Rdg S n W (k c) (fun _ => RvOk S n) σ H1 Q := by
  obtain ⟨G, st, rel, fin⟩ := h
  refine ⟨G, st, rel, ?_⟩
  refine (Fin.bind (Ok1 := RvOk S n) fin).imp fun r st' v H' G' e sp rel' o => .inr ⟨v, o, ?_⟩
  rintro ⟨r', G1, st1, e1, sp1, rel1, o1, fin1⟩
  obtain ⟨d, b⟩ := r'
  obtain ⟨G2, rel2, sp2, rp⟩ := froz rel1 o1
  cases d with
  | bl c =>
    cases rp
    exact ⟨c, rfl, G2, st1, rel2, Fin.step (show Fin S n W (k c st1) (RvOk S n) G1 H' σ Q from fin1) sp2⟩
  | _ => exact fin1.elim
theorem test_then {α β : Type} {Ok : St → Gh → Hp → α → β → Prop} {k : Bool → Sl → R α} {Q : β → Hp → Prop} (h : Rdg S n W (fun st => (evE T a st).bind fun r st => match r.1 with
    | .bl b => k b st
    | _ => .bad) Ok σ H Q) : tT T S n W a σ H fun c H1 => Rdg S n W (k c) Ok σ H1 Q := by
  obtain ⟨G, st, rel, fin⟩ := h
  refine ⟨G, st, rel, ?_⟩
  have fin : Fin S n W ((evE T a st).bind fun r st => match r.1 with
    | .bl b => k b st
    | _ => .bad) (Ok σ) G H σ Q := fin
  show Fin S n W ((evE T a st).bind fun r st => match r.1 with
    | .bl b => .ok b st
    | _ => .bad) (fun _ _ b b' => b = b') G H σ _
  cases hr : evE T a st with
  | bad => rw [hr] at fin; exact fin.elim
  | err c p s => rw [hr] at fin; exact fin
  | ok r st' =>
    rw [hr] at fin
    obtain ⟨d, o⟩ := r
    cases d with
    | bl c =>
      intro v H' G' sp rel' e
      cases e
      exact ⟨G', st', rel', Fin.step (show Fin S n W (k c st') (Ok σ) G H σ Q from fin) sp⟩
    | _ => exact fin.elim
theorem ev_and (a b : Ex) : evE T (.and a b) = fun st => (evE T a st).bind fun r st => match r.1 with
    | .bl k => (match k with | true => evE T b st | false => .ok (.bl false, false) st)
    | _ => .bad := funext fun st => by
  rw [evE]
  congr 1
  funext r st
  cases r.1 with
  | bl k => cases k <;> rfl
  | _ => rfl
theorem ev_or (a b : Ex) : evE T (.or a b) = fun st => (evE T a st).bind fun r st => match r.1 with
    | .bl k => (match k with | true => .ok (.bl true, false) st | false => evE T b st)
    | _ => .bad := funext fun st => by
  rw [evE]
  congr 1
  funext r st
  cases r.1 with
  | bl k => cases k <;> rfl
  | _ => rfl
theorem ev_not (a : Ex) : evE T (.not a) = fun st => (evE T a st).bind fun r st => match r.1 with
    | .bl k => .ok (.bl (!k), false) st
    | _ => .bad := funext fun st => by
  rw [evE] <;> congr 1
theorem ev_ite (c a b : Ex) : evE T (.ite c a b) = fun st => (evE T c st).bind fun r st => match r.1 with
    | .bl k => (match k with | true => evE T a st | false => evE T b st)
    | _ => .bad := funext fun st => by
  rw [evE]
  congr 1
  funext r st
  cases r.1 with
  | bl k => cases k <;> rfl
  | _ => rfl
theorem pure_of {d : D} {v : V} {Q : VK} (h : Rdg S n W (fun st => .ok (d, false) st) (fun _ => RvOk S n) σ H Q) (hr : ∀ G, Rep S G H d v) : Q v H := by
  obtain ⟨G, st, rel, fin⟩ := h
  exact Fin.pure (a := (d, false)) fin rel (hr G)
theorem pe_notx (ha : PE X a' (tE T S n W a)) : PE X (.UnaryOp .Not a' pos) (tE T S n W (.not a)) := by
  refine PE_imp (pe_not ha) fun σ H Q q => ?_
  have q : Rdg S n W (evE T (.not a)) (fun _ => RvOk S n) σ H Q := q
  rw [ev_not] at q
  obtain ⟨G, st, rel, fin⟩ := val_then (k := fun k st => .ok (.bl (!k), false) st) q
  refine ⟨G, st, rel, fin.imp fun r st' v H' G' e sp rel' o => .inr ⟨v, o, ?_⟩⟩
  rintro ⟨c, rfl, q⟩
  exact ⟨c, rfl, pure_of q fun _ => .bl _⟩
theorem pe_andx {x y : Expr} {rest : List Expr} (ha : PE X x (tE T S n W a)) (hb : PE X (.BoolOp .And (y :: rest) pos) (tE T S n W b)) : PE X (.BoolOp .And (x :: y :: rest) pos) (tE T S n W (.and a b)) := by
  refine PE_imp (pe_and ha hb) fun σ H Q q => ?_
  have q : Rdg S n W (evE T (.and a b)) (fun _ => RvOk S n) σ H Q := q
  rw [ev_and] at q
  obtain ⟨G, st, rel, fin⟩ := val_then (k := fun k st => match k with | true => evE T b st | false => .ok (.bl false, false) st) q
  refine ⟨G, st, rel, fin.imp fun r st' v H' G' e sp rel' o => .inr ⟨v, o, ?_⟩⟩
  rintro ⟨c, rfl, q⟩
  refine ⟨c, rfl, ?_⟩
  cases c with
  | true => exact q
  | false => exact pure_of q fun _ => .bl _
theorem pe_orx {x y : Expr} {rest : List Expr} (ha : PE X x (tE T S n W a)) (hb : PE X (.BoolOp .Or (y :: rest) pos) (tE T S n W b)) : PE X (.BoolOp .Or (x :: y :: rest) pos) (tE T S n W (.or a b)) := by
  refine PE_imp (pe_or ha hb) fun σ H Q q => ?_
  have q : Rdg S n W (evE T (.or a b)) (fun _ => RvOk S n) σ H Q := q
  rw [ev_or] at q
  obtain ⟨G, st, rel, fin⟩ := val_then (k := fun k st => match k with | true => .ok (.bl true, false) st | false => evE T b st) q
  refine ⟨G, st, rel, fin.imp fun r st' v H' G' e sp rel' o => .inr ⟨v, o, ?_⟩⟩
  rintro ⟨c, rfl, q⟩
  refine ⟨c, rfl, ?_⟩
  cases c with
  | true => exact pure_of q fun _ => .bl _
  | false => exact q
theorem pe_itex (hc : PT X c' (tT T S n W c)) (ha : PE X a' (tE T S n W a)) (hb : PE X b' (tE T S n W b)) : PE X (.IfExp c' a' b' pos) (tE T S n W (.ite c a b)) := by
  refine PE_imp (pe_ifExp hc ha hb) fun σ H Q q => ?_
  have q : Rdg S n W (evE T (.ite c a b)) (fun _ => RvOk S n) σ H Q := q
  rw [ev_ite] at q
  obtain ⟨G, st, rel, fin⟩ := test_then (k := fun k st => match k with | true => evE T a st | false => evE T b st) q
  refine ⟨G, st, rel, fin.imp fun r st' v H' G' e sp rel' o => .inr ⟨v, o, fun q => ?_⟩⟩
  cases v with
  | true => exact q
  | false => exact q
theorem pt_notx (ha : PT X a' (tT T S n W a)) : PT X (.UnaryOp .Not a' pos) (tT T S n W (.not a)) := by
  refine PT_imp (pt_not ha) fun σ H Q q => ?_
  have q : Rdg S n W (evB T (.not a)) (fun _ _ _ b b' => b = b') σ H Q := q
  have e : evB T (.not a) = fun st => (evE T a st).bind fun r st => match r.1 with
    | .bl k => .ok (!k) st
    | _ => .bad := funext fun st => by
      rw [evB_eq, ev_not]
      show ((evE T a st).bind _).bind _ = _
      cases evE T a st with
      | bad => rfl
      | err c p s => rfl
      | ok r s =>
        obtain ⟨d, o⟩ := r
        cases d <;> rfl
  rw [e] at q
  obtain ⟨G, st, rel, fin⟩ := test_then (k := fun k st => .ok (!k) st) q
  refine ⟨G, st, rel, fin.imp fun r st' v H' G' e sp rel' o => .inr ⟨v, o, ?_⟩⟩
  rintro ⟨G1, st1, rel1, fin1⟩
  exact Fin.pure (a := !v) fin1 rel1 rfl
theorem evB_and (a b : Ex) : evB T (.and a b) = fun st => (evE T a st).bind fun r st => match r.1 with
    | .bl k => (match k with | true => evB T b st | false => .ok false st)
    | _ => .bad := funext fun st => by
  rw [evB_eq, ev_and]
  show ((evE T a st).bind _).bind _ = _
  cases evE T a st with
  | bad => rfl
  | err c p s => rfl
  | ok r s =>
    obtain ⟨d, o⟩ := r
    cases d with
    | bl k => cases k <;> rfl
    | _ => rfl
theorem evB_or (a b : Ex) : evB T (.or a b) = fun st => (evE T a st).bind fun r st => match r.1 with
    | .bl k => (match k with | true => .ok true st | false => evB T b st)
    | _ => .bad := funext fun st => by
  rw [evB_eq, ev_or]
  show ((evE T a st).bind _).bind _ = _
  cases evE T a st with
  | bad => rfl
  | err c p s => rfl
  | ok r s =>
    obtain ⟨d, o⟩ := r
    cases d with
    | bl k => cases k <;> rfl
    | _ => rfl
theorem pw_of {op : BoolOp} {vs : List Expr} {t : TT} (h : PT X (.BoolOp op vs pos) t) : PW X (.BoolOp op vs pos) t := ⟨fun whole pins s σ H Q I q => h.run pins s σ H Q I q⟩
theorem pt_andx {x y : Expr} {rest : List Expr} (ha : PT X x (tT T S n W a)) (hb : PT X (.BoolOp .And (y :: rest) pos) (tT T S n W b)) : PT X (.BoolOp .And (x :: y :: rest) pos) (tT T S n W (.and a b)) := by
  refine PT_imp (pw_and ha (pw_of hb)).pt fun σ H Q q => ?_
  have q : Rdg S n W (evB T (.and a b)) (fun _ _ _ b b' => b = b') σ H Q := q
  rw [evB_and] at q
  obtain ⟨G, st, rel, fin⟩ := test_then (k := fun k st => match k with | true => evB T b st | false => .ok false st) q
  refine ⟨G, st, rel, fin.imp fun r st' v H' G' e sp rel' o => .inr ⟨v, o, fun q => ?_⟩⟩
  cases v with
  | true => exact q
  | false =>
    obtain ⟨G1, st1, rel1, fin1⟩ := q
    exact Fin.pure (a := false) fin1 rel1 rfl
theorem pt_orx {x y : Expr} {rest : List Expr} (ha : PT X x (tT T S n W a)) (hb : PT X (.BoolOp .Or (y :: rest) pos) (tT T S n W b)) : PT X (.BoolOp .Or (x :: y :: rest) pos) (tT T S n W (.or a b)) := by
  refine PT_imp (pw_or ha (pw_of hb)).pt fun σ H Q q => ?_
  have q : Rdg S n W (evB T (.or a b)) (fun _ _ _ b b' => b = b') σ H Q := q
  rw [evB_or] at q
  obtain ⟨G, st, rel, fin⟩ := test_then (k := fun k st => match k with | true => .ok true st | false => evB T b st) q
  refine ⟨G, st, rel, fin.imp fun r st' v H' G' e sp rel' o => .inr ⟨v, o, fun q => ?_⟩⟩
  cases v with
  | true =>
    obtain ⟨G1, st1, rel1, fin1⟩ := q
    exact Fin.pure (a := true) fin1 rel1 rfl
  | false => exact q
theorem pt_one {op : BoolOp} {x : Expr} (ha : PT X x (tT T S n W a)) : PT X (.BoolOp op [x] pos) (tT T S n W a) := by
  cases op with
  | And => exact (pw_and1 ha).pt
  | Or => exact (pw_or1 ha).pt
end
end Nm
set_option maxRecDepth 100000
set_option maxHeartbeats 4000000
/-! Calls. -/
namespace Nm
open PySem L2
open PySem.PyData (strOk)

/-! ### a def's call: the callee's tags, the tags behind it -/
def callG (G : Gh) (H : Hp) (ba : Option (Addr × Nat)) : Gh := fun b => match H b with
  | none => .fro
  | some _ => match ba with
    | some (a, k) => if b = a then .slot k else if G b = .fro then .fro else .outer
    | none => if G b = .fro then .fro else .outer
def backG (G : Gh) (H : Hp) : Gh := fun b => match H b with
  | none => .fro
  | some _ => G b
section
variable {S : Sr} {G G' : Gh} {H H' : Hp} {n : Nat} {W : WX} {σ : St} {st : Sl}
theorem callG_wk {ba : Option (Addr × Nat)} : Wk (callG G H ba) H := fun b e => by
  unfold callG
  rw [e]
theorem backG_some {b : Addr} {o : HO} (e : H b = some o) : backG G H b = G b := by
  unfold backG
  rw [e]
theorem callG_fro {ba : Option (Addr × Nat)} {b : Addr} {o : HO} (e : H b = some o) (t : G b = .fro) (hb : ∀ a k, ba = some (a, k) → b ≠ a) : callG G H ba b = .fro := by
  unfold callG
  rw [e]
  cases ba with
  | none => show (if G b = .fro then Tag.fro else .outer) = _; rw [if_pos t]
  | some p =>
    obtain ⟨a, k⟩ := p
    show (if b = a then Tag.slot k else if G b = .fro then .fro else .outer) = _
    rw [if_neg (hb a k rfl), if_pos t]
theorem callG_else {ba : Option (Addr × Nat)} {b : Addr} {o : HO} (e : H b = some o) (t : G b ≠ .fro) (hb : ∀ a k, ba = some (a, k) → b ≠ a) : callG G H ba b = .outer := by
  unfold callG
  rw [e]
  cases ba with
  | none => show (if G b = .fro then Tag.fro else .outer) = _; rw [if_neg t]
  | some p =>
    obtain ⟨a, k⟩ := p
    show (if b = a then Tag.slot k else if G b = .fro then .fro else .outer) = _
    rw [if_neg (hb a k rfl), if_neg t]
theorem callG_bor {a b : Addr} {k : Nat} {o : HO} (e : H b = some o) (h : b = a) : callG G H (some (a, k)) b = .slot k := by
  unfold callG
  rw [e]
  show (if b = a then Tag.slot k else if G b = .fro then .fro else .outer) = _
  rw [if_pos h]
theorem ExOk.stay {c : Str} {p : List D} {cls : Value} {d : Option Addr} (s : Stay G G' H H') (hx : ∀ dd v, d = some dd → H dd = some (.xd [(("told" : Str), v)]) → H' dd = some (.xd [(("told" : Str), v)])) (h : ExOk S G H c p cls d) : ExOk S G' H' c p cls d := by
  obtain ⟨C, h1, h2, h3⟩ := h
  refine ⟨C, h1, h2, ?_⟩
  match p, h3 with
  | [], h3 => exact h3
  | [x], ⟨dd, v, e1, e2, e3⟩ => exact ⟨dd, v, e1, hx dd v e1 e2, e3.stay s⟩
  | _ :: _ :: _, h3 => exact h3.elim

/-- what is lent: the slot i, the parameter k, the object a -/
def Lent (S : Sr) (G : Gh) (H : Hp) (st : Sl) (σ : St) : Option (Nat × Addr × Nat) → Prop
  | none => True
  | some (i, a, k) => σ[i]? = some (some (.ref a)) ∧ G a = .slot i ∧ ∃ o, H a = some o
def lentA : Option (Nat × Addr × Nat) → Option (Addr × Nat)
  | none => none
  | some (_, a, k) => some (a, k)
theorem lent_ne {l : Option (Nat × Addr × Nat)} (h : Lent S G H st σ l) {b : Addr} (t : ∀ i, G b ≠ .slot i) : ∀ a k, lentA l = some (a, k) → b ≠ a := fun a k e z => by
  cases l with
  | none => cases e
  | some p =>
    obtain ⟨i, a', k'⟩ := p
    cases e
    exact t i (by rw [z]; exact h.2.1)
/-- behind a call -/
theorem back_step {l : Option (Nat × Addr × Nat)} (h : Lent S G H st σ l) (sp : Step 0 (callG G H (lentA l)) G' H H') : Step n G (backG G H) H H' := by
  refine ⟨fun b o e t => ⟨?_, backG_some e⟩, sp.there⟩
  have ns : ∀ i, G b ≠ .slot i := fun i z => by rw [z] at t; cases t
  by_cases hf : G b = .fro
  · exact (sp.keep b o e (by rw [callG_fro e hf (lent_ne h ns)]; rfl)).1
  · exact (sp.keep b o e (by rw [callG_else e hf (lent_ne h ns)]; rfl)).1
theorem back_stay {l : Option (Nat × Addr × Nat)} (h : Lent S G H st σ l) (sp : Step 0 (callG G H (lentA l)) G' H H') (hb : ∀ i a k, l = some (i, a, k) → G' a = .slot k) : Stay G' (backG G H) H' H' := fun a o e t => by
  refine ⟨e, ?_⟩
  cases q : H a with
  | none => unfold backG; rw [q]
  | some o0 =>
    rw [backG_some q]
    by_cases hf : G a = .fro
    · exact hf
    · exfalso
      by_cases hl : ∃ i k, l = some (i, a, k)
      · obtain ⟨i, k, hl⟩ := hl
        rw [hb i a k hl] at t; cases t
      · have hne : ∀ a' k, lentA l = some (a', k) → a ≠ a' := fun a' k e' z => by
          cases l with
          | none => cases e'
          | some p =>
            obtain ⟨i, b, k'⟩ := p
            cases e'
            exact hl ⟨i, k, by rw [z]⟩
        have ho := callG_else q hf hne
        have := (sp.keep a o0 q (by rw [ho]; rfl)).2
        rw [t, ho] at this; cases this
theorem back_slots {l : Option (Nat × Addr × Nat)} (rel : Rel S G H st σ) (h : Lent S G H st σ l) (sp : Step 0 (callG G H (lentA l)) G' H H') {j : Nat} {s : Slot} {o : Option V} (hj : ∀ i a k, l = some (i, a, k) → j ≠ i) (q : SlotOk S G H j s o) : SlotOk S (backG G H) H' j s o := by
  refine q.stay (fun a o e t => ?_) fun a o e t => ?_
  · have ns : ∀ i, G a ≠ .slot i := fun i z => by rw [z] at t; cases t
    exact ⟨(sp.keep a o e (by rw [callG_fro e t (lent_ne h ns)]; rfl)).1, (backG_some e).trans t⟩
  · refine ⟨(sp.keep a o e (by
      rw [callG_else e (by rw [t]; intro z; cases z) (fun a' k e' z => ?_)]
      · rfl
      · cases l with
        | none => cases e'
        | some p =>
          obtain ⟨i, b, k'⟩ := p
          have h2 : G b = .slot i := h.2.1
          obtain ⟨z1, z2⟩ : b = a' ∧ k' = k := by
            cases e'
            exact ⟨rfl, rfl⟩
          rw [z, ← z1, h2] at t
          cases t
          exact hj _ _ _ rfl rfl)).1, (backG_some e).trans t⟩
theorem back_rel {l : Option (Nat × Addr × Nat)} {st' : Sl} (rel : Rel S G H st σ) (h : Lent S G H st σ l) (sp : Step 0 (callG G H (lentA l)) G' H H') (hl : st'.length = st.length) (hs : ∀ j s, st'[j]? = some s → (st[j]? = some s ∧ ∀ i a k, l = some (i, a, k) → j ≠ i) ∨ ∃ o, σ[j]? = some o ∧ SlotOk S (backG G H) H' j s o) : Rel S (backG G H) H' st' σ := by
  refine ⟨hl.trans rel.len, fun b e => ?_, fun j s e => ?_⟩
  · unfold backG
    rw [sp.there b e]
  · rcases hs j s e with ⟨e1, hj⟩ | q
    · obtain ⟨o, e2, q⟩ := rel.at_ j s e1
      exact ⟨o, e2, back_slots rel h sp hj q⟩
    · exact q
end

/-! ### the promise is met -/
section
variable {S : Sr} {G : Gh} {H : Hp} {n : Nat} {W : WX} {σ : St} {st : Sl}
/-- the arguments in the callee's eyes -/
theorem args_ok {l : Option (Nat × Addr × Nat)} (rel : Rel S G H st σ) (hl : Lent S G H st σ l) (b : Option Nat) (hb : ∀ k, b = some k ↔ ∃ i a, l = some (i, a, k)) (hown : ∀ i a k, l = some (i, a, k) → ∃ (a0 : Nat) (xs : List D), (Vw.s i).get st = some (.lst xs) ∧ Own S G H (.slot i) (.lst xs) (.ref a)) : ∀ (ws : List Vw) (vs : List V) (ds : List D) (k : Nat), VwsOk S σ G H ws vs → Vw.gets st ws = some ds → allD ws b k = true →
    (∀ i a k', l = some (i, a, k') → ∀ j, ws[j]? = some (.s i) ∨ k + j ≠ k') → ArgsOk S (callG G H (lentA l)) H b k ds vs
  | [], [], ds, k, _, e, _, _ => by
    cases e
    trivial
  | [], _ :: _, _, _, h, _, _, _ => h.elim
  | _ :: _, [], _, _, h, _, _, _ => h.elim
  | w :: ws, v :: vs, ds, k, h, e, ha, hi => by
    have e' : (w.get st).bind (fun d => (Vw.gets st ws).map (d :: ·)) = some ds := e
    cases e1 : w.get st with
    | none => rw [e1] at e'; cases e'
    | some d =>
      rw [e1] at e'
      have e3 : (Vw.gets st ws).map (d :: ·) = some ds := e'
      cases e2 : Vw.gets st ws with
      | none => rw [e2] at e3; cases e3
      | some ds' =>
        rw [e2] at e3
        cases e3
        have ih : allD ws b (k + 1) = true → ArgsOk S (callG G H (lentA l)) H b (k + 1) ds' vs := fun q => args_ok rel hl b hb hown ws vs ds' (k + 1) h.2 e2 q fun i a k' el j => by
          rcases hi i a k' el (j + 1) with z | z
          · exact .inl (by simpa using z)
          · exact .inr (by omega)
        have hst : Stay G (callG G H (lentA l)) H H := fun a o e t => ⟨e, callG_fro e t (lent_ne hl fun i z => by rw [z] at t; cases t)⟩
        by_cases hk : b = some k
        · obtain ⟨i, a, el⟩ := (hb k).mp hk
          have hw : w = .s i := by
            rcases hi i a k el 0 with z | z
            · simpa using z
            · exact absurd rfl z
          subst hw
          have ha' : ((b == some k) && allD ws b (k + 1)) = true := ha
          refine ⟨?_, ih (Bool.and_eq_true_iff.mp ha').2⟩
          rw [if_pos hk]
          have hv : σ[i]? = some (some v) := h.1
          obtain ⟨a0, xs, hg, ho⟩ := hown i a k el
          rw [hg] at e1
          cases e1
          subst el
          rw [hl.1] at hv
          cases hv
          obtain ⟨a1, us, ea, hH, hG, hlen, rr⟩ := ho
          cases ea
          exact ⟨a, us, rfl, hH, callG_bor hH rfl, hlen, rr.stay hst⟩
        · cases w with
          | d x =>
            have ha' : allD ws b (k + 1) = true := ha
            refine ⟨?_, ih ha'⟩
            rw [if_neg hk]
            have z : x = d := Option.some.inj e1
            subst z
            exact Rep.stay hst h.1
          | s i =>
            have ha' : ((b == some k) && allD ws b (k + 1)) = true := ha
            have z := (Bool.and_eq_true_iff.mp ha').1
            exact absurd (by simpa using z) hk
theorem putS_at {i : Nat} {d : D} {st' : Sl} (h : putS st i d = some st') : st'.length = st.length ∧ (∃ s, st'[i]? = some s ∧ (s = .own d ∨ s = .bor d)) ∧ ∀ j, j ≠ i → st'[j]? = st[j]? := by
  unfold putS at h
  cases e : st[i]? with
  | none => rw [e] at h; cases h
  | some s =>
    have hi : i < st.length := (List.getElem?_eq_some_iff.mp e).1
    rw [e] at h
    cases s with
    | no => cases h
    | val _ => cases h
    | own _ => cases h; exact ⟨List.length_set, ⟨_, List.getElem?_set_self hi, .inl rfl⟩, fun j hj => List.getElem?_set_ne (Ne.symm hj)⟩
    | bor _ => cases h; exact ⟨List.length_set, ⟨_, List.getElem?_set_self hi, .inr rfl⟩, fun j hj => List.getElem?_set_ne (Ne.symm hj)⟩
theorem ownB_at {i : Nat} (rel : Rel S G H st σ) (h : ownB st i = true) : ∃ a xs, σ[i]? = some (some (.ref a)) ∧ getS st i = some (.lst xs) ∧ Own S G H (.slot i) (.lst xs) (.ref a) := by
  unfold ownB at h
  split at h
  · rename_i xs e
    obtain ⟨o, e1, v, rfl, q⟩ := rel.at_ i _ e
    obtain ⟨a, us, rfl, q'⟩ := id q
    exact ⟨a, xs, e1, by unfold getS; rw [e]; rfl, ⟨a, us, rfl, q'⟩⟩
  · rename_i xs e
    obtain ⟨o, e1, v, rfl, q⟩ := rel.at_ i _ e
    obtain ⟨a, us, rfl, q'⟩ := id q
    exact ⟨a, xs, e1, by unfold getS; rw [e]; rfl, ⟨a, us, rfl, q'⟩⟩
  · cases h
theorem gets_length : ∀ {ws : List Vw} {ds : List D}, Vw.gets st ws = some ds → ds.length = ws.length
  | [], ds, e => by cases e; rfl
  | w :: ws, ds, e => by
    have e' : (w.get st).bind (fun d => (Vw.gets st ws).map (d :: ·)) = some ds := e
    cases e1 : w.get st with
    | none => rw [e1] at e'; cases e'
    | some d =>
      rw [e1] at e'
      have e3 : (Vw.gets st ws).map (d :: ·) = some ds := e'
      cases e2 : Vw.gets st ws with
      | none => rw [e2] at e3; cases e3
      | some ds' =>
        rw [e2] at e3
        cases e3
        rw [List.length_cons, List.length_cons, gets_length e2]
theorem vws_at : ∀ {ws : List Vw} {vs : List V} {k : Nat} {w : Vw}, VwsOk S σ G H ws vs → ws[k]? = some w → ∃ v, vs[k]? = some v ∧ VwOk S σ G H w v
  | [], [], _, _, _, e => by simp at e
  | w0 :: ws, v0 :: vs, 0, w, h, e => by
    have z : w0 = w := by simpa using e
    subst z
    exact ⟨v0, rfl, h.1⟩
  | w0 :: ws, v0 :: vs, k + 1, w, h, e => by
    obtain ⟨v, e1, q⟩ := vws_at (k := k) h.2 (by simpa using e)
    exact ⟨v, by simpa using e1, q⟩
  | [], _ :: _, _, _, h, _ => h.elim
  | _ :: _, [], _, _, h, _ => h.elim
/-- THE CALL -/
theorem call_ok {F : Fn} {ws : List Vw} {vs : List V} {Q : VK} (rel : Rel S G H st σ) (hv : VwsOk S σ G H ws vs) (fin : Fin S n W (callE F ws st) (RvOk S n) G H σ Q) : spF S F vs H Q (WE W σ) := by
  unfold callE at fin
  cases hb : borSlot F.bor ws with
  | none => rw [hb] at fin; exact fin.elim
  | some b =>
    rw [hb] at fin
    have fin : Fin S n W (if (allD ws F.bor 0 && decide (ws.length = F.n) && lentB st b) = true then (match (Vw.gets st ws).bind F.sem with
      | some r => backCall st b r
      | none => .bad) else .bad) (RvOk S n) G H σ Q := fin
    by_cases c : (allD ws F.bor 0 && decide (ws.length = F.n) && lentB st b) = true
    · rw [if_pos c] at fin
      obtain ⟨c0, c3⟩ := Bool.and_eq_true_iff.mp c
      obtain ⟨c1, c2⟩ := Bool.and_eq_true_iff.mp c0
      cases hg : Vw.gets st ws with
      | none => rw [hg] at fin; exact fin.elim
      | some ds =>
        rw [hg] at fin
        have fin : Fin S n W (match F.sem ds with
          | some r => backCall st b r
          | none => .bad) (RvOk S n) G H σ Q := fin
        have hlen : ds.length = F.n := (gets_length hg).trans (of_decide_eq_true c2)
        -- what is lent
        obtain ⟨l, hl, hbk, hbl, hown, hpos⟩ : ∃ l : Option (Nat × Addr × Nat), Lent S G H st σ l ∧ (∀ k, F.bor = some k ↔ ∃ i a, l = some (i, a, k)) ∧ (b = l.map (·.1)) ∧ (∀ i a k, l = some (i, a, k) → ∃ (a0 : Nat) (xs : List D), (Vw.s i).get st = some (.lst xs) ∧ Own S G H (.slot i) (.lst xs) (.ref a)) ∧
            (∀ i a k', l = some (i, a, k') → ws[k']? = some (.s i)) := by
          cases hF : F.bor with
          | none =>
            rw [hF] at hb
            cases hb
            exact ⟨none, trivial, fun k => ⟨fun z => (by cases z), fun ⟨_, _, z⟩ => (by cases z)⟩, rfl, fun _ _ _ z => (by cases z), fun _ _ _ z => (by cases z)⟩
          | some k =>
            rw [hF] at hb
            have hb' : (match ws[k]? with
              | some (.s i) => some (some i)
              | _ => none) = some b := hb
            cases hw : ws[k]? with
            | none => rw [hw] at hb'; cases hb'
            | some w =>
              rw [hw] at hb'
              cases w with
              | d x => cases hb'
              | s i =>
                cases hb'
                obtain ⟨a, xs, e1, e2, ho⟩ := ownB_at rel c3
                obtain ⟨a1, us, ea, hH, hG, _⟩ := id ho
                cases ea
                refine ⟨some (i, a, k), ⟨e1, hG, _, hH⟩, fun k' => ⟨fun z => (by cases z; exact ⟨i, a, rfl⟩), fun ⟨_, _, z⟩ => (by cases z; rfl)⟩, rfl, fun _ _ _ z => (by cases z; exact ⟨0, xs, e2, ho⟩), fun _ _ _ z => (by cases z; exact hw)⟩
        refine ⟨callG G H (lentA l), ds, callG_wk, args_ok rel hl F.bor hbk hown ws vs ds 0 hv hg c1 (fun i a k' el j => ?_), hlen, ?_⟩
        · by_cases hj : j = k'
          · subst hj; exact .inl (hpos i a j el)
          · exact .inr (by omega)
        · -- behind it
          have outs : ∀ {G' : Gh} {H' : Hp} {out : D}, OutOk S G' H' F.bor vs out → (∀ i a k, l = some (i, a, k) → G' a = .slot k ∧ ∃ xs us, out = .lst xs ∧ H' a = some (.lst us) ∧ xs.length ≤ LIM ∧ Reps S G' H' xs us) := fun {G' H' out} ho i a k el => by
            have hF := (hbk k).mpr ⟨i, a, el⟩
            rw [hF] at ho
            obtain ⟨v, e1, q⟩ := ho
            obtain ⟨v', e2, q2⟩ := vws_at hv (hpos i a k el)
            rw [e1] at e2
            cases e2
            subst el
            have q2 : σ[i]? = some (some v) := q2
            rw [hl.1] at q2
            cases q2
            cases out with
            | lst xs =>
              obtain ⟨a1, us, ea, hH, hG, hz, rr⟩ := q
              cases ea
              exact ⟨hG, xs, us, rfl, hH, hz, rr⟩
            | _ => exact q.elim
          have rels : ∀ {G' : Gh} {H' : Hp} {out : D} {st' : Sl}, Step 0 (callG G H (lentA l)) G' H H' → OutOk S G' H' F.bor vs out → (match b with
              | none => st' = st
              | some i => putS st i out = some st') → Rel S (backG G H) H' st' σ ∧ Stay G' (backG G H) H' H' := fun {G' H' out st'} sp ho hst => by
            have hs := back_stay hl sp fun i a k el => (outs ho i a k el).1
            refine ⟨?_, hs⟩
            cases l with
            | none =>
              cases hbl
              cases hst
              exact back_rel rel hl sp rfl fun j s e => .inl ⟨e, fun _ _ _ z => (by cases z)⟩
            | some p =>
              obtain ⟨i, a, k⟩ := p
              cases hbl
              have hst : putS st i out = some st' := hst
              obtain ⟨p1, ⟨s, p2, p3⟩, p4⟩ := putS_at hst
              obtain ⟨o1, xs, us, rfl, o2, o3, o4⟩ := outs ho i a k rfl
              refine back_rel rel hl sp p1 fun j s' e => ?_
              by_cases hj : j = i
              · subst hj
                rw [p2] at e
                cases e
                obtain ⟨oo, hoo⟩ := hl.2.2
                have O : Own S (backG G H) H' (.slot j) (.lst xs) (.ref a) := ⟨a, us, rfl, o2, (backG_some hoo).trans hl.2.1, o3, o4.stay hs⟩
                refine .inr ⟨_, hl.1, ?_⟩
                rcases p3 with rfl | rfl
                · exact ⟨_, rfl, O⟩
                · exact ⟨_, rfl, O⟩
              · rw [p4 j hj] at e
                exact .inl ⟨e, fun _ _ _ z => (by cases z; exact hj)⟩
          cases hs : F.sem ds with
          | none => rw [hs] at fin; exact fin.elim
          | some r =>
            rw [hs] at fin
            have fin : Fin S n W (backCall st b r) (RvOk S n) G H σ Q := fin
            cases r with
            | ok d out =>
              intro v H' G' sp wk' rp ho
              cases b with
              | none =>
                obtain ⟨rl, sy⟩ := rels (st' := st) sp ho rfl
                exact fin v H' (backG G H) (back_step hl sp) rl (rp.stay sy)
              | some i =>
                have fin : Fin S n W (match putS st i out with
                  | some st' => .ok (d, false) st'
                  | none => .bad) (RvOk S n) G H σ Q := fin
                cases hp : putS st i out with
                | none => rw [hp] at fin; exact fin.elim
                | some st' =>
                  rw [hp] at fin
                  obtain ⟨rl, sy⟩ := rels (st' := st') sp ho hp
                  exact fin v H' (backG G H) (back_step hl sp) rl (rp.stay sy)
            | err cc p out =>
              intro cls dd H' G' sp wk' ex ho
              cases b with
              | none =>
                obtain ⟨rl, sy⟩ := rels (st' := st) sp ho rfl
                exact fin cls dd H' (backG G H) (back_step hl sp) rl (ex.stay sy fun _ _ _ e => e)
              | some i =>
                have fin : Fin S n W (match putS st i out with
                  | some st' => .err cc p st'
                  | none => .bad) (RvOk S n) G H σ Q := fin
                cases hp : putS st i out with
                | none => rw [hp] at fin; exact fin.elim
                | some st' =>
                  rw [hp] at fin
                  obtain ⟨rl, sy⟩ := rels (st' := st') sp ho hp
                  exact fin cls dd H' (backG G H) (back_step hl sp) rl (ex.stay sy fun _ _ _ e => e)
    · rw [if_neg c] at fin; exact fin.elim
end
end Nm
set_option maxRecDepth 100000
set_option maxHeartbeats 4000000
/-! Slices, calls of built-ins, methods, calls of defs. -/
namespace Nm
open PySem L2
open PySem.PyData (strOk)

section
variable {X : Cx} {S : Sr} {T : Tb} {n : Nat} {W : WX} {e e' : Expr} {a b c : Ex} {σ : St} {H : Hp} {a' b' c' : Expr} {p pos : Pos} {es : List Expr} {as : List Ex}
/-! ### slices -/
def tOpt (T : Tb) (S : Sr) (n : Nat) (W : WX) (a : Ex) : TO := Rdg S n W (op a (evE T a)) fun _ _ _ o o' => o = o'
def isNil : Ex → Bool
  | .nil => true
  | _ => false
theorem po_nil : PO X none (tOpt T S n W .nil) := by
  refine ⟨fun pins s σ H Q I h => (po_none (X := X)).run pins s σ H Q I ?_⟩
  obtain ⟨G, st, rel, fin⟩ := h
  exact Fin.pure (a := none) fin rel rfl
theorem po_x (hn : isNil a = false) (he : PE X e (tE T S n W a)) : PO X (some e) (tOpt T S n W a) := by
  refine ⟨fun pins s σ H Q I h => (po_some he).run pins s σ H Q I ?_⟩
  obtain ⟨G, st, rel, fin⟩ := h
  have e0 : op a (evE T a) st = (evE T a st).bind fun r st => match r.1 with
    | .int i => .ok (some i) st
    | _ => .bad := by cases a <;> first | rfl | cases hn
  rw [e0] at fin
  refine ⟨G, st, rel, (Fin.bind (Ok1 := RvOk S n) fin).imp fun r st' v H' G' e sp rel' o => .inr ⟨v, o, ?_⟩⟩
  rintro ⟨r', G1, st1, e1, sp1, rel1, o1, fin1⟩
  obtain ⟨d, b⟩ := r'
  obtain ⟨G2, rel2, sp2, rp⟩ := froz rel1 o1
  cases d with
  | int i =>
    cases rp
    exact ⟨i, rfl, fin1 (some i) _ G2 sp2 rel2 rfl⟩
  | _ => exact fin1.elim
theorem pe_slx {lo hi : Option Expr} {p2 : Pos} (hK : X.K = S.K) (ha : PE X a' (tVw T S n W a)) (hl : PO X lo (tOpt T S n W b)) (hh : PO X hi (tOpt T S n W c)) : PE X (.Subscript a' (.Slice lo hi none p2) pos) (tE T S n W (.sl a b c)) := by
  refine PE_imp (pe_slice (op_sl (n := n) hK) ha hl hh) fun σ H Q q => ?_
  obtain ⟨G, st, rel, fin⟩ := q
  rw [evE] at fin
  refine ⟨G, st, rel, (Fin.bind (Ok1 := VwOk S σ) fin).imp fun w st' v H' G' e sp rel' o => .inr ⟨v, o, ?_⟩⟩
  rintro ⟨w', G1, st1, e1, sp1, rel1, o1, fin1⟩
  refine ⟨G1, st1, rel1, (Fin.bind (Ok1 := fun _ _ o o' => o = o') fin1).imp fun l st2 l' H2 G2 e2 sp2 rel2 o2 => .inr ⟨l', o2, ?_⟩⟩
  rintro ⟨l0, G3, st3, e3, sp3, rel3, rfl, fin3⟩
  refine ⟨G3, st3, rel3, (Fin.bind (Ok1 := fun _ _ o o' => o = o') fin3).imp fun h st4 h' H4 G4 e4 sp4 rel4 o4 => .inr ⟨h', o4, ?_⟩⟩
  rintro ⟨h0, G5, st5, e5, sp5, rel5, rfl, fin5⟩
  have o1' := (o1.stay sp3.stay).stay sp5.stay
  cases c1 : w'.get st5 with
  | none => rw [c1] at fin5; exact fin5.elim
  | some d =>
    rw [c1] at fin5
    have fin5 : Fin S n W (R.opt (slD d l0 h0) st5) (RvOk S n) G5 H4 σ Q := fin5
    cases c3 : slD d l0 h0 with
    | none => rw [c3] at fin5; exact fin5.elim
    | some z =>
      rw [c3] at fin5
      exact ⟨G5, d, z, rel5.wk, o1'.get rel5 c1, c3, fun v H' G' ext ok => fin5 v H' G' ext.step (ext.rel rel5) ok⟩
/-! ### isinstance -/
theorem pe_isx {t : Str} {p1 p2 : Pos} (hK : X.K = S.K) (ha : PE X a' (tVw T S n W a)) (hs : ∀ y q, a' ≠ .Starred y q) (hg : Gl X "isinstance") (hm : X.mg "isinstance" = none) (hgt : Gl X t) (hmt : t ∈ isiN → X.mg t = none) (hnm : nmB t = true) :
    PE X (.Call (.Name "isinstance" p1) [a', .Name t p2] [] pos) (tE T S n W (.isi t a)) := by
  by_cases ht : t ∈ isiN
  · have hc : t = "bool" ∨ t = "int" ∨ t = "str" ∨ t = "tuple" := by
      have := ht
      unfold isiN at this
      simpa using this
    obtain ⟨ty, hty⟩ : ∃ ty, bootBuiltins t = some (.type ty) := by
      rcases hc with rfl | rfl | rfl | rfl
      · exact ⟨"bool", by decide +kernel⟩
      · exact ⟨"int", by decide +kernel⟩
      · exact ⟨"str", by decide +kernel⟩
      · exact ⟨"tuple", by decide +kernel⟩
    have n1 : (t == ("__debug__" : Str)) = false := by
      unfold nmB at hnm
      simp only [Bool.and_eq_true, Bool.not_eq_true'] at hnm
      exact hnm.1.1
    have n2 : t ≠ "__name__" := by
      unfold nmB at hnm
      simp only [Bool.and_eq_true, Bool.not_eq_true'] at hnm
      exact fun z => by
        have := hnm.2
        rw [z] at this
        simp at this
    have hpt : PE X (.Name t p2) (tC (.ty ty)) := pe_bltn hgt (hmt ht) hty rfl n2 n1
    refine PE_imp (pe_callB (op_isi (n := n) hK t) hg hm PyProof.Rows.boot_isinstance (pa_cons ha (pa_cons hpt pa_nil) (starPlain hs)) (by decide) (by decide) (starPlain hs) rfl) fun σ H Q q => ?_
    have q : Rdg S n W (evE T (.isi t a)) (fun _ => RvOk S n) σ H Q := q
    have e : evE T (.isi t a) = vw1 a (evE T a) (fun d => bV (isiD t d)) := funext fun st => by rw [evE]
    rw [e] at q
    obtain ⟨G, st, rel, fin⟩ := one_vw q
    refine ⟨G, st, rel, fin.imp fun w st' v H' G' e sp rel' o => .inr ⟨v, o, fun q => ?_⟩⟩
    exact ⟨v, .ty ty, rfl, fun ty' e' => by rw [hty] at e'; cases e'; rfl, q⟩
  · refine ⟨fun pins s σ H Q I q => ?_⟩
    obtain ⟨G, st, rel, fin⟩ := q
    have e : evE T (.isi t a) st = (vw a (evE T a) st).bind fun w st => R.opt ((w.get st).bind fun d => bV (isiD t d)) st := by rw [evE]; rfl
    rw [e] at fin
    have e2 : ∀ d, isiD t d = none := fun d => by unfold isiD; rw [if_neg ht]
    -- the argument may raise, else nothing is known
    refine PyProof.Rows.Call_ (ld_blt I hg hm PyProof.Rows.boot_isinstance ?_)
    refine PyProof.Rows.callWith_builtin1 ?_ (starPlain hs) rfl
    have e3 : starEach [a', .Name t p2] X.env = (false, eval a' X.env) :: starEach [.Name t p2] X.env := starPlain hs
    rw [e3]
    show wpAny _ _ (spliced ((false, eval a' X.env) :: backTo pos (starEach [.Name t p2] X.env))) _ _ s
    refine Calls.spliced_cons (thn (ha.run pins s σ H (fun _ _ => False) I ⟨G, st, rel, (Fin.bind (Ok1 := VwOk S σ) fin).imp fun w st' v H' G' e sp rel' o => .inr ⟨v, o, ?_⟩⟩) fun u s1 ⟨x, H1, I1, r1, z⟩ => z.elim)
    rintro ⟨w', G1, st1, e1, sp1, rel1, o1, fin1⟩
    cases c1 : w'.get st1 with
    | none => rw [c1] at fin1; exact fin1
    | some d =>
      rw [c1] at fin1
      have fin1 : Fin S n W (R.opt (bV (isiD t d)) st1) (RvOk S n) G1 H' σ Q := fin1
      rw [e2 d] at fin1
      exact fin1
/-! ### built-ins by arguments -/
theorem args_vw {k : List D → Option Rv} {Q : VK} (h : Rdg S n W (fun st => (evVs T as st).bind fun ws st => R.opt ((Vw.gets st ws).bind k) st) (fun _ => RvOk S n) σ H Q) : tVs T S n W as σ H fun vs H1 => rA S n k vs H1 Q := by
  obtain ⟨G, st, rel, fin⟩ := h
  refine ⟨G, st, rel, (Fin.bind (Ok1 := VwsOk S σ) fin).imp fun w st' v H' G' e sp rel' o => .inr ⟨v, o, ?_⟩⟩
  rintro ⟨ws, G1, st1, e1, sp1, rel1, o1, fin1⟩
  cases c1 : Vw.gets st1 ws with
  | none => rw [c1] at fin1; exact fin1.elim
  | some ds =>
    rw [c1] at fin1
    have fin1 : Fin S n W (R.opt (k ds) st1) (RvOk S n) G1 H' σ Q := fin1
    cases c3 : k ds with
    | none => rw [c3] at fin1; exact fin1.elim
    | some z =>
      rw [c3] at fin1
      exact ⟨G1, ds, z, rel1.wk, o1.gets rel1 c1, c3, fun v H' G' ext ok => fin1 v H' G' ext.step (ext.rel rel1) ok⟩
theorem anyPlain {env : Env} {cp : Pos} : ∀ {es : List Expr}, (∀ x ∈ es, ∀ y q, x ≠ .Starred y q) → (backTo cp (starEach es env)).any (·.1) = false
  | [], _ => rfl
  | x :: xs, h => by
    rw [starPlain (h x List.mem_cons_self)]
    show (false || (backTo cp (starEach xs env)).any (·.1)) = false
    rw [anyPlain fun y hy => h y (List.mem_cons_of_mem _ hy)]
    rfl
theorem pe_bix {f : Str} {x : Expr} {xs : List Expr} {p1 : Pos} (hK : X.K = S.K) (hc : X.calm = true) (hf : f ∈ biNames) (hg : Gl X f) (hm : X.mg f = none) (hs : ∀ y ∈ x :: xs, ∀ z q, y ≠ .Starred z q) (ha : PA X (x :: xs) (tVs T S n W as)) : PE X (.Call (.Name f p1) (x :: xs) [] pos) (tE T S n W (.bi f as)) := by
  have s1 := starPlain (env := X.env) (rest := xs) (hs x List.mem_cons_self)
  have s2 : (backTo pos (starEach xs X.env)).any (·.1) = false := anyPlain fun y hy => hs y (List.mem_cons_of_mem _ hy)
  have hc' : f = "len" ∨ f = "all" ∨ f = "any" ∨ f = "tuple" ∨ f = "list" := by
    have := hf
    unfold biNames at this
    simpa using this
  have rd : ∀ (k : List D → Option Rv), biD f = k → ∀ σ H Q, tE T S n W (.bi f as) σ H Q → tCB (rA S n k) (tVs T S n W as) σ H Q := fun k hk σ H Q q => by
    have q : Rdg S n W (evE T (.bi f as)) (fun _ => RvOk S n) σ H Q := q
    have e : evE T (.bi f as) = fun st => (evVs T as st).bind fun ws st => R.opt ((Vw.gets st ws).bind k) st := funext fun st => by rw [evE, hk]
    rw [e] at q
    exact args_vw q
  rcases hc' with rfl | rfl | rfl | rfl | rfl
  · exact PE_imp (pe_callB (op_len (n := n) hK) hg hm PySem.boot_len ha (by decide) (by decide) s1 s2) (rd lenD (by unfold biD; rw [if_pos rfl]))
  · exact PE_imp (pe_callB (op_all (n := n) hc) hg hm PyProof.Rows.boot_all ha (by decide) (by decide) s1 s2) (rd allD' (by unfold biD; rw [if_neg (by decide), if_pos rfl]))
  · exact PE_imp (pe_callB (op_any (n := n) hc) hg hm PyProof.Rows.boot_any ha (by decide) (by decide) s1 s2) (rd anyD' (by unfold biD; rw [if_neg (by decide), if_neg (by decide), if_pos rfl]))
  · exact PE_imp (pe_callTy (op_tuple (n := n) hK) hg hm PyProof.Rows.boot_tuple ha (by decide) (by decide) s1 s2) (rd tupleD (by unfold biD; rw [if_neg (by decide), if_neg (by decide), if_neg (by decide), if_pos rfl]))
  · exact PE_imp (pe_callTy (op_list (n := n) hK) hg hm PyProof.Rows.boot_list ha (by decide) (by decide) s1 s2) (rd listD (by unfold biD; rw [if_neg (by decide), if_neg (by decide), if_neg (by decide), if_neg (by decide), if_pos rfl]))
/-! ### list(range(..)) -/
theorem rgV_reps {G : Gh} {H : Hp} (i j : Int) : Reps S G H (rangeD i (j - i).toNat) (rgV i j) := by
  unfold rangeD rgV
  have : ∀ l : List Nat, Reps S G H (l.map fun (k : Nat) => D.int (i + (k : Int))) (l.map fun (k : Nat) => V.int (i + (k : Nat))) := fun l => by
    induction l with
    | nil => exact .nil
    | cons k r ih => exact .cons (.int _) ih
  exact this _
theorem pe_rg1 {x : Expr} {p1 p2 p3 : Pos} (hc : X.calm = true) (hg : Gl X "list") (hm : X.mg "list" = none) (hg' : Gl X "range") (hm' : X.mg "range" = none) (ha : PE X x (tE T S n W a)) (hs : ∀ y q, x ≠ .Starred y q) : PE X (.Call (.Name "list" p1) [.Call (.Name "range" p2) [x] [] p3] [] pos) (tE T S n W (.rg [a])) := by
  refine PE_imp (pe_listRg hc hg hm (prg_1 hg' hm' ha (starPlain hs)) rfl) fun σ H Q q => ?_
  obtain ⟨G, st, rel, fin⟩ := q
  rw [evE, evEs_cons] at fin
  have e0 : ((evE T a st).bind fun r st => (evEs T [] st).bind fun ds st => .ok (r.1 :: ds) st).bind (fun ds st => R.opt ((itemsOf .range ds).map fun xs => ((.lst xs, true) : Rv)) st) = (evE T a st).bind fun r st => R.opt ((itemsOf .range [r.1]).map fun xs => ((.lst xs, true) : Rv)) st := by
    cases evE T a st with
    | bad => rfl
    | err c p s => rfl
    | ok r s => simp only [R.bind, evEs_nil]
  rw [e0] at fin
  refine ⟨G, st, rel, (Fin.bind (Ok1 := RvOk S n) fin).imp fun r st' v H' G' e sp rel' o => .inr ⟨v, o, ?_⟩⟩
  rintro ⟨r', G1, st1, e1, sp1, rel1, o1, fin1⟩
  obtain ⟨d, b⟩ := r'
  obtain ⟨G2, rel2, sp2, rp⟩ := froz rel1 o1
  cases d with
  | int j =>
    cases rp
    have fin1 : Fin S n W (R.opt ((if (intOk j && decide (j.toNat ≤ LIM)) = true then some (rangeD 0 j.toNat) else none).map fun xs => ((.lst xs, true) : Rv)) st1) (RvOk S n) G1 H' σ Q := fin1
    by_cases c : (intOk j && decide (j.toNat ≤ LIM)) = true
    · rw [if_pos c] at fin1
      obtain ⟨c1, c2⟩ := Bool.and_eq_true_iff.mp c
      obtain ⟨i1, i2⟩ := intOk_of c1
      have c3 : j ≤ 16777216 := by
        have c4 : j.toNat ≤ 16777216 := of_decide_eq_true c2
        omega
      refine ⟨j, rfl, ⟨by omega, by omega, i1, i2, by omega⟩, fun p hp => ?_⟩
      have e : j.toNat = (j - 0).toNat := by rw [Int.sub_zero]
      rw [e] at fin1
      refine finL (n := n) (G := G2) rel2.wk (fun v H2 G3 ext ok => fin1 v H2 G3 (sp2.trans ext.step) (ext.rel rel2) ok) hp ?_ (rgV_reps 0 j)
      rw [rangeD_length]
      show _ ≤ 16777216
      omega
    · rw [if_neg c] at fin1; exact fin1.elim
  | _ => exact fin1.elim
theorem pe_rg2 {x y : Expr} {p1 p2 p3 : Pos} (hc : X.calm = true) (hg : Gl X "list") (hm : X.mg "list" = none) (hg' : Gl X "range") (hm' : X.mg "range" = none) (ha : PE X x (tE T S n W a)) (hb : PE X y (tE T S n W b)) (hs : ∀ z q, x ≠ .Starred z q) (hs' : ∀ z q, y ≠ .Starred z q) :
    PE X (.Call (.Name "list" p1) [.Call (.Name "range" p2) [x, y] [] p3] [] pos) (tE T S n W (.rg [a, b])) := by
  have e2 : starEach [y] X.env = [(false, eval y X.env)] := starPlain hs'
  refine PE_imp (pe_listRg hc hg hm (prg_2 hg' hm' ha hb (starPlain hs) (starPlain hs') (by rw [e2]; rfl)) rfl) fun σ H Q q => ?_
  obtain ⟨G, st, rel, fin⟩ := q
  rw [evE, evEs_cons] at fin
  have e0 : ((evE T a st).bind fun r st => (evEs T [b] st).bind fun ds st => .ok (r.1 :: ds) st).bind (fun ds st => R.opt ((itemsOf .range ds).map fun xs => ((.lst xs, true) : Rv)) st) = (evE T a st).bind fun r st => (evE T b st).bind fun u st => R.opt ((itemsOf .range [r.1, u.1]).map fun xs => ((.lst xs, true) : Rv)) st := by
    cases evE T a st with
    | bad => rfl
    | err c p s => rfl
    | ok r s =>
      simp only [R.bind, evEs_cons]
      cases evE T b s with
      | bad => rfl
      | err c p s => rfl
      | ok u s => simp only [evEs_nil]
  rw [e0] at fin
  refine ⟨G, st, rel, (Fin.bind (Ok1 := RvOk S n) fin).imp fun r st' v H' G' e sp rel' o => .inr ⟨v, o, ?_⟩⟩
  rintro ⟨r', G1, st1, e1, sp1, rel1, o1, fin1⟩
  obtain ⟨d, b0⟩ := r'
  obtain ⟨G2, rel2, sp2, rp⟩ := froz rel1 o1
  refine ⟨G2, st1, rel2, (Fin.bind (Ok1 := RvOk S n) (Fin.step fin1 sp2)).imp fun u st3 w H3 G3 e3 sp3 rel3 o3 => .inr ⟨w, o3, ?_⟩⟩
  rintro ⟨u', G4, st4, e4, sp4, rel4, o4, fin4⟩
  obtain ⟨d', b1⟩ := u'
  obtain ⟨G5, rel5, sp5, rp'⟩ := froz rel4 o4
  cases d with
  | int i =>
    cases rp
    cases d' with
    | int j =>
      cases rp'
      have fin4 : Fin S n W (R.opt ((if (intOk i && intOk j && decide ((j - i).toNat ≤ LIM)) = true then some (rangeD i (j - i).toNat) else none).map fun xs => ((.lst xs, true) : Rv)) st4) (RvOk S n) G4 H3 σ Q := fin4
      by_cases c : (intOk i && intOk j && decide ((j - i).toNat ≤ LIM)) = true
      · rw [if_pos c] at fin4
        obtain ⟨c0, c2⟩ := Bool.and_eq_true_iff.mp c
        obtain ⟨c1, c1'⟩ := Bool.and_eq_true_iff.mp c0
        obtain ⟨i1, i2⟩ := intOk_of c1
        obtain ⟨j1, j2⟩ := intOk_of c1'
        have c3 : j - i ≤ 16777216 := by
          have c4 : (j - i).toNat ≤ 16777216 := of_decide_eq_true c2
          omega
        refine ⟨i, j, rfl, rfl, ⟨i1, i2, j1, j2, by omega⟩, fun p hp => ?_⟩
        refine finL (n := n) (G := G5) rel5.wk (fun v H2 G3 ext ok => fin4 v H2 G3 (sp5.trans ext.step) (ext.rel rel5) ok) hp ?_ (rgV_reps i j)
        rw [rangeD_length]
        show _ ≤ 16777216
        omega
      · rw [if_neg c] at fin4; exact fin4.elim
    | _ => exact fin4.elim
  | _ => cases d' <;> exact fin4.elim
end
end Nm
set_option maxRecDepth 100000
set_option maxHeartbeats 4000000
/-! Methods, calls of defs, argument lists. -/
namespace Nm
open PySem L2
open PySem.PyData (strOk)

section
variable {X : Cx} {S : Sr} {T : Tb} {n : Nat} {W : WX} {e e' : Expr} {a b c : Ex} {σ : St} {H : Hp} {a' b' c' : Expr} {p pos : Pos} {es : List Expr} {as : List Ex}
/-! ### argument lists -/
theorem pa_nilE : PA X [] (tEs T S n W []) := by
  refine PA_imp pa_nil fun σ H Q q => ?_
  obtain ⟨G, st, rel, fin⟩ := q
  rw [evEs_nil] at fin
  exact Fin.pure (a := []) fin rel .nil
theorem pa_consE (hs : ∀ y q, e ≠ .Starred y q) (ha : PE X e (tE T S n W a)) (hr : PA X es (tEs T S n W as)) : PA X (e :: es) (tEs T S n W (a :: as)) := by
  refine PA_imp (pa_cons ha hr (starPlain hs)) fun σ H Q q => ?_
  obtain ⟨G, st, rel, fin⟩ := q
  rw [evEs_cons] at fin
  refine ⟨G, st, rel, (Fin.bind (Ok1 := RvOk S n) fin).imp fun r st' v H' G' e sp rel' o => .inr ⟨v, o, ?_⟩⟩
  rintro ⟨r', G1, st1, e1, sp1, rel1, o1, fin1⟩
  obtain ⟨G2, rel2, sp2, rp⟩ := froz rel1 o1
  refine ⟨G2, st1, rel2, (Fin.bind (Ok1 := fun G H ds vs => Reps S G H ds vs) (Fin.step fin1 sp2)).imp fun ds st3 vs H3 G3 e3 sp3 rel3 o3 => .inr ⟨vs, o3, ?_⟩⟩
  rintro ⟨ds', G4, st4, e4, sp4, rel4, o4, fin4⟩
  exact Fin.pure (a := r'.1 :: ds') fin4 rel4 (.cons (rp.stay sp4.stay) o4)
theorem evVs_nil (st : Sl) : evVs T [] st = .ok [] st := by rw [evVs]
theorem evVs_cons (a : Ex) (as : List Ex) (st : Sl) : evVs T (a :: as) st = (vw a (evE T a) st).bind fun w st => (evVs T as st).bind fun ws st => .ok (w :: ws) st := by rw [evVs]
theorem pa_nilV : PA X [] (tVs T S n W []) := by
  refine PA_imp pa_nil fun σ H Q q => ?_
  obtain ⟨G, st, rel, fin⟩ := q
  rw [evVs_nil] at fin
  exact Fin.pure (a := []) fin rel trivial
theorem pa_consV (hs : ∀ y q, e ≠ .Starred y q) (ha : PE X e (tVw T S n W a)) (hr : PA X es (tVs T S n W as)) : PA X (e :: es) (tVs T S n W (a :: as)) := by
  refine PA_imp (pa_cons ha hr (starPlain hs)) fun σ H Q q => ?_
  obtain ⟨G, st, rel, fin⟩ := q
  rw [evVs_cons] at fin
  refine ⟨G, st, rel, (Fin.bind (Ok1 := VwOk S σ) fin).imp fun r st' v H' G' e sp rel' o => .inr ⟨v, o, ?_⟩⟩
  rintro ⟨r', G1, st1, e1, sp1, rel1, o1, fin1⟩
  refine ⟨G1, st1, rel1, (Fin.bind (Ok1 := VwsOk S σ) fin1).imp fun ds st3 vs H3 G3 e3 sp3 rel3 o3 => .inr ⟨vs, o3, ?_⟩⟩
  rintro ⟨ds', G4, st4, e4, sp4, rel4, o4, fin4⟩
  exact Fin.pure (a := r' :: ds') fin4 rel4 ⟨o1.stay sp4.stay, o4⟩
/-! ### a def's call -/
theorem pe_callx {f : Str} {x : Expr} {xs : List Expr} {F : Fn} {k : Nat} {fa : Addr} {fd : FuncData} {ps : List Str} {p1 : Pos} (hF : T.fn f = some F) (G0 : FnOk X.prog X.w X.K X.mg X.base (L2.CX X.prog X.w) k fa fd ps (spF S F)) (hr : Room k X.A) (hg : Gl X f) (hm : X.mg f = some (.ref fa)) (hk : PySem.W.keepIn X.K (.ref fa) = true)
    (hb : Binds X.K fd ps []) (tk : Takes X W) (hs : ∀ y ∈ x :: xs, ∀ z q, y ≠ .Starred z q) (hd : (f == ("__debug__" : Str)) = false) (ha : PA X (x :: xs) (tVs T S n W as)) : PE X (.Call (.Name f p1) (x :: xs) [] pos) (tE T S n W (.call f as)) := by
  have s1 := starPlain (env := X.env) (rest := xs) (hs x List.mem_cons_self)
  have s2 : (backTo pos (starEach xs X.env)).any (·.1) = false := anyPlain fun y hy => hs y (List.mem_cons_of_mem _ hy)
  refine PE_imp (pe_callSD (E := WE W) G0 hr hg hm hk hb .nil (fun σ => passAt tk σ) ha hd s1 s2) fun σ H Q q => ?_
  obtain ⟨G, st, rel, fin⟩ := q
  rw [evE, hF] at fin
  refine ⟨G, st, rel, (Fin.bind (Ok1 := VwsOk S σ) fin).imp fun ws st' vs H' G' e sp rel' o => .inr ⟨vs, o, ?_⟩⟩
  rintro ⟨ws', G1, st1, e1, sp1, rel1, o1, fin1⟩
  rw [List.append_nil]
  exact call_ok rel1 o1 fin1
/-! ### methods -/
theorem mut_shape {m : Str} {d d' : D} {ds : List D} {r : Rv} (hm : m ∈ mutNames) (h : mutD m d ds = some (d', r)) : ∃ xs xs', d = .lst xs ∧ d' = .lst xs' ∧ r = (.non, false) := by
  have hc : m = "append" ∨ m = "extend" ∨ m = "insert" := by
    have := hm
    unfold mutNames at this
    simpa using this
  rcases hc with rfl | rfl | rfl
  · unfold mutD at h
    rw [if_pos rfl] at h
    split at h
    · split at h
      · cases h; exact ⟨_, _, rfl, rfl, rfl⟩
      · cases h
    · cases h
  · unfold mutD at h
    rw [if_neg (by decide), if_pos rfl] at h
    split at h
    · split at h
      · cases h; exact ⟨_, _, rfl, rfl, rfl⟩
      · cases h
    · split at h
      · cases h; exact ⟨_, _, rfl, rfl, rfl⟩
      · cases h
    · cases h
  · unfold mutD at h
    rw [if_neg (by decide), if_neg (by decide), if_pos rfl] at h
    split at h
    · split at h
      · cases h; exact ⟨_, _, rfl, rfl, rfl⟩
      · cases h
    · cases h
theorem baseName {x m : Str} {env : Env} {p1 : Pos} : attributeBase (.Name x p1) m env (eval (.Name x p1) env) = eval (.Name x p1) env := rfl
theorem pe_mutx {m x : Str} {i : Nat} {y : Expr} {ys : List Expr} {p1 apos : Pos} (hK : X.K = S.K) (hm : m ∈ mutNames) (hv : PE X (.Name x p1) (tVar i)) (hs : ∀ z ∈ y :: ys, ∀ w q, z ≠ .Starred w q) (ha : PA X (y :: ys) (tEs T S n W as)) (hl : (apos.endLine == pos.line) = true) (hfew : ys.length ≤ 10) :
    PE X (.Call (.Attribute (.Name x p1) m apos) (y :: ys) [] pos) (tE T S n W (.mut m i as)) := by
  have s1 := starPlain (env := X.env) (rest := ys) (hs y List.mem_cons_self)
  have s2 : (backTo pos (starEach ys X.env)).any (·.1) = false := anyPlain fun z hz => hs z (List.mem_cons_of_mem _ hz)
  have hc : m = "append" ∨ m = "extend" ∨ m = "insert" := by
    have := hm
    unfold mutNames at this
    simpa using this
  have rd : ∀ σ H Q, tE T S n W (.mut m i as) σ H Q → tM "list" (rMu S m) (tVar i) (tEs T S n W as) σ H Q := fun σ H Q q => by
    obtain ⟨G, st, rel, fin⟩ := q
    rw [evE] at fin
    by_cases c : ownB st i = true
    · rw [if_pos c] at fin
      obtain ⟨a0, xs0, e1, _, ⟨a1, us0, ea, hH0, _⟩⟩ := ownB_at rel c
      cases ea
      refine ⟨.ref a0, e1, ⟨a0, rfl, .inl ⟨rfl, us0, hH0⟩⟩, G, st, rel, (Fin.bind (Ok1 := fun G H ds vs => Reps S G H ds vs) fin).imp fun ds st' vs H' G' e sp rel' o => .inr ⟨vs, o, ?_⟩⟩
      rintro ⟨ds', G1, st1, e1', sp1, rel1, o1, fin1⟩
      unfold mutE at fin1
      cases hg : getS st1 i with
      | none => rw [hg] at fin1; exact fin1.elim
      | some d =>
        rw [hg] at fin1
        have fin1 : Fin S n W (match mutD m d ds' with
          | some (d', r) => (match putS st1 i d' with
            | some st' => .ok r st'
            | none => .bad)
          | none => .bad) (RvOk S n) G1 H' σ Q := fin1
        cases hmu : mutD m d ds' with
        | none => rw [hmu] at fin1; exact fin1.elim
        | some z =>
          obtain ⟨d', r⟩ := z
          rw [hmu] at fin1
          have fin1 : Fin S n W (match putS st1 i d' with
            | some st' => .ok r st'
            | none => .bad) (RvOk S n) G1 H' σ Q := fin1
          cases hp : putS st1 i d' with
          | none => rw [hp] at fin1; exact fin1.elim
          | some st2 =>
            rw [hp] at fin1
            have finC : Fin S n W (.ok r st2) (RvOk S n) G1 H' σ Q := fin1
            clear fin1
            obtain ⟨xs, xs', rfl, rfl, rfl⟩ : ∃ xs xs', d = .lst xs ∧ d' = .lst xs' ∧ r = (.non, false) := by
              exact mut_shape hm hmu
            have ev : ∃ us, H' a0 = some (.lst us) ∧ Reps S G1 H' xs us := by
              obtain ⟨v, ev, q⟩ := rel1.get hg
              rw [e1] at ev
              cases ev
              obtain ⟨a2, us, ea, hh, _, rr⟩ := Vwd.lst q
              cases ea
              exact ⟨us, hh, rr⟩
            obtain ⟨us, hH1, rr⟩ := ev
            refine ⟨G1, a0, us, xs, ds', xs', rfl, hH1, rr, o1, hmu, fun us' rr' hlen => ?_⟩
            obtain ⟨rel2, sp2⟩ := rel1.put (n := n) (d := .non) (d' := .non) hp e1 hlen rr'
            exact finC _ _ G1 sp2 rel2 .non
    · rw [if_neg c] at fin; exact fin.elim
  rcases hc with rfl | rfl | rfl
  · exact PE_imp (pe_mth PySem.F.plainAttrs_list PySem.F.slot_list_append PySem.F.type_list_append (op_append (S := S)) hv ha baseName hl s1 s2 (by omega)) rd
  · exact PE_imp (pe_mth PySem.F.plainAttrs_list PySem.F.slot_list_extend PySem.F.type_list_extend (op_extend (S := S) hK) hv ha baseName hl s1 s2 (by omega)) rd
  · exact PE_imp (pe_mth PySem.F.plainAttrs_list PySem.F.slot_list_insert PySem.F.type_list_insert (op_insert (S := S)) hv ha baseName hl s1 s2 (by omega)) rd
end
end Nm
namespace Nm
open PySem L2
section
variable {X : Cx} {S : Sr} {T : Tb} {n : Nat} {W : WX} {f : Ex} {as : List Ex} {k : Nat}
/-- a def of a list of defs is called -/
theorem pe_callvx {a' b' x : Expr} {xs : List Expr} {p pos : Pos} (hmg : X.mg = S.mg) (hf : PE X (.Subscript a' b' p) (tE T S n W f)) (fns : ∀ f F, T.fn f = some F → ∃ a fd ps, X.mg f = some (.ref a) ∧ PySem.W.keepIn X.K (.ref a) = true ∧ Binds X.K fd ps [] ∧ FnOk X.prog X.w X.K X.mg X.base (L2.CX X.prog X.w) k a fd ps (spF S F))
    (hr : Room k X.A) (tk : Takes X W) (hs : ∀ y ∈ x :: xs, ∀ z q, y ≠ .Starred z q) (ha : PA X (x :: xs) (tVs T S n W as)) : PE X (.Call (.Subscript a' b' p) (x :: xs) [] pos) (tE T S n W (.callv f as)) := by
  have s1 := starPlain (env := X.env) (rest := xs) (hs x List.mem_cons_self)
  have s2 : (backTo pos (starEach xs X.env)).any (·.1) = false := anyPlain fun y hy => hs y (List.mem_cons_of_mem _ hy)
  refine ⟨fun pins s σ H Q I q => ?_⟩
  obtain ⟨G, st, rel, fin⟩ := q
  rw [evE] at fin
  have q1 : tE T S n W f σ H (fun v H1 => ∃ r G1 st1, evE T f st = .ok r st1 ∧ Step n G G1 H H1 ∧ Rel S G1 H1 st1 σ ∧ RvOk S n G1 H1 r v ∧ Fin S n W (match r.1 with
    | .fn g => (match T.fn g with
      | some F => (evVs T as st1).bind fun ws st => callE F ws st
      | none => .bad)
    | _ => .bad) (RvOk S n) G1 H1 σ Q) := ⟨G, st, rel, Fin.bind (Ok1 := RvOk S n) fin⟩
  refine PyProof.Rows.Call_ (thn (hf.run pins s σ H _ I q1) fun u s3 hh => ?_) rfl
  obtain ⟨y, H1, I1, ry, r, G1, st1, e1, sp1, rel1, o1, fin1⟩ := hh
  obtain ⟨d, bb⟩ := r
  cases d with
  | fn g =>
    cases hF : T.fn g with
    | none => simp only [hF] at fin1; exact fin1.elim
    | some F =>
      simp only [hF] at fin1
      obtain ⟨a, fd, ps, f1, f2, f3, f4⟩ := fns g F hF
      have hy : y = .ref a := by
        cases bb with
        | true => exact o1.elim
        | false =>
          have o1 : Rep S G1 H1 (.fn g) y := o1
          cases o1 with
          | fn e =>
            rw [← hmg, f1] at e
            cases e
            rfl
      subst hy
      cases ry
      refine PySem.W.callWith_K (h₀ := X.base) I1.ok.mod.kin f2 (thn (ha.run pos pins s3 σ H1 (fun vs H2 => spF S F vs H2 Q (WE W σ)) I1 ⟨G1, st1, rel1, ?_⟩) fun us s2 ⟨vs, H2, I2, r2, q2⟩ => ⟨I2.kIn, run_fnSD (E := WE W) (dvs := []) f4 hr f3 .nil (passAt tk σ) I2 r2 (by rw [List.append_nil]; exact q2)⟩) s1 s2
      refine (Fin.bind (Ok1 := VwsOk S σ) fin1).imp fun ws st' vs H' G' e sp rel' o => .inr ⟨vs, o, ?_⟩
      rintro ⟨ws', G2, st2, e2, sp2, rel2, o2, fin2⟩
      exact call_ok rel2 o2 fin2
  | _ => exact fin1.elim
/-- a def without parameters -/
theorem pe_callx0 {g : Str} {F : Fn} {fa : Addr} {fd : FuncData} {ps : List Str} {p1 pos : Pos} (hF : T.fn g = some F) (G0 : FnOk X.prog X.w X.K X.mg X.base (L2.CX X.prog X.w) k fa fd ps (spF S F)) (hr : Room k X.A) (hg : Gl X g) (hm : X.mg g = some (.ref fa)) (hk : PySem.W.keepIn X.K (.ref fa) = true) (hb : Binds X.K fd ps []) (tk : Takes X W) (hd : (g == ("__debug__" : Str)) = false) :
    PE X (.Call (.Name g p1) [] [] pos) (tE T S n W (.call g [])) := by
  refine ⟨fun pins s σ H Q I q => ?_⟩
  obtain ⟨G, st, rel, fin⟩ := q
  rw [evE, hF] at fin
  have fin : Fin S n W ((evVs T [] st).bind fun ws st => callE F ws st) (RvOk S n) G H σ Q := fin
  rw [evVs_nil] at fin
  have h2 := call_ok (ws := []) (vs := []) rel trivial fin
  refine wpAny_Call_Name_kw (ld_glob I hg hm ?_ hd)
  exact PySem.W.callWith_K0 I.kIn hk (run_fnSD (E := WE W) (us := []) (vs := []) (dvs := []) G0 hr hb .nil (passAt tk σ) I .nil h2)
end
end Nm
set_option maxRecDepth 100000
set_option maxHeartbeats 4000000
/-! Targets and list comprehensions. -/
namespace Nm
open PySem L2
open PySem.PyData (strOk)

/-! ### targets -/
def setsV : St → List Nat → List V → St
  | σ, i :: is, v :: vs => setsV (σ.set i (some v)) is vs
  | σ, _, _ => σ
def gTg (K : PySem.W.Frag) (tg : Tg) : TG := fun v σ H Q => match tg with
  | .one i => Q (σ.set i (some v)) H
  | .many is => ∃ a xs, v = .ref a ∧ SqT K H a xs ∧ xs.length = is.length ∧ Q (setsV σ is xs) H
section
variable {X : Cx} {N : List Str} {sc : Scope} {tg : Tg} {e : Expr} {σ : St} {H : Hp}
theorem slotB_of {i : Nat} {x : Str} (h : slotB N i x = true) : N[i]? = some x := by
  unfold slotB at h
  cases e : N[i]? with
  | none => rw [e] at h; cases h
  | some y =>
    rw [e] at h
    have z : y = x := of_decide_eq_true h
    rw [z]
theorem locB_of {x : Str} (h : locB sc x = true) : Loc sc x := by
  unfold locB at h
  unfold L2.Loc
  split at h
  · exact .inl (by assumption)
  · exact .inr (by assumption)
  · cases h
theorem visB_of {x : Str} (h : visB sc x = true) : Vis sc x := by
  unfold visB at h
  unfold Vis
  split at h
  · exact .inl (by assumption)
  · exact .inr (.inl (by assumption))
  · exact .inr (.inr (by assumption))
  · cases h
theorem glB_of {x : Str} (hs : X.env.scope = sc) (h : glB sc x = true) : Gl X x := by
  unfold glB at h
  show X.env.scope.names.lookup x = some .globalImplicit
  rw [hs]
  split at h
  · assumption
  · cases h
theorem nmB_of {x : Str} (h : nmB x = true) : (x == ("__debug__" : Str)) = false ∧ (x == ("__classdict__" : Str)) = false ∧ x ≠ "__name__" := by
  unfold nmB at h
  simp only [Bool.and_eq_true, Bool.not_eq_true'] at h
  refine ⟨h.1.1, h.1.2, fun z => ?_⟩
  have := h.2
  rw [z] at this
  simp at this
theorem pg_n {i : Nat} (hN : X.N = N) (nd : N.Nodup) (hs : X.env.scope = sc) (h : tgName N sc i e = true) (hf : ∀ x p, e = .Name x p → X.fn x = true ∨ sc.names.lookup x = some .local) : PG X e (gName i) := by
  cases e with
  | Name x p =>
    have h' : (slotB N i x && locB sc x && nmB x) = true := h
    obtain ⟨h1, h2⟩ := Bool.and_eq_true_iff.mp h'
    obtain ⟨h3, h4⟩ := Bool.and_eq_true_iff.mp h1
    refine pg_name (by rw [hN]; exact nd) (by rw [hN]; exact slotB_of h3) (by rw [hs]; exact locB_of h4) ?_
    rw [hs]
    exact hf x p rfl
  | _ => cases h
theorem assignEach_name {env : Env} {es : List Expr} (h : ∀ x p, e ≠ .Starred x p) : (assignEach (e :: es) env).map (·.2) = assign e env :: (assignEach es env).map (·.2) ∧ (assignEach (e :: es) env).length = (assignEach es env).length + 1 ∧ (assignEach (e :: es) env).findIdx? (·.1) = (((assignEach es env).findIdx? (·.1)).map (· + 1)) := by
  cases e with
  | Starred x p => exact absurd rfl (h x p)
  | _ =>
    refine ⟨rfl, rfl, ?_⟩
    show ((false, _) :: assignEach es env).findIdx? (·.1) = _
    rw [List.findIdx?_cons]
    simp
theorem tgNames_one {i : Nat} {is : List Nat} {es : List Expr} (h : tgNames N sc (i :: is) es = true) : ∃ x p es', es = .Name x p :: es' ∧ tgName N sc i (.Name x p) = true ∧ tgNames N sc is es' = true := by
  cases es with
  | nil => cases h
  | cons e es =>
    have h' : (tgName N sc i e && tgNames N sc is es) = true := h
    obtain ⟨h1, h2⟩ := Bool.and_eq_true_iff.mp h'
    cases e with
    | Name x p => exact ⟨x, p, es, rfl, h1, h2⟩
    | _ => cases h1
theorem pgs_n (hN : X.N = N) (nd : N.Nodup) (hs : X.env.scope = sc) : ∀ (is : List Nat) (es : List Expr), tgNames N sc is es = true → (∀ x p, .Name x p ∈ es → X.fn x = true ∨ sc.names.lookup x = some .local) →
    PGs X es (fun vs σ H Q => vs.length = is.length ∧ Q (setsV σ is vs) H) ∧ (assignEach es X.env).length = is.length ∧ (assignEach es X.env).findIdx? (·.1) = none
  | [], es, h, _ => by
    cases es with
    | nil =>
      refine ⟨⟨fun pins s σ H vs us Q I r q => ?_⟩, rfl, rfl⟩
      obtain ⟨q1, q2⟩ := q
      cases vs with
      | nil => exact (pgs_nil (X := X)).run pins s σ H [] us Q I r ⟨rfl, q2⟩
      | cons _ _ => cases q1
    | cons _ _ => cases h
  | i :: is, es, h, hf => by
    obtain ⟨x, p, es', rfl, h1, h2⟩ := tgNames_one h
    obtain ⟨ih1, ih2, ih3⟩ := pgs_n hN nd hs is es' h2 fun y q hy => hf y q (List.mem_cons_of_mem _ hy)
    obtain ⟨a1, a2, a3⟩ := assignEach_name (e := .Name x p) (env := X.env) (es := es') (fun _ _ z => by cases z)
    have g1 : PG X (.Name x p) (gName i) := pg_n hN nd hs h1 fun y q e => by
      cases e
      exact hf _ _ List.mem_cons_self
    refine ⟨⟨fun pins s σ H vs us Q I r q => (pgs_cons g1 ih1 a1).run pins s σ H vs us Q I r ?_⟩, by rw [a2, ih2]; rfl, by rw [a3, ih3]; rfl⟩
    obtain ⟨q1, q2⟩ := q
    cases vs with
    | nil => cases q1
    | cons v vs => exact ⟨v, vs, rfl, Nat.succ.inj q1, q2⟩
theorem pg_tg (hN : X.N = N) (nd : N.Nodup) (hs : X.env.scope = sc) (hc : X.calm = true) (h : mTg N sc tg e = true) (hf : ∀ p ∈ tgOwn tg e, X.fn p.1 = true ∨ sc.names.lookup p.1 = some .local) : PG X e (gTg X.K tg) := by
  cases tg with
  | one i =>
    refine pg_n hN nd hs h fun x p ee => ?_
    subst ee
    exact hf (x, i) (by simp [tgOwn])
  | many is =>
    cases e with
    | Tuple es m p =>
      obtain ⟨h1, h2⟩ := Bool.and_eq_true_iff.mp (show (tgNames N sc is es && decide (is.Nodup)) = true from h)
      have mem : ∀ (is : List Nat) (es : List Expr), tgNames N sc is es = true → ∀ x p, Expr.Name x p ∈ es → ∃ i, (x, i) ∈ ownOf is es := by
        intro is
        induction is with
        | nil =>
          intro es h x p hx
          cases es with
          | nil => cases hx
          | cons _ _ => cases h
        | cons i is ih =>
          intro es h x p hx
          obtain ⟨y, q, es', rfl, h1, h2⟩ := tgNames_one h
          rcases List.mem_cons.mp hx with z | z
          · cases z
            exact ⟨i, List.mem_cons_self⟩
          · obtain ⟨j, hj⟩ := ih es' h2 x p z
            exact ⟨j, List.mem_cons_of_mem _ hj⟩
      obtain ⟨g1, g2, g3⟩ := pgs_n hN nd hs is es h1 fun x q hx => by
        obtain ⟨i, hi⟩ := mem is es h1 x q hx
        exact hf (x, i) hi
      refine ⟨fun pins s σ H v u Q I r q => (pg_tup hc g1 g2 g3).run pins s σ H v u Q I r ?_⟩
      obtain ⟨a, xs, e1, e2, e3, e4⟩ := q
      exact ⟨a, xs, e1, e2, e3, e3, e4⟩
    | _ => cases h
end

/-! ### what is bound -/
section
variable {S : Sr} {G : Gh} {H : Hp} {σ : St} {st : Sl} {n : Nat}
theorem setS_rel {i : Nat} {d : D} {v : V} {st' : Sl} (rel : Rel S G H st σ) (h : setS st i (d, false) = some st') (r : Rep S G H d v) : Rel S G H st' (σ.set i (some v)) := by
  unfold setS at h
  cases e : st[i]? with
  | none => rw [e] at h; cases h
  | some s =>
    have hi : i < st.length := (List.getElem?_eq_some_iff.mp e).1
    rw [e] at h
    cases s with
    | bor _ => cases h
    | _ =>
      cases h
      exact rel.store hi r
theorem setsS_rel : ∀ (is : List Nat) (ds : List D) (vs : List V) {st st' : Sl} {σ : St}, Rel S G H st σ → setsS st is ds = some st' → Reps S G H ds vs → Rel S G H st' (setsV σ is vs) ∧ vs.length = is.length
  | [], [], _, st, st', σ, rel, h, .nil => by
    cases h
    exact ⟨rel, rfl⟩
  | [], _ :: _, _, _, _, _, _, h, _ => by cases h
  | _ :: _, [], _, _, _, _, _, h, _ => by cases h
  | i :: is, d :: ds, _, st, st', σ, rel, h, .cons (v := v) (vs := vs) r t => by
    have h' : (setS st i (d, false)).bind (fun st => setsS st is ds) = some st' := h
    cases e : setS st i (d, false) with
    | none => rw [e] at h'; cases h'
    | some st1 =>
      rw [e] at h'
      obtain ⟨q1, q2⟩ := setsS_rel is ds vs (setS_rel rel e r) h' t
      exact ⟨q1, by rw [List.length_cons, List.length_cons, q2]⟩
/-- an item is bound: the slots, the heap as the item left it -/
theorem bind_item {pr : Bool} {tg : Tg} {K : PySem.W.Frag} {d : D} {v : V} {H' : Hp} {st' : Sl} {Q : St → Hp → Prop} (rel : Rel S G H st σ) (it : ItemOk pr S G H H' d v) (hp : pr = true → isTupTg tg = true) (hb : bindTg st tg d = some st')
    (q : ∀ σ2 H2, Step n G G H H2 → Rel S G H2 st' σ2 → (∃ vs, σ2 = setsV σ tg.slots vs) → (H2 = H ∨ ∃ t o, H t = none ∧ H2 = upd H t o) → Q σ2 H2) : gTg K tg v σ H' Q := by
  cases pr with
  | false =>
    obtain ⟨rfl, r⟩ := it
    cases tg with
    | one i => exact q _ _ Step.refl (setS_rel rel hb r) ⟨[v], rfl⟩ (.inl rfl)
    | many is =>
      cases d with
      | tup ds =>
        have hb' : setsS st is ds = some st' := hb
        cases r with
        | @tup a vs _ f l rr =>
          obtain ⟨q1, q2⟩ := setsS_rel is ds vs rel hb' rr
          exact ⟨a, vs, rfl, f.sq, q2, q _ _ Step.refl q1 ⟨vs, rfl⟩ (.inl rfl)⟩
      | _ => cases hb
  | true =>
    obtain ⟨t, tv, ds, rfl, ht, rfl, rfl, rr⟩ := it
    cases tg with
    | one i => cases hp rfl
    | many is =>
      have hb' : setsS st is ds = some st' := hb
      obtain ⟨rel1, sp⟩ := rel.new (n := n) (o := .tup tv) ht
      obtain ⟨q1, q2⟩ := setsS_rel is ds tv rel1 hb' (rr.stay sp.stay)
      exact ⟨t, tv, rfl, .inl (.inl upd_same), q2, q _ _ sp q1 ⟨tv, rfl⟩ (.inr ⟨t, _, ht, rfl⟩)⟩
theorem wipe_set (σ : St) (i : Nat) (o : Option V) : ∀ (is : List Nat), i ∈ is → wipe (σ.set i o) is = wipe σ is
  | [], h => by cases h
  | j :: is, h => by
    unfold wipe
    by_cases hj : i = j
    · subst hj
      by_cases hi : i ∈ is
      · rw [wipe_set σ i o is hi]
      · have : ∀ (is : List Nat), i ∉ is → wipe (σ.set i o) is = (wipe σ is).set i o := by
          intro is
          induction is with
          | nil => intro _; rfl
          | cons k is ih =>
            intro hk
            have h1 : k ≠ i := fun z => hk (by rw [z]; exact List.mem_cons_self)
            have h2 : i ∉ is := fun z => hk (List.mem_cons_of_mem _ z)
            unfold wipe
            rw [ih h2, List.set_comm _ _ h1.symm]
        rw [this is hi, List.set_set]
    · rcases List.mem_cons.mp h with z | z
      · exact absurd z hj
      · rw [wipe_set σ i o is z]
theorem wipe_sets : ∀ (is : List Nat) (vs : List V) (σ : St) (js : List Nat), (∀ i ∈ is, i ∈ js) → wipe (setsV σ is vs) js = wipe σ js
  | [], vs, σ, js, _ => by
    cases vs <;> rfl
  | _ :: _, [], σ, js, _ => rfl
  | i :: is, v :: vs, σ, js, h => by
    show wipe (setsV (σ.set i (some v)) is vs) js = _
    rw [wipe_sets is vs _ js fun j hj => h j (List.mem_cons_of_mem _ hj), wipe_set σ i _ js (h i List.mem_cons_self)]
theorem wipe_wipe (σ : St) : ∀ (is : List Nat), wipe (wipe σ is) is = wipe σ is := fun is => by
  have : ∀ (is js : List Nat), (∀ i ∈ is, i ∈ js) → wipe (wipe σ is) js = wipe σ js := by
    intro is
    induction is with
    | nil => intro js _; rfl
    | cons i is ih =>
      intro js h
      show wipe ((wipe σ is).set i none) js = _
      rw [wipe_set _ i none js (h i List.mem_cons_self), ih js fun j hj => h j (List.mem_cons_of_mem _ hj)]
  exact this is is fun _ h => h
theorem Rel_wipes : ∀ (is : List Nat) {st : Sl} {σ : St}, Rel S G H st σ → Rel S G H (wipeS st is) (wipe σ is)
  | [], _, _, rel => rel
  | i :: is, st, σ, rel => (Rel_wipes is rel).wipe
theorem wipe_get {σ : St} : ∀ {is : List Nat} {j : Nat}, j ∉ is → (wipe σ is)[j]? = σ[j]?
  | [], _, _ => rfl
  | i :: is, j, h => by
    have h1 : i ≠ j := fun z => h (by rw [z]; exact List.mem_cons_self)
    have h2 : j ∉ is := fun z => h (List.mem_cons_of_mem _ z)
    unfold wipe
    rw [List.getElem?_set_ne h1]
    exact wipe_get h2
theorem restS_len (st0 st : Sl) : ∀ is : List Nat, (restS st0 st is).length = st.length
  | [] => rfl
  | i :: is => by
    unfold restS
    split <;> rw [List.length_set, restS_len st0 st is]
/-- the comprehension's own slots come back -/
theorem Rel_rest {G0 : Gh} {H0 : Hp} {st0 : Sl} (rel0 : Rel S G0 H0 st0 σ) (sy : Stay G0 G H0 H) {is : List Nat} (rel : Rel S G H st (wipe σ is)) : Rel S G H (restS st0 st is) σ := by
  refine ⟨by rw [restS_len, rel.len, wipe_length], rel.wk, ?_⟩
  have key : ∀ (js : List Nat) (j : Nat) (s : Slot), (restS st0 st js)[j]? = some s → (j ∈ js ∧ (s = .no ∨ ∃ d, s = .val d ∧ st0[j]? = some (.val d))) ∨ (j ∉ js ∧ st[j]? = some s) := by
    intro js
    induction js with
    | nil => intro j s e; exact .inr ⟨by simp, e⟩
    | cons k js ih =>
      intro j s e
      unfold restS at e
      by_cases hj : k = j
      · subst hj
        refine .inl ⟨List.mem_cons_self, ?_⟩
        split at e
        · rename_i d e0
          by_cases hk : k < (restS st0 st js).length
          · rw [List.getElem?_set_self hk] at e
            cases e
            exact .inr ⟨d, rfl, e0⟩
          · rw [List.getElem?_eq_none (by rw [List.length_set]; omega)] at e; cases e
        · by_cases hk : k < (restS st0 st js).length
          · rw [List.getElem?_set_self hk] at e
            cases e
            exact .inl rfl
          · rw [List.getElem?_eq_none (by rw [List.length_set]; omega)] at e; cases e
      · have e' : (restS st0 st js)[j]? = some s := by
          split at e
          · rw [List.getElem?_set_ne hj] at e; exact e
          · rw [List.getElem?_set_ne hj] at e; exact e
        rcases ih j s e' with ⟨h1, h2⟩ | ⟨h1, h2⟩
        · exact .inl ⟨List.mem_cons_of_mem _ h1, h2⟩
        · exact .inr ⟨fun z => (List.mem_cons.mp z).elim (fun q => hj q.symm) h1, h2⟩
  intro j s e
  rcases key is j s e with ⟨h1, h2⟩ | ⟨h1, h2⟩
  · rcases h2 with rfl | ⟨d, rfl, e0⟩
    · have hj : j < σ.length := by
        have := (List.getElem?_eq_some_iff.mp e).1
        rw [restS_len, rel.len, wipe_length] at this
        exact this
      exact ⟨σ[j], by simp [hj], trivial⟩
    · obtain ⟨o, e1, v, rfl, r⟩ := rel0.at_ j _ e0
      exact ⟨_, e1, v, rfl, r.stay sy⟩
  · obtain ⟨o, e1, q⟩ := rel.at_ j s h2
    rw [wipe_get h1] at e1
    exact ⟨o, e1, q⟩
end
end Nm
set_option maxRecDepth 100000
set_option maxHeartbeats 4000000
/-! List comprehensions. -/
namespace Nm
open PySem L2
open PySem.PyData (strOk)

def tTs (T : Tb) (S : Sr) (n : Nat) (W : WX) (as : List Ex) : TT := Rdg S n W (evTs T as) fun _ _ _ b b' => b = b'
abbrev noX : WX := fun _ _ _ _ => False
section
variable {S : Sr} {T : Tb} {n : Nat} {W : WX} {σ : St} {H : Hp}
theorem Fin.okOf {α β : Type} {r : R α} {Ok : Gh → Hp → α → β → Prop} {G : Gh} {Q : β → Hp → Prop} {a : α} {st : Sl} (e : r = .ok a st) (h : ∀ v H' G', Step n G G' H H' → Rel S G' H' st σ → Ok G' H' a v → Q v H') : Fin S n W r Ok G H σ Q := by
  subst e
  exact h
/-- the turns of a comprehension -/
theorem lc_turns {tg : Tg} {ifs : List Ex} {elt : Ex} {J : It} {xs ys : List D} {G : Gh} {st stF : Sl} {pr : Bool} {K : PySem.W.Frag} {Q : VK} {D0 : Addr} (rel : Rel S G H st σ) (wd : WalkD pr S G H J xs) (hp : pr = true → isTupTg tg = true) (hD : H D0 = none)
    (hgo : lcGo tg (evTs T ifs) (evE T elt) xs [] (wipeS st tg.slots) = .ok ys stF)
    (q : ∀ H' G', Step n G G' H H' → Rel S G' H' (restS st stF tg.slots) σ → Own S G' H' (.tmp n) (.lst ys) (.ref D0) → Q (.ref D0) H') :
    ∃ Wt : Nat → Nat → Hp → Prop, (∃ m, Wt 0 m (upd H D0 (.lst []))) ∧ ∀ i m H1, Wt i m H1 → (J.stop i H1 ∧ Q (.ref D0) H1) ∨ (J.go i H1 ∧ ∃ Nx : Hp → Prop, (∀ H', Nx H' → ∃ m', m' < m ∧ Wt (i + 1) m' H') ∧ ∀ x H', J.yld i H1 x H' → gTg K tg x (wipe σ tg.slots) H' fun σ2 H2 => wipe σ2 tg.slots = wipe σ tg.slots ∧ tTs T S (n + 1) noX ifs σ2 H2 fun b H3 =>
        if b = true then tE T S (n + 1) noX elt σ2 H3 fun y H4 => ∃ acc, H4 D0 = some (.lst acc) ∧ acc.length < sizeLine ∧ Nx (upd H4 D0 (.lst (acc ++ [y]))) else Nx H3) := by
  let Pv : Nat → Hp → Prop := fun i H' => ∃ G' st' acc vacc, lcGo tg (evTs T ifs) (evE T elt) (xs.drop i) acc st' = .ok ys stF ∧ Rel S G' H' st' (wipe σ tg.slots) ∧ Step n G G' H H' ∧ G' D0 = .tmp n ∧ H' D0 = some (.lst vacc) ∧ Reps S G' H' acc vacc ∧ acc.length ≤ i ∧ i ≤ xs.length
  refine lc_it (Y := _) (G := fun H' => ∃ G', Stay G G' H H') (Qd := fun H' => Q (.ref D0) H') wd.walk Pv ?_ ?_ ?_ ?_
  · obtain ⟨r1, s1⟩ := rel.newTmp (n := n) (o := .lst []) hD
    exact ⟨_, wipeS st tg.slots, [], [], by rw [List.drop_zero]; exact hgo, Rel_wipes _ r1, s1, updG_same, upd_same, .nil, Nat.zero_le _, Nat.zero_le _⟩
  · rintro i H' hi ⟨G', st', acc, vacc, _, _, sp, _⟩
    exact ⟨G', sp.stay⟩
  · rintro i x H1 H2 hi ⟨G1, st1, acc, vacc, hgo1, rel1, sp1, tD, hD1, racc, hacc, hle⟩ ⟨d, hd, hy⟩
    have hit := hy G1 sp1.stay
    have hdrop : xs.drop i = d :: xs.drop (i + 1) := by
      obtain ⟨h1, h2⟩ := List.getElem?_eq_some_iff.mp hd
      rw [List.drop_eq_getElem_cons h1, h2]
    rw [hdrop] at hgo1
    have hgo1 : (match bindTg st1 tg d with
      | none => (R.bad : R (List D))
      | some st2 => (evTs T ifs st2).bind fun b st3 => if b then (evE T elt st3).bind fun y st4 => lcGo tg (evTs T ifs) (evE T elt) (xs.drop (i + 1)) (acc ++ [y.1]) (wipeS st4 tg.slots) else lcGo tg (evTs T ifs) (evE T elt) (xs.drop (i + 1)) acc (wipeS st3 tg.slots)) = .ok ys stF := hgo1
    cases hb : bindTg st1 tg d with
    | none => rw [hb] at hgo1; cases hgo1
    | some st2 =>
      rw [hb] at hgo1
      have hgo1 : ((evTs T ifs st2).bind fun b st3 => if b then (evE T elt st3).bind fun y st4 => lcGo tg (evTs T ifs) (evE T elt) (xs.drop (i + 1)) (acc ++ [y.1]) (wipeS st4 tg.slots) else lcGo tg (evTs T ifs) (evE T elt) (xs.drop (i + 1)) acc (wipeS st3 tg.slots)) = .ok ys stF := hgo1
      refine bind_item (n := n + 1) rel1 hit hp hb fun σ2 Hb spb relb hσ hHb => ?_
      obtain ⟨vs, hσ⟩ := hσ
      have hw : wipe σ2 tg.slots = wipe σ tg.slots := by rw [hσ, wipe_sets _ _ _ _ (fun _ h => h), wipe_wipe]
      refine ⟨hw, G1, st2, relb, ?_⟩
      cases ht : evTs T ifs st2 with
      | bad => rw [ht] at hgo1; cases hgo1
      | err c p s => rw [ht] at hgo1; cases hgo1
      | ok b st3 =>
        rw [ht] at hgo1
        intro b' H3 G3 sp3 rel3 eb
        cases eb
        have spD : Step (n + 1) G1 G3 H1 H3 := spb.trans sp3
        have notD : mine (n + 1) (G1 D0) = false := by
          rw [tD]
          exact decide_eq_false (by omega)
        obtain ⟨hD3, tD3⟩ := spD.keep D0 _ hD1 notD
        have sp13 : Step n G G3 H H3 := sp1.trans (spD.mono (Nat.le_succ n))
        cases b with
        | false =>
          have hgo2 : lcGo tg (evTs T ifs) (evE T elt) (xs.drop (i + 1)) acc (wipeS st3 tg.slots) = .ok ys stF := hgo1
          show Pv (i + 1) H3
          refine ⟨G3, wipeS st3 tg.slots, acc, vacc, hgo2, ?_, sp13, tD3.trans tD, hD3, racc.stay spD.stay, by omega, hi⟩
          rw [← hw]
          exact Rel_wipes _ rel3
        | true =>
          have hgo2 : ((evE T elt st3).bind fun y st4 => lcGo tg (evTs T ifs) (evE T elt) (xs.drop (i + 1)) (acc ++ [y.1]) (wipeS st4 tg.slots)) = .ok ys stF := hgo1
          show tE T S (n + 1) noX elt σ2 H3 _
          refine ⟨G3, st3, rel3, ?_⟩
          cases he : evE T elt st3 with
          | bad => rw [he] at hgo2; cases hgo2
          | err c p s => rw [he] at hgo2; cases hgo2
          | ok r st4 =>
            rw [he] at hgo2
            intro y H4 G4 sp4 rel4 o4
            obtain ⟨G5, rel5, sp5, rp⟩ := froz rel4 o4
            have sp35 : Step (n + 1) G3 G5 H3 H4 := sp4.trans sp5
            have tD3' : G3 D0 = .tmp n := tD3.trans tD
            obtain ⟨hD4, tD4⟩ := sp35.keep D0 _ hD3 (by rw [tD3']; exact decide_eq_false (by omega))
            have tD5 : G5 D0 = .tmp n := tD4.trans tD3'
            have hlim := wd.lim
            have racc5 := (racc.stay spD.stay).stay sp35.stay
            have hl5 := racc5.length
            have hlt : vacc.length < sizeLine := by
              rw [sizeLine_eq]
              have h1 : xs.length ≤ 16777216 := hlim
              omega
            refine ⟨vacc, hD4, hlt, ?_⟩
            have ne : ∀ b, G5 b ≠ .tmp n → b ≠ D0 := fun b hb z => hb (by rw [z]; exact tD5)
            have sy : Stay G5 G5 H4 (upd H4 D0 (.lst (vacc ++ [y]))) := fun b o e t => ⟨by rw [upd_ne (ne b (by rw [t]; intro z; cases z))]; exact e, t⟩
            have spu : Step n G5 G5 H4 (upd H4 D0 (.lst (vacc ++ [y]))) := by
              have nm : ∀ b, mine n (G5 b) = false → b ≠ D0 := fun b t => ne b fun z => by
                rw [z] at t
                have t' : decide (n ≤ n) = false := t
                rw [decide_eq_true (Nat.le_refl n)] at t'
                cases t'
              refine ⟨fun b o e t => ⟨(upd_ne (nm b t)).trans e, rfl⟩, fun b e => ?_⟩
              · by_cases hb : b = D0
                · rw [hb, upd_same] at e; cases e
                · rw [upd_ne hb] at e; exact e
            have relu : Rel S G5 (upd H4 D0 (.lst (vacc ++ [y]))) st4 σ2 := by
              refine rel5.move sy (fun j b o e t => ⟨by rw [upd_ne (ne b (by rw [t]; intro z; cases z))]; exact e, t⟩) fun b e => ?_
              by_cases hb : b = D0
              · rw [hb, upd_same] at e; cases e
              · rw [upd_ne hb] at e; exact rel5.wk b e
            refine ⟨G5, wipeS st4 tg.slots, acc ++ [r.1], vacc ++ [y], hgo2, ?_, (sp13.trans (sp35.mono (Nat.le_succ n))).trans spu, tD5, upd_same, (racc5.stay sy).append (.cons (rp.stay sy) .nil), by rw [List.length_append]; show acc.length + 1 ≤ i + 1; omega, hi⟩
            rw [← hw]
            exact Rel_wipes _ relu
  · rintro H1 ⟨G1, st1, acc, vacc, hgo1, rel1, sp1, tD, hD1, racc, hacc, hle⟩
    rw [List.drop_length] at hgo1
    cases hgo1
    have hlim := wd.lim
    exact q H1 G1 sp1 (Rel_rest rel sp1.stay rel1) ⟨D0, vacc, rfl, hD1, tD, Nat.le_trans hacc hlim, racc⟩
theorem lc_read {tg : Tg} {ik : Ik} {its ifs : List Ex} {elt : Ex} {K : PySem.W.Frag} {Q : VK} (hp : isPr ik = true → isTupTg tg = true) (h : tE T S n W (.lc elt tg ik its ifs) σ H Q) :
    tLc (tIt T S n W ik its) (gTg K tg) (tTs T S (n + 1) noX ifs) (tE T S (n + 1) noX elt) tg.slots σ H Q := by
  obtain ⟨G, st, rel, fin⟩ := h
  rw [evE] at fin
  refine ⟨G, st, rel, ?_⟩
  show Fin S n W ((evEs T its st).bind fun ds st => R.opt (itemsOf ik ds) st) _ G H σ _
  cases hr : evEs T its st with
  | bad => rw [hr] at fin; exact fin.elim
  | err c p s => rw [hr] at fin; exact fin
  | ok ds st1 =>
    rw [hr] at fin
    have fin : Fin S n W (lcE tg ik ds (evTs T ifs) (evE T elt) st1) (RvOk S n) G H σ Q := fin
    unfold lcE at fin
    cases hx : itemsOf ik ds with
    | none => rw [hx] at fin; exact fin.elim
    | some xs =>
      rw [hx] at fin
      have fin : Fin S n W ((lcGo tg (evTs T ifs) (evE T elt) xs [] (wipeS st1 tg.slots)).noErr.bind fun ys st' => .ok (.lst ys, true) (restS st1 st' tg.slots)) (RvOk S n) G H σ Q := fin
      show Fin S n W (R.opt (itemsOf ik ds) st1) _ G H σ _
      rw [hx]
      intro J H1 G1 sp1 rel1 wd D0 hD0
      cases hgo : lcGo tg (evTs T ifs) (evE T elt) xs [] (wipeS st1 tg.slots) with
      | bad => rw [hgo] at fin; exact fin.elim
      | err c p s => rw [hgo] at fin; exact fin.elim
      | ok ys stF =>
        rw [hgo] at fin
        exact lc_turns rel1 wd hp hD0 hgo fun H' G' sp rel' ow => fin (.ref D0) H' G' (sp1.trans sp) rel' ow
end
section
variable {X : Cx} {S : Sr} {T : Tb} {n : Nat} {W : WX} {a : Ex} {a' : Expr} {as : List Ex} {pos : Pos}
/-! ### methods that change nothing -/
theorem pe_mex {m : Str} {y : Expr} {ys : List Expr} {apos : Pos} (hK : X.K = S.K) (hu : X.A.units + 64 < cLine) (hm : m ∈ meNames) (ho : PE X a' (tVw T S n W a)) (hb : ∀ {m : Str} {env : Env}, attributeBase a' m env (eval a' env) = eval a' env) (hs : ∀ z ∈ y :: ys, ∀ w q, z ≠ .Starred w q) (ha : PA X (y :: ys) (tVs T S n W as)) (hl : (apos.endLine == pos.line) = true) (hfew : ys.length ≤ 10) :
    PE X (.Call (.Attribute a' m apos) (y :: ys) [] pos) (tE T S n W (.me m a as)) := by
  have s1 := starPlain (env := X.env) (rest := ys) (hs y List.mem_cons_self)
  have s2 : (backTo pos (starEach ys X.env)).any (·.1) = false := anyPlain fun z hz => hs z (List.mem_cons_of_mem _ hz)
  have hc : m = "count" ∨ m = "index" := by
    have := hm
    unfold meNames at this
    simpa using this
  refine ⟨fun pins s σ H Q I q => ?_⟩
  obtain ⟨G, st, rel, fin⟩ := q
  rw [evE] at fin
  -- of which kind is it?
  by_cases hk1 : ∃ w st1 xs, vw a (evE T a) st = .ok w st1 ∧ w.get st1 = some (.lst xs)
  · obtain ⟨w0, st0, xs0, e0, g0⟩ := hk1
    have rd : tM "list" (fun x vs H Q => (∃ xs, ∃ G, Vwd S G H (.lst xs) x) ∧ rMe S n m x vs H Q) (tVw T S n W a) (tVs T S n W as) σ H Q := by
      refine ⟨G, st, rel, (Fin.bind (Ok1 := VwOk S σ) fin).imp fun w st' v H' G' e sp rel' o => .inr ⟨v, o, ?_⟩⟩
      rintro ⟨w', G1, st1, e1, sp1, rel1, o1, fin1⟩
      rw [e0] at e1
      cases e1
      rw [g0] at fin1
      have fin1 : Fin S n W (if meOk m (.lst xs0) = true then (evVs T as st0).bind fun ws st => R.opt ((w0.get st).bind fun d => (Vw.gets st ws).bind fun ds => if kindD (.lst xs0) = kindD d then meD m d ds else none) st else .bad) (RvOk S n) G1 H' σ Q := fin1
      by_cases ck : meOk m (.lst xs0) = true
      · rw [if_pos ck] at fin1
        obtain ⟨a0, vs0, rfl, h0, _, _⟩ := (o1.get rel1 g0).lst
        refine ⟨⟨a0, rfl, .inl ⟨rfl, vs0, h0⟩⟩, G1, st0, rel1, (Fin.bind (Ok1 := VwsOk S σ) fin1).imp fun ws st2 vs H2 G2 e2 sp2 rel2 o2 => .inr ⟨vs, o2, ?_⟩⟩
        rintro ⟨ws', G3, st3, e3, sp3, rel3, o3, fin3⟩
        have o1' := o1.stay sp3.stay
        cases c1 : w0.get st3 with
        | none => rw [c1] at fin3; exact fin3.elim
        | some d =>
          cases c2 : Vw.gets st3 ws' with
          | none => rw [c1, c2] at fin3; exact fin3.elim
          | some ds =>
            rw [c1, c2] at fin3
            have fin3 : Fin S n W (R.opt (if kindD (.lst xs0) = kindD d then meD m d ds else none) st3) (RvOk S n) G3 H2 σ Q := fin3
            by_cases c4 : kindD (.lst xs0) = kindD d
            · rw [if_pos c4] at fin3
              cases c3 : meD m d ds with
              | none => rw [c3] at fin3; exact fin3.elim
              | some z =>
                rw [c3] at fin3
                have finC : Fin S n W (.ok z st3) (RvOk S n) G3 H2 σ Q := fin3
                clear fin3
                have vd := o1'.get rel3 c1
                obtain ⟨xs, rfl⟩ : ∃ xs, d = .lst xs := by
                  cases d with
                  | lst xs => exact ⟨xs, rfl⟩
                  | _ => cases c4
                exact ⟨⟨xs, G3, vd⟩, G3, _, ds, z, rel3.wk, vd, o3.gets rel3 c2, c3, fun v H' G' ext ok => finC v H' G' ext.step (ext.rel rel3) ok⟩
            · rw [if_neg c4] at fin3; exact fin3.elim
      · rw [if_neg ck] at fin1; exact fin1.elim
    rcases hc with rfl | rfl
    · exact (pe_mth PySem.F.plainAttrs_list PySem.F.slot_list_count PySem.F.type_list_count (op_countL (S := S) (n := n) hK hu) ho ha hb hl s1 s2 (by omega)).run pins s σ H Q I rd
    · exact (pe_mth PySem.F.plainAttrs_list PySem.F.slot_list_index PySem.F.type_list_index (op_indexL (S := S) (n := n) hK) ho ha hb hl s1 s2 (by omega)).run pins s σ H Q I rd
  · have nol : ∀ w st1 d0, vw a (evE T a) st = .ok w st1 → w.get st1 = some d0 → meOk m d0 = true → m = "count" ∧ kindD d0 = 0 := fun w st1 d0 e1 e2 e3 => by
      unfold meOk at e3
      rcases Bool.or_eq_true_iff.mp e3 with e3 | e3
      · obtain ⟨f1, f2⟩ := Bool.and_eq_true_iff.mp e3
        exact ⟨of_decide_eq_true f1, of_decide_eq_true f2⟩
      · obtain ⟨_, f2⟩ := Bool.and_eq_true_iff.mp e3
        have f2 := of_decide_eq_true f2
        exfalso
        cases d0 with
        | lst xs => exact hk1 ⟨w, st1, xs, e1, e2⟩
        | _ => cases f2
    by_cases hcount : m = "count"
    · subst hcount
      refine (pe_mth PySem.F.plainAttrs_tuple PySem.F.slot_tuple_count PySem.F.type_tuple_count (op_countT (S := S) (n := n) hK hu) ho ha hb hl s1 s2 (by omega)).run pins s σ H Q I ?_
      refine ⟨G, st, rel, (Fin.bind (Ok1 := VwOk S σ) fin).imp fun w st' v H' G' e sp rel' o => .inr ⟨v, o, ?_⟩⟩
      rintro ⟨w', G1, st1, e1, sp1, rel1, o1, fin1⟩
      cases c0 : w'.get st1 with
      | none => rw [c0] at fin1; exact fin1.elim
      | some d0 =>
        rw [c0] at fin1
        have fin1 : Fin S n W (if meOk "count" d0 = true then (evVs T as st1).bind fun ws st => R.opt ((w'.get st).bind fun d => (Vw.gets st ws).bind fun ds => if kindD d0 = kindD d then meD "count" d ds else none) st else .bad) (RvOk S n) G1 H' σ Q := fin1
        by_cases ck : meOk "count" d0 = true
        · rw [if_pos ck] at fin1
          have vd0 := o1.get rel1 c0
          have hk0 : kindD d0 = 0 := (nol w' st1 d0 e1 c0 ck).2
          obtain ⟨xs0, rfl⟩ : ∃ xs, d0 = .tup xs := by
            cases d0 with
            | tup xs => exact ⟨xs, rfl⟩
            | _ => cases hk0
          obtain ⟨a0, vs0, rfl, ⟨o0, k0, h0, t0⟩, _, _⟩ := vd0.tup
          refine ⟨⟨a0, rfl, .inr ⟨rfl, o0, vs0, k0, h0⟩⟩, G1, st1, rel1, (Fin.bind (Ok1 := VwsOk S σ) fin1).imp fun ws st2 vs H2 G2 e2 sp2 rel2 o2 => .inr ⟨vs, o2, ?_⟩⟩
          rintro ⟨ws', G3, st3, e3, sp3, rel3, o3, fin3⟩
          have o1' := o1.stay sp3.stay
          cases c1 : w'.get st3 with
          | none => rw [c1] at fin3; exact fin3.elim
          | some d =>
            cases c2 : Vw.gets st3 ws' with
            | none => rw [c1, c2] at fin3; exact fin3.elim
            | some ds =>
              rw [c1, c2] at fin3
              have fin3 : Fin S n W (R.opt (if kindD (.tup xs0) = kindD d then meD "count" d ds else none) st3) (RvOk S n) G3 H2 σ Q := fin3
              by_cases c4 : kindD (.tup xs0) = kindD d
              · rw [if_pos c4] at fin3
                cases c3 : meD "count" d ds with
                | none => rw [c3] at fin3; exact fin3.elim
                | some z =>
                  rw [c3] at fin3
                  have finC : Fin S n W (.ok z st3) (RvOk S n) G3 H2 σ Q := fin3
                  clear fin3
                  have vd := o1'.get rel3 c1
                  obtain ⟨xs, rfl⟩ : ∃ xs, d = .tup xs := by
                    cases d with
                    | tup xs => exact ⟨xs, rfl⟩
                    | _ => cases c4
                  exact ⟨⟨xs, G3, vd⟩, G3, _, ds, z, rel3.wk, vd, o3.gets rel3 c2, c3, fun v H' G' ext ok => finC v H' G' ext.step (ext.rel rel3) ok⟩
              · rw [if_neg c4] at fin3; exact fin3.elim
        · rw [if_neg ck] at fin1; exact fin1.elim
    · have hidx : m = "index" := hc.resolve_left hcount
      subst hidx
      refine (pe_mth PySem.F.plainAttrs_list PySem.F.slot_list_index PySem.F.type_list_index (op_indexL (S := S) (n := n) hK) ho ha hb hl s1 s2 (by omega)).run pins s σ H Q I ?_
      refine ⟨G, st, rel, (Fin.bind (Ok1 := VwOk S σ) fin).imp fun w st' v H' G' e sp rel' o => .inr ⟨v, o, ?_⟩⟩
      rintro ⟨w', G1, st1, e1, sp1, rel1, o1, fin1⟩
      exfalso
      cases g0 : w'.get st1 with
      | none => rw [g0] at fin1; exact fin1
      | some d0 =>
        rw [g0] at fin1
        have fin1 : Fin S n W (if meOk "index" d0 = true then (evVs T as st1).bind fun ws st => R.opt ((w'.get st).bind fun d => (Vw.gets st ws).bind fun ds => if kindD d0 = kindD d then meD "index" d ds else none) st else .bad) (RvOk S n) G1 H' σ Q := fin1
        by_cases ck : meOk "index" d0 = true
        · exact hcount (nol w' st1 d0 e1 g0 ck).1
        · rw [if_neg ck] at fin1; exact fin1
end
end Nm
set_option maxRecDepth 100000
set_option maxHeartbeats 4000000
/-! Expressions: the interpreter is right. -/
namespace Nm
open PySem L2
open PySem.PyData (strOk)

/-- what the written part says of the exception classes -/
structure Exf (T : Tb) (K : PySem.W.Frag) (mg : Str → Option Value) : Prop where
  ex0 : ∀ c, T.ex0 c = true → ∃ C, mg c = some (.ref C) ∧ PySem.W.excIn K C He.veBase "ValueError.__new__" = true ∧ PySem.W.keepIn K (.ref C) = true ∧ PySem.W.subIn K (.ref C) (.type "BaseException") = some true ∧ PySem.W.typeIn K (.ref C) = some (.type "type")
  ex1 : ∀ c, T.ex1 c = false
  exm : ∀ c y b, T.exm c y = some b → ∃ C Y, mg c = some (.ref C) ∧ mg y = some (.ref Y) ∧ PySem.W.exmOne K (.ref C) (.ref Y) = some b
/-- what a def tells of a caught exception, by its class -/
structure FnW (P : Program) (w : World) (K : PySem.W.Frag) (mg : Str → Option Value) (base : Heap) (f : Addr) (fd : FuncData) (e : Str) (wh : Str → Option D) : Prop where
  run : ∀ (A : Around) (outer : List Env) (s : Shared) (H : Hp) (args : Args) (a : Addr) (oe : Obj) (c : Str) (C : Addr) (d : D) (G : Gh) (Q : VK), A.depth + 8 < recursionLimit → A.units + 200 < cLine → mg c = some (.ref C) → Zc (.ref C) none oe → (∃ vs, oe.data = .fields vs) → L2H.PinOk outer H s (a, oe) → Env0 P w K mg base A outer s H →
    BindsTo s fd args [(e, .ref a)] → wh c = some d → Wk G H → (∀ v H' G', Ext G G' H H' → Rep ⟨K, mg, none⟩ G' H' d v → Q v H') → codeAny (model P w) A (.call (.ref f) args) (CR (L2.CX P w) outer P w H s Q fun _ _ _ => False) s
/-- where one stands -/
structure Okx (T : Tb) (S : Sr) (k : Nat) (W : WX) (N : List Str) (sc : Scope) (X : Cx) : Prop where
  hK : X.K = S.K
  hmg : X.mg = S.mg
  hN : X.N = N
  nd : N.Nodup
  hsc : X.env.scope = sc
  calm : X.calm = true
  room : Room k X.A
  tk : Takes X W
  fns : ∀ f F, T.fn f = some F → ∃ a fd ps, X.mg f = some (.ref a) ∧ PySem.W.keepIn X.K (.ref a) = true ∧ Binds X.K fd ps [] ∧ FnOk X.prog X.w X.K X.mg X.base (L2.CX X.prog X.w) k a fd ps (spF S F)
  gls : ∀ x d, T.gl x = some d → ∃ u v, X.mg x = some u ∧ RelV v u ∧ ∀ G H, Rep S G H d v
  free : ∀ f ∈ builtinNames, X.mg f = none
  xf : Exf T X.K X.mg
  hot : S.ea = none
  whs : ∀ f c d, T.wh f c = some d → ∃ a fd e, X.mg f = some (.ref a) ∧ PySem.W.keepIn X.K (.ref a) = true ∧ Binds X.K fd [e] [] ∧ FnW X.prog X.w X.K X.mg X.base a fd e (T.wh f) ∧ 1 ≤ k
theorem Okx.blk {T : Tb} {S : Sr} {k : Nat} {W : WX} {N : List Str} {sc : Scope} {X : Cx} (o : Okx T S k W N sc X) {scope : Scope} (s : Shared) (H : Hp) (C : Addr) (cl : List (Str × Addr)) (fp : List Addr) : Okx T S k noX N (relS scope sc) (X.blk s H scope (compEnvC scope cl C X.env) fp) where
  hK := o.hK
  hmg := o.hmg
  hN := o.hN
  nd := o.nd
  hsc := by
    rw [← o.hsc]
    rfl
  calm := o.calm
  room := o.room
  tk := takes0
  fns := o.fns
  gls := o.gls
  free := o.free
  xf := o.xf
  hot := o.hot
  whs := o.whs
theorem notStar {N : List Str} {sc : Scope} {a : Ex} {e : Expr} (h : mE N sc a e = true) : ∀ y q, e ≠ .Starred y q := by
  intro y q z
  subst z
  cases a <;> simp [mE] at h
theorem notStars {N : List Str} {sc : Scope} : ∀ {as : List Ex} {es : List Expr}, mEs N sc as es = true → ∀ x ∈ es, ∀ y q, x ≠ .Starred y q
  | [], es, h, x, hx => by
    rw [mEs] at h
    have : es = [] := by simpa using h
    rw [this] at hx
    cases hx
  | a :: as, [], h, x, hx => by cases hx
  | a :: as, e :: es, h, x, hx => by
    rw [mEs] at h
    obtain ⟨h1, h2⟩ := Bool.and_eq_true_iff.mp h
    rcases List.mem_cons.mp hx with rfl | hx
    · exact notStar h1
    · exact notStars h2 x hx
theorem notSlice {N : List Str} {sc : Scope} {a : Ex} {e : Expr} (h : mE N sc a e = true) : PlainIx e := by
  intro o i
  cases e with
  | Slice l u s p =>
    cases a <;> simp [mE] at h
  | _ => rfl
theorem notNil {N : List Str} {sc : Scope} {a : Ex} {e : Expr} (h : mE N sc a e = true) : isNil a = false := by
  cases a with
  | nil => rw [mE] at h; cases h
  | _ => rfl
theorem notCall {N : List Str} {sc : Scope} {a : Ex} {e : Expr} (h : mE N sc a e = true) {m : Str} {env : Env} : attributeBase e m env (eval e env) = eval e env := by
  cases e with
  | Call f es ks p =>
    cases f with
    | Name x q =>
      cases es with
      | nil =>
        cases a with
        | call g as =>
          cases ks with
          | nil =>
            rw [mE] at h
            obtain ⟨h, _⟩ := Bool.and_eq_true_iff.mp h
            obtain ⟨h, h2⟩ := Bool.and_eq_true_iff.mp h
            obtain ⟨h3, _⟩ := Bool.and_eq_true_iff.mp h
            have e := of_decide_eq_true h3
            subst e
            have h4 := (Bool.and_eq_true_iff.mp h2).2
            have h5 : (g != ("super" : Str)) = true := h4
            unfold attributeBase
            dsimp only
            rw [h5]
            simp
          | cons _ _ => rfl
        | _ => simp [mE] at h
      | cons _ _ => rfl
    | _ => rfl
  | _ => rfl
theorem foldSet {N : List Str} {sc : Scope} {a : Ex} {e : Expr} {env : Env} (h : mE N sc a e = true) : ∀ x, foldedSetIterable e env x = pure x := by
  intro x
  cases e with
  | Set l u p => cases a <;> simp [mE] at h
  | _ => rfl
def plainEx : Ex → Bool
  | .ite _ _ _ => false
  | .not _ => false
  | .and _ _ => false
  | .or _ _ => false
  | .cmp _ _ _ => false
  | .chain _ _ _ _ _ => false
  | _ => true
/-- a test of a plain form -/
theorem plainTest {N : List Str} {sc : Scope} {a : Ex} {e : Expr} {env : Env} (h : mE N sc a e = true) (ht : plainEx a = true) : ∀ whole, isTrue e env whole = (do let v ← whole; standAt e.pos; holding [v] (truthy v)) := by
  intro whole
  cases e with
  | UnaryOp op x p =>
    cases op with
    | Not => cases a <;> first | (cases ht; done) | (simp [mE] at h; done)
    | _ => rfl
  | BoolOp op vs p => cases a <;> first | (cases ht; done) | (simp [mE] at h; done)
  | IfExp c x y p => cases a <;> first | (cases ht; done) | (simp [mE] at h; done)
  | Compare l ops cs p => cases a <;> first | (cases ht; done) | (simp [mE] at h; done)
  | _ => rfl

section
variable {T : Tb} {S : Sr} {k : Nat} {N : List Str}
theorem ba {a b : Bool} (h : (a && b) = true) : a = true ∧ b = true := Bool.and_eq_true_iff.mp h
theorem hu64 {W : WX} {sc : Scope} {X : Cx} (o : Okx T S k W N sc X) : X.A.units + 64 < cLine := o.room.units
theorem pts_of {X : Cx} {n : Nat} {W : WX} {ifs : List Ex} {es : List Expr} (h0 : ifs = [] → es = []) (h1 : ∀ a, ifs = [a] → ∃ e, es = [e] ∧ PT X e (tT T S n W a)) (hl : ifs.length ≤ 1) : PTs X es (tTs T S n W ifs) := by
  match ifs, hl with
  | [], _ =>
    rw [h0 rfl]
    refine ⟨fun pins s σ H Q I q => (pts_nil (X := X)).run pins s σ H Q I ?_⟩
    obtain ⟨G, st, rel, fin⟩ := q
    rw [evTs] at fin
    exact Fin.pure (a := true) fin rel rfl
  | [a], _ =>
    obtain ⟨e, rfl, hp⟩ := h1 a rfl
    refine ⟨fun pins s σ H Q I q => (pts_one hp).run pins s σ H Q I ?_⟩
    obtain ⟨G, st, rel, fin⟩ := q
    refine ⟨G, st, rel, ?_⟩
    have e0 : evTs T [a] st = evB T a st := by
      rw [evTs, evB_eq]
      cases evE T a st with
      | bad => rfl
      | err c p s => rfl
      | ok r s =>
        obtain ⟨d, o⟩ := r
        cases d with
        | bl b =>
          cases b with
          | true => show evTs T [] s = .ok true s; rw [evTs]
          | false => rfl
        | _ => rfl
    rw [e0] at fin
    exact fin
theorem vOf {a : Ex} {n : Nat} {W : WX} {sc : Scope} {X : Cx} {e : Expr} (o : Okx T S k W N sc X) (h : mE N sc a e = true) (he : PE X e (tE T S n W a)) : PE X e (tVw T S n W a) := by
  cases hv : isV a with
  | false => exact pe_vwe hv he
  | true =>
    cases a with
    | v i =>
      rw [mE.eq_def] at h
      dsimp only at h
      split at h
      · obtain ⟨h1, h2⟩ := ba h
        obtain ⟨h3, h4⟩ := ba h1
        obtain ⟨d1, d2, _⟩ := nmB_of h2
        exact pe_vwv (pe_var (by rw [o.hN]; exact slotB_of h3) (by rw [o.hsc]; exact visB_of h4) d1 d2)
      · cases h
    | _ => cases hv
/-- both, where the test is of a plain form -/
theorem both {a : Ex} {n : Nat} {W : WX} {sc : Scope} {X : Cx} {e : Expr} (h : mE N sc a e = true) (he : PE X e (tE T S n W a)) (ht : plainEx a = true) : PE X e (tE T S n W a) ∧ (tstB a = true → PT X e (tT T S n W a)) := ⟨he, fun _ => pt_any he (plainTest h ht)⟩
theorem itArgs_pr {sc : Scope} {ik : Ik} {tg : Tg} {it : Expr} {es : List Expr} (h : itArgs sc ik tg it = some es) : isPr ik = true → isTupTg tg = true := by
  intro hp
  cases ik with
  | seq => cases hp
  | range => cases hp
  | enum =>
    unfold itArgs at h
    dsimp only at h
    split at h
    · split at h
      · rename_i c
        exact c.2.2
      · cases h
    · cases h
  | zip =>
    unfold itArgs at h
    dsimp only at h
    split at h
    · split at h
      · rename_i c
        exact c.2.2
      · cases h
    · cases h
theorem mEs_len {sc : Scope} : ∀ {as : List Ex} {es : List Expr}, mEs N sc as es = true → as.length = es.length
  | [], es, h => by
    rw [mEs] at h
    have : es = [] := by simpa using h
    rw [this]
    rfl
  | a :: as, [], h => by rw [mEs] at h; cases h
  | a :: as, e :: es, h => by
    rw [mEs] at h
    rw [List.length_cons, List.length_cons, mEs_len (ba h).2]
theorem itArgs_pi {W : WX} {sc : Scope} {X : Cx} {ik : Ik} {tg : Tg} {it tg' : Expr} {es : List Expr} {its : List Ex} {n : Nat} {sc' : Scope} (o : Okx T S k W N sc X) (h : itArgs sc ik tg it = some es) (hm : mEs N sc its es = true) (ht : mTg N sc' tg tg' = true) (hA : PA X es (tEs T S n W its)) (hE : ∀ e es', es = e :: es' → PE X e (tE T S n W (its.headD .nil))) :
    PI X tg' it (tIt T S n W ik its) ∧ ∀ x, foldedSetIterable it X.env x = pure x := by
  have hl := mEs_len hm
  have ns := notStars hm
  have tup : isTupTg tg = true → ∃ es' m' p', tg' = .Tuple es' m' p' := fun z => by
    cases tg with
    | one i => cases z
    | many is =>
      cases tg' with
      | Tuple es' m' p' => exact ⟨_, _, _, rfl⟩
      | _ => cases ht
  cases ik with
  | seq =>
    cases h
    match its, hl with
    | [a], _ =>
      rw [mEs] at hm
      exact ⟨pi_seq (hE it [] rfl), foldSet (ba hm).1⟩
  | range =>
    unfold itArgs at h
    dsimp only at h
    split at h
    · split at h
      · rename_i c
        cases h
        obtain ⟨rfl, c2⟩ := c
        match its, hl, hA with
        | [a], _, hA => exact ⟨pi_rng1 (glB_of o.hsc c2) (o.free _ (by decide)) hA (ns _ (by simp)), fun _ => rfl⟩
      · cases h
    · split at h
      · rename_i c
        cases h
        obtain ⟨rfl, c2⟩ := c
        match its, hl, hA with
        | [a, b], _, hA => exact ⟨pi_rng2 (glB_of o.hsc c2) (o.free _ (by decide)) hA (ns _ (by simp)) (ns _ (by simp)), fun _ => rfl⟩
      · cases h
    · cases h
  | enum =>
    unfold itArgs at h
    dsimp only at h
    split at h
    · split at h
      · rename_i c
        cases h
        obtain ⟨rfl, c2, c3⟩ := c
        obtain ⟨es', m', p', rfl⟩ := tup c3
        match its, hl, hA with
        | [a], _, hA => exact ⟨pi_en (glB_of o.hsc c2) (o.free _ (by decide)) hA (ns _ (by simp)), fun _ => rfl⟩
      · cases h
    · cases h
  | zip =>
    unfold itArgs at h
    dsimp only at h
    split at h
    · split at h
      · rename_i c
        cases h
        obtain ⟨rfl, c2, c3⟩ := c
        obtain ⟨es', m', p', rfl⟩ := tup c3
        match its, hl, hA with
        | [a, b], _, hA => exact ⟨pi_zp (glB_of o.hsc c2) (o.free _ (by decide)) hA (ns _ (by simp)) (ns _ (by simp)), fun _ => rfl⟩
      · cases h
    · cases h
mutual
theorem soundE : ∀ (a : Ex) (n : Nat) (W : WX) (sc : Scope) (X : Cx) (e : Expr), Okx T S k W N sc X → mE N sc a e = true → PE X e (tE T S n W a) ∧ (tstB a = true → PT X e (tT T S n W a))
  | .nil, n, W, sc, X, e, o, h => by rw [mE] at h; cases h
  | .c d, n, W, sc, X, e, o, h => by
    refine both h ?_ rfl
    rw [mE.eq_def] at h
    dsimp only at h
    split at h
    · exact pe_con h
    · split at h
      · exact pe_neg (of_decide_eq_true h)
      · cases h
    · cases h
  | .v i, n, W, sc, X, e, o, h => by
    refine both h ?_ rfl
    rw [mE.eq_def] at h
    dsimp only at h
    split at h
    · obtain ⟨h1, h2⟩ := ba h
      obtain ⟨h3, h4⟩ := ba h1
      obtain ⟨d1, d2, _⟩ := nmB_of h2
      exact pe_v (pe_var (by rw [o.hN]; exact slotB_of h3) (by rw [o.hsc]; exact visB_of h4) d1 d2)
    · cases h
  | .g x, n, W, sc, X, e, o, h => by
    refine both h ?_ rfl
    rw [mE.eq_def] at h
    dsimp only at h
    split at h
    · obtain ⟨h1, h2⟩ := ba h
      obtain ⟨h3, h4⟩ := ba h1
      have ex := of_decide_eq_true h3
      subst ex
      exact pe_glo (glB_of o.hsc h4) (fun d hd => o.gls x d hd) (nmB_of h2).1
    · cases h
  | .tup es, n, W, sc, X, e, o, h => by
    refine both h ?_ rfl
    rw [mE.eq_def] at h
    dsimp only at h
    split at h
    · obtain ⟨h1, h2⟩ := ba h
      exact pe_tupx (soundEs es n W sc X _ o h1) (of_decide_eq_true h2)
    · cases h
  | .lst es, n, W, sc, X, e, o, h => by
    refine both h ?_ rfl
    rw [mE.eq_def] at h
    dsimp only at h
    split at h
    · obtain ⟨h1, h2⟩ := ba h
      exact pe_lstx (soundEs es n W sc X _ o h1) (of_decide_eq_true h2)
    · cases h
  | .bin op a b, n, W, sc, X, e, o, h => by
    refine both h ?_ rfl
    rw [mE.eq_def] at h
    dsimp only at h
    split at h
    · obtain ⟨h1, h2⟩ := ba h
      obtain ⟨h3, h4⟩ := ba h1
      have ex := of_decide_eq_true h3
      subst ex
      exact pe_binx o.hK (vOf o h4 (soundE a n W sc X _ o h4).1) (vOf o h2 (soundE b n W sc X _ o h2).1)
    · cases h
  | .cmp op a b, n, W, sc, X, e, o, h => by
    rw [mE.eq_def] at h
    dsimp only at h
    split at h
    · obtain ⟨h1, h2⟩ := ba h
      obtain ⟨h3, h4⟩ := ba h1
      obtain ⟨h5, h6⟩ := ba h3
      have ex := of_decide_eq_true h5
      subst ex
      have A := vOf o h6 (soundE a n W sc X _ o h6).1
      have B := vOf o h4 (soundE b n W sc X _ o h4).1
      exact ⟨pe_cmpx o.hK (hu64 o) A B (by simpa using h2), fun _ => pt_cmpx o.hK (hu64 o) A B (by simpa using h2)⟩
    · cases h
  | .chain op op' a b c, n, W, sc, X, e, o, h => by
    rw [mE.eq_def] at h
    dsimp only at h
    split at h
    · obtain ⟨h1, h2⟩ := ba h
      obtain ⟨h3, h4⟩ := ba h1
      obtain ⟨h5, h6⟩ := ba h3
      obtain ⟨h7, h8⟩ := ba h5
      obtain ⟨h9, h10⟩ := ba h7
      have ex := of_decide_eq_true h9
      subst ex
      have ex := of_decide_eq_true h10
      subst ex
      have A := vOf o h8 (soundE a n W sc X _ o h8).1
      have B := vOf o h6 (soundE b n W sc X _ o h6).1
      have C := vOf o h4 (soundE c n W sc X _ o h4).1
      exact ⟨pe_chx o.hK (hu64 o) A B C (by simpa using h2), fun _ => pt_chx o.hK (hu64 o) A B C (by simpa using h2)⟩
    · cases h
  | .not a, n, W, sc, X, e, o, h => by
    rw [mE.eq_def] at h
    dsimp only at h
    split at h
    · obtain ⟨A, A'⟩ := soundE a n W sc X _ o h
      exact ⟨pe_notx A, fun t => pt_notx (A' t)⟩
    · cases h
  | .and a b, n, W, sc, X, e, o, h => by
    rw [mE.eq_def] at h
    dsimp only at h
    split at h
    · obtain ⟨h1, h2⟩ := ba h
      split at h2
      · obtain ⟨A, A'⟩ := soundE a n W sc X _ o h1
        obtain ⟨B, B'⟩ := soundE b n W sc X _ o h2
        exact ⟨pe_andx A (pe_one B), fun t => pt_andx (A' (ba t).1) (pt_one (B' (ba t).2))⟩
      · obtain ⟨A, A'⟩ := soundE a n W sc X _ o h1
        obtain ⟨B, B'⟩ := soundE b n W sc X _ o h2
        exact ⟨pe_andx A B, fun t => pt_andx (A' (ba t).1) (B' (ba t).2)⟩
    · cases h
  | .or a b, n, W, sc, X, e, o, h => by
    rw [mE.eq_def] at h
    dsimp only at h
    split at h
    · obtain ⟨h1, h2⟩ := ba h
      split at h2
      · obtain ⟨A, A'⟩ := soundE a n W sc X _ o h1
        obtain ⟨B, B'⟩ := soundE b n W sc X _ o h2
        exact ⟨pe_orx A (pe_one B), fun t => pt_orx (A' (ba t).1) (pt_one (B' (ba t).2))⟩
      · obtain ⟨A, A'⟩ := soundE a n W sc X _ o h1
        obtain ⟨B, B'⟩ := soundE b n W sc X _ o h2
        exact ⟨pe_orx A B, fun t => pt_orx (A' (ba t).1) (B' (ba t).2)⟩
    · cases h
  | .ite c a b, n, W, sc, X, e, o, h => by
    rw [mE.eq_def] at h
    dsimp only at h
    split at h
    · obtain ⟨h1, h2⟩ := ba h
      obtain ⟨h3, h4⟩ := ba h1
      obtain ⟨h5, h6⟩ := ba h3
      exact ⟨pe_itex ((soundE c n W sc X _ o h6).2 h5) (soundE a n W sc X _ o h4).1 (soundE b n W sc X _ o h2).1, fun t => by cases t⟩
    · cases h
  | .ix a i, n, W, sc, X, e, o, h => by
    refine both h ?_ rfl
    rw [mE.eq_def] at h
    dsimp only at h
    split at h
    · obtain ⟨h1, h2⟩ := ba h
      exact pe_ixx o.hK (vOf o h1 (soundE a n W sc X _ o h1).1) (vOf o h2 (soundE i n W sc X _ o h2).1) (notSlice h2)
    · cases h
  | .sl a lo hi, n, W, sc, X, e, o, h => by
    refine both h ?_ rfl
    rw [mE.eq_def] at h
    dsimp only at h
    split at h
    · obtain ⟨h1, h2⟩ := ba h
      obtain ⟨h3, h4⟩ := ba h1
      refine pe_slx o.hK (vOf o h3 (soundE a n W sc X _ o h3).1) ?_ ?_
      · split at h4
        · split at h4
          · exact po_nil
          · cases h4
        · exact po_x (notNil h4) (soundE lo n W sc X _ o h4).1
      · split at h2
        · split at h2
          · exact po_nil
          · cases h2
        · exact po_x (notNil h2) (soundE hi n W sc X _ o h2).1
    · cases h
  | .isi t a, n, W, sc, X, e, o, h => by
    refine both h ?_ rfl
    rw [mE.eq_def] at h
    dsimp only at h
    split at h
    · obtain ⟨h1, h2⟩ := ba h
      obtain ⟨h3, h4⟩ := ba h1
      obtain ⟨h5, h6⟩ := ba h3
      obtain ⟨h7, h8⟩ := ba h5
      obtain ⟨h9, h10⟩ := ba h7
      have ex := of_decide_eq_true h9
      subst ex
      have ex := of_decide_eq_true h10
      subst ex
      refine pe_isx o.hK (vOf o h4 (soundE a n W sc X _ o h4).1) (notStar h4) (glB_of o.hsc h8) (o.free _ (by decide)) (glB_of o.hsc h6) (fun ht => o.free _ ?_) h2
      have : t = "bool" ∨ t = "int" ∨ t = "str" ∨ t = "tuple" := by
        unfold isiN at ht
        simpa using ht
      rcases this with rfl | rfl | rfl | rfl <;> decide
    · cases h
  | .bi f es, n, W, sc, X, e, o, h => by
    refine both h ?_ rfl
    rw [mE.eq_def] at h
    dsimp only at h
    split at h
    · obtain ⟨h1, h2⟩ := ba h
      obtain ⟨h3, h4⟩ := ba h1
      obtain ⟨h5, h6⟩ := ba h3
      have ex := of_decide_eq_true h5
      subst ex
      refine pe_bix o.hK o.calm (of_decide_eq_true h6) (glB_of o.hsc h4) (o.free _ ?_) (notStars h2) (soundVs es n W sc X _ o h2)
      have hf := of_decide_eq_true h6
      have : f = "len" ∨ f = "all" ∨ f = "any" ∨ f = "tuple" ∨ f = "list" := by
        unfold biNames at hf
        simpa using hf
      rcases this with rfl | rfl | rfl | rfl | rfl <;> decide
    · cases h
  | .rg es, n, W, sc, X, e, o, h => by
    refine both h ?_ rfl
    rw [mE.eq_def] at h
    dsimp only at h
    split at h
    · rename_i x xs _ _
      obtain ⟨h1, h2⟩ := ba h
      obtain ⟨h3, h4⟩ := ba h1
      obtain ⟨h5, h6⟩ := ba h3
      obtain ⟨h7, h8⟩ := ba h5
      obtain ⟨h9, h10⟩ := ba h7
      have ex := of_decide_eq_true h9
      subst ex
      have ex := of_decide_eq_true h10
      subst ex
      have hl := of_decide_eq_true h2
      match es, h4 with
      | [], h4 => rw [mEs] at h4; simp at h4
      | [a], h4 =>
        rw [mEs] at h4
        obtain ⟨q1, q2⟩ := ba h4
        rw [mEs] at q2
        have : xs = [] := by simpa using q2
        subst this
        exact pe_rg1 o.calm (glB_of o.hsc h8) (o.free _ (by decide)) (glB_of o.hsc h6) (o.free _ (by decide)) (soundE a n W sc X _ o q1).1 (notStar q1)
      | [a, b], h4 =>
        rw [mEs] at h4
        obtain ⟨q1, q2⟩ := ba h4
        cases xs with
        | nil => rw [mEs] at q2; cases q2
        | cons y ys =>
          rw [mEs] at q2
          obtain ⟨q3, q4⟩ := ba q2
          rw [mEs] at q4
          have : ys = [] := by simpa using q4
          subst this
          exact pe_rg2 o.calm (glB_of o.hsc h8) (o.free _ (by decide)) (glB_of o.hsc h6) (o.free _ (by decide)) (soundE a n W sc X _ o q1).1 (soundE b n W sc X _ o q3).1 (notStar q1) (notStar q3)
      | a :: b :: c :: r, h4 =>
        exfalso
        rw [mEs] at h4
        obtain ⟨q1, q2⟩ := ba h4
        cases xs with
        | nil => rw [mEs] at q2; cases q2
        | cons y ys =>
          rw [mEs] at q2
          obtain ⟨q3, q4⟩ := ba q2
          cases ys with
          | nil => rw [mEs] at q4; cases q4
          | cons _ _ => simp at hl
    · cases h
  | .me m ob es, n, W, sc, X, e, o, h => by
    refine both h ?_ rfl
    rw [mE.eq_def] at h
    dsimp only at h
    split at h
    · obtain ⟨h1, h2⟩ := ba h
      obtain ⟨h3, h4⟩ := ba h1
      obtain ⟨h5, h6⟩ := ba h3
      obtain ⟨h7, h8⟩ := ba h5
      obtain ⟨h9, h10⟩ := ba h7
      have ex := of_decide_eq_true h9
      subst ex
      exact pe_mex o.hK (hu64 o) (of_decide_eq_true h10) (vOf o h8 (soundE ob n W sc X _ o h8).1) (notCall h8) (notStars h6) (soundVs es n W sc X _ o h6) h4 (of_decide_eq_true h2)
    · cases h
  | .mut m i es, n, W, sc, X, e, o, h => by
    refine both h ?_ rfl
    rw [mE.eq_def] at h
    dsimp only at h
    split at h
    · obtain ⟨h1, h2⟩ := ba h
      obtain ⟨h3, h4⟩ := ba h1
      obtain ⟨h5, h6⟩ := ba h3
      obtain ⟨h7, h8⟩ := ba h5
      obtain ⟨h9, h10⟩ := ba h7
      obtain ⟨h11, h12⟩ := ba h9
      obtain ⟨h13, h14⟩ := ba h11
      have ex := of_decide_eq_true h13
      subst ex
      obtain ⟨d1, d2, _⟩ := nmB_of h8
      exact pe_mutx o.hK (of_decide_eq_true h14) (pe_var (by rw [o.hN]; exact slotB_of h12) (by rw [o.hsc]; exact visB_of h10) d1 d2) (notStars h6) (soundEs es n W sc X _ o h6) h4 (of_decide_eq_true h2)
    · cases h
  | .call f es, n, W, sc, X, e, o, h => by
    refine both h ?_ rfl
    rw [mE.eq_def] at h
    dsimp only at h
    split at h
    · obtain ⟨h1, h2⟩ := ba h
      obtain ⟨h3, h4⟩ := ba h1
      obtain ⟨h5, h6⟩ := ba h3
      have ex := of_decide_eq_true h5
      subst ex
      cases hF : T.fn f with
      | none =>
        refine ⟨fun pins s σ H Q I q => ?_⟩
        obtain ⟨G, st, rel, fin⟩ := q
        rw [evE, hF] at fin
        exact fin.elim
      | some F =>
        obtain ⟨a, fd, ps, f1, f2, f3, f4⟩ := o.fns f F hF
        rename_i f0 p0 xs p1
        cases xs with
        | nil =>
          cases es with
          | nil => exact pe_callx0 hF f4 o.room (glB_of o.hsc h6) f1 f2 f3 o.tk (nmB_of (ba h4).1).1
          | cons _ _ => rw [mEs] at h2; cases h2
        | cons x xs => exact pe_callx hF f4 o.room (glB_of o.hsc h6) f1 f2 f3 o.tk (notStars h2) (nmB_of (ba h4).1).1 (soundVs es n W sc X _ o h2)
    · cases h
  | .lc elt tg ik its ifs, n, W, sc, X, e, o, h => by
    refine both h ?_ rfl
    rw [mE.eq_def] at h
    dsimp only at h
    split at h
    · rename_i elt' tg' it' ifs' am scope p
      obtain ⟨h, k1⟩ := ba h
      obtain ⟨h, k2⟩ := ba h
      obtain ⟨h, k3⟩ := ba h
      obtain ⟨h, k4⟩ := ba h
      obtain ⟨h, k5⟩ := ba h
      obtain ⟨h, k6⟩ := ba h
      obtain ⟨h, k7⟩ := ba h
      obtain ⟨h, k8⟩ := ba h
      obtain ⟨k10, k9⟩ := ba h
      have am0 := of_decide_eq_true k10
      subst am0
      have hown := of_decide_eq_true k3
      have hloc : ∀ q ∈ tgOwn tg tg', (relS scope sc).names.lookup q.1 = some .local := fun q hq => of_decide_eq_true (List.all_eq_true.mp k2 q hq)
      cases ha : itArgs sc ik tg it' with
      | none => rw [ha] at k9; cases k9
      | some es =>
      rw [ha] at k9
      have k9 : mEs N sc its es = true := k9
      have hpr := itArgs_pr ha
      have hpi := itArgs_pi o ha k9 k8 (soundEs its n W sc X es o k9) fun e es' e0 => by
        subst e0
        exact soundHd its n W sc X e es' o k9
      refine PE_imp (pe_lc (own := tgOwn tg tg') (g := gTg S.K tg) (tt := tTs T S (n + 1) noX ifs) (te := tE T S (n + 1) noX elt) o.calm (by rw [o.hN]; exact o.nd) hpi.1 (by rw [o.hN, o.hsc]; exact blkOk_by k7) (fun s H C cl fp => ?_) (fun s H C cl fp => ?_) (fun s H C cl fp => ?_) hpi.2) fun σ H Q q => ?_
      · have ob := o.blk (scope := scope) s H C cl fp
        have g := pg_tg ob.hN ob.nd ob.hsc ob.calm k8 fun q hq => .inr (hloc q hq)
        rw [ob.hK] at g
        exact g
      · have ob := o.blk (scope := scope) s H C cl fp
        exact soundTs ifs (n + 1) noX _ _ _ ob k5 k1 (of_decide_eq_true k6)
      · exact (soundE elt (n + 1) noX _ _ _ (o.blk (scope := scope) s H C cl fp) k4).1
      · rw [hown]
        exact lc_read hpr q
    · cases h
  | .isx y i, n, W, sc, X, e, o, h => by
    refine both h ⟨fun pins s σ H Q I q => ?_⟩ rfl
    obtain ⟨G, st, rel, fin⟩ := q
    rw [evE] at fin
    exfalso
    cases e1 : st[i]? with
    | none => rw [e1] at fin; exact fin
    | some sl =>
      rw [e1] at fin
      cases sl with
      | val d =>
        cases d with
        | exc c p =>
          obtain ⟨ov, _, q⟩ := rel.at_ i _ e1
          obtain ⟨v, _, r⟩ := q
          cases r with
          | exc ea => rw [o.hot] at ea; cases ea
        | _ => exact fin
      | _ => exact fin
  | .callv f es, n, W, sc, X, e, o, h => by
    refine both h ?_ rfl
    rw [mE.eq_def] at h
    dsimp only at h
    split at h
    · obtain ⟨h1, h2⟩ := ba h
      exact pe_callvx o.hmg (soundE f n W sc X _ o h1).1 o.fns o.room o.tk (notStars h2) (soundVs es n W sc X _ o h2)
    · cases h
theorem soundHd : ∀ (as : List Ex) (n : Nat) (W : WX) (sc : Scope) (X : Cx) (e : Expr) (es : List Expr), Okx T S k W N sc X → mEs N sc as (e :: es) = true → PE X e (tE T S n W (as.headD .nil))
  | [], n, W, sc, X, e, es, o, h => by rw [mEs] at h; simp at h
  | a :: as, n, W, sc, X, e, es, o, h => by
    rw [mEs] at h
    exact (soundE a n W sc X e o (ba h).1).1
theorem soundTs : ∀ (as : List Ex) (n : Nat) (W : WX) (sc : Scope) (X : Cx) (es : List Expr), Okx T S k W N sc X → mEs N sc as es = true → as.all tstB = true → as.length ≤ 1 → PTs X es (tTs T S n W as)
  | [], n, W, sc, X, es, o, h, _, hl => pts_of (fun _ => by rw [mEs] at h; simpa using h) (fun a e0 => by cases e0) hl
  | a :: as, n, W, sc, X, [], o, h, _, _ => by rw [mEs] at h; cases h
  | a :: as, n, W, sc, X, e :: es, o, h, ht, hl => by
    have e1 : as = [] := by
      cases as with
      | nil => rfl
      | cons _ _ => simp at hl
    rw [mEs] at h
    have A := (soundE a n W sc X e o (ba h).1).2
    have h2 := (ba h).2
    subst e1
    rw [mEs] at h2
    have e2 : es = [] := by simpa using h2
    subst e2
    refine pts_of (fun e0 => by cases e0) (fun a' e0 => ?_) hl
    cases e0
    exact ⟨e, rfl, A (by simpa using ht)⟩
theorem soundEs : ∀ (as : List Ex) (n : Nat) (W : WX) (sc : Scope) (X : Cx) (es : List Expr), Okx T S k W N sc X → mEs N sc as es = true → PA X es (tEs T S n W as)
  | [], n, W, sc, X, es, o, h => by
    rw [mEs] at h
    have : es = [] := by simpa using h
    subst this
    exact pa_nilE
  | a :: as, n, W, sc, X, [], o, h => by rw [mEs] at h; cases h
  | a :: as, n, W, sc, X, e :: es, o, h => by
    rw [mEs] at h
    obtain ⟨h1, h2⟩ := ba h
    exact pa_consE (notStar h1) (soundE a n W sc X e o h1).1 (soundEs as n W sc X es o h2)
theorem soundVs : ∀ (as : List Ex) (n : Nat) (W : WX) (sc : Scope) (X : Cx) (es : List Expr), Okx T S k W N sc X → mEs N sc as es = true → PA X es (tVs T S n W as)
  | [], n, W, sc, X, es, o, h => by
    rw [mEs] at h
    have : es = [] := by simpa using h
    subst this
    exact pa_nilV
  | a :: as, n, W, sc, X, [], o, h => by rw [mEs] at h; cases h
  | a :: as, n, W, sc, X, e :: es, o, h => by
    rw [mEs] at h
    obtain ⟨h1, h2⟩ := ba h
    exact pa_consV (notStar h1) (vOf o h1 (soundE a n W sc X e o h1).1) (soundVs as n W sc X es o h2)
end
end
end Nm
set_option maxRecDepth 100000
set_option maxHeartbeats 4000000
/-! Statements: what is wanted behind them. -/
namespace Nm
open PySem L2
open PySem.PyData (strOk)

/-- the borrowed name is left as it is -/
def Kp (B : Option Nat) (σ σ' : St) : Prop := ∀ b, B = some b → σ'[b]? = σ[b]?
def notB (B : Option Nat) (i : Nat) : Bool := !(B == some i)
section
variable {B : Option Nat} {σ σ' σ2 : St}
theorem Kp.refl : Kp B σ σ := fun _ _ => rfl
theorem Kp.trans (h : Kp B σ σ') (k : Kp B σ' σ2) : Kp B σ σ2 := fun b e => (k b e).trans (h b e)
theorem notB_ne {i b : Nat} (h : notB B i = true) (e : B = some b) : i ≠ b := by
  intro z
  rw [e, z] at h
  simp [notB] at h
theorem Kp.set {i : Nat} {o : Option V} (h : notB B i = true) : Kp B σ (σ.set i o) := fun b e => List.getElem?_set_ne (notB_ne h e)
theorem Kp.sets : ∀ {is : List Nat} {vs : List V} {σ : St}, is.all (notB B) = true → Kp B σ (setsV σ is vs)
  | [], vs, σ, _ => by cases vs <;> exact Kp.refl
  | _ :: _, [], σ, _ => Kp.refl
  | i :: is, v :: vs, σ, h => by
    rw [List.all_cons] at h
    obtain ⟨h1, h2⟩ := Bool.and_eq_true_iff.mp h
    exact (Kp.set (o := some v) h1).trans (Kp.sets h2)
end

/-- what is wanted behind a statement -/
def FinS (S : Sr) (B : Option Nat) (W : WX) (D : Ends) (r : R Fl) (G : Gh) (H : Hp) (σ : St) : Prop := match r with
  | .bad => False
  | .ok .next st => ∀ σ' H' G', Step 0 G G' H H' → Rel S G' H' st σ' → Kp B σ σ' → D.nx σ' H'
  | .ok .brk st => ∀ σ' H' G', Step 0 G G' H H' → Rel S G' H' st σ' → Kp B σ σ' → D.bk σ' H'
  | .ok (.ret d) st => ∀ v σ' H' G', Step 0 G G' H H' → Rel S G' H' st σ' → Kp B σ σ' → Rep S G' H' d v → D.rt v H'
  | .err c p st => ∀ cls d σ' H' G', Step 0 G G' H H' → Rel S G' H' st σ' → Kp B σ σ' → ExOk S G' H' c p cls d → W cls d σ' H'
def tS (T : Tb) (S : Sr) (B : Option Nat) (W : WX) (s : Sx) : TS := fun D σ H => ∃ G st, Rel S G H st σ ∧ FinS S B W D (evS T s st) G H σ
def tSs (T : Tb) (S : Sr) (B : Option Nat) (W : WX) (s : List Sx) : TS := fun D σ H => ∃ G st, Rel S G H st σ ∧ FinS S B W D (evSs T s st) G H σ
section
variable {S : Sr} {B : Option Nat} {W : WX} {D : Ends} {G G' : Gh} {H H' : Hp} {σ σ' : St} {T : Tb} {X : Cx} {n : Nat}
theorem FinS.step {r : R Fl} (h : FinS S B W D r G H σ) (s : Step 0 G G' H H') (k : Kp B σ σ') : FinS S B W D r G' H' σ' := by
  cases r with
  | bad => exact h
  | ok f st =>
    cases f with
    | next => exact fun σ2 H2 G2 s2 rel k2 => h σ2 H2 G2 (s.trans s2) rel (k.trans k2)
    | brk => exact fun σ2 H2 G2 s2 rel k2 => h σ2 H2 G2 (s.trans s2) rel (k.trans k2)
    | ret d => exact fun v σ2 H2 G2 s2 rel k2 r => h v σ2 H2 G2 (s.trans s2) rel (k.trans k2) r
  | err c p st => exact fun cls d σ2 H2 G2 s2 rel k2 r => h cls d σ2 H2 G2 (s.trans s2) rel (k.trans k2) r
theorem Fin.post {α β : Type} {r : R α} {Ok : Gh → Hp → α → β → Prop} {Q Q' : β → Hp → Prop} (h : Fin S n W r Ok G H σ Q) (k : ∀ v H', Q v H' → Q' v H') : Fin S n W r Ok G H σ Q' := by
  cases r with
  | bad => exact h
  | ok a st => exact fun v H2 G2 s2 rel o => k v H2 (h v H2 G2 s2 rel o)
  | err c p st => exact h
/-- an expression, then the rest of the statement -/
theorem fs_bind {α β : Type} {r : R α} {k : α → Sl → R Fl} {Ok : Gh → Hp → α → β → Prop} (n : Nat) (h : FinS S B W D (r.bind k) G H σ) :
    Fin S n W r Ok G H σ (fun v H1 => ∃ a G1 st1, r = .ok a st1 ∧ Step n G G1 H H1 ∧ Rel S G1 H1 st1 σ ∧ Ok G1 H1 a v ∧ FinS S B W D (k a st1) G1 H1 σ) := by
  cases r with
  | bad => exact h
  | ok a st => exact fun v H2 G2 s2 rel o => ⟨a, G2, st, rfl, s2, rel, o, FinS.step (show FinS S B W D (k a st) G H σ from h) (s2.mono (Nat.zero_le n)) Kp.refl⟩
  | err c p st => exact fun cls d H2 G2 s2 rel o => h cls d σ H2 G2 (s2.mono (Nat.zero_le n)) rel Kp.refl o
/-- a value is stored under a name -/
theorem setS_any {i : Nat} {rv : Rv} {v : V} {st st' : Sl} (rel : Rel S G H st σ) (h : setS st i rv = some st') (r : RvOk S n G H rv v) : ∃ G', Rel S G' H st' (σ.set i (some v)) ∧ Step n G G' H H ∧ ∀ b, G b ≠ .tmp n → G' b = G b := by
  obtain ⟨d, b⟩ := rv
  cases b with
  | false => exact ⟨G, setS_rel rel h r, Step.refl, fun _ _ => rfl⟩
  | true =>
    unfold setS at h
    cases e : st[i]? with
    | none => rw [e] at h; cases h
    | some s =>
      have hi : i < st.length := (List.getElem?_eq_some_iff.mp e).1
      rw [e] at h
      cases s with
      | bor _ => cases h
      | _ =>
        cases h
        exact rel.storeOwn hi r
theorem fs_set {i : Nat} {rv : Rv} {v : V} {st : Sl} (rel : Rel S G H st σ) (fin : FinS S B W D (setR st i rv) G H σ) (hb : notB B i = true) (r : RvOk S n G H rv v) : D.nx (σ.set i (some v)) H := by
  unfold setR at fin
  cases e : setS st i rv with
  | none => rw [e] at fin; exact fin.elim
  | some st' =>
    rw [e] at fin
    obtain ⟨G', rel', sp, _⟩ := setS_any rel e r
    exact fin _ H G' (sp.mono (Nat.zero_le n)) rel' (Kp.set hb)
theorem st_asg {s : Stmt} {i : Nat} {a : Ex} (hset : PS X s (tAsg (tE T S 0 W a) (gName i))) (hb : notB B i = true) : PS X s (tS T S B W (.asg i a)) := by
  refine ⟨fun pins s σ H D I h => hset.run pins s σ H D I ?_⟩
  obtain ⟨G, st, rel, fin⟩ := h
  rw [evS] at fin
  refine ⟨G, st, rel, (fs_bind (Ok := RvOk S 0) 0 fin).post fun v H1 => ?_⟩
  rintro ⟨a, G1, st1, e1, sp1, rel1, o1, fin1⟩
  exact fs_set rel1 fin1 hb o1
theorem st_unp {s : Stmt} {is : List Nat} {a : Ex} {K : PySem.W.Frag} (hset : PS X s (tAsg (tE T S 0 W a) (gTg K (.many is)))) (hb : is.all (notB B) = true) : PS X s (tS T S B W (.unp is a)) := by
  refine ⟨fun pins s σ H D I h => hset.run pins s σ H D I ?_⟩
  obtain ⟨G, st, rel, fin⟩ := h
  rw [evS] at fin
  refine ⟨G, st, rel, (fs_bind (Ok := RvOk S 0) 0 fin).post fun v H1 => ?_⟩
  rintro ⟨rv, G1, st1, e1, sp1, rel1, o1, fin1⟩
  obtain ⟨G2, rel2, sp2, r2⟩ := froz rel1 o1
  have fin2 := FinS.step fin1 sp2 Kp.refl
  obtain ⟨d, b⟩ := rv
  cases d with
  | tup ds =>
    have fin2 : FinS S B W D (setsR st1 is ds) G2 H1 σ := fin2
    unfold setsR at fin2
    cases e : setsS st1 is ds with
    | none => rw [e] at fin2; exact fin2.elim
    | some st' =>
      rw [e] at fin2
      refine bind_item (n := 0) (pr := false) (tg := .many is) (d := .tup ds) rel2 ⟨rfl, r2⟩ (fun z => by cases z) e fun σ2 H2 sp rel' hσ hH => ?_
      obtain ⟨vs, rfl⟩ := hσ
      exact fin2 _ H2 G2 sp rel' (Kp.sets hb)
  | _ => exact fin2.elim
theorem st_par {s : Stmt} {i j : Nat} {a b : Ex} (hset : PS X s (tPar i j (tCons (tE T S 0 W a) (tCons (tE T S 1 W b) tNil)))) (hi : notB B i = true) (hj : notB B j = true) : PS X s (tS T S B W (.par i j a b)) := by
  refine ⟨fun pins s σ H D I h => hset.run pins s σ H D I ?_⟩
  obtain ⟨G, st, rel, fin⟩ := h
  rw [evS] at fin
  refine ⟨G, st, rel, (fs_bind (Ok := RvOk S 0) 0 fin).post fun v H1 => ?_⟩
  rintro ⟨ra, G1, st1, e1, sp1, rel1, o1, fin1⟩
  refine ⟨G1, st1, rel1, (fs_bind (Ok := RvOk S 1) 1 fin1).post fun w H2 => ?_⟩
  rintro ⟨rb, G2, st2, e2, sp2, rel2, o2, fin2⟩
  refine ⟨v, w, rfl, ?_⟩
  -- the first is still ours
  have o1' : RvOk S 0 G2 H2 ra v := by
    obtain ⟨d, bb⟩ := ra
    cases bb with
    | false => exact Rep.stay sp2.stay o1
    | true => exact Own.stay sp2.stay (fun b o e t => sp2.keep b o e (by rw [t]; rfl) |> fun z => ⟨z.1, z.2.trans t⟩) o1
  cases eb : setS st2 i ra with
  | none =>
    have fin2 : FinS S B W D ((setR st2 i ra).bind fun _ st => setR st j rb) G2 H2 σ := fin2
    unfold setR at fin2
    rw [eb] at fin2
    exact fin2.elim
  | some st3 =>
    have fin2 : FinS S B W D ((setR st2 i ra).bind fun _ st => setR st j rb) G2 H2 σ := fin2
    have e3 : setR st2 i ra = .ok .next st3 := by unfold setR; rw [eb]
    rw [e3] at fin2
    have fin3 : FinS S B W D (setR st3 j rb) G2 H2 σ := fin2
    obtain ⟨G3, rel3, sp3, kp3⟩ := setS_any rel2 eb o1'
    have o2' : RvOk S 1 G3 H2 rb w := by
      obtain ⟨d, bb⟩ := rb
      cases bb with
      | false => exact Rep.stay sp3.stay o2
      | true => exact Own.stay sp3.stay (fun b o e t => ⟨e, (kp3 b (by rw [t]; intro z; cases z)).trans t⟩) o2
    exact fs_set rel3 (FinS.step fin3 sp3 (Kp.set hi)) hj o2'
end
end Nm
set_option maxRecDepth 100000
set_option maxHeartbeats 4000000
/-! Statements: one lemma for each form. -/
namespace Nm
open PySem L2
open PySem.PyData (strOk)
section
variable {S : Sr} {B : Option Nat} {W : WX} {D : Ends} {G G' : Gh} {H H' : Hp} {σ σ' : St} {T : Tb} {X : Cx} {n : Nat} {s : Stmt} {a b c : Ex}
theorem st_ex (hs : PS X s (tDrop (tE T S 0 W a))) : PS X s (tS T S B W (.ex a)) := by
  refine ⟨fun pins s σ H D I h => hs.run pins s σ H D I ?_⟩
  obtain ⟨G, st, rel, fin⟩ := h
  rw [evS] at fin
  refine ⟨G, st, rel, (fs_bind (Ok := RvOk S 0) 0 fin).post fun v H1 => ?_⟩
  rintro ⟨rv, G1, st1, e1, sp1, rel1, o1, fin1⟩
  exact fin1 σ H1 G1 Step.refl rel1 Kp.refl
theorem st_ret (hs : PS X s (tRet (tE T S 0 W a))) : PS X s (tS T S B W (.ret a)) := by
  refine ⟨fun pins s σ H D I h => hs.run pins s σ H D I ?_⟩
  obtain ⟨G, st, rel, fin⟩ := h
  rw [evS] at fin
  refine ⟨G, st, rel, (fs_bind (Ok := RvOk S 0) 0 fin).post fun v H1 => ?_⟩
  rintro ⟨rv, G1, st1, e1, sp1, rel1, o1, fin1⟩
  obtain ⟨G2, rel2, sp2, r2⟩ := froz rel1 o1
  exact fin1 v σ H1 G2 sp2 rel2 Kp.refl r2
theorem st_retN (hs : PS X s tRetN) : PS X s (tS T S B W (.ret (.c .non))) := by
  refine ⟨fun pins s σ H D I h => hs.run pins s σ H D I ?_⟩
  obtain ⟨G, st, rel, fin⟩ := h
  rw [evS, evE] at fin
  exact fin .non σ H G Step.refl rel Kp.refl .non
theorem st_pass (hs : PS X s tNext) : PS X s (tS T S B W .pass) := by
  refine ⟨fun pins s σ H D I h => hs.run pins s σ H D I ?_⟩
  obtain ⟨G, st, rel, fin⟩ := h
  rw [evS] at fin
  exact fin σ H G Step.refl rel Kp.refl
theorem st_brk (hs : PS X s tBreak) : PS X s (tS T S B W .brk) := by
  refine ⟨fun pins s σ H D I h => hs.run pins s σ H D I ?_⟩
  obtain ⟨G, st, rel, fin⟩ := h
  rw [evS] at fin
  exact fin σ H G Step.refl rel Kp.refl
theorem st_never : PS X s (tS T S B W .never) := by
  refine ⟨fun pins s σ H D I h => ?_⟩
  obtain ⟨G, st, rel, fin⟩ := h
  rw [evS] at fin
  exact fin.elim
/-- a test, then the rest -/
theorem fs_test {kk : Rv → Sl → R Fl} {k : Bool → Sl → R Fl} {st : Sl} (h1 : ∀ b o st, kk (.bl b, o) st = k b st) (h2 : ∀ d o st, (∀ b, d ≠ .bl b) → kk (d, o) st = .bad) (fin : FinS S B W D ((evE T c st).bind kk) G H σ) :
    Fin S 0 W (evB T c st) (fun _ _ b b' => b = b') G H σ (fun b H1 => ∃ G1 st1, Step 0 G G1 H H1 ∧ Rel S G1 H1 st1 σ ∧ FinS S B W D (k b st1) G1 H1 σ) := by
  rw [evB_eq]
  cases e : evE T c st with
  | bad => rw [e] at fin; exact fin.elim
  | err cc p s1 =>
    rw [e] at fin
    exact fun cls d H2 G2 s2 rel o => fin cls d σ H2 G2 s2 rel Kp.refl o
  | ok r st1 =>
    rw [e] at fin
    have fin : FinS S B W D (kk r st1) G H σ := fin
    obtain ⟨d, o⟩ := r
    cases d with
    | bl b =>
      rw [h1] at fin
      intro b' H2 G2 s2 rel eb
      cases eb
      exact ⟨G2, st1, s2, rel, fin.step s2 Kp.refl⟩
    | _ =>
      rw [h2 _ _ _ (fun _ z => by cases z)] at fin
      exact fin.elim
theorem st_if {t f : List Sx} {c' : Expr} {t' f' : List Stmt} {pos : Pos} (hc : PT X c' (tT T S 0 W c)) (ht : PSs X t' (tSs T S B W t)) (hf : PSs X f' (tSs T S B W f)) : PS X (.If c' t' f' pos) (tS T S B W (.ifs c t f)) := by
  refine ⟨fun pins s σ H D I h => (ps_if hc ht hf).run pins s σ H D I ?_⟩
  obtain ⟨G, st, rel, fin⟩ := h
  rw [evS] at fin
  refine ⟨G, st, rel, (fs_test (k := fun b st => if b then evSs T t st else evSs T f st) (fun b o st => by cases b <;> rfl) (fun d o st hd => ?_) fin).post fun v H1 => ?_⟩
  · cases d with
    | bl b => exact absurd rfl (hd b)
    | _ => rfl
  rintro ⟨G1, st1, sp1, rel1, fin1⟩
  cases v with
  | true => exact ⟨G1, st1, rel1, fin1⟩
  | false => exact ⟨G1, st1, rel1, fin1⟩
theorem st_while {body : List Sx} {c' : Expr} {body' : List Stmt} {pos : Pos} (hp : PassesOwn (model X.prog X.w) X.A X.env X.xe) (hc : PT X c' (tT T S 0 W c)) (hb : PSs X body' (tSs T S B W body)) : PS X (.While c' body' [] pos) (tS T S B W (.while_ c body)) := by
  refine ⟨fun pins s σ H D I h => (ps_while hp hc hb).run pins s σ H D I ?_⟩
  obtain ⟨G, st, rel, fin⟩ := h
  rw [evS] at fin
  refine ⟨fun m σ' H' => ∃ G' st', Rel S G' H' st' σ' ∧ FinS S B W D (whileGo (evE T c) (evSs T body) m st') G' H' σ', ⟨T.fu, G, st, rel, fin⟩, ?_⟩
  rintro m σ1 H1 ⟨G1, st1, rel1, fin1⟩
  cases m with
  | zero => exact fin1.elim
  | succ m =>
    rw [whileGo] at fin1
    refine ⟨G1, st1, rel1, (fs_test (k := fun b st => if b then ((evSs T body st).bind fun f st2 => match f with
      | .next => whileGo (evE T c) (evSs T body) m st2
      | .brk => .ok .next st2
      | .ret r => .ok (.ret r) st2) else .ok .next st) (fun b o st => by cases b <;> rfl) (fun d o st hd => ?_) fin1).post fun v H2 => ?_⟩
    · cases d with
      | bl b => exact absurd rfl (hd b)
      | _ => rfl
    rintro ⟨G2, st2, sp2, rel2, fin2⟩
    cases v with
    | false => exact fin2 σ1 H2 G2 Step.refl rel2 Kp.refl
    | true =>
      refine ⟨fun σ' H' => ∃ G' st', Rel S G' H' st' σ' ∧ FinS S B W D (whileGo (evE T c) (evSs T body) m st') G' H' σ', fun σ' H' h => ⟨m, Nat.lt_succ_self m, h⟩, G2, st2, rel2, ?_⟩
      have fin2 : FinS S B W D ((evSs T body st2).bind fun f st2 => match f with
        | .next => whileGo (evE T c) (evSs T body) m st2
        | .brk => .ok .next st2
        | .ret r => .ok (.ret r) st2) G2 H2 σ1 := fin2
      cases e : evSs T body st2 with
      | bad => rw [e] at fin2; exact fin2.elim
      | err cc p s1 => rw [e] at fin2; exact fin2
      | ok f st3 =>
        rw [e] at fin2
        cases f with
        | next => exact fun σ' H' G' sp rel k => ⟨G', st3, rel, FinS.step (show FinS S B W D (whileGo (evE T c) (evSs T body) m st3) G2 H2 σ1 from fin2) sp k⟩
        | brk => exact fin2
        | ret r => exact fin2
theorem st_for {body : List Sx} {tg : Tg} {ik : Ik} {its : List Ex} {tg' it' : Expr} {body' : List Stmt} {pos : Pos} {K : PySem.W.Frag} (hp : PassesOwn (model X.prog X.w) X.A X.env X.xe) (hc : X.calm = true) (hpr : isPr ik = true → isTupTg tg = true) (hi : PI X tg' it' (tIt T S 0 W ik its)) (hg : PG X tg' (gTg K tg))
    (hb : PSs X body' (tSs T S B W body)) (hs : ∀ x, foldedSetIterable it' X.env x = pure x) (hB : tg.slots.all (notB B) = true) : PS X (.For tg' it' body' [] pos) (tS T S B W (.for_ tg ik its body)) := by
  refine ⟨fun pins s σ H D I h => (ps_for hp hc hi hg hb hs).run pins s σ H D I ?_⟩
  obtain ⟨G, st, rel, fin⟩ := h
  rw [evS] at fin
  refine ⟨G, st, rel, ?_⟩
  show Fin S 0 W ((evEs T its st).bind fun ds st => R.opt (itemsOf ik ds) st) _ G H σ _
  cases hr : evEs T its st with
  | bad => rw [hr] at fin; exact fin.elim
  | err c p s =>
    rw [hr] at fin
    exact fun cls d H2 G2 s2 rel o => fin cls d σ H2 G2 s2 rel Kp.refl o
  | ok ds st1 =>
    rw [hr] at fin
    show Fin S 0 W (R.opt (itemsOf ik ds) st1) _ G H σ _
    have fin : FinS S B W D (match itemsOf ik ds with
      | none => .bad
      | some xs => forGo tg (evSs T body) xs st1) G H σ := fin
    cases hx : itemsOf ik ds with
    | none => rw [hx] at fin; exact fin.elim
    | some xs =>
      rw [hx] at fin
      have fin : FinS S B W D (forGo tg (evSs T body) xs st1) G H σ := fin
      intro J H1 G1 sp1 rel1 wd
      let Pv : Nat → St → Hp → Prop := fun i σ' H' => ∃ G' st', Rel S G' H' st' σ' ∧ Step 0 G1 G' H1 H' ∧ FinS S B W D (forGo tg (evSs T body) (xs.drop i) st') G' H' σ'
      refine for_it (Y := _) (G := fun H' => ∃ G', Stay G1 G' H1 H') wd.walk Pv ?_ ?_ ?_ ?_
      · exact ⟨G1, st1, rel1, Step.refl, by rw [List.drop_zero]; exact fin.step sp1 Kp.refl⟩
      · rintro i σ2 H2 hi ⟨G2, st2, rel2, sp2, _⟩
        exact ⟨G2, sp2.stay⟩
      · rintro i x σ2 H2 H2' hi ⟨G2, st2, rel2, sp2, fin2⟩ ⟨d, hd, hy⟩
        have hit := hy G2 sp2.stay
        have hdrop : xs.drop i = d :: xs.drop (i + 1) := by
          obtain ⟨h1, h2⟩ := List.getElem?_eq_some_iff.mp hd
          rw [List.drop_eq_getElem_cons h1, h2]
        rw [hdrop, forGo] at fin2
        cases hbd : bindTg st2 tg d with
        | none => rw [hbd] at fin2; exact fin2.elim
        | some st3 =>
          rw [hbd] at fin2
          have fin2 : FinS S B W D ((evSs T body st3).bind fun f st2 => match f with
            | .next => forGo tg (evSs T body) (xs.drop (i + 1)) st2
            | .brk => .ok .next st2
            | .ret r => .ok (.ret r) st2) G2 H2 σ2 := fin2
          refine bind_item (n := 0) rel2 hit hpr hbd fun σ3 H3 sp3 rel3 hσ hH => ?_
          obtain ⟨vs, rfl⟩ := hσ
          have fin3 := FinS.step fin2 sp3 (Kp.sets (vs := vs) hB)
          refine ⟨G2, st3, rel3, ?_⟩
          cases e : evSs T body st3 with
          | bad => rw [e] at fin3; exact fin3.elim
          | err cc p s1 => rw [e] at fin3; exact fin3
          | ok f st4 =>
            rw [e] at fin3
            cases f with
            | next => exact fun σ' H' G' sp rel k => ⟨G', st4, rel, (sp2.trans sp3).trans sp, FinS.step (show FinS S B W D (forGo tg (evSs T body) (xs.drop (i + 1)) st4) G2 H3 _ from fin3) sp k⟩
            | brk => exact fin3
            | ret r => exact fin3
      · rintro σ2 H2 ⟨G2, st2, rel2, sp2, fin2⟩
        rw [List.drop_length] at fin2
        exact fin2 σ2 H2 G2 Step.refl rel2 Kp.refl
theorem sts_nil : PSs X [] (tSs T S B W []) := by
  refine ⟨fun pins s σ H D I h => pss_nil.run pins s σ H D I ?_⟩
  obtain ⟨G, st, rel, fin⟩ := h
  rw [evSs] at fin
  exact fin σ H G Step.refl rel Kp.refl
theorem sts_cons {x : Sx} {xs : List Sx} {ss : List Stmt} (h1 : PS X s (tS T S B W x)) (h2 : PSs X ss (tSs T S B W xs)) : PSs X (s :: ss) (tSs T S B W (x :: xs)) := by
  refine ⟨fun pins s σ H D I h => (pss_cons h1 h2).run pins s σ H D I ?_⟩
  obtain ⟨G, st, rel, fin⟩ := h
  rw [evSs] at fin
  refine ⟨G, st, rel, ?_⟩
  cases e : evS T x st with
  | bad => rw [e] at fin; exact fin.elim
  | err c p s1 => rw [e] at fin; exact fin
  | ok f st1 =>
    rw [e] at fin
    cases f with
    | next => exact fun σ' H' G' sp rel k => ⟨G', st1, rel, FinS.step (show FinS S B W D (evSs T xs st1) G H σ from fin) sp k⟩
    | brk => exact fin
    | ret r => exact fin
/-! ### changes in place -/
theorem augD_ints {o : Operator} {d e z : Nm.D} (h : augD o d e = some z) : ∃ i j, o = .Add ∧ d = .int i ∧ e = .int j ∧ z = .int (i + j) := by
  unfold augD at h
  split at h
  · cases h
    exact ⟨_, _, rfl, rfl, rfl, rfl⟩
  · cases h
theorem opt_ok {α : Type} {o : Option α} {k : α → Sl → R Fl} {st : Sl} (fin : FinS S B W D ((R.opt o st).bind k) G H σ) : ∃ a, o = some a ∧ FinS S B W D (k a st) G H σ := by
  cases o with
  | none => exact fin.elim
  | some a => exact ⟨a, rfl, fin⟩
theorem RvOk.int {i : Int} {o : Bool} {v : V} (h : RvOk S n G H (.int i, o) v) : v = .int i := by
  cases o with
  | true => exact h.elim
  | false => exact Vwd.int (.inl h)
theorem st_aug {i : Nat} (hs : PS X s (tAug i (tE T S 0 W a) (ipI fun i j => i + j))) (hb : notB B i = true) : PS X s (tS T S B W (.aug i .Add a)) := by
  refine ⟨fun pins s σ H D I h => hs.run pins s σ H D I ?_⟩
  obtain ⟨G, st, rel, fin⟩ := h
  rw [evS] at fin
  cases eg : getS st i with
  | none => rw [eg] at fin; exact fin.elim
  | some d =>
    rw [eg] at fin
    obtain ⟨v, ev, hv⟩ := rel.get eg
    refine ⟨v, ev, G, st, rel, (fs_bind (Ok := RvOk S 0) 0 fin).post fun y H1 => ?_⟩
    rintro ⟨rv, G1, st1, e1, sp1, rel1, o1, fin1⟩
    obtain ⟨z, ez, fin2⟩ := opt_ok fin1
    obtain ⟨p, q, _, rfl, er, rfl⟩ := augD_ints ez
    obtain ⟨d1, bb⟩ := rv
    have er : d1 = .int q := er
    subst er
    obtain rfl := hv.int
    obtain rfl := o1.int
    exact ⟨p, q, rfl, rfl, fs_set (n := 0) (v := .int (p + q)) rel1 fin2 hb (show Rep S G1 H1 (.int (p + q)) (.int (p + q)) from .int _)⟩
/-- xs[i], 0 or more -/
def rGetL : V → V → Hp → VK → Prop := fun o i H Q => ∃ p xs k v, o = .ref p ∧ i = .int k ∧ 0 ≤ k ∧ H p = some (.lst xs) ∧ xs[k.toNat]? = some v ∧ Q v H
theorem get_list : PGet X rGetL := by
  intro pins s σ H o i ov iv Q I ro ri h
  obtain ⟨p, xs, k, v, rfl, rfl, h0, hp, hx, q⟩ := h
  cases ro
  obtain ⟨t, rfl⟩ := ri
  obtain ⟨its, m, r, ho, hz⟩ := I.lst hp
  obtain ⟨w, ew, rw'⟩ := r.get hx
  have hl := r.length
  have hn := line63
  have hk : k.toNat < xs.length := (List.getElem?_eq_some_iff.mp hx).1
  exact wpAny_getItem_list (items := its.toArray) ⟨_, ho, rfl, m, rfl⟩ h0 (by omega) (by simpa using ew) ⟨v, H, I, rw', q⟩
theorem put_fin {i : Nat} {st : Sl} {p : Addr} {u r : Nm.D} {w : V} (rel : Rel S G H st σ) (hv : σ[i]? = some (some (.ref p))) (fin : FinS S B W D (putR st i ((getS st i).bind fun d => setD d u r)) G H σ) (hr : Rep S G H r w) :
    ∃ xs k, u = .int k ∧ 0 ≤ k ∧ k < xs.length ∧ H p = some (.lst xs) ∧ D.nx σ (upd H p (.lst (xs.set k.toNat w))) := by
  unfold putR at fin
  cases eg : getS st i with
  | none => rw [eg] at fin; exact fin.elim
  | some d =>
    rw [eg] at fin
    have fin1 : FinS S B W D (match (setD d u r).bind fun d => putS st i d with
      | some st' => .ok .next st'
      | none => .bad) G H σ := fin
    clear fin
    obtain ⟨v, ev, hd⟩ := rel.get eg
    rw [hv] at ev
    cases ev
    cases ed : setD d u r with
    | none => rw [ed] at fin1; exact fin1.elim
    | some d' =>
      rw [ed] at fin1
      have fin2 : FinS S B W D (match putS st i d' with
        | some st' => .ok .next st'
        | none => .bad) G H σ := fin1
      clear fin1
      cases ep : putS st i d' with
      | none => rw [ep] at fin2; exact fin2.elim
      | some st' =>
        rw [ep] at fin2
        cases d with
        | lst xs =>
          cases u with
          | int k =>
            have ed : (if 0 ≤ k ∧ k < xs.length then some (Nm.D.lst (xs.set k.toNat r)) else none) = some d' := ed
            split at ed
            · rename_i hk
              cases ed
              obtain ⟨a, vs, ea, ha, hl, rr⟩ := hd.lst
              cases ea
              have hlen := rr.length
              have rr' : Reps S G H (xs.set k.toNat r) (vs.set k.toNat w) := Reps.set k.toNat hr rr
              obtain ⟨rel', sp⟩ := rel.put (n := 0) (d := .non) (d' := .non) ep hv (by rw [List.length_set]; exact hl) rr'
              exact ⟨vs, k, rfl, hk.1, by rw [← hlen]; exact hk.2, ha, fin2 σ _ G sp rel' Kp.refl⟩
            · cases ed
          | _ => cases ed
        | _ => cases ed
theorem st_setix {i : Nat} (hs : PS X s (tAsg (tE T S 0 W a) (gSub (tVar i) (tE T S 0 W b) rSetL))) : PS X s (tS T S B W (.setix i b a)) := by
  refine ⟨fun pins s σ H D I h => hs.run pins s σ H D I ?_⟩
  obtain ⟨G, st, rel, fin⟩ := h
  rw [evS] at fin
  refine ⟨G, st, rel, (fs_bind (Ok := RvOk S 0) 0 fin).post fun x H1 => ?_⟩
  rintro ⟨rv, G1, st1, e1, sp1, rel1, o1, fin1⟩
  obtain ⟨G2, rel2, sp2, r2⟩ := froz rel1 o1
  have fin2 := FinS.step fin1 sp2 Kp.refl
  by_cases ho : ownB st1 i = true
  · rw [if_pos ho] at fin2
    obtain ⟨p, xs, hp, _, _⟩ := ownB_at rel2 ho
    refine ⟨.ref p, hp, G2, st1, rel2, (fs_bind (Ok := RvOk S 0) 0 fin2).post fun y H3 => ?_⟩
    rintro ⟨ru, G3, st3, e3, sp3, rel3, o3, fin3⟩
    obtain ⟨ys, k, eu, h0, hk, hH, q⟩ := put_fin rel3 hp fin3 (r2.stay sp3.stay)
    obtain ⟨d1, bb⟩ := ru
    have eu : d1 = .int k := eu
    subst eu
    obtain rfl := o3.int
    exact ⟨p, ys, k, k.toNat, rfl, rfl, hH, by unfold ixN; rw [if_pos h0, if_pos hk], q⟩
  · rw [if_neg ho] at fin2
    exact fin2.elim
theorem st_augix {i : Nat} (hs : PS X s (tAugS (tVar i) (tE T S 0 W a) (tE T S 0 W b) rGetL (ipI fun i j => i + j) rSetL)) : PS X s (tS T S B W (.augix i a .Add b)) := by
  refine ⟨fun pins s σ H D I h => hs.run pins s σ H D I ?_⟩
  obtain ⟨G, st, rel, fin⟩ := h
  rw [evS] at fin
  by_cases ho : ownB st i = true
  · rw [if_pos ho] at fin
    obtain ⟨p, xs0, hp, _, _⟩ := ownB_at rel ho
    refine ⟨.ref p, hp, G, st, rel, (fs_bind (Ok := RvOk S 0) 0 fin).post fun x H1 => ?_⟩
    rintro ⟨ru, G1, st1, e1, sp1, rel1, o1, fin1⟩
    obtain ⟨du, bu⟩ := ru
    have fin1 : FinS S B W D (match (getS st1 i).bind fun d => frontD d du with
      | some x => (evE T b st1).bind fun r st => (R.opt (augD .Add x r.1) st).bind fun z st => putR st i ((getS st i).bind fun d => setD d du z)
      | none => .bad) G1 H1 σ := fin1
    cases eg : getS st1 i with
    | none => rw [eg] at fin1; exact fin1.elim
    | some d =>
      rw [eg] at fin1
      have fin1 : FinS S B W D (match frontD d du with
        | some x => (evE T b st1).bind fun r st => (R.opt (augD .Add x r.1) st).bind fun z st => putR st i ((getS st i).bind fun d => setD d du z)
        | none => .bad) G1 H1 σ := fin1
      cases ex : frontD d du with
      | none => rw [ex] at fin1; exact fin1.elim
      | some w =>
        rw [ex] at fin1
        have fin9 : FinS S B W D ((evE T b st1).bind fun r st => (R.opt (augD .Add w r.1) st).bind fun z st => putR st i ((getS st i).bind fun d => setD d du z)) G1 H1 σ := fin1
        obtain ⟨v, ev, hd⟩ := rel1.get eg
        rw [hp] at ev
        cases ev
        cases d with
        | lst xs =>
          cases du with
          | int k =>
            have ex : (if 0 ≤ k then xs[k.toNat]? else none) = some w := ex
            split at ex
            · rename_i h0
              obtain ⟨q, vs, eq, ha, hl, rr⟩ := hd.lst
              cases eq
              obtain ⟨v, ev, rv⟩ := rr.get ex
              obtain rfl := o1.int
              refine ⟨p, vs, k, v, rfl, rfl, h0, ha, ev, G1, st1, rel1, (fs_bind (Ok := RvOk S 0) 0 fin9).post fun y H2 => ?_⟩
              rintro ⟨rb, G2, st2, e2, sp2, rel2, o2, fin2⟩
              obtain ⟨z, ez, fin3⟩ := opt_ok fin2
              obtain ⟨m, j, _, rfl, er, rfl⟩ := augD_ints ez
              obtain ⟨d1, bb⟩ := rb
              have er : d1 = .int j := er
              subst er
              obtain rfl := o2.int
              obtain rfl := Vwd.int (.inl rv)
              obtain ⟨ys, k', eu, h0', hk, hH, q⟩ := put_fin (w := .int (m + j)) rel2 hp fin3 (.int _)
              cases eu
              exact ⟨m, j, rfl, rfl, p, ys, k, k.toNat, rfl, rfl, hH, by unfold ixN; rw [if_pos h0, if_pos hk], q⟩
            · cases ex
          | _ => cases ex
        | _ => cases ex
  · rw [if_neg ho] at fin
    exact fin.elim
end
end Nm
set_option maxRecDepth 100000
set_option maxHeartbeats 4000000
/-! Raise and try. -/
namespace Nm
open PySem L2
open PySem.PyData (strOk)
section
variable {X : Cx} {S : Sr} {T : Tb} {B : Option Nat} {W : WX}
/-- C(), C a class of exceptions that has no __init__ of its own -/
theorem pmk_bare {C : Addr} {x : Str} {p pos : Pos} (q : PySem.W.excIn X.K C He.veBase "ValueError.__new__" = true) (gC : X.mg x = some (.ref C)) (kC : PySem.W.keepIn X.K (.ref C) = true) (r : Raises X (.ref C)) (hg : Gl X x) (hd : (x == ("__debug__" : Str)) = false) :
    PMk X (.Call (.Name x p) [] [] pos) (fun _ H Q => Q (.ref C) none H) := by
  intro pins s σ H Q I h
  refine wpAny_Call_Name_kw (ld_glob I hg gC ?_ hd)
  refine PySem.W.callWith_K0 I.kIn kC ?_
  show wpAny _ _ (call (.ref C) []) _ _ _
  obtain ⟨bm, N, nm, qn, bs, hdct, sn, sub, ab, col, dd, k0, k1, k2, k3, k5, mN, hC, hN, hni, TT⟩ := exc_obj I.kIn q
  exact wpAny_call_exc_subT PySem.F.excBase_ValueError TT hC hN hni (fun h' e hm => mk_of I hm r h (I.hok.gone hm.new)) (Nat.zero_le _)
theorem st_raise {c : Str} {p pos pos' : Pos} (hc : X.calm = true) (tk : Takes X W) (hS : X.mg = S.mg) (hx : T.ex0 c = true → ∃ C, X.mg c = some (.ref C) ∧ PySem.W.excIn X.K C He.veBase "ValueError.__new__" = true ∧ PySem.W.keepIn X.K (.ref C) = true ∧ PySem.W.subIn X.K (.ref C) (.type "BaseException") = some true ∧ PySem.W.typeIn X.K (.ref C) = some (.type "type"))
    (hg : Gl X c) (hd : (c == ("__debug__" : Str)) = false) : PS X (.Raise (some (.Call (.Name c p) [] [] pos)) none pos') (tS T S B W (.raise_ c [])) := by
  refine ⟨fun pins s σ H D I h => ?_⟩
  obtain ⟨G, st, rel, fin⟩ := h
  rw [evS] at fin
  by_cases e : T.ex0 c = true
  · rw [if_pos e] at fin
    obtain ⟨C, h1, h2, h3, h4, h5⟩ := hx e
    refine (ps_raise hc tk (pmk_bare h2 h1 h3 (raises_own h4 h5) hg hd)).run pins s σ H D I ?_
    exact fin (.ref C) none σ H G Step.refl rel Kp.refl ⟨C, by rw [← hS]; exact h1, rfl, rfl⟩
  · rw [if_neg e] at fin
    exact fin.elim
/-- what a clause's suite must do -/
def SuiteOk (T : Tb) (S : Sr) (X : Cx) (i : Option Nat) (h : Hd) (b : Stmt) (ts : Addr → Value → Option Addr → TS) : Prop :=
  (∀ (a : Addr) (oe : Obj) (cls : Value) (d : Option Addr) (pn : List (Addr × Obj)), Zc cls d oe → (∃ vs, oe.data = .fields vs) → PSs (X.suite a ((a, oe) :: pn)) [b] (ts a cls d)) ∧
  ∀ (a : Addr) (cls : Value) (d : Option Addr) (c : Str) (p : List D) (z : D) (G : Gh) (H : Hp) (st : Sl) (σ : St) (E : Ends), ExOk S G H c p cls d → Rel S G H st σ → (∀ j, i = some j → ∃ σ0 : St, σ = σ0.set j (some (.ref a))) → hdR T h c p = some z → (∀ v H' G', Ext G G' H H' → Rep S G' H' z v → E.rt v H') → ts a cls d E σ H
theorem fs_catch {st : Sl} {c : Str} {i : Option Nat} {h : Hd} {r : R Fl} {D : Ends} {G : Gh} {H : Hp} {σ : St} {Wb : WX} (fin : FinS S B W D (catchR T c i h r) G H σ)
    (k : ∀ c' p st' cls d σ' H' G', Step 0 G G' H H' → Rel S G' H' st' σ' → Kp B σ σ' → ExOk S G' H' c' p cls d → (match T.exm c' c with
      | some true => (match hdR T h c' p with
        | some z => (∀ v H'' G'' σ'' st'', Step 0 G' G'' H' H'' → Rel S G'' H'' st'' σ'' → Kp B σ σ'' → Rep S G'' H'' z v → st'' = catchSt i st' → D.rt v H'') → Wb cls d σ' H'
        | none => True)
      | some false => W cls d σ' H' → Wb cls d σ' H'
      | none => True)) : FinS S B Wb D r G H σ := by
  cases r with
  | bad => exact fin
  | ok f st =>
    cases f with
    | next => exact fin
    | brk => exact fin
    | ret d => exact fin
  | err c' p st' =>
    intro cls d σ' H' G' sp rel kp ex
    have k0 := k c' p st' cls d σ' H' G' sp rel kp ex
    unfold catchR at fin
    dsimp only at fin
    cases e1 : T.exm c' c with
    | none => rw [e1] at fin; exact fin.elim
    | some b =>
      rw [e1] at fin k0
      cases b with
      | false => exact k0 (fin cls d σ' H' G' sp rel kp ex)
      | true =>
        cases e2 : hdR T h c' p with
        | none =>
          simp only [e2] at fin
          exact fin.elim
        | some z =>
          simp only [e2] at fin k0
          exact k0 fun v H'' G'' σ'' st'' sp' rel' kp' rp es => by
            subst es
            exact fin v σ'' H'' G'' (sp.trans sp') rel' kp' rp
end
end Nm
set_option maxRecDepth 100000
set_option maxHeartbeats 4000000
/-! A def of one parameter, called with the exception that is handled. -/
namespace Nm
open PySem L2 PyProof.Rows
open PySem.PyData (strOk)
/-- the body's context: the exception p stands pinned -/
abbrev hotCx (P : Program) (w : World) (K : PySem.W.Frag) (mg : Str → Option Value) (base : Heap) (N : List Str) (qual : Str) (sc : Scope) (f : Addr) (cd : Value) (A : Around) (outer : List Env) (s : Shared) (H : Hp) (p : Addr × Obj) : Cx := L2H.cxH (L2.CX P w) P w K mg base N qual sc f cd A outer s H (fun _ _ _ => False) p
theorem hot_call {P : Program} {w : World} {K : PySem.W.Frag} {mg : Str → Option Value} {base : Heap} {x qual : Str} {pa : Arguments} {bd : List Stmt} {sc : Scope} {dvs : List V} {kws : List (Str × V)} {f : Addr} {fd : FuncData} {N : List Str} {e : Str} (hF : FunD K x qual pa bd sc dvs kws f fd) (hsc : FnScope N [e] sc)
    {A : Around} {outer : List Env} {s : Shared} {H : Hp} {args : Args} {a : Addr} {oe : Obj} {Q : VK} (room : A.depth + 8 < recursionLimit) (pin : L2H.PinOk outer H s (a, oe)) (e0 : Env0 P w K mg base A outer s H) (bnd : BindsTo s fd args [(e, .ref a)])
    (body : ∀ cd, ∃ t, PSs (hotCx P w K mg base N qual sc f cd A outer s H (a, oe)) bd t ∧ t { nx := fun _ H' => Q .non H', rt := Q } (L2.start N [.ref a]) H) :
    codeAny (model P w) A (.call (.ref f) args) (CR (L2.CX P w) outer P w H s Q fun _ _ _ => False) s := by
  obtain ⟨oc, od, dV, kV, doc, pm, an, cdv, ct, osl, rfl, lk, hcd, _, _⟩ := hF.ex
  have inn : K.In s.heap := e0.mod.kin.keeps fun b o z => (e0.bs b o z).1
  have nol : s.heap.NoLimit := e0.mod.nolimit.keeps fun b o z => (e0.bs b o z).1
  have kinds : ∀ y ∈ [(e, Value.ref a)], sc.names.lookup y.1 = some .local ∨ (sc.names.lookup y.1 = some .cell ∧ ((cellsFrom (s.heap.objs.size + 1) sc.names []).lookup y.1).isSome = true) := by
    intro y hy
    obtain rfl : y = (e, Value.ref a) := by simpa using hy
    rcases hsc.par e (by simp) with q | q
    · exact .inl q
    · exact .inr ⟨q, PySem.W.cellsFrom_some _ _ _ (.inl q)⟩
  refine codeAny_call_function (by omega) (inn _ _ lk) rfl hsc.co hsc.gen rfl (PySem.W.codeRec_of inn hcd) (bnd _ _ _ _ (wpAny_newFunctionEnv_cells hsc.kind kinds fun env he s1 ic => ?_))
  subst he
  refine ⟨nol.keeps ic.toInCall.keep, codeAny_func ?_⟩
  obtain ⟨t, ht, hq⟩ := body cdv
  have I : Inv (hotCx P w K mg base N qual sc f cdv A outer s H (a, oe)) [] (L2.start N [.ref a]) H s1 := L2H.inv_startH (us := [.ref a]) (vs := [.ref a]) hsc pin e0 rfl (.cons rfl .nil) ic
  refine wpAny_mono (ht.run [] s1 _ H _ I hq) (fun fl s' hs => ?_) fun _ _ z => z
  cases fl with
  | ret u =>
    obtain ⟨v, σ', H', J, rv, q⟩ := hs
    exact ⟨v, H', J.os, J.bare, J.base, J.hok, rv, q⟩
  | next =>
    obtain ⟨σ', H', J, q⟩ := hs
    exact ⟨.non, H', J.os, J.bare, J.base, J.hok, rfl, q⟩
  | brk => obtain ⟨_, _, _, q⟩ := hs; exact q.elim
  | cont => obtain ⟨_, _, _, q⟩ := hs; exact q.elim
section
variable {X : Cx} {S : Sr} {T : Tb}
theorem err_none {P : Program} {w : World} {outer : List Env} {H : Hp} {s s' : Shared} {e : Value} (h : L2.CX P w outer H s (fun _ _ _ => False) e s') : False := by
  obtain ⟨_, _, _, _, _, _, _, _, _, _, _, _, z⟩ := h
  exact z
/-- f(n) in a suite -/
theorem pe_which {a fa : Addr} {oe : Obj} {pn : List (Addr × Obj)} {fd : FuncData} {e f n : Str} {i : Nat} {C : Addr} {c : Str} {d : D} {p1 p2 pos : Pos} {wh : Str → Option D} (F : FnW X.prog X.w X.K X.mg X.base fa fd e wh) (rd : X.A.depth + 8 < recursionLimit) (ru : X.A.units + 200 < cLine) (hz : Zc (.ref C) none oe) (hf : ∃ vs, oe.data = .fields vs)
    (hg : Gl X f) (hm : X.mg f = some (.ref fa)) (hk : PySem.W.keepIn X.K (.ref fa) = true) (hb : Binds X.K fd [e] []) (hd : (f == ("__debug__" : Str)) = false) (hC : X.mg c = some (.ref C)) (hw : wh c = some d) (hn : PE (X.suite a ((a, oe) :: pn)) (.Name n p2) (tVar i)) (hiN : i < X.N.length) :
    PE (X.suite a ((a, oe) :: pn)) (.Call (.Name f p1) [.Name n p2] [] pos) (fun σ H Q => (∃ σ0 : L2.St, σ = σ0.set i (some (.ref a))) ∧ ∃ G, Wk G H ∧ ∀ v H' G', Ext G G' H H' → Rep ⟨X.K, X.mg, none⟩ G' H' d v → Q v H') := by
  refine ⟨fun pins s σ H Q I h => ?_⟩
  obtain ⟨⟨σ0, rfl⟩, G, wk, q⟩ := h
  have hi : (σ0.set i (some (V.ref a)))[i]? = some (some (.ref a)) := by
    have := I.len
    rw [List.length_set] at this
    exact List.getElem?_set_self (by rw [this]; exact hiN)
  refine wpAny_Call_Name_kw (ld_glob I hg hm ?_ hd)
  have ha : PA (X.suite a ((a, oe) :: pn)) [.Name n p2] (tCons (tVar i) tNil) := pa_cons hn pa_nil
  refine PySem.W.callWith_K (h₀ := X.base) I.ok.mod.kin hk (thn (ha.run pos pins s _ H (fun vs H1 => vs = [.ref a] ∧ H1 = H) I ⟨.ref a, hi, rfl, rfl⟩) fun us s1 hh => ?_) rfl rfl
  obtain ⟨vs, H1, I1, r, rfl, rfl⟩ := hh
  refine ⟨I1.kIn, ?_⟩
  cases r with
  | cons r1 r2 =>
    cases r2
    cases r1
    have b := hb s1 [.ref a] I1.kIn rfl
    rw [List.append_nil] at b
    have P1 := I1.pin (a, oe) (List.mem_append_left _ List.mem_cons_self)
    have pk : L2H.PinOk X.stack H1 s1 (a, oe) := ⟨P1.1, P1.2.1, fun z => (List.mem_cons.mp (I1.stkSub a z)).elim P1.2.2.1 P1.2.2.2.1, P1.2.2.2.2⟩
    refine wpAny_call (codeAny_mono (F.run _ X.stack s1 H1 ⟨[.ref a], []⟩ a oe c C d G Q rd ru hC hz hf pk I1.env0 b hw wk q) fun r s' hq => ?_)
    cases r with
    | error z => exact (err_none hq).elim
    | ok fl =>
      cases fl with
      | ret u => exact I1.after hq
      | next => exact False.elim hq
      | brk => exact False.elim hq
      | cont => exact False.elim hq
end
section
variable {X : Cx} {S : Sr} {T : Tb} {B : Option Nat} {W : WX} {body : List Sx} {body' : List Stmt} {c n : Str} {i : Nat} {h : Hd} {b0 : Stmt} {np pos pos' : Pos} {ts : Addr → Value → Option Addr → TS}
theorem Rel.unset {G : Gh} {H : Hp} {st : Sl} {σ : L2.St} {i : Nat} {o : Option V} (h : Rel S G H st σ) : Rel S G H (st.set i .no) (σ.set i o) := h.wipe
theorem st_try (hs : X.stack = X.env :: X.outer) (hf : X.env.frame = some X.env.locals) (hN : X.N.Nodup) (hi : X.N[i]? = some n) (hln : X.env.kindOf n = some .local) (nb : notB B i = true) (hS : X.mg = S.mg) (hg : Gl X c) (hd : (c == ("__debug__" : Str)) = false) (tk : Takes X W)
    (xm : ∀ c y b, T.exm c y = some b → ∃ C Y, X.mg c = some (.ref C) ∧ X.mg y = some (.ref Y) ∧ PySem.W.exmOne X.K (.ref C) (.ref Y) = some b)
    (hb : ∀ (W : WX) (pn : List (Addr × Obj)) (xe : Value → Shared → Prop), Takes (X.tr pn xe) W → PassesOwn (model X.prog X.w) X.A X.env xe → PSs (X.tr pn xe) body' (tSs T S B W body)) (su : SuiteOk T S X (some i) h b0 ts) :
    PS X (.Try body' [.ExceptHandler (some (.Name c np)) (some n) [b0] pos'] [] [] pos) (tS T S B W (.try_ body c (some i) h)) := by
  refine ⟨fun pins s σ H D I q => ?_⟩
  obtain ⟨G, st, rel, fin⟩ := q
  rw [evS] at fin
  cases e0 : T.exm c c with
  | none => rw [e0] at fin; exact fin.elim
  | some b =>
    cases b with
    | false => rw [e0] at fin; exact fin.elim
    | true =>
      rw [e0] at fin
      obtain ⟨C, _, hC, _, _⟩ := xm c c true e0
      refine (ps_try_as (tb := fun W => tSs T S B W body) (ts := ts) (Wout := W) hs hf hN hi hln ⟨hg, hd, .inl hC⟩ tk hb su.1).run pins s σ H D I ⟨G, st, rel, ?_⟩
      refine fs_catch (st := st) fin fun c' p st' cls d σ' H' G' sp rel' kp ex => ?_
      cases e1 : T.exm c' c with
      | none => trivial
      | some b =>
        obtain ⟨C', Y, m1, m2, m3⟩ := xm c' c b e1
        rw [hC] at m2
        cases m2
        have hcls : cls = .ref C' := by
          obtain ⟨C2, z1, z2, _⟩ := ex
          rw [← hS, m1] at z1
          cases z1
          exact z2
        cases b with
        | false =>
          intro hw
          exact ⟨false, by rw [hcls]; exact m3, fun z => (by cases z), fun _ => hw⟩
        | true =>
          cases e2 : hdR T h c' p with
          | none => trivial
          | some z =>
            intro k
            refine ⟨true, by rw [hcls]; exact m3, fun _ a ha => ?_, fun z => (by cases z)⟩
            refine su.2 a cls d c' p z G' H' (st'.set i .no) (σ'.set i (some (.ref a))) _ ex rel'.wipe (fun j e => ?_) e2 fun v H'' G'' ext rp => ?_
            · cases e
              exact ⟨σ', rfl⟩
            · exact k v H'' G'' (σ'.set i (some (.ref a))) (catchSt (some i) st') ext.step (ext.rel rel'.wipe) (kp.trans (Kp.set nb)) rp rfl
theorem suite_which {f : Str} {p1 p2 cpos rpos : Pos} {fa : Addr} {fd : FuncData} {e : Str} (F : FnW X.prog X.w X.K X.mg X.base fa fd e (T.wh f)) (rd : X.A.depth + 8 < recursionLimit) (ru : X.A.units + 200 < cLine) (hS : S = ⟨X.K, X.mg, none⟩) (hg : Gl X f) (hm : X.mg f = some (.ref fa)) (hk : PySem.W.keepIn X.K (.ref fa) = true) (hb : Binds X.K fd [e] []) (hd : (f == ("__debug__" : Str)) = false)
    (hi : X.N[i]? = some n) (hv : Vis X.env.scope n) (hd1 : (n == ("__debug__" : Str)) = false) (hd2 : (n == ("__classdict__" : Str)) = false) :
    SuiteOk T S X (some i) (.which f) (.Return (some (.Call (.Name f p1) [.Name n p2] [] cpos)) rpos) (fun a cls d E σ H => ∃ c C z, X.mg c = some (.ref C) ∧ cls = .ref C ∧ d = none ∧ T.wh f c = some z ∧ (∃ σ0 : L2.St, σ = σ0.set i (some (.ref a))) ∧ ∃ G, Wk G H ∧ ∀ v H' G', Ext G G' H H' → Rep ⟨X.K, X.mg, none⟩ G' H' z v → E.rt v H') := by
  refine ⟨fun a oe cls d pn hz hf => ⟨fun pins s σ H E I q => ?_⟩, fun a cls d c p z G H st σ E ex rel hσ hh k => ?_⟩
  · obtain ⟨c, C, z, hC, rfl, rfl, hw, hσ, hG⟩ := q
    exact (pss_one (ps_ret (pe_which (i := i) F rd ru hz hf hg hm hk hb hd hC hw (pe_var hi hv hd1 hd2) (List.getElem?_eq_some_iff.mp hi).1))).run pins s σ H E I ⟨hσ, hG⟩
  · obtain ⟨C, m1, rfl, m3⟩ := ex
    cases p with
    | nil =>
      subst hS
      exact ⟨c, C, z, m1, rfl, m3, hh, hσ i rfl, G, rel.wk, k⟩
    | cons x r => cases hh
theorem st_tryNo (h0 : ∀ c p, hdR T h c p = none) (hs : X.stack = X.env :: X.outer) (hf : X.env.frame = some X.env.locals) (hN : X.N.Nodup) (hi : X.N[i]? = some n) (hln : X.env.kindOf n = some .local) (nb : notB B i = true) (hS : X.mg = S.mg) (hg : Gl X c) (hd : (c == ("__debug__" : Str)) = false) (tk : Takes X W)
    (xm : ∀ c y b, T.exm c y = some b → ∃ C Y, X.mg c = some (.ref C) ∧ X.mg y = some (.ref Y) ∧ PySem.W.exmOne X.K (.ref C) (.ref Y) = some b)
    (hb : ∀ (W : WX) (pn : List (Addr × Obj)) (xe : Value → Shared → Prop), Takes (X.tr pn xe) W → PassesOwn (model X.prog X.w) X.A X.env xe → PSs (X.tr pn xe) body' (tSs T S B W body)) :
    PS X (.Try body' [.ExceptHandler (some (.Name c np)) (some n) [b0] pos'] [] [] pos) (tS T S B W (.try_ body c (some i) h)) :=
  st_try (ts := fun _ _ _ _ _ _ => False) hs hf hN hi hln nb hS hg hd tk xm hb ⟨fun a oe cls d pn hz hf => ⟨fun pins s σ H E I q => q.elim⟩, fun a cls d c p z G H st σ E ex rel hσ hh k => by rw [h0] at hh; cases hh⟩
end
end Nm
set_option maxRecDepth 100000
set_option maxHeartbeats 4000000
/-! Statements: matcher and soundness. -/
namespace Nm
open PySem L2
open PySem.PyData (strOk)
def isLc : Ex → Bool
  | .lc _ _ _ _ _ => true
  | _ => false
def isTupE : Ex → Bool
  | .tup _ => true
  | _ => false
def isNonE : Ex → Bool
  | .c .non => true
  | _ => false
/-- a name and a list that is listed: do they stand on one line? -/
def swB (sc : Scope) (x : Str) (px : Pos) (scope : Scope) (cpos : Pos) : Bool := (sc.names.lookup x == some .local) && px.line == cpos.line && !(scope.names.any fun (n, k) => n == x && (k == .local || k == .cell))
/-- two names that are stored at once -/
def parB (sc : Scope) (x y : Str) (px py : Pos) (a b : Expr) : Bool := decide (sc.names.lookup x = some .local) && decide (sc.names.lookup y = some .local) && py.line == px.line && decide (x ≠ y) && !([a, b].all (foldedForSure 8)) && !([a, b].all (constantsAlone 8))
def isGh : Sx → Bool
  | .gh _ _ => true
  | _ => false
/-- the tuple is made, then taken apart -/
def swNo (sc : Scope) (tes : List Expr) (e : Expr) : Bool := match e with
  | .Tuple vs _ _ => (tes.any fun t => match t with
      | .Name x _ => !(sc.names.lookup x == some .local)
      | _ => true) || vs.all (foldedForSure 8)
  | _ => true
/-- the name of the exception -/
def mAs (B : Option Nat) (N : List Str) (sc : Scope) (i : Option Nat) (n : Str) : Bool := match i with
  | some i => slotB N i n && decide (sc.names.lookup n = some .local) && nmB n && notB B i
  | none => false
/-- the suite -/
def mHd (N : List Str) (sc : Scope) (n : Str) (h : Hd) (s : Stmt) : Bool := match h, s with
  | .which f, .Return (some (.Call (.Name f' _) [.Name n' _] [] _)) _ => decide (f = f') && decide (n = n') && glB sc f && nmB f
  | _, _ => false
mutual
def mS (B : Option Nat) (N : List Str) (sc : Scope) : Sx → Stmt → Bool
  | .asg i a, s => (match s with
    | .Assign [.Name x px] e _ => slotB N i x && locB sc x && nmB x && notB B i && mE N sc a e
    | _ => false)
  | .unp is a, s => (match s with
    | .Assign [.Tuple es k p] e _ => mTg N sc (.many is) (.Tuple es k p) && is.all (notB B) && mE N sc a e && !isLc a && swNo sc es e
    | _ => false)
  | .par i j a b, s => (match s with
    | .Assign [.Tuple [.Name x px, .Name y py] _ _] (.Tuple [a', b'] _ _) _ => slotB N i x && slotB N j y && notB B i && notB B j && decide (i ≠ j) && parB sc x y px py a' b' && mE N sc a a' && mE N sc b b'
    | _ => false)
  | .aug i o a, s => (match s with
    | .AugAssign (.Name x _) o' e _ => slotB N i x && locB sc x && nmB x && notB B i && mE N sc a e && decide (o = .Add) && decide (o' = .Add)
    | _ => false)
  | .setix i ix a, s => (match s with
    | .Assign [.Subscript (.Name x _) ix' _] e _ => slotB N i x && visB sc x && nmB x && mE N sc ix ix' && mE N sc a e && !isLc a
    | _ => false)
  | .augix i ix o a, s => (match s with
    | .AugAssign (.Subscript (.Name x _) ix' _) o' e _ => slotB N i x && visB sc x && nmB x && mE N sc ix ix' && mE N sc a e && decide (o = .Add) && decide (o' = .Add)
    | _ => false)
  | .ex a, s => (match s with
    | .Expr e _ => mE N sc a e && !isLc a
    | _ => false)
  | .ret a, s => (match s with
    | .Return (some e) _ => mE N sc a e
    | .Return none _ => isNonE a
    | _ => false)
  | .ifs c t f, s => (match s with
    | .If c' t' f' _ => tstB c && mE N sc c c' && mSs B N sc t t' && mSs B N sc f f'
    | _ => false)
  | .for_ tg ik its body, s => (match s with
    | .For tg' it' body' [] _ => (match itArgs sc ik tg it' with
        | some es => mEs N sc its es
        | none => false) && mTg N sc tg tg' && tg.slots.all (notB B) && mSs B N sc body body'
    | _ => false)
  | .while_ c body, s => (match s with
    | .While c' body' [] _ => tstB c && mE N sc c c' && mSs B N sc body body'
    | _ => false)
  | .raise_ c es, s => (match s with
    | .Raise (some (.Call (.Name x _) [] [] _)) none _ => decide (c = x) && glB sc c && nmB c && es.isEmpty
    | _ => false)
  | .pass, s => (match s with
    | .Pass _ => true
    | _ => false)
  | .brk, s => (match s with
    | .Break _ => true
    | _ => false)
  | .never, _ => true
  | .gh _ _, _ => false
  | .try_ body c i h, s => (match s with
    | .Try body' [.ExceptHandler (some (.Name x _)) (some n) [b0] _] [] [] _ => mSs B N sc body body' && decide (c = x) && glB sc c && nmB c && mAs B N sc i n && mHd N sc n h b0
    | _ => false)
def mSs (B : Option Nat) (N : List Str) (sc : Scope) : List Sx → List Stmt → Bool
  | [], ss => ss.isEmpty
  | x :: xs, ss => if isGh x then mSs B N sc xs ss else (match ss with
    | [] => false
    | s :: ss' => mS B N sc x s && mSs B N sc xs ss')
end
structure Okm (T : Tb) (S : Sr) (k : Nat) (W : WX) (N : List Str) (sc : Scope) (X : Cx) : Prop where
  x : Okx T S k W N sc X
  fnT : ∀ y, X.fn y = true
  stk : X.stack = X.env :: X.outer
  frm : X.env.frame = some X.env.locals
  pass : PassesOwn (model X.prog X.w) X.A X.env X.xe
section
variable {T : Tb} {S : Sr} {k : Nat} {N : List Str} {B : Option Nat} {W : WX} {sc : Scope} {X : Cx}
theorem notComp {a : Ex} {e : Expr} {env : Env} {tgt : Option Expr} {l : Nat} (h : mE N sc a e = true) (hl : isLc a = false) : swapsWith e tgt l env = pure false := by
  cases e with
  | ListComp elt gs s p => cases a <;> first | (cases hl; done) | (simp [mE] at h; done)
  | SetComp elt gs s p => cases a <;> simp [mE] at h
  | DictComp kk elt gs s p => cases a <;> simp [mE] at h
  | _ => rfl
theorem filt_lt {env : Env} {line : Nat} : ∀ {ts : List Expr}, (ts.any fun t => match t with
      | .Name x _ => !(env.scope.names.lookup x == some .local)
      | _ => true) = true → (ts.filterMap fun
    | .Name id pos => if env.kindOf id == some .local && pos.line == line then some id else none
    | _ => none).length < ts.length
  | [], h => by cases h
  | t :: ts, h => by
    rw [List.any_cons] at h
    have le : (ts.filterMap fun
      | .Name id pos => if env.kindOf id == some .local && pos.line == line then some id else none
      | _ => none).length ≤ ts.length := List.length_filterMap_le _ _
    rw [List.filterMap_cons]
    rcases Bool.or_eq_true_iff.mp h with h | h
    · have e : (match t with
        | .Name id pos => if env.kindOf id == some .local && pos.line == line then some id else none
        | _ => none) = none := by
        cases t with
        | Name x p =>
          have h1 : (env.kindOf x == some .local) = false := by
            have h : (!(env.scope.names.lookup x == some .local)) = true := h
            show (env.scope.names.lookup x == some .local) = false
            cases e2 : env.scope.names.lookup x == some .local with
            | false => rfl
            | true => rw [e2] at h; cases h
          dsimp only
          rw [h1]
          rfl
        | _ => rfl
      simp only [e, List.length_cons]
      omega
    · have ih := filt_lt (line := line) h
      split
      · rw [List.length_cons]; omega
      · rw [List.length_cons, List.length_cons]; omega
theorem notTup {es : List Expr} {kk : Nat} {p : Pos} {e : Expr} {env : Env} (hs : env.scope = sc) (h : swNo sc es e = true) : swappedStores [.Tuple es kk p] e env = pure none := by
  cases e with
  | Tuple vs k2 p2 =>
    unfold swNo at h
    unfold swappedStores
    dsimp only
    split
    · rfl
    · split
      · rfl
      · rcases Bool.or_eq_true_iff.mp h with h | h
        · rw [← hs] at h
          have := filt_lt (line := (es.head?.map (·.pos.line)).getD 0) h
          rw [if_pos (by rw [Bool.or_eq_true]; left; exact bne_iff_ne.mpr (Nat.ne_of_lt this))] <;> rfl
        · split
          · rfl
          · first | rfl | (rw [if_pos h] <;> rfl) | (split <;> first | rfl | (exfalso; rename_i hx; exact hx h))
  | _ => rfl
theorem sw_is {elt : Expr} {gs : List Comprehension} {scope : Scope} {pos py : Pos} {y : Str} {l : Nat} {env : Env} (hk : env.scope.kind = .function) (hs : env.scope = sc) : swapsWith (.ListComp elt gs scope pos) (some (.Name y py)) l env = pure (swB sc y py scope pos) := by
  have hb : env.blockKind = .function := by unfold Env.blockKind; rw [hk]; rfl
  subst hs
  unfold swapsWith
  simp only [hb, Expr.pos]
  rfl
theorem parSw {x y : Str} {px py pt pt2 : Pos} {kt k2 : Nat} {a b : Expr} {env : Env} (hk : env.scope.kind = .function) (hs : env.scope = sc) (h : parB sc x y px py a b = true) (ha : ∀ z q, a ≠ .Starred z q) (hb : ∀ z q, b ≠ .Starred z q) :
    swappedStores [.Tuple [.Name x px, .Name y py] kt pt] (.Tuple [a, b] k2 pt2) env = pure (some [x, y]) := by
  have hbk : env.blockKind = .function := by unfold Env.blockKind; rw [hk]; rfl
  subst hs
  unfold parB at h
  simp only [Bool.and_eq_true, decide_eq_true_eq, Bool.not_eq_true'] at h
  obtain ⟨⟨⟨⟨⟨h1, h2⟩, h3⟩, h4⟩, h5⟩, h6⟩ := h
  have k1 : env.kindOf x = some .local := h1
  have k2 : env.kindOf y = some .local := h2
  have s1 : ([a, b].any fun | .Starred .. => true | _ => false) = false := by
    have z : ∀ {c : Expr}, (∀ z q, c ≠ .Starred z q) → (match c with | .Starred .. => true | _ => false) = false := fun {c} hc => by
      cases c with
      | Starred z q => exact absurd rfl (hc z q)
      | _ => rfl
    simp only [List.any_cons, List.any_nil, Bool.or_false]
  unfold swappedStores
  have h3' : py.line = px.line := eq_of_beq h3
  have ed : ([x, y] : List Str).eraseDups.length = 2 := by
    simp [List.eraseDups_cons, Ne.symm h4]
  have fm : ([Expr.Name x px, .Name y py].filterMap fun
    | .Name id pos => if env.kindOf id == some .local && pos.line == px.line then some id else none
    | _ => none) = [x, y] := by simp [k1, k2, h3', List.filterMap_cons]
  have key : ∀ l : List Str, l = [x, y] → (if (l.length != [Expr.Name x px, .Name y py].length || l.eraseDups.length != l.length) = true then (pure none : Sem (Option (List Str))) else
      if [a, b].all (foldedForSure 8) = true then pure none else
      if [a, b].all (constantsAlone 8) = true then (do unsupported "assign.tuple-of-constant-expressions:order-of-the-stores"; pure (some l)) else pure (some l)) = pure (some [x, y]) := by
    intro l hl
    subst hl
    rw [if_neg (by rw [ed]; exact Bool.false_ne_true), if_neg (by rw [h5]; exact Bool.false_ne_true), if_neg (by rw [h6]; exact Bool.false_ne_true)]
  dsimp only
  rw [if_neg (by rw [hbk]; exact Bool.false_ne_true)]
  refine Eq.trans (if_neg ?_) (key _ fm)
  exact fun z => absurd (s1.symm.trans z) Bool.false_ne_true
theorem setPlain {a : Ex} {o i : Expr} {pos : Pos} {env : Env} (h : mE N sc a i = true) : ∀ v, assign (.Subscript o i pos) env v = (do
      let ov ← holding [v] (eval o env)
      let iv ← holding [v, ov] (eval i env)
      standAt pos
      holding [v, ov, iv] (setItem ov iv v)
      release [v, ov, iv] []) := by
  intro v
  cases i with
  | Slice l u st p => cases a <;> simp [mE] at h
  | _ => rfl
theorem augPlain {a : Ex} {i : Expr} (h : mE N sc a i = true) : ∀ ov iv new, augStore i ov iv new = (do holding [new, ov, iv] (setItem ov iv new); release [new, ov, iv] []; pure .next) := by
  intro ov iv new
  cases i with
  | Slice l u st p => cases a <;> simp [mE] at h
  | _ => rfl
theorem pl_local {x : Str} {px : Pos} {scope : Scope} {cpos : Pos} (h : swB sc x px scope cpos = true) : sc.names.lookup x = some .local := by
  unfold swB at h
  have h1 := (ba (ba h).1).1
  cases e : sc.names.lookup x with
  | none => rw [e] at h1; cases h1
  | some kk =>
    rw [e] at h1
    cases kk <;> first | rfl | cases h1
end
end Nm
set_option maxRecDepth 100000
set_option maxHeartbeats 4000000
/-! Statements: soundness. -/
namespace Nm
open PySem L2
open PySem.PyData (strOk)
section
variable {T : Tb} {S : Sr} {k : Nat} {N : List Str} {B : Option Nat}
theorem vOfName {W : WX} {sc : Scope} {X : Cx} {i : Nat} {x : Str} {p : Pos} (o : Okx T S k W N sc X) (h1 : slotB N i x = true) (h2 : visB sc x = true) (h3 : nmB x = true) : PE X (.Name x p) (tVar i) :=
  pe_var (by rw [o.hN]; exact slotB_of h1) (by rw [o.hsc]; exact visB_of h2) (nmB_of h3).1 (nmB_of h3).2.1
/-- name = [..] -/
theorem asg_lc {W : WX} {sc : Scope} {X : Cx} {i : Nat} {x : Str} {px pos : Pos} {elt : Ex} {tg : Tg} {ik : Ik} {its ifs : List Ex} {e : Expr} (o : Okx T S k W N sc X) (hi : slotB N i x = true) (hl : locB sc x = true) (hn : nmB x = true) (hf : X.fn x = true) (h : mE N sc (.lc elt tg ik its ifs) e = true) :
    PS X (.Assign [.Name x px] e pos) (tAsg (tE T S 0 W (.lc elt tg ik its ifs)) (gName i)) := by
  have hfull := h
  rw [mE.eq_def] at h
  dsimp only at h
  split at h
  · rename_i elt' tg' it' ifs' am scope p
    by_cases hsw : swB sc x px scope p = true
    · obtain ⟨h, k1⟩ := ba h
      obtain ⟨h, k2⟩ := ba h
      obtain ⟨h, k3⟩ := ba h
      obtain ⟨h, k4⟩ := ba h
      obtain ⟨h, k5⟩ := ba h
      obtain ⟨h, k6⟩ := ba h
      obtain ⟨h, k7⟩ := ba h
      obtain ⟨h, k8⟩ := ba h
      obtain ⟨k10, k9⟩ := ba h
      have am0 := of_decide_eq_true k10
      subst am0
      have hown := of_decide_eq_true k3
      have hloc : ∀ q ∈ tgOwn tg tg', (relS scope sc).names.lookup q.1 = some .local := fun q hq => of_decide_eq_true (List.all_eq_true.mp k2 q hq)
      cases ha : itArgs sc ik tg it' with
      | none => rw [ha] at k9; cases k9
      | some es =>
      rw [ha] at k9
      have k9 : mEs N sc its es = true := k9
      have hpr := itArgs_pr ha
      have hpi := itArgs_pi o ha k9 k8 (soundEs its 0 W sc X es o k9) fun e es' e0 => by
        subst e0
        exact soundHd its 0 W sc X e es' o k9
      refine ⟨fun pins s σ H D I q => (ps_setLc (own := tgOwn tg tg') (g := gTg S.K tg) (tt := tTs T S (0 + 1) noX ifs) (te := tE T S (0 + 1) noX elt) o.calm (by rw [o.hN]; exact o.nd) (by rw [o.hN]; exact slotB_of hi) (by rw [o.hsc]; exact pl_local hsw) (by rw [sw_is I.ok.kind o.hsc, hsw]) hpi.1 (by rw [o.hN, o.hsc]; exact blkOk_by k7) (fun s H C cl fp => ?_) (fun s H C cl fp => ?_) (fun s H C cl fp => ?_) hpi.2).run pins s σ H D I ?_⟩
      · have ob := o.blk (scope := scope) s H C cl fp
        have g := pg_tg ob.hN ob.nd ob.hsc ob.calm k8 fun q hq => .inr (hloc q hq)
        rw [ob.hK] at g
        exact g
      · have ob := o.blk (scope := scope) s H C cl fp
        exact soundTs ifs (0 + 1) noX _ _ _ ob k5 k1 (of_decide_eq_true k6)
      · exact (soundE elt (0 + 1) noX _ _ _ (o.blk (scope := scope) s H C cl fp) k4).1
      · rw [hown]
        exact lc_read hpr q
    · refine ⟨fun pins s σ H D I q => (ps_set (by rw [o.hN]; exact o.nd) (by rw [o.hN]; exact slotB_of hi) (by rw [o.hsc]; exact locB_of hl) (soundE _ 0 W sc X _ o hfull).1 ?_ (.inl hf)).run pins s σ H D I q⟩
      rw [sw_is I.ok.kind o.hsc, Bool.eq_false_iff.mpr hsw]
  · cases h
/-- ghosts -/
theorem gh_fz {G : Gh} {H : Hp} {σ : St} {st : Sl} (rel : Rel S G H st σ) : ∀ fz : List Nat, ∃ G', Rel S G' H (fzS st fz) σ ∧ Step 0 G G' H H
  | [] => ⟨G, rel, Step.refl⟩
  | i :: is => by
    obtain ⟨G1, r1, s1⟩ := gh_fz rel is
    rw [fzS]
    split
    · rename_i d e
      obtain ⟨o, e1, q⟩ := r1.at_ i _ e
      obtain ⟨v, rfl, ho⟩ := q
      obtain ⟨G2, r2, s2, _⟩ := r1.freeze (n := 0) e e1
      exact ⟨G2, r2, s1.trans s2⟩
    · exact ⟨G1, r1, s1⟩
theorem gh_wp {G : Gh} {H : Hp} {σ : St} {st : Sl} (rel : Rel S G H st σ) : ∀ wp : List Nat, Rel S G H (wipeS st wp) σ
  | [] => rel
  | i :: is => by
    have r := gh_wp rel is
    rw [wipeS]
    by_cases hi : i < σ.length
    · have := r.wipe (i := i) (o := σ[i])
      rwa [List.set_getElem_self] at this
    · rw [List.set_eq_of_length_le (by rw [r.len]; omega)]
      exact r
theorem sts_gh {W : WX} {X : Cx} {fz wp : List Nat} {xs : List Sx} {ss : List Stmt} (h : PSs X ss (tSs T S B W xs)) : PSs X ss (tSs T S B W (.gh fz wp :: xs)) := by
  refine ⟨fun pins s σ H D I q => h.run pins s σ H D I ?_⟩
  obtain ⟨G, st, rel, fin⟩ := q
  obtain ⟨G', r, sp⟩ := gh_fz rel fz
  refine ⟨G', wipeS (fzS st fz) wp, gh_wp r wp, ?_⟩
  rw [evSs, evS] at fin
  exact FinS.step fin sp Kp.refl
mutual
theorem soundS : ∀ (x : Sx) (W : WX) (sc : Scope) (X : Cx) (s : Stmt), Okm T S k W N sc X → mS B N sc x s = true → PS X s (tS T S B W x)
  | .asg i a, W, sc, X, s, o, h => by
    rw [mS.eq_def] at h
    dsimp only at h
    split at h
    · rename_i x px e pos
      obtain ⟨h, k1⟩ := ba h
      obtain ⟨h, k2⟩ := ba h
      obtain ⟨h, k3⟩ := ba h
      obtain ⟨k5, k4⟩ := ba h
      refine st_asg ?_ k2
      cases hl : isLc a with
      | true =>
        cases a with
        | lc elt tg ik its ifs => exact asg_lc o.x k5 k4 k3 (o.fnT x) k1
        | _ => cases hl
      | false => exact ps_set (by rw [o.x.hN]; exact o.x.nd) (by rw [o.x.hN]; exact slotB_of k5) (by rw [o.x.hsc]; exact locB_of k4) (soundE a 0 W sc X e o.x k1).1 (notComp k1 hl) (.inl (o.fnT x))
    · cases h
  | .unp is a, W, sc, X, s, o, h => by
    rw [mS.eq_def] at h
    dsimp only at h
    split at h
    · rename_i es kk p e pos
      obtain ⟨h, k1⟩ := ba h
      obtain ⟨h, k2⟩ := ba h
      obtain ⟨h, k3⟩ := ba h
      obtain ⟨k5, k4⟩ := ba h
      have hl : isLc a = false := by simpa using k2
      exact st_unp (ps_asg (soundE a 0 W sc X e o.x k3).1 (pg_tg o.x.hN o.x.nd o.x.hsc o.x.calm k5 fun q _ => .inl (o.fnT q.1)) (show swapsWith e (some (.Tuple es kk p)) pos.line X.env = pure false from notComp k3 hl) (notTup o.x.hsc k1) rfl) k4
    · cases h
  | .par i j a b, W, sc, X, s, o, h => by
    rw [mS.eq_def] at h
    dsimp only at h
    split at h
    · rename_i x px y py kt pt a' b' k2' pt2 pos
      obtain ⟨h, m1⟩ := ba h
      obtain ⟨h, m2⟩ := ba h
      obtain ⟨h, m3⟩ := ba h
      obtain ⟨h, m4⟩ := ba h
      obtain ⟨h, m5⟩ := ba h
      obtain ⟨h, m6⟩ := ba h
      obtain ⟨m8, m7⟩ := ba h
      have hA := pa_cons (soundE a 0 W sc X a' o.x m2).1 (pa_cons (soundE b 1 W sc X b' o.x m1).1 pa_nil (starPlain (notStar m1))) (starPlain (notStar m2))
      have hp := m3
      unfold parB at hp
      simp only [Bool.and_eq_true, decide_eq_true_eq] at hp
      refine st_par ⟨fun pins s σ H D I q => (ps_par o.x.calm (by rw [o.x.hN]; exact o.x.nd) (by rw [o.x.hN]; exact slotB_of m8) (by rw [o.x.hN]; exact slotB_of m7) (of_decide_eq_true m4) (by rw [o.x.hsc]; exact hp.1.1.1.1.1) (by rw [o.x.hsc]; exact hp.1.1.1.1.2) hA (parSw I.ok.kind o.x.hsc m3 (notStar m2) (notStar m1)) rfl).run pins s σ H D I q⟩ m6 m5
    · cases h
  | .aug i op a, W, sc, X, s, o, h => by
    rw [mS.eq_def] at h
    dsimp only at h
    split at h
    · rename_i x px op' e pos
      obtain ⟨h, m1⟩ := ba h
      obtain ⟨h, m2⟩ := ba h
      obtain ⟨h, m3⟩ := ba h
      obtain ⟨h, m4⟩ := ba h
      obtain ⟨h, m5⟩ := ba h
      obtain ⟨m7, m6⟩ := ba h
      obtain rfl := of_decide_eq_true m1
      obtain rfl := of_decide_eq_true m2
      exact st_aug (ps_aug (by rw [o.x.hN]; exact o.x.nd) (by rw [o.x.hN]; exact slotB_of m7) (by rw [o.x.hsc]; exact locB_of m6) (soundE a 0 W sc X e o.x m3).1 ip_add (.inl (o.fnT x))) m4
    · cases h
  | .setix i ix a, W, sc, X, s, o, h => by
    rw [mS.eq_def] at h
    dsimp only at h
    split at h
    · rename_i x px ix' p e pos
      obtain ⟨h, m1⟩ := ba h
      obtain ⟨h, m2⟩ := ba h
      obtain ⟨h, m3⟩ := ba h
      obtain ⟨h, m4⟩ := ba h
      obtain ⟨m6, m5⟩ := ba h
      have hl : isLc a = false := by simpa using m1
      exact st_setix (ps_asg (soundE a 0 W sc X e o.x m2).1 (pg_sub (vOfName o.x m6 m5 m4) (soundE ix 0 W sc X ix' o.x m3).1 set_list (setPlain m3)) (show swapsWith e (some (.Subscript (.Name x px) ix' p)) pos.line X.env = pure false from notComp m2 hl) (by cases e <;> rfl) rfl)
    · cases h
  | .augix i ix op a, W, sc, X, s, o, h => by
    rw [mS.eq_def] at h
    dsimp only at h
    split at h
    · rename_i x px ix' p op' e pos
      obtain ⟨h, m1⟩ := ba h
      obtain ⟨h, m2⟩ := ba h
      obtain ⟨h, m3⟩ := ba h
      obtain ⟨h, m4⟩ := ba h
      obtain ⟨h, m5⟩ := ba h
      obtain ⟨m7, m6⟩ := ba h
      obtain rfl := of_decide_eq_true m1
      obtain rfl := of_decide_eq_true m2
      exact st_augix (ps_augS (vOfName o.x m7 m6 m5) (soundE ix 0 W sc X ix' o.x m4).1 get_list (soundE a 0 W sc X e o.x m3).1 ip_add set_list (augPlain m4))
    · cases h
  | .ex a, W, sc, X, s, o, h => by
    rw [mS.eq_def] at h
    dsimp only at h
    split at h
    · rename_i e pos
      obtain ⟨m2, m1⟩ := ba h
      have hl : isLc a = false := by simpa using m1
      exact st_ex (ps_expr (soundE a 0 W sc X e o.x m2).1 (notComp m2 hl))
    · cases h
  | .ret a, W, sc, X, s, o, h => by
    rw [mS.eq_def] at h
    dsimp only at h
    split at h
    · exact st_ret (ps_ret (soundE a 0 W sc X _ o.x h).1)
    · unfold isNonE at h
      split at h
      · exact st_retN ps_retN
      · cases h
    · cases h
  | .ifs c t f, W, sc, X, s, o, h => by
    rw [mS.eq_def] at h
    dsimp only at h
    split at h
    · rename_i c' t' f' pos
      obtain ⟨h, m1⟩ := ba h
      obtain ⟨h, m2⟩ := ba h
      obtain ⟨m4, m3⟩ := ba h
      exact st_if ((soundE c 0 W sc X c' o.x m3).2 m4) (soundSs t W sc X t' o m2) (soundSs f W sc X f' o m1)
    · cases h
  | .for_ tg ik its body, W, sc, X, s, o, h => by
    rw [mS.eq_def] at h
    dsimp only at h
    split at h
    · rename_i tg' it' body' pos
      obtain ⟨h, m1⟩ := ba h
      obtain ⟨h, m2⟩ := ba h
      obtain ⟨m4, m3⟩ := ba h
      cases ha : itArgs sc ik tg it' with
      | none => rw [ha] at m4; cases m4
      | some es =>
      rw [ha] at m4
      have m4 : mEs N sc its es = true := m4
      have hpr := itArgs_pr ha
      have hpi := itArgs_pi o.x ha m4 m3 (soundEs its 0 W sc X es o.x m4) fun e es' e0 => by
        subst e0
        exact soundHd its 0 W sc X e es' o.x m4
      exact st_for o.pass o.x.calm hpr hpi.1 (pg_tg o.x.hN o.x.nd o.x.hsc o.x.calm m3 fun q _ => .inl (o.fnT q.1)) (soundSs body W sc X body' o m1) hpi.2 m2
    · cases h
  | .while_ c body, W, sc, X, s, o, h => by
    rw [mS.eq_def] at h
    dsimp only at h
    split at h
    · rename_i c' body' pos
      obtain ⟨h, m1⟩ := ba h
      obtain ⟨m3, m2⟩ := ba h
      exact st_while o.pass ((soundE c 0 W sc X c' o.x m2).2 m3) (soundSs body W sc X body' o m1)
    · cases h
  | .raise_ c es, W, sc, X, s, o, h => by
    rw [mS.eq_def] at h
    dsimp only at h
    split at h
    · obtain ⟨h, m1⟩ := ba h
      obtain ⟨h, m2⟩ := ba h
      obtain ⟨m4, m3⟩ := ba h
      obtain rfl := of_decide_eq_true m4
      cases es with
      | nil => exact st_raise o.x.calm o.x.tk o.x.hmg (fun e => o.x.xf.ex0 c e) (glB_of o.x.hsc m3) (nmB_of m2).1
      | cons _ _ => cases m1
    · cases h
  | .try_ body c i hd, W, sc, X, s, o, h => by
    rw [mS.eq_def] at h
    dsimp only at h
    split at h
    · rename_i body' x np n b0 pos' pos
      obtain ⟨h, m1⟩ := ba h
      obtain ⟨h, m2⟩ := ba h
      obtain ⟨h, m3⟩ := ba h
      obtain ⟨h, m4⟩ := ba h
      obtain ⟨m6, m5⟩ := ba h
      obtain rfl := of_decide_eq_true m5
      cases i with
      | none => cases m2
      | some i =>
        have m2 : (slotB N i n && decide (sc.names.lookup n = some .local) && nmB n && notB B i) = true := m2
        obtain ⟨m2, a1⟩ := ba m2
        obtain ⟨m2, a2⟩ := ba m2
        obtain ⟨a4, a3⟩ := ba m2
        have hi : X.N[i]? = some n := by rw [o.x.hN]; exact slotB_of a4
        have hln : X.env.kindOf n = some .local := by
          show X.env.scope.names.lookup n = _
          rw [o.x.hsc]
          exact of_decide_eq_true a3
        have hbd : ∀ (W : WX) (pn : List (Addr × Obj)) (xe : Value → Shared → Prop), Takes (X.tr pn xe) W → PassesOwn (model X.prog X.w) X.A X.env xe → PSs (X.tr pn xe) body' (tSs T S B W body) := fun W pn xe tk pw => soundSs body W sc (X.tr pn xe) body' ⟨⟨o.x.hK, o.x.hmg, o.x.hN, o.x.nd, o.x.hsc, o.x.calm, o.x.room, tk, o.x.fns, o.x.gls, o.x.free, o.x.xf, o.x.hot, o.x.whs⟩, o.fnT, o.stk, o.frm, pw⟩ m6
        unfold mHd at m1
        split at m1
        · rename_i f f' q1 n' q2 q3 q4
          obtain ⟨m1, b1⟩ := ba m1
          obtain ⟨m1, b2⟩ := ba m1
          obtain ⟨b4, b3⟩ := ba m1
          obtain rfl := of_decide_eq_true b4
          obtain rfl := of_decide_eq_true b3
          by_cases hw : ∃ c d, T.wh f c = some d
          · obtain ⟨c0, d0, hw⟩ := hw
            obtain ⟨a, fd, e, w1, w2, w3, w4, w5⟩ := o.x.whs f c0 d0 hw
            have rm := o.x.room
            exact st_try o.stk o.frm (by rw [o.x.hN]; exact o.x.nd) hi hln a1 o.x.hmg (glB_of o.x.hsc m4) (nmB_of m3).1 o.x.tk o.x.xf.exm hbd
              (suite_which w4 (by have := rm.dp; omega) (by have := rm.un; omega) (by
                have e1 := o.x.hK
                have e2 := o.x.hmg
                have e3 := o.x.hot
                cases S
                dsimp only at e1 e2 e3
                subst e1 e2 e3
                rfl) (glB_of o.x.hsc b2) w1 w2 w3 (nmB_of b1).1 hi (by rw [o.x.hsc]; exact .inl (of_decide_eq_true a3)) (nmB_of a2).1 (nmB_of a2).2.1)
          · exact st_tryNo (fun c' p => by
              cases p with
              | nil =>
                show T.wh f c' = none
                cases e : T.wh f c' with
                | none => rfl
                | some d => exact absurd ⟨c', d, e⟩ hw
              | cons _ _ => rfl) o.stk o.frm (by rw [o.x.hN]; exact o.x.nd) hi hln a1 o.x.hmg (glB_of o.x.hsc m4) (nmB_of m3).1 o.x.tk o.x.xf.exm hbd
        · cases m1
    · cases h
  | .pass, W, sc, X, s, o, h => by
    rw [mS.eq_def] at h
    dsimp only at h
    split at h
    · exact st_pass ps_pass
    · cases h
  | .brk, W, sc, X, s, o, h => by
    rw [mS.eq_def] at h
    dsimp only at h
    split at h
    · exact st_brk ps_break
    · cases h
  | .never, W, sc, X, s, o, h => st_never
  | .gh _ _, W, sc, X, s, o, h => by
    rw [mS.eq_def] at h
    cases h
theorem soundSs : ∀ (xs : List Sx) (W : WX) (sc : Scope) (X : Cx) (ss : List Stmt), Okm T S k W N sc X → mSs B N sc xs ss = true → PSs X ss (tSs T S B W xs)
  | [], W, sc, X, ss, o, h => by
    rw [mSs] at h
    have : ss = [] := by simpa using h
    subst this
    exact sts_nil
  | .gh fz wp :: xs, W, sc, X, ss, o, h => by
    rw [mSs.eq_def] at h
    simp only [isGh, if_true] at h
    exact sts_gh (soundSs xs W sc X ss o h)
  | x :: xs, W, sc, X, [], o, h => by
    cases hg : isGh x with
    | true =>
      cases x with
      | gh fz wp =>
        rw [mSs.eq_def] at h
        simp only [isGh, if_true] at h
        exact sts_gh (soundSs xs W sc X [] o h)
      | _ => cases hg
    | false =>
      rw [mSs.eq_def] at h
      simp only [hg, Bool.false_eq_true, if_false] at h
  | x :: xs, W, sc, X, s :: ss, o, h => by
    cases hg : isGh x with
    | true =>
      cases x with
      | gh fz wp =>
        rw [mSs.eq_def] at h
        simp only [isGh, if_true] at h
        exact sts_gh (soundSs xs W sc X (s :: ss) o h)
      | _ => cases hg
    | false =>
      rw [mSs.eq_def] at h
      simp only [hg, Bool.false_eq_true, if_false] at h
      obtain ⟨h1, h2⟩ := ba h
      exact sts_cons (soundS x W sc X s o h1) (soundSs xs W sc X ss o h2)
end
end
end Nm
set_option maxRecDepth 100000
set_option maxHeartbeats 4000000
/-! A def that matches keeps its promise. -/
namespace Nm
open PySem L2
open PySem.PyData (strOk)
section
variable {S : Sr} {G : Gh} {H : Hp} {b : Option Nat}
theorem startS_len : ∀ (ds : List D) (k n : Nat), (startS b k ds n).length = ds.length + n
  | [], k, n => by rw [startS, List.length_replicate, List.length_nil, Nat.zero_add]
  | d :: ds, k, n => by rw [startS, List.length_cons, startS_len ds, List.length_cons]; omega
theorem ArgsOk.len : ∀ {ds : List D} {vs : List V} {k : Nat}, ArgsOk S G H b k ds vs → ds.length = vs.length
  | [], [], _, _ => rfl
  | [], _ :: _, _, h => h.elim
  | _ :: _, [], _, h => h.elim
  | _ :: ds, _ :: vs, k, h => by rw [List.length_cons, List.length_cons, ArgsOk.len h.2]
theorem startS_at : ∀ {ds : List D} {vs : List V} {k : Nat} (n : Nat), ArgsOk S G H b k ds vs → ∀ i s, (startS b k ds n)[i]? = some s → ∃ o, (vs.map some ++ List.replicate n none)[i]? = some o ∧ SlotOk S G H (k + i) s o
  | [], [], k, n, _, i, s, e => by
    rw [startS] at e
    have hi : i < n := by
      have := (List.getElem?_eq_some_iff.mp e).1
      rwa [List.length_replicate] at this
    rw [List.getElem?_replicate, if_pos hi] at e
    cases e
    exact ⟨none, by rw [List.map_nil, List.nil_append, List.getElem?_replicate, if_pos hi], trivial⟩
  | [], _ :: _, _, _, h, _, _, _ => h.elim
  | _ :: _, [], _, _, h, _, _, _ => h.elim
  | d :: ds, v :: vs, k, n, h, i, s, e => by
    rw [startS] at e
    cases i with
    | zero =>
      rw [List.getElem?_cons_zero] at e
      refine ⟨some v, rfl, ?_⟩
      by_cases hb : b = some k
      · have h1 := h.1
        rw [if_pos hb] at h1
        rw [hb, beq_self_eq_true, if_pos rfl] at e
        cases e
        exact ⟨v, rfl, h1⟩
      · have h1 := h.1
        rw [if_neg hb] at h1
        have hb' : (b == some k) = false := by
          rw [Bool.eq_false_iff]
          intro z
          exact hb (eq_of_beq z)
        rw [hb', if_neg Bool.false_ne_true] at e
        cases e
        exact ⟨v, rfl, h1⟩
    | succ i =>
      rw [List.getElem?_cons_succ] at e
      obtain ⟨o, e1, q⟩ := startS_at n h.2 i s e
      refine ⟨o, e1, ?_⟩
      rw [show k + (i + 1) = k + 1 + i by omega]
      exact q
theorem start_rel {N : List Str} {ds : List D} {vs : List V} (wk : Wk G H) (h : ArgsOk S G H b 0 ds vs) : Rel S G H (startS b 0 ds (N.length - ds.length)) (start N vs) := by
  have hl := h.len
  refine ⟨?_, wk, fun i s e => ?_⟩
  · rw [startS_len]
    unfold L2.start
    rw [List.length_append, List.length_map, List.length_replicate, hl]
  · obtain ⟨o, e1, q⟩ := startS_at _ h i s e
    rw [Nat.zero_add] at q
    refine ⟨o, ?_, q⟩
    unfold L2.start
    rw [← hl]
    exact e1
theorem out_ok {N : List Str} {vs : List V} {st : Sl} {σ : St} {o : D} (rel : Rel S G H st σ) (kp : Kp b (start N vs) σ) (h : outOf b st = some o) : OutOk S G H b vs o := by
  cases b with
  | none => trivial
  | some k =>
    unfold outOf at h
    dsimp only at h
    cases e : st[k]? with
    | none => rw [e] at h; cases h
    | some s =>
      rw [e] at h
      cases s with
      | bor d =>
        cases h
        obtain ⟨oo, e1, v, rfl, ow⟩ := rel.at_ k _ e
        refine ⟨v, ?_, ow⟩
        have e2 := kp k rfl
        rw [e1] at e2
        unfold L2.start at e2
        by_cases hk : k < vs.length
        · rw [List.getElem?_append_left (by rw [List.length_map]; exact hk), List.getElem?_map] at e2
          cases e3 : vs[k]? with
          | none => rw [e3] at e2; cases e2
          | some u =>
            rw [e3] at e2
            cases e2
            rfl
        · rw [List.getElem?_append_right (by rw [List.length_map]; omega), List.getElem?_replicate] at e2
          split at e2 <;> cases e2
      | _ => cases h
end
/-- a def's content that is matched, its facts -/
structure Fc (T : Tb) (P : Program) (w : World) (K : PySem.W.Frag) (mg : Str → Option Value) (base : Heap) (k : Nat) : Prop where
  fns : ∀ f F, T.fn f = some F → ∃ a fd ps, mg f = some (.ref a) ∧ PySem.W.keepIn K (.ref a) = true ∧ Binds K fd ps [] ∧ FnOk P w K mg base (L2.CX P w) k a fd ps (spF ⟨K, mg, none⟩ F)
  gls : ∀ x d, T.gl x = some d → ∃ u v, mg x = some u ∧ RelV v u ∧ ∀ G H, Rep ⟨K, mg, none⟩ G H d v
  free : ∀ f ∈ builtinNames, mg f = none
  xf : Exf T K mg
  whs : ∀ f c d, T.wh f c = some d → ∃ a fd e, mg f = some (.ref a) ∧ PySem.W.keepIn K (.ref a) = true ∧ Binds K fd [e] [] ∧ FnW P w K mg base a fd e (T.wh f) ∧ 1 ≤ k
theorem df_ok {T : Tb} {P : Program} {w : World} {K : PySem.W.Frag} {mg : Str → Option Value} {base : Heap} {k : Nat} {d : Df} {x qual : Str} {pa : Arguments} {bd : List Stmt} {sc : Scope} {dvs : List V} {kws : List (Str × V)} {f : Addr} {fd : FuncData} {F : Fn}
    (C : Fc T P w K mg base k) (hF : FunD K x qual pa bd sc dvs kws f fd) (hsc : FnScope d.ns d.ps sc) (hm : mSs d.bor d.ns sc d.body bd = true) (hn : F.n = d.ps.length) (hb : F.bor = d.bor) (hsem : ∀ ds r, F.sem ds = some r → runDf T d ds = some r) :
    FnOk P w K mg base (L2.CX P w) (k + 1) f fd d.ps (spF ⟨K, mg, none⟩ F) := by
  refine FunD.ok hF hsc (fun vs H Q E q => ?_) fun cdv A outer s H vs Q E hr hsp => ?_
  · obtain ⟨G, ds, _, ar, hl, _⟩ := q
    rw [← ar.len, hl, hn]
  · obtain ⟨G, ds, wk, ar, hl, q⟩ := hsp
    refine ⟨tSs T ⟨K, mg, none⟩ d.bor (fun cls dd _ H => E cls dd H) d.body, soundSs d.body _ sc _ bd ⟨⟨rfl, rfl, rfl, hsc.nd, rfl, rfl, hr, takes_of rfl rfl rfl rfl, C.fns, C.gls, C.free, C.xf, rfl, C.whs⟩, fun _ => rfl, rfl, rfl, passes_of rfl⟩ hm, G, startS d.bor 0 ds (d.ns.length - ds.length), start_rel wk (by rw [← hb]; exact ar), ?_⟩
    cases es : F.sem ds with
    | none => rw [es] at q; exact q.elim
    | some r =>
      rw [es] at q
      have hr := hsem ds r es
      unfold runDf at hr
      cases e : evSs T d.body (startS d.bor 0 ds (d.ns.length - ds.length)) with
      | bad => rw [e] at hr; cases hr
      | err c p st =>
        rw [e] at hr
        cases eo : outOf d.bor st with
        | none => simp [endR, eo] at hr
        | some o =>
          simp only [endR, eo, Option.map_some, Option.some.injEq] at hr
          subst hr
          exact fun cls dd σ' H' G' sp rel kp ex => q cls dd H' G' sp rel.wk ex (by rw [hb]; exact out_ok rel kp eo)
      | ok f st =>
        rw [e] at hr
        cases f with
        | next =>
          cases eo : outOf d.bor st with
          | none => simp [endR, eo] at hr
          | some o =>
            simp only [endR, eo, Option.map_some, Option.some.injEq] at hr
            subst hr
            exact fun σ' H' G' sp rel kp => q .non H' G' sp rel.wk .non (by rw [hb]; exact out_ok rel kp eo)
        | brk => cases hr
        | ret v =>
          cases eo : outOf d.bor st with
          | none => simp [endR, eo] at hr
          | some o =>
            simp only [endR, eo, Option.map_some, Option.some.injEq] at hr
            subst hr
            exact fun v σ' H' G' sp rel kp rp => q v H' G' sp rel.wk rp (by rw [hb]; exact out_ok rel kp eo)
end Nm
set_option maxRecDepth 100000
set_option maxHeartbeats 4000000
/-! Tables, grown def by def; the end of a law. -/
namespace Nm
open PySem L2
open PySem.PyData (strOk)
def Df.fn (T : Tb) (d : Df) : Fn := ⟨d.ps.length, d.bor, runDf T d⟩
def Tb.ext (T : Tb) (x : Str) (d : Df) : Tb := { T with fn := fun y => if y = x then some (d.fn T) else T.fn y }
/-- what a def is to match -/
def fsB (N P : List Str) (sc : Scope) : Bool := decide (sc.kind = .function) && !sc.isCoroutine && !sc.isGenerator && decide N.Nodup && decide (N.take P.length = P) && P.all (locB sc) && sc.names.all fun y => match y.2 with
  | .free => false
  | _ => true
theorem fsB_ok {N P : List Str} {sc : Scope} (h : fsB N P sc = true) : FnScope N P sc := by
  unfold fsB at h
  obtain ⟨h, h1⟩ := ba h
  obtain ⟨h, h2⟩ := ba h
  obtain ⟨h, h3⟩ := ba h
  obtain ⟨h, h4⟩ := ba h
  obtain ⟨h, h5⟩ := ba h
  obtain ⟨h7, h6⟩ := ba h
  refine ⟨of_decide_eq_true h7, by simpa using h6, by simpa using h5, of_decide_eq_true h4, of_decide_eq_true h3, fun x hx => locB_of (List.all_eq_true.mp h2 x hx), fun y hy z => ?_⟩
  have := List.all_eq_true.mp h1 y hy
  rw [z] at this
  cases this
def mDf (d : Df) (st : Stmt) : Bool := fsB d.ns d.ps (defScope st) && mSs d.bor d.ns (defScope st) d.body (defBody st)
theorem Fc.ext {T : Tb} {P : Program} {w : World} {K : PySem.W.Frag} {mg : Str → Option Value} {base : Heap} {k : Nat} {d : Df} {x qual : Str} {pa : Arguments} {st : Stmt} {dvs : List V} {kws : List (Str × V)} {f : Addr} {fd : FuncData}
    (C : Fc T P w K mg base k) (hF : FunD K x qual pa (defBody st) (defScope st) dvs kws f fd) (hm : mDf d st = true) (hg : mg x = some (.ref f)) (hb : Binds K fd d.ps []) : Fc (T.ext x d) P w K mg base (k + 1) := by
  obtain ⟨h1, h2⟩ := ba hm
  refine ⟨fun g F hf => ?_, C.gls, C.free, ⟨C.xf.ex0, C.xf.ex1, C.xf.exm⟩, fun f c d h => ?_⟩
  rotate_left
  · obtain ⟨a, fd', e, q1, q2, q3, q4, q5⟩ := C.whs f c d h
    exact ⟨a, fd', e, q1, q2, q3, q4, Nat.le_succ_of_le q5⟩
  have hf' : (if g = x then some (d.fn T) else T.fn g) = some F := hf
  by_cases e : g = x
  · rw [if_pos e] at hf'
    cases hf'
    subst e
    exact ⟨f, fd, d.ps, hg, hF.kp, hb, df_ok (F := d.fn T) C hF (fsB_ok h1) h2 rfl rfl fun _ _ h => h⟩
  · rw [if_neg e] at hf'
    obtain ⟨a, fd', ps, q1, q2, q3, q4⟩ := C.fns g F hf'
    exact ⟨a, fd', ps, q1, q2, q3, q4.mono (Nat.le_succ k)⟩
theorem Fc.law {T : Tb} {P : Program} {w : World} {K : PySem.W.Frag} {mg : Str → Option Value} {base : Heap} {k : Nat} {d : Df} {x qual : Str} {pa : Arguments} {st : Stmt} {dvs : List V} {kws : List (Str × V)} {f : Addr} {fd : FuncData}
    (C : Fc T P w K mg base k) (hF : FunD K x qual pa (defBody st) (defScope st) dvs kws f fd) (hm : mDf d st = true) : FnOk P w K mg base (L2.CX P w) (k + 1) f fd d.ps (spF ⟨K, mg, none⟩ (d.fn T)) := by
  obtain ⟨h1, h2⟩ := ba hm
  exact df_ok (F := d.fn T) C hF (fsB_ok h1) h2 rfl rfl fun _ _ h => h
/-- the law's promise at a script -/
theorem law_sp {S : Sr} {F : Fn} {H : Hp} {a : Addr} {ns : List Int} {out : D} (hn : F.n = 1) (hb : F.bor = none) (hl : ns.length ≤ LIM) (hS : SqL S.K H a (ns.map V.int)) (h : F.sem [.scr ns] = some (.ok (.bl true) out)) : spF S F [.ref a] H (fun v _ => v = .bl true) fun _ _ _ => False := by
  have f : FroI S.K (fun _ => Tag.fro) H a (ns.map V.int) := by
    rcases hS with h | h
    · exact .inl ⟨h, rfl⟩
    · exact .inr h
  refine ⟨fun _ => .fro, [.scr ns], fun _ _ => rfl, ?_, hn.symm, ?_⟩
  · rw [hb]
    exact ⟨Rep.scr f hl, trivial⟩
  · rw [h]
    intro v H' G' _ _ r _
    cases r
    rfl
theorem noCX {P : Program} {w : World} (H : Hp) (s : Shared) (e : Value) (s' : Shared) (h : L2.CX P w [] H s (fun _ _ _ => False) e s') : False := by
  obtain ⟨_, _, _, _, _, _, _, _, _, _, _, _, z⟩ := h
  exact z
/-- as the library's walk_ofE, with the numbers' bits; what is let out may hang on the world -/
theorem walk_bits {l : PySem.W.OpenLaw} {n k : Nat} {q : Program} {loose : List Str} {XP : (Str → Option Value) → Heap → Prop} {YP : World → Heap → Prop} {d : DefRec} {x : Str} (hn : l.most = some n) (hn2 : n ≤ sizeLine) (hdf : d.params.defaults = []) (hr : Room k callerA)
    (F : ∀ (w : World) (mg : Str → Option Value) (fa : Addr) (h : Heap), YP w h → h.Ns mainGlobals mg → mg d.name = some (.ref fa) → ∃ (K : PySem.W.Frag) (fd : FuncData) (Fl : Fn), K.In h ∧ Fl.n = 1 ∧ Fl.bor = none ∧ (∀ (s : Shared) (u : Value), BindsTo s fd ⟨[u], []⟩ [(x, u)]) ∧
        (∀ ns : List Int, ns.length ≤ n → (∀ z ∈ ns, Builtin.Int.intBits z ≤ 1048576) → ∃ out, Fl.sem [.scr ns] = some (.ok (.bl true) out)) ∧ ∀ base : Heap, FnOk l.prog w K mg base (L2.CX l.prog w) k fa fd [x] (spF ⟨K, mg, none⟩ Fl)) :
    PySem.W.WalkO q loose XP YP l.row.toRowW d [] (fun f vs => PySem.call f vs) := by
  refine Att.attach_callB hn hdf fun w s₀ s₁ mg mb fa o pm cd doc a vs ns Gr Y ho hd hcd hmg hobj hints hlen hbits hg => ?_
  obtain ⟨K, fd, Fl, KX, h1, h2, hb, hsem, hF⟩ := F w mg fa _ Y Gr.T.g hmg
  obtain ⟨out, hout⟩ := hsem ns hlen hbits
  have hlim : ns.length ≤ LIM := by rw [lim_line]; exact Nat.le_trans hlen hn2
  exact law_call KX Gr.T.g Gr.T.b Gr.T.builtins Gr.T.nolimit hg hobj hints (Nat.le_trans hlen hn2) hr (fun base _ _ => hF base) hb (fun H _ hS => law_sp h1 h2 hlim hS hout) fun H e s' => noCX H s₁ e s'
/-! ### what a table holds -/
def Has (T : Tb) (f : Str) (n : Nat) (b : Option Nat) (P : (List D → Option FR) → Prop) : Prop := ∃ F, T.fn f = some F ∧ F.n = n ∧ F.bor = b ∧ P F.sem
theorem Has.ext {T : Tb} {f x : Str} {n : Nat} {b : Option Nat} {P : (List D → Option FR) → Prop} {d : Df} (h : Has T f n b P) (hx : f ≠ x) : Has (T.ext x d) f n b P := by
  obtain ⟨F, e, r⟩ := h
  exact ⟨F, by show (if f = x then _ else T.fn f) = _; rw [if_neg hx]; exact e, r⟩
theorem Has.new {T : Tb} {x : Str} {d : Df} {P : (List D → Option FR) → Prop} (h : P (runDf T d)) : Has (T.ext x d) x d.ps.length d.bor P :=
  ⟨d.fn T, by show (if x = x then _ else T.fn x) = _; rw [if_pos rfl], rfl, rfl, h⟩
end Nm
namespace Nm
open PySem
theorem Has.setWh {T : Tb} {W : Str → Str → Option D} {f : Str} {n : Nat} {b : Option Nat} {P : (List D → Option FR) → Prop} (h : Has T f n b P) : Has { T with wh := W } f n b P := h
def Tb.exts (T : Tb) : List (Str × Df) → Tb
  | [] => T
  | p :: r => (T.ext p.1 p.2).exts r
theorem Has.exts {f : Str} {n : Nat} {b : Option Nat} {P : (List D → Option FR) → Prop} : ∀ (r : List (Str × Df)) {T : Tb}, Has T f n b P → (r.all fun p => decide (f ≠ p.1)) = true → Has (T.exts r) f n b P
  | [], _, h, _ => h
  | p :: r, T, h, hn => by
    rw [List.all_cons] at hn
    obtain ⟨h1, h2⟩ := ba hn
    exact Has.exts r (h.ext (of_decide_eq_true h1)) h2
end Nm
set_option maxRecDepth 100000
set_option maxHeartbeats 4000000
/-! A def that tells which exception it is handed. -/
namespace Nm
open PySem L2
open PySem.PyData (strOk)
/-- the caught exception at a -/
def HotF (T : Tb) (X : Cx) (a : Addr) : Prop := ∃ (oe : Obj) (C : Addr), (a, oe) ∈ X.pn ∧ Zc (.ref C) none oe ∧ (∃ vs, oe.data = .fields vs) ∧ ExcC X.K C ∧ ∀ y b, T.isx y = some b → ∃ (v : V) (u : Value), RelV v u ∧ (∀ z, RelV v z → z = u) ∧ PySem.W.kitOne X.K (.ref C) u = some b ∧ (X.mg y = some u ∨ (X.mg y = none ∧ ∃ ty, bootBuiltins y = some (.type ty) ∧ v = .ty ty ∧ y ≠ "__name__"))
structure OkH (T : Tb) (S : Sr) (N : List Str) (sc : Scope) (X : Cx) : Prop where
  hK : X.K = S.K
  hmg : X.mg = S.mg
  hN : X.N = N
  nd : N.Nodup
  hsc : X.env.scope = sc
  un : X.A.units + 64 < cLine
  fnT : ∀ y, X.fn y = true
  free : ∀ f ∈ builtinNames, X.mg f = none
  hot : ∃ a, S.ea = some a ∧ HotF T X a
mutual
/-- what is told where an exception is handled -/
def coolE : Ex → Bool
  | .c _ => true
  | .v _ => true
  | .isx _ _ => true
  | .tup es => coolEs es
  | .lst es => coolEs es
  | .not a => coolE a
  | .or a b => coolE a && coolE b
  | .cmp _ a b => coolE a && coolE b
  | .me _ a es => coolE a && coolEs es
  | .mut _ _ es => coolEs es
  | _ => false
def coolEs : List Ex → Bool
  | [] => true
  | a :: as => coolE a && coolEs as
end
mutual
def coolS : Sx → Bool
  | .asg _ e => coolE e
  | .ex e => coolE e
  | .ret e => coolE e
  | .ifs c t f => coolE c && coolSs t && coolSs f
  | _ => false
def coolSs : List Sx → Bool
  | [] => true
  | x :: xs => coolS x && coolSs xs
end
section
variable {T : Tb} {S : Sr} {N : List Str}
theorem vOfH {a : Ex} {n : Nat} {W : WX} {sc : Scope} {X : Cx} {e : Expr} (o : OkH T S N sc X) (h : mE N sc a e = true) (he : PE X e (tE T S n W a)) : PE X e (tVw T S n W a) := by
  cases hv : isV a with
  | false => exact pe_vwe hv he
  | true =>
    cases a with
    | v i =>
      rw [mE.eq_def] at h
      dsimp only at h
      split at h
      · obtain ⟨h1, h2⟩ := ba h
        obtain ⟨h3, h4⟩ := ba h1
        exact pe_vwv (pe_var (by rw [o.hN]; exact slotB_of h3) (by rw [o.hsc]; exact visB_of h4) (nmB_of h2).1 (nmB_of h2).2.1)
      · cases h
    | _ => cases hv
theorem call_isP {X : Cx} {a C : Addr} {oe : Obj} (mem : (a, oe) ∈ X.pn) (ec : ExcC X.K C) (hz : Zc (.ref C) none oe) (hf : ∃ vs, oe.data = .fields vs) : CallR X (.builtin "isinstance") (rIsE X.K C a) := by
  intro pins s σ H xs us Q I r h
  obtain ⟨c, cv, b, rfl, hcv, e, q⟩ := h
  cases r with
  | cons r1 r2 =>
    cases r2 with
    | cons r3 r4 =>
      cases r4
      cases r1
      obtain rfl := hcv _ r3
      have hp := (I.pin (a, oe) (List.mem_append_left _ mem)).1
      obtain ⟨vs, hv⟩ := hf
      have at_ : PySem.W.InstAt s.heap a oe C none := by
        obtain ⟨k1, k2, k3, k4⟩ := oe
        obtain ⟨z1, z2⟩ := hz
        dsimp only at z1 z2 hv
        subst z1 z2 hv
        exact ⟨hp, rfl, rfl, trivial⟩
      refine PySem.W.kia_one (PySem.W.handS_kitx_exc ec.hg ec.hk ec.hs ec.hd ec.ha ec.hn ec.ht ec.hm) I.kIn at_ e (fun z => nomatch z) fun tk => ?_
      exact ⟨.bl b, H, I.kept (t' := tk) fun _ _ z => z, rfl, q⟩
theorem pe_isxH {n : Nat} {W : WX} {sc : Scope} {X : Cx} {y x : Str} {i : Nat} {p1 p2 p3 pos : Pos} (o : OkH T S N sc X) (h1 : glB sc "isinstance" = true) (h2 : glB sc y = true) (h3 : nmB y = true) (h4 : slotB N i x = true) (h5 : visB sc x = true) (h6 : nmB x = true) :
    PE X (.Call (.Name "isinstance" p1) [.Name x p2, .Name y p3] [] pos) (tE T S n W (.isx y i)) := by
  refine ⟨fun pins s σ H Q I q => ?_⟩
  obtain ⟨G, st, rel, fin⟩ := q
  rw [evE] at fin
  cases e1 : st[i]? with
  | none => rw [e1] at fin; exact fin.elim
  | some sl =>
    rw [e1] at fin
    cases sl with
    | val d =>
      cases d with
      | exc c p =>
        cases e2 : T.isx y with
        | none => rw [e2] at fin; exact fin.elim
        | some b =>
          rw [e2] at fin
          obtain ⟨a, ea, oe, C, m1, m2, m3, m4, m5⟩ := o.hot
          obtain ⟨v, u, k1, k2, k3, k4⟩ := m5 y b e2
          obtain ⟨ov, eo, v0, rfl, r⟩ := rel.at_ i _ e1
          have hv : v0 = .ref a := by
            cases r with
            | exc ea' => rw [ea] at ea'; cases ea'; rfl
          subst hv
          have hd := nmB_of h3
          have hx : PE X (.Name x p2) (tVar i) := pe_var (by rw [o.hN]; exact slotB_of h4) (by rw [o.hsc]; exact visB_of h5) (nmB_of h6).1 (nmB_of h6).2.1
          have hy : PE X (.Name y p3) (tC v) := by
            rcases k4 with k4 | ⟨k4, ty, k5, rfl, k6⟩
            · exact pe_glob (glB_of o.hsc h2) k4 k1 hd.1
            · exact pe_bltn (glB_of o.hsc h2) k4 k5 rfl k6 hd.1
          refine (pe_callB (call_isP m1 m4 m2 m3) (glB_of o.hsc h1) (o.free _ (by decide)) PyProof.Rows.boot_isinstance (pa_cons hx (pa_cons hy pa_nil)) (by decide) (by decide) rfl rfl).run pins s σ H Q I ?_
          refine ⟨.ref a, eo, v, u, b, rfl, k2, k3, ?_⟩
          exact fin (.bl b) H G Step.refl rel (.bl b)
      | _ => exact fin.elim
    | _ => exact fin.elim
mutual
theorem hotE : ∀ (a : Ex) (n : Nat) (W : WX) (sc : Scope) (X : Cx) (e : Expr), OkH T S N sc X → coolE a = true → mE N sc a e = true → PE X e (tE T S n W a) ∧ (tstB a = true → PT X e (tT T S n W a))
  | .c d, n, W, sc, X, e, o, hc, h => by
    refine both h ?_ rfl
    rw [mE.eq_def] at h
    dsimp only at h
    split at h
    · exact pe_con h
    · split at h
      · exact pe_neg (of_decide_eq_true h)
      · cases h
    · cases h
  | .isx y i, n, W, sc, X, e, o, hc, h => by
    refine both h ?_ rfl
    rw [mE.eq_def] at h
    dsimp only at h
    split at h
    · obtain ⟨h, k1⟩ := ba h
      obtain ⟨h, k2⟩ := ba h
      obtain ⟨h, k3⟩ := ba h
      obtain ⟨h, k4⟩ := ba h
      obtain ⟨h, k5⟩ := ba h
      obtain ⟨h, k6⟩ := ba h
      obtain ⟨k8, k7⟩ := ba h
      obtain rfl := of_decide_eq_true k8
      obtain rfl := of_decide_eq_true k7
      exact pe_isxH o k6 k5 k4 k3 k2 k1
    · cases h
  | .tup es, n, W, sc, X, e, o, hc, h => by
    rw [coolE] at hc
    refine both h ?_ rfl
    rw [mE.eq_def] at h
    dsimp only at h
    split at h
    · obtain ⟨h1, h2⟩ := ba h
      exact pe_tupx (hotEs es n W sc X _ o hc h1) (of_decide_eq_true h2)
    · cases h
  | .lst es, n, W, sc, X, e, o, hc, h => by
    rw [coolE] at hc
    refine both h ?_ rfl
    rw [mE.eq_def] at h
    dsimp only at h
    split at h
    · obtain ⟨h1, h2⟩ := ba h
      exact pe_lstx (hotEs es n W sc X _ o hc h1) (of_decide_eq_true h2)
    · cases h
  | .not a, n, W, sc, X, e, o, hc, h => by
    rw [coolE] at hc
    rw [mE.eq_def] at h
    dsimp only at h
    split at h
    · obtain ⟨A, A'⟩ := hotE a n W sc X _ o hc h
      exact ⟨pe_notx A, fun t => pt_notx (A' t)⟩
    · cases h
  | .or a b, n, W, sc, X, e, o, hc, h => by
    rw [coolE] at hc
    obtain ⟨c1, c2⟩ := ba hc
    rw [mE.eq_def] at h
    dsimp only at h
    split at h
    · obtain ⟨h1, h2⟩ := ba h
      split at h2
      · obtain ⟨A, A'⟩ := hotE a n W sc X _ o c1 h1
        obtain ⟨B, B'⟩ := hotE b n W sc X _ o c2 h2
        exact ⟨pe_orx A (pe_one B), fun t => pt_orx (A' (ba t).1) (pt_one (B' (ba t).2))⟩
      · obtain ⟨A, A'⟩ := hotE a n W sc X _ o c1 h1
        obtain ⟨B, B'⟩ := hotE b n W sc X _ o c2 h2
        exact ⟨pe_orx A B, fun t => pt_orx (A' (ba t).1) (B' (ba t).2)⟩
    · cases h
  | .cmp op a b, n, W, sc, X, e, o, hc, h => by
    rw [coolE] at hc
    obtain ⟨c1, c2⟩ := ba hc
    rw [mE.eq_def] at h
    dsimp only at h
    split at h
    · obtain ⟨h1, h2⟩ := ba h
      obtain ⟨h3, h4⟩ := ba h1
      obtain ⟨h5, h6⟩ := ba h3
      have ex := of_decide_eq_true h5
      subst ex
      have A := vOfH o h6 (hotE a n W sc X _ o c1 h6).1
      have B := vOfH o h4 (hotE b n W sc X _ o c2 h4).1
      exact ⟨pe_cmpx o.hK o.un A B (by simpa using h2), fun _ => pt_cmpx o.hK o.un A B (by simpa using h2)⟩
    · cases h
  | .me m ob es, n, W, sc, X, e, o, hc, h => by
    rw [coolE] at hc
    obtain ⟨c1, c2⟩ := ba hc
    refine both h ?_ rfl
    rw [mE.eq_def] at h
    dsimp only at h
    split at h
    · obtain ⟨h1, h2⟩ := ba h
      obtain ⟨h3, h4⟩ := ba h1
      obtain ⟨h5, h6⟩ := ba h3
      obtain ⟨h7, h8⟩ := ba h5
      obtain ⟨h9, h10⟩ := ba h7
      have ex := of_decide_eq_true h9
      subst ex
      exact pe_mex o.hK o.un (of_decide_eq_true h10) (vOfH o h8 (hotE ob n W sc X _ o c1 h8).1) (notCall h8) (notStars h6) (hotVs es n W sc X _ o c2 h6) h4 (of_decide_eq_true h2)
    · cases h
  | .mut m i es, n, W, sc, X, e, o, hc, h => by
    rw [coolE] at hc
    refine both h ?_ rfl
    rw [mE.eq_def] at h
    dsimp only at h
    split at h
    · obtain ⟨h, k1⟩ := ba h
      obtain ⟨h, k2⟩ := ba h
      obtain ⟨h, k3⟩ := ba h
      obtain ⟨h, k4⟩ := ba h
      obtain ⟨h, k5⟩ := ba h
      obtain ⟨h, k6⟩ := ba h
      obtain ⟨k8, k7⟩ := ba h
      have ex := of_decide_eq_true k8
      subst ex
      exact pe_mutx o.hK (of_decide_eq_true k7) (pe_var (by rw [o.hN]; exact slotB_of k6) (by rw [o.hsc]; exact visB_of k5) (nmB_of k4).1 (nmB_of k4).2.1) (notStars k3) (hotEs es n W sc X _ o hc k3) k2 (of_decide_eq_true k1)
    · cases h
  | .v i, n, W, sc, X, e, o, hc, h => by
    refine both h ?_ rfl
    rw [mE.eq_def] at h
    dsimp only at h
    split at h
    · obtain ⟨h1, h2⟩ := ba h
      obtain ⟨h3, h4⟩ := ba h1
      exact pe_v (pe_var (by rw [o.hN]; exact slotB_of h3) (by rw [o.hsc]; exact visB_of h4) (nmB_of h2).1 (nmB_of h2).2.1)
    · cases h
  | .nil, _, _, _, _, _, _, hc, _ => by simp [coolE] at hc
  | .g _, _, _, _, _, _, _, hc, _ => by simp [coolE] at hc
  | .bin _ _ _, _, _, _, _, _, _, hc, _ => by simp [coolE] at hc
  | .chain _ _ _ _ _, _, _, _, _, _, _, hc, _ => by simp [coolE] at hc
  | .and _ _, _, _, _, _, _, _, hc, _ => by simp [coolE] at hc
  | .ite _ _ _, _, _, _, _, _, _, hc, _ => by simp [coolE] at hc
  | .ix _ _, _, _, _, _, _, _, hc, _ => by simp [coolE] at hc
  | .sl _ _ _, _, _, _, _, _, _, hc, _ => by simp [coolE] at hc
  | .isi _ _, _, _, _, _, _, _, hc, _ => by simp [coolE] at hc
  | .bi _ _, _, _, _, _, _, _, hc, _ => by simp [coolE] at hc
  | .rg _, _, _, _, _, _, _, hc, _ => by simp [coolE] at hc
  | .call _ _, _, _, _, _, _, _, hc, _ => by simp [coolE] at hc
  | .lc _ _ _ _ _, _, _, _, _, _, _, hc, _ => by simp [coolE] at hc
  | .callv _ _, _, _, _, _, _, _, hc, _ => by simp [coolE] at hc
theorem hotEs : ∀ (as : List Ex) (n : Nat) (W : WX) (sc : Scope) (X : Cx) (es : List Expr), OkH T S N sc X → coolEs as = true → mEs N sc as es = true → PA X es (tEs T S n W as)
  | [], n, W, sc, X, es, o, hc, h => by
    rw [mEs] at h
    have : es = [] := by simpa using h
    subst this
    exact pa_nilE
  | a :: as, n, W, sc, X, [], o, hc, h => by rw [mEs] at h; cases h
  | a :: as, n, W, sc, X, e :: es, o, hc, h => by
    rw [coolEs] at hc
    rw [mEs] at h
    obtain ⟨c1, c2⟩ := ba hc
    obtain ⟨h1, h2⟩ := ba h
    exact pa_consE (notStar h1) (hotE a n W sc X e o c1 h1).1 (hotEs as n W sc X es o c2 h2)
theorem hotVs : ∀ (as : List Ex) (n : Nat) (W : WX) (sc : Scope) (X : Cx) (es : List Expr), OkH T S N sc X → coolEs as = true → mEs N sc as es = true → PA X es (tVs T S n W as)
  | [], n, W, sc, X, es, o, hc, h => by
    rw [mEs] at h
    have : es = [] := by simpa using h
    subst this
    exact pa_nilV
  | a :: as, n, W, sc, X, [], o, hc, h => by rw [mEs] at h; cases h
  | a :: as, n, W, sc, X, e :: es, o, hc, h => by
    rw [coolEs] at hc
    rw [mEs] at h
    obtain ⟨c1, c2⟩ := ba hc
    obtain ⟨h1, h2⟩ := ba h
    exact pa_consV (notStar h1) (vOfH o h1 (hotE a n W sc X e o c1 h1).1) (hotVs as n W sc X es o c2 h2)
end
mutual
theorem hotS : ∀ (x : Sx) (W : WX) (sc : Scope) (X : Cx) (s : Stmt), OkH T S N sc X → coolS x = true → mS none N sc x s = true → PS X s (tS T S none W x)
  | .asg i a, W, sc, X, s, o, hc, h => by
    rw [coolS] at hc
    rw [mS.eq_def] at h
    dsimp only at h
    split at h
    · rename_i x px e pos
      obtain ⟨h, k1⟩ := ba h
      obtain ⟨h, k2⟩ := ba h
      obtain ⟨h, k3⟩ := ba h
      obtain ⟨k5, k4⟩ := ba h
      refine st_asg ?_ k2
      have hl : isLc a = false := by cases a <;> first | rfl | (simp [coolE] at hc; done)
      exact ps_set (by rw [o.hN]; exact o.nd) (by rw [o.hN]; exact slotB_of k5) (by rw [o.hsc]; exact locB_of k4) (hotE a 0 W sc X e o hc k1).1 (notComp k1 hl) (.inl (o.fnT x))
    · cases h
  | .ex a, W, sc, X, s, o, hc, h => by
    rw [coolS] at hc
    rw [mS.eq_def] at h
    dsimp only at h
    split at h
    · rename_i e pos
      obtain ⟨m2, m1⟩ := ba h
      have hl : isLc a = false := by simpa using m1
      exact st_ex (ps_expr (hotE a 0 W sc X e o hc m2).1 (notComp m2 hl))
    · cases h
  | .ret a, W, sc, X, s, o, hc, h => by
    rw [coolS] at hc
    rw [mS.eq_def] at h
    dsimp only at h
    split at h
    · exact st_ret (ps_ret (hotE a 0 W sc X _ o hc h).1)
    · unfold isNonE at h
      split at h
      · exact st_retN ps_retN
      · cases h
    · cases h
  | .ifs c t f, W, sc, X, s, o, hc, h => by
    rw [coolS] at hc
    obtain ⟨hc, c3⟩ := ba hc
    obtain ⟨c1, c2⟩ := ba hc
    rw [mS.eq_def] at h
    dsimp only at h
    split at h
    · rename_i c' t' f' pos
      obtain ⟨h, m1⟩ := ba h
      obtain ⟨h, m2⟩ := ba h
      obtain ⟨m4, m3⟩ := ba h
      exact st_if ((hotE c 0 W sc X c' o c1 m3).2 m4) (hotSs t W sc X t' o c2 m2) (hotSs f W sc X f' o c3 m1)
    · cases h
  | .unp _ _, _, _, _, _, _, hc, _ => by simp [coolS] at hc
  | .par _ _ _ _, _, _, _, _, _, hc, _ => by simp [coolS] at hc
  | .aug _ _ _, _, _, _, _, _, hc, _ => by simp [coolS] at hc
  | .setix _ _ _, _, _, _, _, _, hc, _ => by simp [coolS] at hc
  | .augix _ _ _ _, _, _, _, _, _, hc, _ => by simp [coolS] at hc
  | .for_ _ _ _ _, _, _, _, _, _, hc, _ => by simp [coolS] at hc
  | .while_ _ _, _, _, _, _, _, hc, _ => by simp [coolS] at hc
  | .raise_ _ _, _, _, _, _, _, hc, _ => by simp [coolS] at hc
  | .pass, _, _, _, _, _, hc, _ => by simp [coolS] at hc
  | .brk, _, _, _, _, _, hc, _ => by simp [coolS] at hc
  | .never, _, _, _, _, _, hc, _ => by simp [coolS] at hc
  | .gh _ _, _, _, _, _, _, hc, _ => by simp [coolS] at hc
  | .try_ _ _ _ _, _, _, _, _, _, hc, _ => by simp [coolS] at hc
theorem hotSs : ∀ (xs : List Sx) (W : WX) (sc : Scope) (X : Cx) (ss : List Stmt), OkH T S N sc X → coolSs xs = true → mSs none N sc xs ss = true → PSs X ss (tSs T S none W xs)
  | [], W, sc, X, ss, o, hc, h => by
    rw [mSs] at h
    have : ss = [] := by simpa using h
    subst this
    exact sts_nil
  | x :: xs, W, sc, X, [], o, hc, h => by
    rw [coolSs] at hc
    have hg : isGh x = false := by cases x <;> first | rfl | (have := (ba hc).1; simp [coolS] at this; done)
    rw [mSs.eq_def] at h
    simp only [hg, Bool.false_eq_true, if_false] at h
  | x :: xs, W, sc, X, s :: ss, o, hc, h => by
    rw [coolSs] at hc
    obtain ⟨c1, c2⟩ := ba hc
    have hg : isGh x = false := by cases x <;> first | rfl | (simp [coolS] at c1; done)
    rw [mSs.eq_def] at h
    simp only [hg, Bool.false_eq_true, if_false] at h
    obtain ⟨h1, h2⟩ := ba h
    exact sts_cons (hotS x W sc X s o c1 h1) (hotSs xs W sc X ss o c2 h2)
end
mutual
/-- plain things don't speak of the exception -/
theorem Rep.sr {K : PySem.W.Frag} {mg : Str → Option Value} {ea eb : Option Addr} {G : Gh} {H : Hp} : ∀ {d : D} {v : V} (n : Nat), Rep ⟨K, mg, ea⟩ G H d v → D.plain n d = true → Rep ⟨K, mg, eb⟩ G H d v
  | _, _, n, .non, _ => .non
  | _, _, n, .bl b, _ => .bl b
  | _, _, n, .int i, _ => .int i
  | _, _, n, .str x h, _ => .str x h
  | .tup xs, _, n, .tup f l r, h => by
    rw [D.plain] at h
    cases n with
    | zero => cases xs <;> (rw [D.plains] at h; cases h)
    | succ m => exact .tup f l (Reps.sr m r h)
  | .lst xs, _, n, .lst f l r, h => by
    rw [D.plain] at h
    cases n with
    | zero => cases xs <;> (rw [D.plains] at h; cases h)
    | succ m => exact .lst f l (Reps.sr m r h)
  | _, _, _, .fn _, h => by simp [D.plain] at h
  | _, _, _, .exc _, h => by simp [D.plain] at h
  | _, _, _, .scr _ _, h => by simp [D.plain] at h
theorem Reps.sr {K : PySem.W.Frag} {mg : Str → Option Value} {ea eb : Option Addr} {G : Gh} {H : Hp} : ∀ {ds : List D} {vs : List V} (m : Nat), Reps ⟨K, mg, ea⟩ G H ds vs → D.plains (m + 1) ds = true → Reps ⟨K, mg, eb⟩ G H ds vs
  | _, _, m, .nil, _ => .nil
  | _, _, m, .cons r t, h => by
    obtain ⟨m', e, p, q⟩ := plains_cons h
    obtain rfl : m' = m := by omega
    exact .cons (Rep.sr _ r p) (Reps.sr _ t q)
end
/-- all that stands is another's -/
def hotO (H : Hp) : Gh := fun b => match H b with
  | some _ => .outer
  | none => .fro
def hotG (G : Gh) (H : Hp) : Gh := fun b => match H b with
  | some _ => G b
  | none => .fro
theorem hotO_some {H : Hp} {b : Addr} {o : HO} (h : H b = some o) : hotO H b = .outer := by unfold hotO; rw [h]
theorem hot_ext {G G' : Gh} {H H' : Hp} (sp : Step 0 (hotO H) G' H H') : Ext G (hotG G H) H H' where
  keep := fun b o h => ⟨(sp.keep b o h (by rw [hotO_some h]; rfl)).1, by unfold hotG; rw [h]⟩
  wk := fun b h => by
    have := sp.there b h
    unfold hotG
    rw [this]
theorem hot_rep {S : Sr} {G G' : Gh} {H H' : Hp} {d : D} {v : V} (sp : Step 0 (hotO H) G' H H') (r : Rep S G' H' d v) : Rep S (hotG G H) H' d v := by
  refine Rep.stay (G := G') (H := H') (fun a o h t => ⟨h, ?_⟩) r
  cases e : H a with
  | none => unfold hotG; rw [e]
  | some u =>
    have := (sp.keep a u e (by rw [hotO_some e]; rfl)).2
    rw [t, hotO_some e] at this
    cases this
/-- the def keeps its word -/
theorem which_ok {P : Program} {w : World} {K : PySem.W.Frag} {mg : Str → Option Value} {base : Heap} {d : Df} {x qual : Str} {pa : Arguments} {bd : List Stmt} {sc : Scope} {dvs : List V} {kws : List (Str × V)} {f : Addr} {fd : FuncData} {e : Str} {wh : Str → Option D} (hF : FunD K x qual pa bd sc dvs kws f fd) (hps : d.ps = [e]) (hsc : FnScope d.ns d.ps sc) (hb : d.bor = none) (hm : mSs none d.ns sc d.body bd = true) (hc : coolSs d.body = true) (hfree : ∀ f ∈ builtinNames, mg f = none)
    (tb : Str → Tb) (hot : ∀ c z, wh c = some z → ∃ C, mg c = some (.ref C) ∧ ExcC K C ∧ (∀ y b, (tb c).isx y = some b → ∃ (v : V) (u : Value), RelV v u ∧ (∀ z, RelV v z → z = u) ∧ PySem.W.kitOne K (.ref C) u = some b ∧ (mg y = some u ∨ (mg y = none ∧ ∃ ty, bootBuiltins y = some (.type ty) ∧ v = .ty ty ∧ y ≠ "__name__"))) ∧ runDf (tb c) d [.exc c []] = some (.ok z .non) ∧ D.plain 60 z = true) : FnW P w K mg base f fd e wh := by
  refine ⟨fun A outer s H args a oe c C z G Q rd ru hC hz hf pin e0 bnd hw wk q => ?_⟩
  obtain ⟨C', hC', ec, hx, hrun, hpl⟩ := hot c z hw
  rw [hC] at hC'
  cases hC'
  rw [hps] at hsc
  refine hot_call (e := e) hF hsc rd pin e0 bnd fun cd => ?_
  refine ⟨tSs (tb c) ⟨K, mg, some a⟩ none noX d.body, hotSs d.body noX sc _ bd ⟨rfl, rfl, rfl, hsc.nd, rfl, ?_, fun _ => rfl, hfree, a, rfl, oe, C, List.mem_singleton.mpr rfl, hz, hf, ec, hx⟩ hc hm, hotO H, [.val (.exc c [])] ++ List.replicate (d.ns.length - 1) .no, ?_, ?_⟩
  · show A.units + 3 + 64 < cLine
    omega
  · have h := start_rel (S := ⟨K, mg, some a⟩) (b := none) (N := d.ns) (ds := [.exc c []]) (vs := [.ref a]) (G := hotO H) (H := H) (fun b hn => by unfold hotO; rw [hn]) ⟨Rep.exc rfl, trivial⟩
    exact h
  · unfold runDf at hrun
    rw [hb] at hrun
    have es : startS none 0 [.exc c []] (d.ns.length - [D.exc c []].length) = [.val (.exc c [])] ++ List.replicate (d.ns.length - 1) .no := rfl
    rw [es] at hrun
    cases ev : evSs (tb c) d.body ([.val (.exc c [])] ++ List.replicate (d.ns.length - 1) .no) with
    | bad => rw [ev] at hrun; cases hrun
    | err c' p st => rw [ev] at hrun; cases hrun
    | ok fl st =>
      rw [ev] at hrun
      cases fl with
      | brk => cases hrun
      | next =>
        cases hrun
        exact fun σ' H' G' sp rel kp => q .non H' _ (hot_ext sp) .non
      | ret r =>
        cases hrun
        exact fun v σ' H' G' sp rel kp rp => q v H' _ (hot_ext sp) (Rep.sr 60 (hot_rep sp rp) hpl)
end
end Nm
set_option maxRecDepth 100000
set_option maxHeartbeats 4000000
/-! What the head's run must say. -/
namespace Nm
open PySem L2
/-- ExcC, as a test -/
def excCB (K : PySem.W.Frag) (C : Addr) : Bool := He.eqO (PySem.W.findIn K (.ref C) "__getattribute__") (some (some (.builtin "BaseException.__getattribute__"))) && (He.eqO (PySem.W.findIn K (.ref C) "__getattr__") (some none) && (decide (PySem.W.subIn K (.ref C) (.type "BaseException") = some true) && (PySem.W.hasDictIn K C && (He.eqO (PySem.W.findIn K (.ref C) "__class__") (some (some (.builtin "object.__class__"))) &&
  (He.eqO (PySem.W.specialIn K (.builtin "object.__class__") "__get__") (some (some (.builtin "getset_descriptor.__get__"))) && (decide (PySem.W.takesIn K (.builtin "object.__class__") = some true) && decide (PySem.W.mroIn K C (.type "object") = some true)))))))
theorem excCB_ok {K : PySem.W.Frag} {C : Addr} (h : excCB K C = true) : ExcC K C := by
  obtain ⟨h1, h⟩ := ba h
  obtain ⟨h2, h⟩ := ba h
  obtain ⟨h3, h⟩ := ba h
  obtain ⟨h4, h⟩ := ba h
  obtain ⟨h5, h⟩ := ba h
  obtain ⟨h6, h⟩ := ba h
  obtain ⟨h7, h8⟩ := ba h
  exact ⟨He.eqO_ok h1, He.eqO_ok h2, of_decide_eq_true h3, h4, He.eqO_ok h5, He.eqO_ok h6, of_decide_eq_true h7, of_decide_eq_true h8⟩
/-- the classes cs, asked by isinstance for the classes ys and ValueError -/
def kitB (K : PySem.W.Frag) (cs ys : List Str) : Bool := cs.all fun c => excCB K (He.ga K c) && (decide (PySem.W.kitOne K (.ref (He.ga K c)) (.type "ValueError") = some true) && ys.all fun y => decide (PySem.W.kitOne K (.ref (He.ga K c)) (.ref (He.ga K y)) = some (decide (c = y))))
/-- what isinstance tells of an exception of the class c -/
def tbW (ys : List Str) (c : Str) : Tb := { fn := fun _ => none, gl := fun _ => none, fu := 0, isx := fun y => if y = "ValueError" then some true else if y ∈ ys then some (decide (c = y)) else none }
theorem which_head {P : Program} {w : World} {K : PySem.W.Frag} {mg : Str → Option Value} {base : Heap} {h : Heap} {d : Df} {x qual : Str} {pa : Arguments} {st : Stmt} {dvs : List V} {kws : List (Str × V)} {f : Addr} {fd : FuncData} {e : Str} {wh : Str → Option D} {cs ys : List Str} (X : K.In h) (G : h.Ns mainGlobals mg) (hF : FunD K x qual pa (defBody st) (defScope st) dvs kws f fd) (hps : d.ps = [e]) (hb : d.bor = none) (hm : mDf d st = true) (hc : coolSs d.body = true) (hfree : ∀ f ∈ builtinNames, mg f = none)
    (hve : mg "ValueError" = none) (glo : ∀ y, y ∈ cs ∨ y ∈ ys → mg y = some (.ref (He.ga K y))) (hk : kitB K cs ys = true) (hw : ∀ c z, wh c = some z → c ∈ cs ∧ D.plain 60 z = true ∧ runDf (tbW ys c) d [.exc c []] = some (.ok z .non)) : FnW P w K mg base f fd e wh := by
  obtain ⟨m1, m2⟩ := ba hm
  rw [hb] at m2
  refine which_ok hF hps (fsB_ok m1) hb m2 hc hfree (tbW ys) fun c z hz => ?_
  obtain ⟨hcs, hpl, hr⟩ := hw c z hz
  have kc := List.all_eq_true.mp hk c hcs
  obtain ⟨k1, kc⟩ := ba kc
  obtain ⟨k2, k3⟩ := ba kc
  refine ⟨He.ga K c, glo c (.inl hcs), excCB_ok k1, fun y b hy => ?_, hr, hpl⟩
  have hy : (if y = "ValueError" then some true else if y ∈ ys then some (decide (c = y)) else none) = some b := hy
  by_cases e1 : y = "ValueError"
  · rw [if_pos e1] at hy
    cases hy
    subst e1
    refine ⟨.ty "ValueError", .type "ValueError", ?_, ?_, of_decide_eq_true k2, .inr ⟨hve, "ValueError", by decide +kernel, rfl, by decide +kernel⟩⟩
    · first | rfl | exact (by simp [RelV])
    · intro z hz
      first | exact hz | (cases hz; rfl) | (simpa [RelV] using hz)
  · rw [if_neg e1] at hy
    by_cases e2 : y ∈ ys
    · rw [if_pos e2] at hy
      cases hy
      refine ⟨.ref (He.ga K y), .ref (He.ga K y), rfl, fun z hz => ?_, of_decide_eq_true (List.all_eq_true.mp k3 y e2), .inl (glo y (.inr e2))⟩
      cases hz
      rfl
    · rw [if_neg e2] at hy
      cases hy
theorem Fc.setWh {T : Tb} {P : Program} {w : World} {K : PySem.W.Frag} {mg : Str → Option Value} {base : Heap} {k : Nat} {W : Str → Str → Option D} (C : Fc T P w K mg base k) (h : ∀ f c d, W f c = some d → ∃ a fd e, mg f = some (.ref a) ∧ PySem.W.keepIn K (.ref a) = true ∧ Binds K fd [e] [] ∧ FnW P w K mg base a fd e (W f) ∧ 1 ≤ k) : Fc { T with wh := W } P w K mg base k :=
  ⟨C.fns, C.gls, C.free, ⟨C.xf.ex0, C.xf.ex1, C.xf.exm⟩, h⟩
end Nm
set_option maxRecDepth 100000
set_option maxHeartbeats 4000000
/-! Evaluation by rewriting. -/
namespace Nm
open PySem L2
@[simp ↓] theorem bi_len : biD "len" = lenD := by unfold biD; rw [if_pos rfl]
@[simp ↓] theorem bi_all : biD "all" = allD' := by unfold biD; rw [if_neg (by decide +kernel), if_pos rfl]
@[simp ↓] theorem bi_any : biD "any" = anyD' := by unfold biD; rw [if_neg (by decide +kernel), if_neg (by decide +kernel), if_pos rfl]
@[simp ↓] theorem bi_tuple : biD "tuple" = tupleD := by unfold biD; rw [if_neg (by decide +kernel), if_neg (by decide +kernel), if_neg (by decide +kernel), if_pos rfl]
@[simp ↓] theorem bi_list : biD "list" = listD := by unfold biD; rw [if_neg (by decide +kernel), if_neg (by decide +kernel), if_neg (by decide +kernel), if_neg (by decide +kernel), if_pos rfl]
@[simp ↓] theorem isi_int_int (i : Int) : isiD "int" (.int i) = some true := by
  unfold isiD; rw [if_pos (by decide +kernel)]; rfl
@[simp ↓] theorem isi_bool_int (i : Int) : isiD "bool" (.int i) = some false := by
  unfold isiD; rw [if_pos (by decide +kernel)]
  show some (decide _) = _
  rw [decide_eq_false (by decide +kernel)]
@[simp ↓] theorem isi_str_str (z : Str) : isiD "str" (.str z) = some true := by
  unfold isiD; rw [if_pos (by decide +kernel)]; rfl
@[simp ↓] theorem isi_tup_tup (z : List D) : isiD "tuple" (.tup z) = some true := by
  unfold isiD; rw [if_pos (by decide +kernel)]; rfl
@[simp ↓] theorem isi_bool_bl (b : Bool) : isiD "bool" (.bl b) = some true := by
  unfold isiD; rw [if_pos (by decide +kernel)]
  show some (decide _) = _
  rw [decide_eq_true (by decide +kernel)]
theorem mut_app (xs : List D) (e : D) (h : xs.length < LIM) : mutD "append" (.lst xs) [e] = some (.lst (xs ++ [e]), (.non, false)) := by
  unfold mutD; rw [if_pos rfl]; show (if xs.length < LIM then _ else none) = _; rw [if_pos h]
theorem mut_extT (xs ys : List D) (h : xs.length + ys.length ≤ LIM) : mutD "extend" (.lst xs) [.tup ys] = some (.lst (xs ++ ys), (.non, false)) := by
  unfold mutD; rw [if_neg (by decide +kernel), if_pos rfl]; show (if _ then _ else none) = _; rw [if_pos h]
theorem mut_extL (xs ys : List D) (h : xs.length + ys.length ≤ LIM) : mutD "extend" (.lst xs) [.lst ys] = some (.lst (xs ++ ys), (.non, false)) := by
  unfold mutD; rw [if_neg (by decide +kernel), if_pos rfl]; show (if _ then _ else none) = _; rw [if_pos h]
theorem mut_ins (xs : List D) (i : Int) (e : D) (h : xs.length < LIM ∧ 0 ≤ i ∧ i ≤ xs.length) : mutD "insert" (.lst xs) [.int i, e] = some (.lst (xs.take i.toNat ++ e :: xs.drop i.toNat), (.non, false)) := by
  unfold mutD; rw [if_neg (by decide +kernel), if_neg (by decide +kernel), if_pos rfl]; show (if _ then _ else none) = _; rw [if_pos h]
theorem R.bind_ok {α β : Type} (a : α) (st : Sl) (f : α → Sl → R β) : (R.ok a st).bind f = f a st := rfl
@[simp ↓] theorem opt_some {α : Type} (a : α) (st : Sl) : R.opt (some a) st = .ok a st := id rfl
theorem vw_v0 (i : Nat) (f : Sl → R Rv) (st : Sl) : vw (.v i) f st = (match st[i]? with
    | some (.val d) => .ok (.d d) st
    | some (.own _) => .ok (.s i) st
    | some (.bor _) => .ok (.s i) st
    | _ => .bad) := id rfl
@[simp] theorem at0 {α : Type} (x : α) (xs : List α) : L2.atI (x :: xs) 0 = some x := by
  unfold L2.atI L2.ixN
  rw [if_pos (Int.le_refl 0), if_pos (by rw [List.length_cons]; omega)]
  rfl
@[simp] theorem at1 {α : Type} (x y : α) (xs : List α) : L2.atI (x :: y :: xs) 1 = some y := by
  unfold L2.atI L2.ixN
  rw [if_pos (by decide), if_pos (by rw [List.length_cons, List.length_cons]; omega)]
  rfl
theorem atN {α : Type} (xs : List α) (i : Int) (h : 0 ≤ i) : L2.atI xs i = xs[i.toNat]? := by
  unfold L2.atI L2.ixN
  rw [if_pos h]
  split
  · rfl
  · rw [List.getElem?_eq_none (by omega)]
    rfl
/-! ### the interpreter's equations, at a state -/
section
@[simp ↓] theorem xE_nil : evE T (.nil) st = (.bad) := by first | exact id rfl | (rw [evE]; done) | (rw [evE]; rfl)
@[simp ↓] theorem xE_c : evE T (.c d) st = (.ok (d, false) st) := by first | exact id rfl | (rw [evE]; done) | (rw [evE]; rfl)
@[simp ↓] theorem xE_v : evE T (.v i) st = (match st[i]? with
    | some (.val d) => .ok (d, false) st
    | some (.own d) => .ok (d, false) (st.set i (.val d))
    | _ => .bad) := by first | exact id rfl | (rw [evE]; done) | (rw [evE]; rfl)
@[simp ↓] theorem xE_g : evE T (.g x) st = (R.opt ((T.gl x).map fun d => (d, false)) st) := by first | exact id rfl | (rw [evE]; done) | (rw [evE]; rfl)
@[simp ↓] theorem xE_tup : evE T (.tup es) st = ((evEs T es st).bind fun ds st => .ok (.tup ds, false) st) := by first | exact id rfl | (rw [evE]; done) | (rw [evE]; rfl)
@[simp ↓] theorem xE_lst : evE T (.lst es) st = ((evEs T es st).bind fun ds st => .ok (.lst ds, true) st) := by first | exact id rfl | (rw [evE]; done) | (rw [evE]; rfl)
@[simp ↓] theorem xE_bin : evE T (.bin o a b) st = (vw2 a b (evE T a) (evE T b) (binD o) st) := by first | exact id rfl | (rw [evE]; done) | (rw [evE]; rfl)
@[simp ↓] theorem xE_cmp : evE T (.cmp o a b) st = (vw2 a b (evE T a) (evE T b) (fun d e => bV (cmpD o d e)) st) := by first | exact id rfl | (rw [evE]; done) | (rw [evE]; rfl)
@[simp ↓] theorem xE_chain : evE T (.chain o o' a b c) st = (chE o o' a b c (evE T a) (evE T b) (evE T c) st) := by first | exact id rfl | (rw [evE]; done) | (rw [evE]; rfl)
@[simp ↓] theorem xE_not : evE T (.not a) st = ((evE T a st).bind fun r st => match r.1 with | .bl b => .ok (.bl (!b), false) st | _ => .bad) := by first | exact id rfl | (rw [evE]; done) | (rw [evE]; rfl)
@[simp ↓] theorem xE_and : evE T (.and a b) st = ((evE T a st).bind fun r st => match r.1 with | .bl true => evE T b st | .bl false => .ok (.bl false, false) st | _ => .bad) := by first | exact id rfl | (rw [evE]; done) | (rw [evE]; rfl)
@[simp ↓] theorem xE_or : evE T (.or a b) st = ((evE T a st).bind fun r st => match r.1 with | .bl false => evE T b st | .bl true => .ok (.bl true, false) st | _ => .bad) := by first | exact id rfl | (rw [evE]; done) | (rw [evE]; rfl)
@[simp ↓] theorem xE_ite : evE T (.ite c a b) st = ((evE T c st).bind fun r st => match r.1 with | .bl true => evE T a st | .bl false => evE T b st | _ => .bad) := by first | exact id rfl | (rw [evE]; done) | (rw [evE]; rfl)
@[simp ↓] theorem xE_ix : evE T (.ix a i) st = (vw2 a i (evE T a) (evE T i) (fun d e => (ixD d e).map fun x => (x, false)) st) := by first | exact id rfl | (rw [evE]; done) | (rw [evE]; rfl)
@[simp ↓] theorem xE_sl : evE T (.sl a lo hi) st = ((vw a (evE T a) st).bind fun w st => (op lo (evE T lo) st).bind fun l st => (op hi (evE T hi) st).bind fun h st => R.opt ((w.get st).bind fun d => slD d l h) st) := by first | exact id rfl | (rw [evE]; done) | (rw [evE]; rfl)
@[simp ↓] theorem xE_isi : evE T (.isi t a) st = (vw1 a (evE T a) (fun d => bV (isiD t d)) st) := by first | exact id rfl | (rw [evE]; done) | (rw [evE]; rfl)
@[simp ↓] theorem xE_bi : evE T (.bi f es) st = ((evVs T es st).bind fun ws st => R.opt ((Vw.gets st ws).bind fun ds => biD f ds) st) := by first | exact id rfl | (rw [evE]; done) | (rw [evE]; rfl)
@[simp ↓] theorem xE_rg : evE T (.rg es) st = ((evEs T es st).bind fun ds st => R.opt ((itemsOf .range ds).map fun xs => (.lst xs, true)) st) := by first | exact id rfl | (rw [evE]; done) | (rw [evE]; rfl)
@[simp ↓] theorem xE_me : evE T (.me m o es) st = ((vw o (evE T o) st).bind fun w st => match w.get st with
    | none => .bad
    | some d0 => if meOk m d0 then (evVs T es st).bind fun ws st => R.opt ((w.get st).bind fun d => (Vw.gets st ws).bind fun ds => if kindD d0 = kindD d then meD m d ds else none) st else .bad) := by first | exact id rfl | (rw [evE]; done) | (rw [evE]; rfl)
@[simp ↓] theorem xE_mut : evE T (.mut m i es) st = (if ownB st i then (evEs T es st).bind fun ds st => mutE m i ds st else .bad) := by first | exact id rfl | (rw [evE]; done) | (rw [evE]; rfl)
@[simp ↓] theorem xE_call : evE T (.call f es) st = (match T.fn f with
    | none => .bad
    | some F => (evVs T es st).bind fun ws st => callE F ws st) := by first | exact id rfl | (rw [evE]; done) | (rw [evE]; rfl)
@[simp ↓] theorem xE_lc : evE T (.lc elt tg ik its ifs) st = ((evEs T its st).bind fun ds st => lcE tg ik ds (evTs T ifs) (evE T elt) st) := by first | exact id rfl | (rw [evE]; done) | (rw [evE]; rfl)
@[simp ↓] theorem xEs_nil : evEs T [] st = (.ok [] st) := by first | exact id rfl | (rw [evEs]; done) | (rw [evEs]; rfl)
@[simp ↓] theorem xEs_cons : evEs T (e :: es) st = ((evE T e st).bind fun r st => (evEs T es st).bind fun ds st => .ok (r.1 :: ds) st) := by first | exact id rfl | (rw [evEs]; done) | (rw [evEs]; rfl)
@[simp ↓] theorem xVs_nil : evVs T [] st = (.ok [] st) := by first | exact id rfl | (rw [evVs]; done) | (rw [evVs]; rfl)
@[simp ↓] theorem xVs_cons : evVs T (e :: es) st = ((vw e (evE T e) st).bind fun w st => (evVs T es st).bind fun ws st => .ok (w :: ws) st) := by first | exact id rfl | (rw [evVs]; done) | (rw [evVs]; rfl)
@[simp ↓] theorem xTs_nil : evTs T [] st = (.ok true st) := by first | exact id rfl | (rw [evTs]; done) | (rw [evTs]; rfl)
@[simp ↓] theorem xTs_cons : evTs T (e :: es) st = ((evE T e st).bind fun r st => match r.1 with | .bl true => evTs T es st | .bl false => .ok false st | _ => .bad) := by first | exact id rfl | (rw [evTs]; done) | (rw [evTs]; rfl)
@[simp ↓] theorem xS_asg : evS T (.asg i e) st = ((evE T e st).bind fun r st => setR st i r) := by first | exact id rfl | (rw [evS]; done) | (rw [evS]; rfl)
@[simp ↓] theorem xS_unp : evS T (.unp is e) st = ((evE T e st).bind fun r st => match r.1 with
    | .tup ds => setsR st is ds
    | _ => .bad) := by first | exact id rfl | (rw [evS]; done) | (rw [evS]; rfl)
@[simp ↓] theorem xS_par : evS T (.par i j a b) st = ((evE T a st).bind fun r st => (evE T b st).bind fun u st => (setR st i r).bind fun _ st => setR st j u) := by first | exact id rfl | (rw [evS]; done) | (rw [evS]; rfl)
@[simp ↓] theorem xS_aug : evS T (.aug i o e) st = (match getS st i with
    | some d => (evE T e st).bind fun r st => (R.opt (augD o d r.1) st).bind fun z st => setR st i (z, false)
    | none => .bad) := by first | exact id rfl | (rw [evS]; done) | (rw [evS]; rfl)
@[simp ↓] theorem xS_setix : evS T (.setix i ix e) st = ((evE T e st).bind fun r st => if ownB st i then (evE T ix st).bind fun u st => putR st i ((getS st i).bind fun d => setD d u.1 r.1) else .bad) := by first | exact id rfl | (rw [evS]; done) | (rw [evS]; rfl)
@[simp ↓] theorem xS_augix : evS T (.augix i ix o e) st = (if ownB st i then (evE T ix st).bind fun u st => match (getS st i).bind fun d => frontD d u.1 with
    | some x => (evE T e st).bind fun r st => (R.opt (augD o x r.1) st).bind fun z st => putR st i ((getS st i).bind fun d => setD d u.1 z)
    | none => .bad
    else .bad) := by first | exact id rfl | (rw [evS]; done) | (rw [evS]; rfl)
@[simp ↓] theorem xS_ex : evS T (.ex e) st = ((evE T e st).bind fun _ st => .ok .next st) := by first | exact id rfl | (rw [evS]; done) | (rw [evS]; rfl)
@[simp ↓] theorem xS_ret : evS T (.ret e) st = ((evE T e st).bind fun r st => .ok (.ret r.1) st) := by first | exact id rfl | (rw [evS]; done) | (rw [evS]; rfl)
@[simp ↓] theorem xS_ifs : evS T (.ifs c t f) st = ((evE T c st).bind fun r st => match r.1 with | .bl true => evSs T t st | .bl false => evSs T f st | _ => .bad) := by first | exact id rfl | (rw [evS]; done) | (rw [evS]; rfl)
@[simp ↓] theorem xS_for_ : evS T (.for_ tg ik its body) st = ((evEs T its st).bind fun ds st => match itemsOf ik ds with
    | none => .bad
    | some xs => forGo tg (evSs T body) xs st) := by first | exact id rfl | (rw [evS]; done) | (rw [evS]; rfl)
@[simp ↓] theorem xS_while_ : evS T (.while_ c body) st = (whileGo (evE T c) (evSs T body) T.fu st) := by first | exact id rfl | (rw [evS]; done) | (rw [evS]; rfl)
@[simp ↓] theorem xS_raise_ : evS T (.raise_ c []) st = (if T.ex0 c then .err c [] st else .bad) := by first | exact id rfl | (rw [evS]; done) | (rw [evS]; rfl)
@[simp ↓] theorem xS_try_ : evS T (.try_ body c i h) st = (match T.exm c c with
    | some true => catchR T c i h (evSs T body st)
    | _ => .bad) := by first | exact id rfl | (rw [evS]; done) | (rw [evS]; rfl)
@[simp ↓] theorem xE_isx : evE T (.isx y i) st = (match st[i]? with
    | some (.val (.exc _ _)) => R.opt ((T.isx y).map fun b => (.bl b, false)) st
    | _ => .bad) := by first | exact id rfl | (rw [evE]; done) | (rw [evE]; rfl)
@[simp ↓] theorem xE_callv : evE T (.callv f es) st = ((evE T f st).bind fun r st => match r.1 with
    | .fn g => (match T.fn g with
      | some F => (evVs T es st).bind fun ws st => callE F ws st
      | none => .bad)
    | _ => .bad) := by first | exact id rfl | (rw [evE]; done) | (rw [evE]; rfl)
@[simp ↓] theorem u_catch (c : Str) (i : Option Nat) (h : Hd) (r : R Fl) : catchR T c i h r = (match r with
  | .err c' p st => (match T.exm c' c with
    | some true => (match hdR T h c' p with
      | some d => .ok (.ret d) (catchSt i st)
      | none => .bad)
    | some false => .err c' p st
    | none => .bad)
  | .ok f st => .ok f st
  | .bad => .bad) := by cases r <;> rfl
@[simp ↓] theorem u_hd_which (f c : Str) : hdR T (.which f) c [] = T.wh f c := id rfl
@[simp ↓] theorem u_hd_told (c : Str) (x : D) : hdR T .told c [x] = some x := id rfl
@[simp ↓] theorem u_hd_ret (c : Str) (p : List D) (d : D) : hdR T (.ret d) c p = some d := id rfl
@[simp ↓] theorem u_catch_some (i : Nat) (st : Sl) : catchSt (some i) st = st.set i .no := id rfl
@[simp ↓] theorem u_catch_none (st : Sl) : catchSt none st = st := id rfl
@[simp ↓] theorem xS_pass : evS T (.pass) st = (.ok .next st) := by first | exact id rfl | (rw [evS]; done) | (rw [evS]; rfl)
@[simp ↓] theorem xS_brk : evS T (.brk) st = (.ok .brk st) := by first | exact id rfl | (rw [evS]; done) | (rw [evS]; rfl)
@[simp ↓] theorem xS_never : evS T (.never) st = (.bad) := by first | exact id rfl | (rw [evS]; done) | (rw [evS]; rfl)
@[simp ↓] theorem xS_gh : evS T (.gh fz wp) st = .ok .next (wipeS (fzS st fz) wp) := by first | exact id rfl | (rw [evS]; done) | (rw [evS]; rfl)
@[simp ↓] theorem xSs_nil : evSs T [] st = (.ok .next st) := by first | exact id rfl | (rw [evSs]; done) | (rw [evSs]; rfl)
@[simp ↓] theorem xSs_cons : evSs T (s :: ss) st = ((evS T s st).bind fun f st => match f with
    | .next => evSs T ss st
    | .brk => .ok .brk st
    | .ret r => .ok (.ret r) st) := by first | exact id rfl | (rw [evSs]; done) | (rw [evSs]; rfl)
end
/-! ### evaluation, from the outside in -/
section
@[simp ↓] theorem u_bind {α β : Type} (r : R α) (f : α → Sl → R β) : r.bind f = (match r with
  | .ok a st => f a st
  | .err c p st => .err c p st
  | .bad => .bad) := id rfl
@[simp ↓] theorem u_opt {α : Type} (o : Option α) (st : Sl) : R.opt o st = (match o with
  | some a => .ok a st
  | none => .bad) := id rfl
@[simp ↓] theorem u_noErr {α : Type} (r : R α) : r.noErr = (match r with
  | .ok a st => .ok a st
  | .err _ _ _ => .bad
  | .bad => .bad) := by cases r <;> rfl
variable (f g h : Sl → R Rv) (st : Sl) (i j : Nat) (a b c : Ex) (d e : D) (T : Tb) (r : Rv) (o o' : CmpOp) (xs ys : List D) (x y : Int) (s t : Str) (p q : Bool) (k : Nat)
@[simp ↓] theorem u_vw_nil : vw (.nil) f st = (f st).bind fun r st => .ok (.d r.1) st := id rfl
@[simp ↓] theorem u_vw_c : vw (.c a1) f st = (f st).bind fun r st => .ok (.d r.1) st := id rfl
@[simp ↓] theorem u_op_c : op (.c a1) f st = ((f st).bind fun r st => match r.1 with | .int i => .ok (some i) st | _ => .bad) := id rfl
@[simp ↓] theorem u_vw_g : vw (.g a1) f st = (f st).bind fun r st => .ok (.d r.1) st := id rfl
@[simp ↓] theorem u_op_g : op (.g a1) f st = ((f st).bind fun r st => match r.1 with | .int i => .ok (some i) st | _ => .bad) := id rfl
@[simp ↓] theorem u_vw_tup : vw (.tup a1) f st = (f st).bind fun r st => .ok (.d r.1) st := id rfl
@[simp ↓] theorem u_op_tup : op (.tup a1) f st = ((f st).bind fun r st => match r.1 with | .int i => .ok (some i) st | _ => .bad) := id rfl
@[simp ↓] theorem u_vw_lst : vw (.lst a1) f st = (f st).bind fun r st => .ok (.d r.1) st := id rfl
@[simp ↓] theorem u_op_lst : op (.lst a1) f st = ((f st).bind fun r st => match r.1 with | .int i => .ok (some i) st | _ => .bad) := id rfl
@[simp ↓] theorem u_vw_bin : vw (.bin a1 a2 a3) f st = (f st).bind fun r st => .ok (.d r.1) st := id rfl
@[simp ↓] theorem u_op_bin : op (.bin a1 a2 a3) f st = ((f st).bind fun r st => match r.1 with | .int i => .ok (some i) st | _ => .bad) := id rfl
@[simp ↓] theorem u_vw_cmp : vw (.cmp a1 a2 a3) f st = (f st).bind fun r st => .ok (.d r.1) st := id rfl
@[simp ↓] theorem u_op_cmp : op (.cmp a1 a2 a3) f st = ((f st).bind fun r st => match r.1 with | .int i => .ok (some i) st | _ => .bad) := id rfl
@[simp ↓] theorem u_vw_chain : vw (.chain a1 a2 a3 a4 a5) f st = (f st).bind fun r st => .ok (.d r.1) st := id rfl
@[simp ↓] theorem u_op_chain : op (.chain a1 a2 a3 a4 a5) f st = ((f st).bind fun r st => match r.1 with | .int i => .ok (some i) st | _ => .bad) := id rfl
@[simp ↓] theorem u_vw_not : vw (.not a1) f st = (f st).bind fun r st => .ok (.d r.1) st := id rfl
@[simp ↓] theorem u_op_not : op (.not a1) f st = ((f st).bind fun r st => match r.1 with | .int i => .ok (some i) st | _ => .bad) := id rfl
@[simp ↓] theorem u_vw_and : vw (.and a1 a2) f st = (f st).bind fun r st => .ok (.d r.1) st := id rfl
@[simp ↓] theorem u_op_and : op (.and a1 a2) f st = ((f st).bind fun r st => match r.1 with | .int i => .ok (some i) st | _ => .bad) := id rfl
@[simp ↓] theorem u_vw_or : vw (.or a1 a2) f st = (f st).bind fun r st => .ok (.d r.1) st := id rfl
@[simp ↓] theorem u_op_or : op (.or a1 a2) f st = ((f st).bind fun r st => match r.1 with | .int i => .ok (some i) st | _ => .bad) := id rfl
@[simp ↓] theorem u_vw_ite : vw (.ite a1 a2 a3) f st = (f st).bind fun r st => .ok (.d r.1) st := id rfl
@[simp ↓] theorem u_op_ite : op (.ite a1 a2 a3) f st = ((f st).bind fun r st => match r.1 with | .int i => .ok (some i) st | _ => .bad) := id rfl
@[simp ↓] theorem u_vw_ix : vw (.ix a1 a2) f st = (f st).bind fun r st => .ok (.d r.1) st := id rfl
@[simp ↓] theorem u_op_ix : op (.ix a1 a2) f st = ((f st).bind fun r st => match r.1 with | .int i => .ok (some i) st | _ => .bad) := id rfl
@[simp ↓] theorem u_vw_sl : vw (.sl a1 a2 a3) f st = (f st).bind fun r st => .ok (.d r.1) st := id rfl
@[simp ↓] theorem u_op_sl : op (.sl a1 a2 a3) f st = ((f st).bind fun r st => match r.1 with | .int i => .ok (some i) st | _ => .bad) := id rfl
@[simp ↓] theorem u_vw_isi : vw (.isi a1 a2) f st = (f st).bind fun r st => .ok (.d r.1) st := id rfl
@[simp ↓] theorem u_op_isi : op (.isi a1 a2) f st = ((f st).bind fun r st => match r.1 with | .int i => .ok (some i) st | _ => .bad) := id rfl
@[simp ↓] theorem u_vw_bi : vw (.bi a1 a2) f st = (f st).bind fun r st => .ok (.d r.1) st := id rfl
@[simp ↓] theorem u_op_bi : op (.bi a1 a2) f st = ((f st).bind fun r st => match r.1 with | .int i => .ok (some i) st | _ => .bad) := id rfl
@[simp ↓] theorem u_vw_rg : vw (.rg a1) f st = (f st).bind fun r st => .ok (.d r.1) st := id rfl
@[simp ↓] theorem u_op_rg : op (.rg a1) f st = ((f st).bind fun r st => match r.1 with | .int i => .ok (some i) st | _ => .bad) := id rfl
@[simp ↓] theorem u_vw_me : vw (.me a1 a2 a3) f st = (f st).bind fun r st => .ok (.d r.1) st := id rfl
@[simp ↓] theorem u_op_me : op (.me a1 a2 a3) f st = ((f st).bind fun r st => match r.1 with | .int i => .ok (some i) st | _ => .bad) := id rfl
@[simp ↓] theorem u_vw_mut : vw (.mut a1 a2 a3) f st = (f st).bind fun r st => .ok (.d r.1) st := id rfl
@[simp ↓] theorem u_op_mut : op (.mut a1 a2 a3) f st = ((f st).bind fun r st => match r.1 with | .int i => .ok (some i) st | _ => .bad) := id rfl
@[simp ↓] theorem u_vw_call : vw (.call a1 a2) f st = (f st).bind fun r st => .ok (.d r.1) st := id rfl
@[simp ↓] theorem u_op_call : op (.call a1 a2) f st = ((f st).bind fun r st => match r.1 with | .int i => .ok (some i) st | _ => .bad) := id rfl
@[simp ↓] theorem u_vw_lc : vw (.lc a1 a2 a3 a4 a5) f st = (f st).bind fun r st => .ok (.d r.1) st := id rfl
@[simp ↓] theorem u_op_lc : op (.lc a1 a2 a3 a4 a5) f st = ((f st).bind fun r st => match r.1 with | .int i => .ok (some i) st | _ => .bad) := id rfl
@[simp ↓] theorem u_vw_isx : vw (.isx a1 a2) f st = (f st).bind fun r st => .ok (.d r.1) st := id rfl
@[simp ↓] theorem u_vw_callv : vw (.callv a1 a2) f st = (f st).bind fun r st => .ok (.d r.1) st := id rfl
@[simp ↓] theorem u_vw_v : vw (.v i) f st = (match st[i]? with
    | some (.val d) => .ok (.d d) st
    | some (.own _) => .ok (.s i) st
    | some (.bor _) => .ok (.s i) st
    | _ => .bad) := id rfl
@[simp ↓] theorem u_op_v : op (.v i) f st = ((f st).bind fun r st => match r.1 with | .int i => .ok (some i) st | _ => .bad) := id rfl
@[simp ↓] theorem u_op_nil : op .nil f st = .ok none st := id rfl
@[simp ↓] theorem u_vw1 (k : D → Option Rv) : vw1 a f k st = ((vw a f st).bind fun w st => R.opt ((w.get st).bind k) st) := id rfl
@[simp ↓] theorem u_vw2 (k : D → D → Option Rv) : vw2 a b f g k st = ((vw a f st).bind fun w st => (vw b g st).bind fun u st => R.opt ((w.get st).bind fun d => (u.get st).bind fun e => k d e) st) := id rfl
@[simp ↓] theorem u_chE : chE o o' a b c f g h st = ((vw a f st).bind fun w st => (vw b g st).bind fun u st => match (w.get st).bind fun d => (u.get st).bind fun e => cmpD o d e with
    | none => .bad
    | some false => .ok (.bl false, false) st
    | some true => (vw c h st).bind fun x st => R.opt ((u.get st).bind fun e => (x.get st).bind fun e' => bV (cmpD o' e e')) st) := id rfl
@[simp ↓] theorem u_get_d : Vw.get st (.d d) = some d := id rfl
@[simp ↓] theorem u_get_s : Vw.get st (.s i) = getS st i := id rfl
@[simp ↓] theorem u_gets_nil : Vw.gets st [] = some [] := id rfl
@[simp ↓] theorem u_gets_cons (w : Vw) (ws : List Vw) : Vw.gets st (w :: ws) = ((w.get st).bind fun d => (Vw.gets st ws).map (d :: ·)) := id rfl
@[simp ↓] theorem u_getS : getS st i = (match st[i]? with
  | some (.val d) => some d
  | some (.own d) => some d
  | some (.bor d) => some d
  | _ => none) := by
  unfold getS
  cases st[i]? with
  | none => rfl
  | some z => cases z <;> rfl
@[simp ↓] theorem u_setR : setR st i r = (match setS st i r with
  | some st' => .ok .next st'
  | none => .bad) := id rfl
@[simp ↓] theorem u_setS : setS st i r = (match st[i]? with
  | some (.bor _) => none
  | none => none
  | some _ => some (st.set i (match r.2 with | true => .own r.1 | false => .val r.1))) := by
  unfold setS
  obtain ⟨d, z⟩ := r
  cases z <;> rfl
@[simp ↓] theorem u_setsR (is : List Nat) : setsR st is xs = (match setsS st is xs with
  | some st' => .ok .next st'
  | none => .bad) := id rfl
@[simp ↓] theorem u_setsS_nil : setsS st [] [] = some st := id rfl
@[simp ↓] theorem u_setsS_cons (is : List Nat) : setsS st (i :: is) (d :: xs) = (match setS st i (d, false) with
  | some st => setsS st is xs
  | none => none) := by
  rw [setsS]
  cases setS st i (d, false) <;> rfl
@[simp ↓] theorem u_putR (z : Option D) : putR st i z = (match z with
  | some d => (match putS st i d with
    | some st' => .ok .next st'
    | none => .bad)
  | none => .bad) := by cases z <;> rfl
@[simp ↓] theorem u_putS : putS st i d = (match st[i]? with
  | some (.bor _) => some (st.set i (.bor d))
  | some (.own _) => some (st.set i (.own d))
  | _ => none) := id rfl
@[simp ↓] theorem u_setD : setD (.lst xs) (.int x) d = (if 0 ≤ x ∧ x < xs.length then some (.lst (xs.set x.toNat d)) else none) := id rfl
@[simp ↓] theorem u_frontD : frontD (.lst xs) (.int x) = (if 0 ≤ x then xs[x.toNat]? else none) := id rfl
@[simp ↓] theorem u_augD : augD .Add (.int x) (.int y) = some (.int (x + y)) := id rfl
@[simp ↓] theorem u_bV (z : Option Bool) : bV z = (match z with
  | some b => some (.bl b, false)
  | none => none) := by cases z <;> rfl
@[simp ↓] theorem u_cmp_eq : cmpD .Eq d e = eqD d e := by rw [cmpD]
@[simp ↓] theorem u_cmp_ne : cmpD .NotEq d e = (eqD d e).map fun b => !b := by rw [cmpD]
@[simp ↓] theorem u_cmp_ltI : cmpD .Lt (.int x) (.int y) = some (decide (x < y)) := id rfl
@[simp ↓] theorem u_cmp_ltS : cmpD .Lt (.str s) (.str t) = some (decide (s.cps.toList < t.cps.toList)) := id rfl
@[simp ↓] theorem u_cmp_leI : cmpD .LtE (.int x) (.int y) = some (decide (x ≤ y)) := id rfl
@[simp ↓] theorem u_cmp_gtI : cmpD .Gt (.int x) (.int y) = some (decide (y < x)) := id rfl
@[simp ↓] theorem u_cmp_geI : cmpD .GtE (.int x) (.int y) = some (decide (y ≤ x)) := id rfl
@[simp ↓] theorem u_cmp_inS : cmpD .In (.str s) (.str t) = (one1 s).map fun c => decide (c ∈ t.cps.toList) := id rfl
@[simp ↓] theorem u_cmp_isN : cmpD .Is d .non = some (match d with | .non => true | _ => false) := by cases d <;> exact id rfl
@[simp ↓] theorem u_cmp_isNotN : cmpD .IsNot d .non = some (match d with | .non => false | _ => true) := by cases d <;> exact id rfl
@[simp ↓] theorem u_cmp_isB : cmpD .Is (.bl p) (.bl q) = some (p == q) := id rfl
@[simp ↓] theorem u_cmp_isNotB : cmpD .IsNot (.bl p) (.bl q) = some (!(p == q)) := id rfl
@[simp ↓] theorem u_ix_tup : ixD (.tup xs) (.int x) = L2.atI xs x := id rfl
@[simp ↓] theorem u_ix_lst : ixD (.lst xs) (.int x) = L2.atI xs x := id rfl
@[simp ↓] theorem u_ix_scr (ns : List Int) : ixD (.scr ns) (.int x) = (L2.atI ns x).map .int := id rfl
@[simp ↓] theorem u_start_nil (z : Option Nat) (n : Nat) : startS z k [] n = List.replicate n .no := id rfl
@[simp ↓] theorem u_start_cons (z : Option Nat) (n : Nat) : startS z k (d :: xs) n = (match z == some k with | true => .bor d | false => .val d) :: startS z (k + 1) xs n := by
  rw [startS]
  cases z == some k <;> rfl
@[simp ↓] theorem u_endR (z : Option Nat) (r : R Fl) : endR z r = (match r with
  | .ok (.ret r) st => (outOf z st).map fun o => .ok r o
  | .ok .next st => (outOf z st).map fun o => .ok .non o
  | .ok .brk _ => none
  | .err c p st => (outOf z st).map fun o => .err c p o
  | .bad => none) := by
  cases r with
  | ok f st => cases f <;> rfl
  | _ => rfl
@[simp ↓] theorem u_out_none : outOf none st = some .non := id rfl
@[simp ↓] theorem u_out_some : outOf (some k) st = (match st[k]? with
    | some (.bor d) => some d
    | _ => none) := id rfl
@[simp ↓] theorem u_ownB : ownB st i = (match st[i]? with
  | some (.own (.lst _)) => true
  | some (.bor (.lst _)) => true
  | _ => false) := id rfl
@[simp ↓] theorem u_callE (F : Fn) (ws : List Vw) : callE F ws st = (match borSlot F.bor ws with
  | none => .bad
  | some b => if allD ws F.bor 0 && decide (ws.length = F.n) && lentB st b then match (Vw.gets st ws).bind F.sem with
      | some r => backCall st b r
      | none => .bad
    else .bad) := id rfl
@[simp ↓] theorem u_bor_none (ws : List Vw) : borSlot none ws = some none := id rfl
@[simp ↓] theorem u_bor_some (ws : List Vw) : borSlot (some k) ws = (match ws[k]? with
    | some (.s i) => some (some i)
    | _ => none) := id rfl
@[simp ↓] theorem u_allD_nil (z : Option Nat) : allD [] z k = true := id rfl
@[simp ↓] theorem u_allD_d (z : Option Nat) (ws : List Vw) : allD (.d d :: ws) z k = allD ws z (k + 1) := id rfl
@[simp ↓] theorem u_allD_s (z : Option Nat) (ws : List Vw) : allD (.s i :: ws) z k = ((z == some k) && allD ws z (k + 1)) := id rfl
@[simp ↓] theorem u_lent_none : lentB st none = true := id rfl
@[simp ↓] theorem u_lent_some : lentB st (some i) = ownB st i := id rfl
@[simp ↓] theorem u_back_ok (z : Option Nat) : backCall st z (.ok d e) = (match z with
    | none => .ok (d, false) st
    | some i => match putS st i e with
      | some st' => .ok (d, false) st'
      | none => .bad) := rfl
@[simp ↓] theorem u_back_err (z : Option Nat) : backCall st z (.err s xs e) = (match z with
    | none => .err s xs st
    | some i => match putS st i e with
      | some st' => .err s xs st'
      | none => .bad) := rfl
@[simp ↓] theorem u_mutE (m : Str) (z : List D) : mutE m i z st = (match getS st i with
  | some d => (match mutD m d z with
    | some w => (match putS st i w.1 with
      | some st' => .ok w.2 st'
      | none => .bad)
    | none => .bad)
  | none => .bad) := by
  unfold mutE
  cases getS st i with
  | none => rfl
  | some d =>
    dsimp only [Option.bind]
    cases mutD m d z with
    | none => rfl
    | some w => rfl
@[simp ↓] theorem u_sl_tup (lo hi : Option Int) : slD (.tup xs) lo hi = some (.tup (cutD xs lo hi), false) := id rfl
@[simp ↓] theorem u_sl_lst (lo hi : Option Int) : slD (.lst xs) lo hi = some (.lst (cutD xs lo hi), true) := id rfl
@[simp ↓] theorem u_len_tup : lenD [.tup xs] = some (.int xs.length, false) := id rfl
@[simp ↓] theorem u_len_lst : lenD [.lst xs] = some (.int xs.length, false) := id rfl
@[simp ↓] theorem u_len_str : lenD [.str s] = some (.int s.cps.size, false) := id rfl
@[simp ↓] theorem u_len_scr (ns : List Int) : lenD [.scr ns] = some (.int ns.length, false) := id rfl
@[simp ↓] theorem u_tuple_lst : tupleD [.lst xs] = some (.tup xs, false) := id rfl
@[simp ↓] theorem u_tuple_tup : tupleD [.tup xs] = some (.tup xs, false) := id rfl
@[simp ↓] theorem u_list_lst : listD [.lst xs] = some (.lst xs, true) := id rfl
@[simp ↓] theorem u_list_tup : listD [.tup xs] = some (.lst xs, true) := id rfl
@[simp ↓] theorem u_slots_one : Tg.slots (.one i) = [i] := id rfl
@[simp ↓] theorem u_slots_many (is : List Nat) : Tg.slots (.many is) = is := id rfl
@[simp ↓] theorem u_bind_one : bindTg st (.one i) d = setS st i (d, false) := id rfl
@[simp ↓] theorem u_bind_many (is : List Nat) : bindTg st (.many is) (.tup xs) = setsS st is xs := id rfl
@[simp ↓] theorem u_wipe_nil : wipeS st [] = st := id rfl
@[simp ↓] theorem u_wipe_cons (is : List Nat) : wipeS st (i :: is) = (wipeS st is).set i .no := id rfl
@[simp ↓] theorem u_rest_nil (st' : Sl) : restS st st' [] = st' := id rfl
@[simp ↓] theorem u_rest_cons (st' : Sl) (is : List Nat) : restS st st' (i :: is) = (match st[i]? with
    | some (.val d) => (restS st st' is).set i (.val d)
    | _ => (restS st st' is).set i .no) := id rfl
@[simp ↓] theorem u_fz_nil : fzS st [] = st := id rfl
@[simp ↓] theorem u_fz_cons (is : List Nat) : fzS st (i :: is) = (match (fzS st is)[i]? with
    | some (.own d) => (fzS st is).set i (.val d)
    | _ => fzS st is) := id rfl
theorem u_option_bind_some {α β : Type} (a : α) (f : α → Option β) : (some a).bind f = f a := rfl
end
@[simp ↓] theorem bin_add (i j : Int) : binD .Add (.int i) (.int j) = some (.int (i + j), false) := id rfl
@[simp ↓] theorem bin_sub (i j : Int) : binD .Sub (.int i) (.int j) = some (.int (i - j), false) := id rfl
theorem bin_addT (xs ys : List D) : binD .Add (.tup xs) (.tup ys) = if xs.length + ys.length ≤ LIM then some (.tup (xs ++ ys), false) else none := id rfl
theorem bin_addL (xs ys : List D) : binD .Add (.lst xs) (.lst ys) = if xs.length + ys.length ≤ LIM then some (.lst (xs ++ ys), true) else none := id rfl
theorem bin_mod {i j : Int} (h : 0 < j) : binD .Mod (.int i) (.int j) = some (.int (i % j), false) := by
  show (if 0 < j then _ else _) = _
  rw [if_pos h]
theorem bin_fdiv {i j : Int} (h : 0 < j) (h' : j < 1073741824) : binD .FloorDiv (.int i) (.int j) = some (.int (i / j), false) := by
  show (if 0 < j ∧ j.toNat < 1073741824 then _ else _) = _
  rw [if_pos ⟨h, by omega⟩]
theorem bin_mul {i j : Int} (h : mulOk i j = true) : binD .Mult (.int i) (.int j) = some (.int (i * j), false) := by
  show (if mulOk i j = true then _ else _) = _
  rw [if_pos h]
theorem bin_pow {i j : Int} (h0 : 0 ≤ j) (h1 : j ≤ 1000) (h2 : i.natAbs < 2 ^ 64) : binD .Pow (.int i) (.int j) = some (.int (i ^ j.toNat), false) := by
  show (if 0 ≤ j ∧ j ≤ 1000 ∧ i.natAbs < 2 ^ 64 then _ else _) = _
  rw [if_pos ⟨h0, h1, h2⟩]
theorem mulOk_l {i j : Int} (h : i.natAbs < 2 ^ 64) : mulOk i j = true := by
  unfold mulOk
  rw [decide_eq_true h]
  rfl
theorem mulOk_r {i j : Int} (h : j.natAbs < 2 ^ 64) : mulOk i j = true := by
  unfold mulOk
  rw [decide_eq_true h, Bool.or_true, Bool.true_or]
/-- the numbers of `_law_draw` -/
theorem p18 : binD .Pow (.int 10) (.int 18) = some (.int 1000000000000000000, false) := by
  rw [bin_pow (by decide) (by decide) (by decide), show (10 : Int) ^ (18 : Int).toNat = 1000000000000000000 from by decide +kernel]
def big60 : Int := 10 ^ 60
theorem p60 : binD .Pow (.int 10) (.int 60) = some (.int big60, false) := by
  rw [bin_pow (by decide) (by decide) (by decide), show (10 : Int) ^ (60 : Int).toNat = big60 from by decide +kernel]
theorem m60 : binD .Mult (.int big60) (.int big60) = some (.int (big60 * big60), false) := bin_mul (by decide +kernel)
theorem big_pos : 0 < big60 * big60 := by decide +kernel
end Nm
set_option maxRecDepth 100000
set_option maxHeartbeats 4000000
/-! Rules and names as data. -/
namespace Nm
open PySem
@[simp] theorem s_is_any : ((("is" : Str) == ("any" : Str)) : Bool) = false := by decide +kernel
@[simp] theorem s_is_none : ((("is" : Str) == ("none" : Str)) : Bool) = false := by decide +kernel
@[simp] theorem s_is_like : ((("is" : Str) == ("like" : Str)) : Bool) = false := by decide +kernel
@[simp] theorem s_is_word : ((("is" : Str) == ("word" : Str)) : Bool) = false := by decide +kernel
@[simp] theorem s_is_field : ((("is" : Str) == ("field" : Str)) : Bool) = false := by decide +kernel
@[simp] theorem s_is_rest : ((("is" : Str) == ("rest" : Str)) : Bool) = false := by decide +kernel
@[simp] theorem s_is : ((("is" : Str) == ("is" : Str)) : Bool) = true := by decide +kernel
@[simp] theorem s_any_is : ((("any" : Str) == ("is" : Str)) : Bool) = false := by decide +kernel
@[simp] theorem s_any_none : ((("any" : Str) == ("none" : Str)) : Bool) = false := by decide +kernel
@[simp] theorem s_any_like : ((("any" : Str) == ("like" : Str)) : Bool) = false := by decide +kernel
@[simp] theorem s_any_word : ((("any" : Str) == ("word" : Str)) : Bool) = false := by decide +kernel
@[simp] theorem s_any_field : ((("any" : Str) == ("field" : Str)) : Bool) = false := by decide +kernel
@[simp] theorem s_any_rest : ((("any" : Str) == ("rest" : Str)) : Bool) = false := by decide +kernel
@[simp] theorem s_any : ((("any" : Str) == ("any" : Str)) : Bool) = true := by decide +kernel
@[simp] theorem s_none_is : ((("none" : Str) == ("is" : Str)) : Bool) = false := by decide +kernel
@[simp] theorem s_none_any : ((("none" : Str) == ("any" : Str)) : Bool) = false := by decide +kernel
@[simp] theorem s_none_like : ((("none" : Str) == ("like" : Str)) : Bool) = false := by decide +kernel
@[simp] theorem s_none_word : ((("none" : Str) == ("word" : Str)) : Bool) = false := by decide +kernel
@[simp] theorem s_none_field : ((("none" : Str) == ("field" : Str)) : Bool) = false := by decide +kernel
@[simp] theorem s_none_rest : ((("none" : Str) == ("rest" : Str)) : Bool) = false := by decide +kernel
@[simp] theorem s_none : ((("none" : Str) == ("none" : Str)) : Bool) = true := by decide +kernel
@[simp] theorem s_like_is : ((("like" : Str) == ("is" : Str)) : Bool) = false := by decide +kernel
@[simp] theorem s_like_any : ((("like" : Str) == ("any" : Str)) : Bool) = false := by decide +kernel
@[simp] theorem s_like_none : ((("like" : Str) == ("none" : Str)) : Bool) = false := by decide +kernel
@[simp] theorem s_like_word : ((("like" : Str) == ("word" : Str)) : Bool) = false := by decide +kernel
@[simp] theorem s_like_field : ((("like" : Str) == ("field" : Str)) : Bool) = false := by decide +kernel
@[simp] theorem s_like_rest : ((("like" : Str) == ("rest" : Str)) : Bool) = false := by decide +kernel
@[simp] theorem s_like : ((("like" : Str) == ("like" : Str)) : Bool) = true := by decide +kernel
@[simp] theorem s_word_is : ((("word" : Str) == ("is" : Str)) : Bool) = false := by decide +kernel
@[simp] theorem s_word_any : ((("word" : Str) == ("any" : Str)) : Bool) = false := by decide +kernel
@[simp] theorem s_word_none : ((("word" : Str) == ("none" : Str)) : Bool) = false := by decide +kernel
@[simp] theorem s_word_like : ((("word" : Str) == ("like" : Str)) : Bool) = false := by decide +kernel
@[simp] theorem s_word_field : ((("word" : Str) == ("field" : Str)) : Bool) = false := by decide +kernel
@[simp] theorem s_word_rest : ((("word" : Str) == ("rest" : Str)) : Bool) = false := by decide +kernel
@[simp] theorem s_word : ((("word" : Str) == ("word" : Str)) : Bool) = true := by decide +kernel
@[simp] theorem s_field_is : ((("field" : Str) == ("is" : Str)) : Bool) = false := by decide +kernel
@[simp] theorem s_field_any : ((("field" : Str) == ("any" : Str)) : Bool) = false := by decide +kernel
@[simp] theorem s_field_none : ((("field" : Str) == ("none" : Str)) : Bool) = false := by decide +kernel
@[simp] theorem s_field_like : ((("field" : Str) == ("like" : Str)) : Bool) = false := by decide +kernel
@[simp] theorem s_field_word : ((("field" : Str) == ("word" : Str)) : Bool) = false := by decide +kernel
@[simp] theorem s_field_rest : ((("field" : Str) == ("rest" : Str)) : Bool) = false := by decide +kernel
@[simp] theorem s_field : ((("field" : Str) == ("field" : Str)) : Bool) = true := by decide +kernel
@[simp] theorem s_rest_is : ((("rest" : Str) == ("is" : Str)) : Bool) = false := by decide +kernel
@[simp] theorem s_rest_any : ((("rest" : Str) == ("any" : Str)) : Bool) = false := by decide +kernel
@[simp] theorem s_rest_none : ((("rest" : Str) == ("none" : Str)) : Bool) = false := by decide +kernel
@[simp] theorem s_rest_like : ((("rest" : Str) == ("like" : Str)) : Bool) = false := by decide +kernel
@[simp] theorem s_rest_word : ((("rest" : Str) == ("word" : Str)) : Bool) = false := by decide +kernel
@[simp] theorem s_rest_field : ((("rest" : Str) == ("field" : Str)) : Bool) = false := by decide +kernel
@[simp] theorem s_rest : ((("rest" : Str) == ("rest" : Str)) : Bool) = true := by decide +kernel
inductive Tst where
  | is (w : Str) | any | non (ws : List Str) | like (k : Nat)
inductive Itm where
  | word (w : Str) | field (k : Nat) | rest
structure Rul where
  fronts : List Tst
  wide : Bool
  backs : List Tst
  making : List Itm
def sds (ws : List Str) : List D := ws.map .str
def Tst.d : Tst → D
  | .is w => .tup [.str "is", .str w]
  | .any => .tup [.str "any"]
  | .non ws => .tup [.str "none", .tup (sds ws)]
  | .like k => .tup [.str "like", .int k]
def Itm.d : Itm → D
  | .word w => .tup [.str "word", .str w]
  | .field k => .tup [.str "field", .int k]
  | .rest => .tup [.str "rest"]
def Rul.d (r : Rul) : D := .tup [.tup (r.fronts.map Tst.d), .bl r.wide, .tup (r.backs.map Tst.d), .tup (r.making.map Itm.d)]
def nmD (n : List Str) : D := .tup (sds n)
def letters : Str := "abcdefghijklmnopqrstuvwxyz"
def wordB (w : Str) : Bool := decide (1 ≤ (w.cps.size : Int)) && (decide ((w.cps.size : Int) ≤ 6) && w.cps.toList.all fun c => decide (c ∈ letters.cps.toList))
def ltB (x y : Str) : Bool := decide (x.cps.toList < y.cps.toList)
def risingB : List Str → Bool
  | x :: y :: r => ltB x y && risingB (y :: r)
  | _ => true
def Tst.ok (n : Nat) : Tst → Bool
  | .is w => wordB w
  | .any => true
  | .non ws => decide (1 ≤ ws.length) && decide (ws.length ≤ 3) && ws.all wordB && risingB ws
  | .like k => decide (k < n)
def Itm.ok (many : Nat) (wide : Bool) : Itm → Bool
  | .word w => wordB w
  | .field k => decide (k < many)
  | .rest => wide
def testsOk : Nat → List Tst → Bool
  | _, [] => true
  | n, t :: ts => t.ok n && testsOk (n + 1) ts
def Itm.isRest : Itm → Bool
  | .rest => true
  | _ => false
structure Rul.Ok (r : Rul) : Prop where
  f2 : r.fronts.length ≤ 2
  b2 : r.backs.length ≤ 2
  shut : r.wide = false → r.backs = [] ∧ r.fronts ≠ []
  tests : testsOk 0 (r.fronts ++ r.backs) = true
  m1 : 1 ≤ r.making.length
  m4 : r.making.length ≤ 4
  items : ∀ i ∈ r.making, i.ok (r.fronts.length + r.backs.length) r.wide = true
  rests : r.making.countP Itm.isRest ≤ 1
  restl : r.making.countP Itm.isRest < r.making.length
structure NmOk (n : List Str) : Prop where
  l1 : 1 ≤ n.length
  l2 : n.length ≤ 30
  ws : ∀ w ∈ n, wordB w = true

/-! ### plain data -/
theorem plains_all : ∀ {xs : List D} {n : Nat}, (∀ x ∈ xs, D.plain n x = true) → D.plains (n + 1) xs = true
  | [], n, _ => by rw [D.plains]
  | x :: xs, n, h => by
    rw [D.plains, h x List.mem_cons_self, plains_all fun y hy => h y (List.mem_cons_of_mem _ hy)]
    rfl
theorem plain_strs (n : Nat) (ws : List Str) : D.plain (n + 1) (.tup (sds ws)) = true := by
  rw [D.plain]
  refine plains_all fun x hx => ?_
  obtain ⟨w, _, rfl⟩ := List.mem_map.mp hx
  rw [D.plain]
theorem Tst.pl (n : Nat) : ∀ t : Tst, D.plain (n + 2) t.d = true
  | .is w => by simp [Tst.d, D.plain, D.plains]
  | .any => by simp [Tst.d, D.plain, D.plains]
  | .non ws => by
    have := plain_strs n ws
    simp [Tst.d, D.plain, D.plains] at this ⊢
    exact this
  | .like k => by simp [Tst.d, D.plain, D.plains]
theorem Itm.pl (n : Nat) : ∀ t : Itm, D.plain (n + 2) t.d = true
  | .word w => by simp [Itm.d, D.plain, D.plains]
  | .field ws => by simp [Itm.d, D.plain, D.plains]
  | .rest => by simp [Itm.d, D.plain, D.plains]
@[simp] theorem eq_str (x y : Str) : eqD (.str x) (.str y) = some (x == y) := by
  show (if D.eqOk (.str x) (.str y) = true then some (D.eqv (.str x) (.str y)) else none) = _
  rw [if_pos (by simp [D.eqOk, D.plain]), D.eqv]
theorem eq_nil {xs : List D} (h : D.plain 60 (.tup xs) = true) : eqD (.tup xs) (.tup []) = some xs.isEmpty := by
  show (if D.eqOk (.tup xs) (.tup []) = true then some (D.eqv (.tup xs) (.tup [])) else none) = _
  rw [if_pos (by rw [D.eqOk, h]; simp [D.plain, D.plains]), D.eqv]
  cases xs <;> rfl
theorem eqv_strs : ∀ xs ys : List Str, D.eqvs (sds xs) (sds ys) = decide (xs = ys)
  | [], [] => rfl
  | [], y :: ys => rfl
  | x :: xs, [] => rfl
  | x :: xs, y :: ys => by
    show (D.eqv (.str x) (.str y) && D.eqvs (sds xs) (sds ys)) = _
    rw [eqv_strs xs ys, D.eqv]
    by_cases h1 : x = y
    · by_cases h2 : xs = ys
      · subst h1; subst h2; simp
      · simp [h2]
    · simp [h1]
@[simp] theorem eq_strs (xs ys : List Str) : eqD (.tup (sds xs)) (.tup (sds ys)) = some (decide (xs = ys)) := by
  show (if D.eqOk (.tup (sds xs)) (.tup (sds ys)) = true then some (D.eqv (.tup (sds xs)) (.tup (sds ys))) else none) = _
  rw [if_pos (by rw [D.eqOk, plain_strs, plain_strs]; rfl), D.eqv, eqv_strs]
/-! ### comprehensions -/
theorem lcGo_map {tg : Tg} {ti : Sl → R Bool} {el : Sl → R Rv} {st : Sl} (f : D → D) : ∀ (xs acc : List D), (∀ x ∈ xs, ∃ st1 st2 b, bindTg st tg x = some st1 ∧ ti st1 = .ok true st1 ∧ el st1 = .ok (f x, b) st2 ∧ wipeS st2 tg.slots = st) → lcGo tg ti el xs acc st = .ok (acc ++ xs.map f) st
  | [], acc, _ => by rw [lcGo, List.map_nil, List.append_nil]
  | x :: xs, acc, h => by
    obtain ⟨st1, st2, b, e1, e2, e3, e4⟩ := h x List.mem_cons_self
    rw [lcGo, e1]
    simp only [e2, R.bind_ok, if_true, e3, e4]
    rw [lcGo_map f xs (acc ++ [f x]) fun y hy => h y (List.mem_cons_of_mem _ hy), List.map_cons, List.append_assoc, List.singleton_append]
@[simp] theorem bls_map {α : Type} (p : α → Bool) : ∀ xs : List α, bls (xs.map fun x => .bl (p x)) = some (xs.map p)
  | [] => rfl
  | x :: xs => by
    show (bls (xs.map fun x => .bl (p x))).map (p x :: ·) = _
    rw [bls_map p xs]
    rfl
/-- a def of the table, called with plain arguments -/
theorem call0 {T : Tb} {f : Str} {n : Nat} {P : (List D → Option FR) → Prop} (h : Has T f n none P) : ∃ F, T.fn f = some F ∧ F.n = n ∧ F.bor = none ∧ P F.sem := h
end Nm
set_option maxRecDepth 100000
set_option maxHeartbeats 4000000
/-! Slices, pairs. -/
namespace Nm
open PySem
theorem cut_from {α : Type} (xs : List α) {a : Int} (h : 0 ≤ a) : cutD xs (some a) none = xs.drop a.toNat := by
  obtain ⟨k, rfl⟩ := Int.eq_ofNat_of_zero_le h
  unfold cutD
  rw [HT.sIx_nat, HT.sIx_none, Int.toNat_natCast]
  by_cases hk : k ≤ xs.length
  · rw [Nat.min_eq_left hk, List.take_of_length_le (by rw [List.length_drop]; omega)]
  · rw [Nat.min_eq_right (by omega), List.drop_of_length_le (Nat.le_refl _), List.drop_of_length_le (by omega), List.take_nil]
theorem cut_to {α : Type} (xs : List α) {b : Int} (h : 0 ≤ b) : cutD xs none (some b) = xs.take b.toNat := by
  obtain ⟨k, rfl⟩ := Int.eq_ofNat_of_zero_le h
  unfold cutD
  rw [HT.sIx_nat, HT.sIx_none, Int.toNat_natCast, List.drop_zero, Nat.sub_zero]
  by_cases hk : k ≤ xs.length
  · rw [Nat.min_eq_left hk]
  · rw [Nat.min_eq_right (by omega), List.take_of_length_le (Nat.le_refl _), List.take_of_length_le (by omega)]
theorem cut_mid {α : Type} (xs : List α) {a b : Int} (h : 0 ≤ a) (h' : 0 ≤ b) (hb : b ≤ xs.length) : cutD xs (some a) (some b) = (xs.take b.toNat).drop a.toNat := by
  obtain ⟨k, rfl⟩ := Int.eq_ofNat_of_zero_le h
  obtain ⟨m, rfl⟩ := Int.eq_ofNat_of_zero_le h'
  unfold cutD
  rw [HT.sIx_nat, HT.sIx_nat, Int.toNat_natCast, Int.toNat_natCast, List.drop_take]
  have hm : m ≤ xs.length := by omega
  rw [Nat.min_eq_left hm]
  by_cases hk : k ≤ xs.length
  · rw [Nat.min_eq_left hk]
  · rw [Nat.min_eq_right (by omega), List.drop_of_length_le (Nat.le_refl _), List.drop_of_length_le (show xs.length ≤ k by omega)]
    simp
theorem zip_map {α β : Type} (f : α → D) (g : β → D) : ∀ (xs : List α) (ys : List β), zipD (xs.map f) (ys.map g) = (xs.zip ys).map fun p => .tup [f p.1, g p.2]
  | [], _ => rfl
  | _ :: _, [] => rfl
  | x :: xs, y :: ys => by
    show D.tup [f x, g y] :: zipD (xs.map f) (ys.map g) = _
    rw [zip_map f g xs ys]
    rfl
theorem rising_zip : ∀ ws : List Str, ((ws.zip (ws.drop 1)).map fun p => ltB p.1 p.2).all id = risingB ws
  | [] => rfl
  | [x] => rfl
  | x :: y :: r => by
    show (ltB x y && (((y :: r).zip r).map fun p => ltB p.1 p.2).all id) = _
    have := rising_zip (y :: r)
    rw [show (y :: r).drop 1 = r from rfl] at this
    rw [this, risingB]
theorem sds_len (ws : List Str) : (sds ws).length = ws.length := by simp [sds]
theorem sds_drop (ws : List Str) (k : Nat) : (sds ws).drop k = sds (ws.drop k) := by simp [sds]
theorem sds_take (ws : List Str) (k : Nat) : (sds ws).take k = sds (ws.take k) := by simp [sds]
/-- enumerate -/
theorem enum_map {α : Type} (f : α → D) : ∀ (k : Nat) (xs : List α), enumD k (xs.map f) = (xs.zipIdx k).map fun p => .tup [.int (p.2 : Nat), f p.1]
  | _, [] => rfl
  | k, x :: xs => by
    show D.tup [.int (k : Nat), f x] :: enumD (k + 1) (xs.map f) = _
    rw [enum_map f (k + 1) xs]
    rfl
theorem bls_all {α : Type} (p : α → Bool) (xs : List α) : (bls (xs.map fun x => .bl (p x))).map (fun bs => ((.bl (bs.all id), false) : Rv)) = some (.bl (xs.all p), false) := by
  rw [bls_map]
  simp
theorem lcGo_mapA {α : Type} {tg : Tg} {ti : Sl → R Bool} {el : Sl → R Rv} {st : Sl} (i o : α → D) : ∀ (xs : List α) (acc : List D), (∀ x ∈ xs, ∃ st1 st2 b, bindTg st tg (i x) = some st1 ∧ ti st1 = .ok true st1 ∧ el st1 = .ok (o x, b) st2 ∧ wipeS st2 tg.slots = st) → lcGo tg ti el (xs.map i) acc st = .ok (acc ++ xs.map o) st
  | [], acc, _ => by rw [List.map_nil, lcGo, List.map_nil, List.append_nil]
  | x :: xs, acc, h => by
    obtain ⟨st1, st2, b, e1, e2, e3, e4⟩ := h x List.mem_cons_self
    rw [List.map_cons, lcGo, e1]
    simp only [e2, R.bind_ok, if_true, e3, e4]
    rw [lcGo_mapA i o xs (acc ++ [o x]) fun y hy => h y (List.mem_cons_of_mem _ hy), List.map_cons, List.append_assoc, List.singleton_append]
theorem lcGo_mapP {α : Type} {tg : Tg} {ti : Sl → R Bool} {el : Sl → R Rv} {st : Sl} (i o : α → D) (xs : List α) (acc : List D) (h : ∀ x ∈ xs, ∃ st1 b, bindTg st tg (i x) = some st1 ∧ ti st1 = .ok true st1 ∧ el st1 = .ok (o x, b) st1 ∧ wipeS st1 tg.slots = st) : lcGo tg ti el (xs.map i) acc st = .ok (acc ++ xs.map o) st :=
  lcGo_mapA i o xs acc fun x hx => by
    obtain ⟨st1, b, h1, h2, h3, h4⟩ := h x hx
    exact ⟨st1, st1, b, h1, h2, h3, h4⟩
theorem step_next {T : Tb} {s : Sx} {ss : List Sx} {st st' : Sl} (h : evS T s st = .ok .next st') : evSs T (s :: ss) st = evSs T ss st' := by
  rw [xSs_cons, h]
  rfl
theorem step_ret {T : Tb} {s : Sx} {ss : List Sx} {st st' : Sl} {d : D} (h : evS T s st = .ok (.ret d) st') : evSs T (s :: ss) st = .ok (.ret d) st' := by
  rw [xSs_cons, h]
  rfl
@[simp] theorem all_map {α : Type} (p : α → Bool) (xs : List α) : allD' [.lst (xs.map fun x => .bl (p x))] = some (.bl (xs.all p), false) := bls_all p xs
/-- a loop: I stands ahead of each turn -/
theorem forGo_gen {α : Type} {tg : Tg} {body : Sl → R Fl} (i : α → D) (I : List α → Sl → Prop) (Q : R Fl → Prop) (all : List α) (hs : ∀ pre x post st, all = pre ++ x :: post → I pre st → ∃ st1, bindTg st tg (i x) = some st1 ∧ ((∃ st2, body st1 = .ok .next st2 ∧ I (pre ++ [x]) st2) ∨ ∃ r st2, body st1 = .ok (.ret r) st2 ∧ Q (.ok (.ret r) st2)))
    (he : ∀ st, I all st → Q (.ok .next st)) : ∀ (xs pre : List α) (st : Sl), all = pre ++ xs → I pre st → Q (forGo tg body (xs.map i) st)
  | [], pre, st, e, h => by
    rw [List.map_nil, forGo]
    rw [List.append_nil] at e
    subst e
    exact he st h
  | x :: xs, pre, st, e, h => by
    obtain ⟨st1, e1, c⟩ := hs pre x xs st e h
    rw [List.map_cons, forGo, e1]
    rcases c with ⟨st2, e2, h2⟩ | ⟨r, st2, e2, q⟩
    · simp only [e2, R.bind_ok]
      exact forGo_gen i I Q all hs he xs (pre ++ [x]) st2 (by rw [e, List.append_assoc]; rfl) h2
    · simp only [e2, R.bind_ok]
      exact q
theorem range_map (a : Int) (n : Nat) : rangeD a n = (List.range n).map fun (k : Nat) => .int (a + (k : Int)) := rfl
end Nm
set_option maxRecDepth 100000
set_option maxHeartbeats 4000000
/-! Loops and listings, with states of one shape. -/
namespace Nm
open PySem
theorem forGo_fold {α β : Type} {tg : Tg} {body : Sl → R Fl} (i : α → D) (S : β → Sl) (f : β → α → β) : ∀ (xs : List α) (b : β), (∀ b x, x ∈ xs → ∃ st1, bindTg (S b) tg (i x) = some st1 ∧ body st1 = .ok .next (S (f b x))) → forGo tg body (xs.map i) (S b) = .ok .next (S (xs.foldl f b))
  | [], b, _ => by rw [List.map_nil, forGo, List.foldl_nil]
  | x :: xs, b, h => by
    obtain ⟨st1, e1, e2⟩ := h b x List.mem_cons_self
    rw [List.map_cons, forGo, e1]
    simp only [e2, R.bind_ok]
    exact forGo_fold i S f xs (f b x) fun b y hy => h b y (List.mem_cons_of_mem _ hy)
/-- one list grows in slot k -/
theorem forGo_acc {α : Type} {tg : Tg} {body : Sl → R Fl} {st : Sl} (i : α → D) (k : Nat) (g : α → List D) : ∀ (xs : List α) (a0 : List D), a0.length + (xs.flatMap g).length ≤ LIM →
    (∀ acc x, x ∈ xs → acc.length + (g x).length ≤ LIM → ∃ st1, bindTg (st.set k (.own (.lst acc))) tg (i x) = some st1 ∧ body st1 = .ok .next (st.set k (.own (.lst (acc ++ g x))))) →
    forGo tg body (xs.map i) (st.set k (.own (.lst a0))) = .ok .next (st.set k (.own (.lst (a0 ++ xs.flatMap g))))
  | [], a0, _, _ => by rw [List.map_nil, forGo, List.flatMap_nil, List.append_nil]
  | x :: xs, a0, hl, h => by
    rw [List.flatMap_cons, List.length_append] at hl
    obtain ⟨st1, e1, e2⟩ := h a0 x List.mem_cons_self (by omega)
    rw [List.map_cons, forGo, e1]
    simp only [e2, R.bind_ok]
    rw [forGo_acc i k g xs (a0 ++ g x) (by rw [List.length_append]; omega) fun b y hy => h b y (List.mem_cons_of_mem _ hy), List.flatMap_cons, List.append_assoc]
theorem forGo_acc0 {α : Type} {tg : Tg} {body : Sl → R Fl} {st : Sl} (i : α → D) (k : Nat) (g : α → List D) (xs : List α) (a0 : List D) (hst : st.set k (.own (.lst a0)) = st) (hl : a0.length + (xs.flatMap g).length ≤ LIM)
    (h : ∀ acc x, x ∈ xs → acc.length + (g x).length ≤ LIM → ∃ st1, bindTg (st.set k (.own (.lst acc))) tg (i x) = some st1 ∧ body st1 = .ok .next (st.set k (.own (.lst (acc ++ g x))))) :
    forGo tg body (xs.map i) st = .ok .next (st.set k (.own (.lst (a0 ++ xs.flatMap g)))) := by
  have := forGo_acc i k g xs a0 hl h
  rwa [hst] at this
/-- the first that says something -/
theorem forGo_find {α : Type} {tg : Tg} {body : Sl → R Fl} {st : Sl} (i : α → D) (p : α → Option D) : ∀ xs : List α, (∀ x ∈ xs, ∃ st1, bindTg st tg (i x) = some st1 ∧ (match p x with
    | none => body st1 = .ok .next st
    | some r => ∃ st2, body st1 = .ok (.ret r) st2)) → (match xs.findSome? p with
    | none => forGo tg body (xs.map i) st = .ok .next st
    | some r => ∃ st2, forGo tg body (xs.map i) st = .ok (.ret r) st2)
  | [], _ => by
    show forGo tg body [] st = .ok .next st
    rw [forGo]
  | x :: xs, h => by
    obtain ⟨st1, e1, e2⟩ := h x List.mem_cons_self
    rw [List.findSome?_cons]
    cases hp : p x with
    | none =>
      rw [hp] at e2
      have e2 : body st1 = .ok .next st := e2
      have ih := forGo_find i p xs fun y hy => h y (List.mem_cons_of_mem _ hy)
      have e3 : forGo tg body ((x :: xs).map i) st = forGo tg body (xs.map i) st := by
        rw [List.map_cons, forGo, e1]
        simp only [e2, R.bind_ok]
      dsimp only
      rw [e3]
      exact ih
    | some r =>
      rw [hp] at e2
      obtain ⟨st2, e2⟩ := e2
      dsimp only
      refine ⟨st2, ?_⟩
      rw [List.map_cons, forGo, e1]
      simp only [e2, R.bind_ok]
theorem lcE_map {α : Type} {tg : Tg} {ik : Ik} {ds : List D} {ti : Sl → R Bool} {el : Sl → R Rv} {st : Sl} (i o : α → D) (xs : List α) (hi : itemsOf ik ds = some (xs.map i))
    (h : ∀ x ∈ xs, ∃ st1 b, bindTg (wipeS st tg.slots) tg (i x) = some st1 ∧ ti st1 = .ok true st1 ∧ el st1 = .ok (o x, b) st1 ∧ wipeS st1 tg.slots = wipeS st tg.slots) : lcE tg ik ds ti el st = .ok (.lst (xs.map o), true) (restS st (wipeS st tg.slots) tg.slots) := by
  unfold lcE
  rw [hi]
  dsimp only
  rw [lcGo_mapP i o xs [] h]
  rfl
theorem lcGo_filter {α : Type} {tg : Tg} {ti : Sl → R Bool} {el : Sl → R Rv} {st : Sl} (i o : α → D) (p : α → Bool) : ∀ (xs : List α) (acc : List D), (∀ x ∈ xs, ∃ st1 b, bindTg st tg (i x) = some st1 ∧ ti st1 = .ok (p x) st1 ∧ (p x = true → el st1 = .ok (o x, b) st1) ∧ wipeS st1 tg.slots = st) → lcGo tg ti el (xs.map i) acc st = .ok (acc ++ (xs.filter p).map o) st
  | [], acc, _ => by rw [List.map_nil, lcGo, List.filter_nil, List.map_nil, List.append_nil]
  | x :: xs, acc, h => by
    obtain ⟨st1, b, e1, e2, e3, e4⟩ := h x List.mem_cons_self
    rw [List.map_cons, lcGo, e1]
    simp only [e2, R.bind_ok]
    cases hp : p x with
    | true =>
      rw [if_pos rfl, e3 hp, R.bind_ok, e4, lcGo_filter i o p xs _ fun y hy => h y (List.mem_cons_of_mem _ hy), List.filter_cons_of_pos hp, List.map_cons, List.append_assoc, List.singleton_append]
    | false =>
      rw [if_neg Bool.false_ne_true, e4, lcGo_filter i o p xs _ fun y hy => h y (List.mem_cons_of_mem _ hy), List.filter_cons_of_neg (by rw [hp]; exact Bool.false_ne_true)]
theorem lcE_filter {α : Type} {tg : Tg} {ik : Ik} {ds : List D} {ti : Sl → R Bool} {el : Sl → R Rv} {st : Sl} (i o : α → D) (p : α → Bool) (xs : List α) (hi : itemsOf ik ds = some (xs.map i))
    (h : ∀ x ∈ xs, ∃ st1 b, bindTg (wipeS st tg.slots) tg (i x) = some st1 ∧ ti st1 = .ok (p x) st1 ∧ (p x = true → el st1 = .ok (o x, b) st1) ∧ wipeS st1 tg.slots = wipeS st tg.slots) : lcE tg ik ds ti el st = .ok (.lst ((xs.filter p).map o), true) (restS st (wipeS st tg.slots) tg.slots) := by
  unfold lcE
  rw [hi]
  dsimp only
  rw [lcGo_filter i o p xs [] h]
  rfl
/-- each is some thing of a kind -/
theorem lcGo_ex {β : Type} {tg : Tg} {ti : Sl → R Bool} {el : Sl → R Rv} (f : β → D) (Q : D → β → Prop) (I : Sl → Prop) : ∀ (xs acc : List D) (st : Sl), I st → (∀ x ∈ xs, ∀ st, I st → ∃ st1 st2 z b, bindTg st tg x = some st1 ∧ ti st1 = .ok true st1 ∧ el st1 = .ok (f z, b) st2 ∧ I (wipeS st2 tg.slots) ∧ Q x z) →
    ∃ (zs : List β) (st' : Sl), lcGo tg ti el xs acc st = .ok (acc ++ zs.map f) st' ∧ I st' ∧ zs.length = xs.length ∧ ∀ (k : Nat) x z, xs[k]? = some x → zs[k]? = some z → Q x z
  | [], acc, st, h0, _ => ⟨[], st, by rw [lcGo, List.map_nil, List.append_nil], h0, rfl, fun k x z e => by cases e⟩
  | x :: xs, acc, st, h0, h => by
    obtain ⟨st1, st2, z, b, e1, e2, e3, e4, e5⟩ := h x List.mem_cons_self st h0
    obtain ⟨zs, st', g1, g2, g3, g4⟩ := lcGo_ex f Q I xs (acc ++ [f z]) _ e4 fun y hy => h y (List.mem_cons_of_mem _ hy)
    refine ⟨z :: zs, st', ?_, g2, by rw [List.length_cons, g3, List.length_cons], fun k y w hy hw => ?_⟩
    · rw [lcGo, e1]
      simp only [e2, R.bind_ok, if_true, e3]
      rw [g1, List.map_cons, List.append_assoc, List.singleton_append]
    · cases k with
      | zero => cases hy; cases hw; exact e5
      | succ k => exact g4 k y w hy hw
theorem lcE_ex {β : Type} {tg : Tg} {ik : Ik} {ds : List D} {ti : Sl → R Bool} {el : Sl → R Rv} {st : Sl} (f : β → D) (Q : D → β → Prop) (I : Sl → Prop) (xs : List D) (hi : itemsOf ik ds = some xs) (h0 : I (wipeS st tg.slots))
    (h : ∀ x ∈ xs, ∀ st, I st → ∃ st1 st2 z b, bindTg st tg x = some st1 ∧ ti st1 = .ok true st1 ∧ el st1 = .ok (f z, b) st2 ∧ I (wipeS st2 tg.slots) ∧ Q x z) :
    ∃ (zs : List β) (st' : Sl), lcE tg ik ds ti el st = .ok (.lst (zs.map f), true) (restS st st' tg.slots) ∧ I st' ∧ zs.length = xs.length ∧ ∀ (k : Nat) x z, xs[k]? = some x → zs[k]? = some z → Q x z := by
  obtain ⟨zs, st', g1, g2, g3, g4⟩ := lcGo_ex f Q I xs [] _ h0 h
  refine ⟨zs, st', ?_, g2, g3, g4⟩
  unfold lcE
  rw [hi]
  dsimp only
  rw [g1]
  rfl
theorem forGo_ex {tg : Tg} {body : Sl → R Fl} (I : Nat → Sl → Prop) : ∀ (xs : List D) (n : Nat) (st : Sl), I n st → (∀ x ∈ xs, ∀ m st, m < n + xs.length → I m st → ∃ st1 st2, bindTg st tg x = some st1 ∧ body st1 = .ok .next st2 ∧ I (m + 1) st2) → ∃ st', forGo tg body xs st = .ok .next st' ∧ I (n + xs.length) st'
  | [], n, st, h0, _ => ⟨st, by rw [forGo], h0⟩
  | x :: xs, n, st, h0, h => by
    obtain ⟨st1, st2, e1, e2, e3⟩ := h x List.mem_cons_self n st (by rw [List.length_cons]; omega) h0
    obtain ⟨st', g1, g2⟩ := forGo_ex I xs (n + 1) st2 e3 fun y hy m s hm => h y (List.mem_cons_of_mem _ hy) m s (by rw [List.length_cons]; omega)
    refine ⟨st', ?_, ?_⟩
    · rw [forGo, e1]
      simp only [e2, R.bind_ok]
      exact g1
    · rw [List.length_cons, show n + (xs.length + 1) = n + 1 + xs.length by omega]
      exact g2
end Nm
set_option maxRecDepth 100000
namespace Nm
open PySem L2
def df_is_whole : Df := ⟨["thing", "least", "most"], ["thing", "least", "most"], none, [.ret (.and (.isi "int" (.v 0)) (.and (.not (.isi "bool" (.v 0))) (.chain .LtE .LtE (.v 1) (.v 0) (.v 2))))]⟩
def df_is_word : Df := ⟨["thing"], ["thing", "sign"], none, [.ret (.and (.isi "str" (.v 0)) (.and (.chain .LtE .LtE (.c (.int 1)) (.bi "len" [.v 0]) (.c (.int 6))) (.bi "all" [.lc (.cmp .In (.v 1) (.g "LETTERS")) (.one 1) .seq [.v 0] []])))]⟩
def df_is_name : Df := ⟨["thing"], ["thing", "one"], none, [.ret (.and (.isi "tuple" (.v 0)) (.and (.chain .LtE .LtE (.c (.int 1)) (.bi "len" [.v 0]) (.g "FIELDS")) (.bi "all" [.lc (.call "is_word" [.v 1]) (.one 1) .seq [.v 0] []])))]⟩
def df_are_rising : Df := ⟨["some"], ["some", "one", "other"], none, [.ret (.bi "all" [.lc (.cmp .Lt (.v 1) (.v 2)) (.many [1, 2]) .zip [.v 0, .sl (.v 0) (.c (.int 1)) .nil] []])]⟩
def df_is_test : Df := ⟨["thing", "number"], ["thing", "number", "one"], none, [.ifs (.or (.not (.isi "tuple" (.v 0))) (.or (.cmp .Eq (.v 0) (.tup [])) (.not (.isi "str" (.ix (.v 0) (.c (.int 0))))))) [.ret (.c (.bl false))] [], .ifs (.cmp .Eq (.ix (.v 0) (.c (.int 0))) (.c (.str "any"))) [.ret (.cmp .Eq (.bi "len" [.v 0]) (.c (.int 1)))] [], .ifs (.cmp .NotEq (.bi "len" [.v 0]) (.c (.int 2))) [.ret (.c (.bl false))] [], .ifs (.cmp .Eq (.ix (.v 0) (.c (.int 0))) (.c (.str "is"))) [.ret (.call "is_word" [.ix (.v 0) (.c (.int 1))])] [], .ifs (.cmp .Eq (.ix (.v 0) (.c (.int 0))) (.c (.str "like"))) [.ret (.call "is_whole" [.ix (.v 0) (.c (.int 1)), .c (.int 0), .bin .Sub (.v 1) (.c (.int 1))])] [], .ifs (.or (.cmp .NotEq (.ix (.v 0) (.c (.int 0))) (.c (.str "none"))) (.or (.not (.isi "tuple" (.ix (.v 0) (.c (.int 1))))) (.not (.chain .LtE .LtE (.c (.int 1)) (.bi "len" [.ix (.v 0) (.c (.int 1))]) (.c (.int 3)))))) [.ret (.c (.bl false))] [], .ret (.and (.bi "all" [.lc (.call "is_word" [.v 2]) (.one 2) .seq [.ix (.v 0) (.c (.int 1))] []]) (.call "are_rising" [.ix (.v 0) (.c (.int 1))]))]⟩
def df_is_item : Df := ⟨["thing", "many", "wide"], ["thing", "many", "wide"], none, [.ifs (.or (.not (.isi "tuple" (.v 0))) (.or (.cmp .Eq (.v 0) (.tup [])) (.not (.isi "str" (.ix (.v 0) (.c (.int 0))))))) [.ret (.c (.bl false))] [], .ifs (.cmp .Eq (.ix (.v 0) (.c (.int 0))) (.c (.str "rest"))) [.ret (.and (.cmp .Eq (.bi "len" [.v 0]) (.c (.int 1))) (.v 2))] [], .ifs (.cmp .NotEq (.bi "len" [.v 0]) (.c (.int 2))) [.ret (.c (.bl false))] [], .ret (.or (.and (.cmp .Eq (.ix (.v 0) (.c (.int 0))) (.c (.str "word"))) (.call "is_word" [.ix (.v 0) (.c (.int 1))])) (.and (.cmp .Eq (.ix (.v 0) (.c (.int 0))) (.c (.str "field"))) (.call "is_whole" [.ix (.v 0) (.c (.int 1)), .c (.int 0), .bin .Sub (.v 1) (.c (.int 1))])))]⟩
def df_is_rule : Df := ⟨["thing"], ["thing", "tests", "rests", "fronts", "wide", "backs", "making", "one", "at"], none, [.ifs (.or (.not (.isi "tuple" (.v 0))) (.or (.cmp .NotEq (.bi "len" [.v 0]) (.c (.int 4))) (.not (.isi "bool" (.ix (.v 0) (.c (.int 1))))))) [.ret (.c (.bl false))] [], .unp [3, 4, 5, 6] (.v 0), .ifs (.or (.not (.bi "all" [.lc (.isi "tuple" (.v 7)) (.one 7) .seq [.tup [.v 3, .v 5, .v 6]] []])) (.or (.cmp .Gt (.bi "len" [.v 3]) (.g "SIDE")) (.cmp .Gt (.bi "len" [.v 5]) (.g "SIDE")))) [.ret (.c (.bl false))] [], .asg 1 (.bin .Add (.v 3) (.v 5)), .ifs (.or (.and (.not (.v 4)) (.or (.cmp .NotEq (.v 5) (.tup [])) (.cmp .Eq (.v 3) (.tup [])))) (.not (.bi "all" [.lc (.call "is_test" [.v 7, .v 8]) (.many [8, 7]) .enum [.v 1] []]))) [.ret (.c (.bl false))] [], .ifs (.or (.not (.chain .LtE .LtE (.c (.int 1)) (.bi "len" [.v 6]) (.g "ITEMS"))) (.not (.bi "all" [.lc (.call "is_item" [.v 7, .bi "len" [.v 1], .v 4]) (.one 7) .seq [.v 6] []]))) [.ret (.c (.bl false))] [], .asg 2 (.me "count" (.v 6) [.tup [.c (.str "rest")]]), .ret (.and (.cmp .LtE (.v 2) (.c (.int 1))) (.cmp .Lt (.v 2) (.bi "len" [.v 6])))]⟩
def df_is_script : Df := ⟨["thing"], ["thing", "one"], none, [.ret (.and (.isi "tuple" (.v 0)) (.and (.cmp .LtE (.bi "len" [.v 0]) (.g "RULES")) (.bi "all" [.lc (.call "is_rule" [.v 1]) (.one 1) .seq [.v 0] []])))]⟩
def df_need_script : Df := ⟨["thing"], ["thing"], none, [.ifs (.not (.call "is_script" [.v 0])) [.raise_ "NoScript" []] []]⟩
def df_need_name : Df := ⟨["thing"], ["thing"], none, [.ifs (.not (.call "is_name" [.v 0])) [.raise_ "NoName" []] []]⟩
def df_places : Df := ⟨["rule", "long"], ["rule", "long", "many", "fronts", "wide", "backs", "making"], none, [.unp [3, 4, 5, 6] (.v 0), .asg 2 (.bin .Add (.bi "len" [.v 3]) (.bi "len" [.v 5])), .ifs (.or (.cmp .Lt (.v 1) (.v 2)) (.and (.not (.v 4)) (.cmp .Gt (.v 1) (.v 2)))) [.ret (.c .non)] [], .ret (.bin .Add (.rg [.bi "len" [.v 3]]) (.rg [.bin .Sub (.v 1) (.bi "len" [.v 5]), .v 1]))]⟩
def df_passes : Df := ⟨["test", "field", "seen"], ["test", "field", "seen"], none, [.ifs (.cmp .Eq (.ix (.v 0) (.c (.int 0))) (.c (.str "is"))) [.ret (.cmp .Eq (.v 1) (.ix (.v 0) (.c (.int 1))))] [], .ifs (.cmp .Eq (.ix (.v 0) (.c (.int 0))) (.c (.str "none"))) [.ret (.cmp .NotIn (.v 1) (.ix (.v 0) (.c (.int 1))))] [], .ret (.or (.cmp .Eq (.ix (.v 0) (.c (.int 0))) (.c (.str "any"))) (.cmp .Eq (.v 1) (.ix (.v 2) (.ix (.v 0) (.c (.int 1))))))]⟩
def df_fitting : Df := ⟨["rule", "name"], ["rule", "name", "spots", "seen", "at", "test", "field"], none, [.asg 2 (.call "places" [.v 0, .bi "len" [.v 1]]), .ifs (.cmp .Is (.v 2) (.c .non)) [.ret (.c (.bl false))] [], .asg 3 (.lc (.ix (.v 1) (.v 4)) (.one 4) .seq [.v 2] []), .gh [3] [], .ret (.bi "all" [.lc (.call "passes" [.v 5, .v 6, .v 3]) (.many [5, 6]) .zip [.bin .Add (.ix (.v 0) (.c (.int 0))) (.ix (.v 0) (.c (.int 2))), .v 3] []])]⟩
def df_making_of : Df := ⟨["rule", "name"], ["rule", "name", "spots", "made", "item"], none, [.asg 2 (.call "places" [.v 0, .bi "len" [.v 1]]), .asg 3 (.lst []), .for_ (.one 4) .seq [.ix (.v 0) (.c (.int 3))] [.ifs (.cmp .Eq (.ix (.v 4) (.c (.int 0))) (.c (.str "word"))) [.ex (.mut "append" 3 [.ix (.v 4) (.c (.int 1))])] [.ifs (.cmp .Eq (.ix (.v 4) (.c (.int 0))) (.c (.str "field"))) [.ex (.mut "append" 3 [.ix (.v 1) (.ix (.v 2) (.ix (.v 4) (.c (.int 1))))])] [.ex (.mut "extend" 3 [.sl (.v 1) (.bi "len" [.ix (.v 0) (.c (.int 0))]) (.bin .Sub (.bi "len" [.v 1]) (.bi "len" [.ix (.v 0) (.c (.int 2))]))])]], .gh [] [4]], .ret (.bi "tuple" [.v 3])]⟩
def df_fits : Df := ⟨["rule", "name"], ["rule", "name"], none, [.ifs (.not (.call "is_rule" [.v 0])) [.raise_ "NoRule" []] [], .ex (.call "need_name" [.v 1]), .ret (.call "fitting" [.v 0, .v 1])]⟩
def df_makes : Df := ⟨["rule", "name"], ["rule", "name"], none, [.ret (.ite (.call "fits" [.v 0, .v 1]) (.call "making_of" [.v 0, .v 1]) (.c .non))]⟩
def df_first_of : Df := ⟨["script", "name"], ["script", "name", "number", "rule"], none, [.for_ (.many [2, 3]) .enum [.v 0] [.ifs (.call "fitting" [.v 3, .v 1]) [.ret (.v 2)] [], .gh [] [2, 3]], .ret (.c .non)]⟩
def df_turned_of : Df := ⟨["script", "name"], ["script", "name", "number"], none, [.asg 2 (.call "first_of" [.v 0, .v 1]), .ret (.ite (.cmp .Is (.v 2) (.c .non)) (.v 1) (.call "making_of" [.ix (.v 0) (.v 2), .v 1]))]⟩
def df_first : Df := ⟨["script", "name"], ["script", "name"], none, [.ex (.call "need_script" [.v 0]), .ex (.call "need_name" [.v 1]), .ret (.call "first_of" [.v 0, .v 1])]⟩
def df_turned : Df := ⟨["script", "name"], ["script", "name"], none, [.ex (.call "need_script" [.v 0]), .ex (.call "need_name" [.v 1]), .ret (.call "turned_of" [.v 0, .v 1])]⟩
def df__law_draw : Df := ⟨["script", "town", "many"], ["script", "town", "many", "at", "mixed", "one"], some 1, [.ifs (.cmp .Gt (.ix (.v 1) (.c (.int 1))) (.c (.int 0))) [.asg 5 (.bin .Mod (.ix (.v 1) (.c (.int 1))) (.v 2)), .setix 1 (.c (.int 1)) (.bin .FloorDiv (.ix (.v 1) (.c (.int 1))) (.v 2)), .ret (.v 5)] [], .asg 3 (.ix (.v 1) (.c (.int 0))), .augix 1 (.c (.int 0)) .Add (.c (.int 1)), .ifs (.cmp .Eq (.v 0) (.lst [])) [.ret (.bin .Mod (.v 3) (.v 2))] [], .ifs (.and (.cmp .Lt (.v 3) (.bi "len" [.v 0])) (.cmp .GtE (.ix (.v 0) (.v 3)) (.bin .Pow (.c (.int 10)) (.c (.int 18))))) [.setix 1 (.c (.int 1)) (.bin .Mod (.bin .FloorDiv (.ix (.v 0) (.v 3)) (.v 2)) (.bin .Mult (.bin .Pow (.c (.int 10)) (.c (.int 60))) (.bin .Pow (.c (.int 10)) (.c (.int 60))))), .ret (.bin .Mod (.ix (.v 0) (.v 3)) (.v 2))] [], .asg 4 (.bin .Mod (.bin .Add (.bin .Add (.bin .Mult (.ix (.v 0) (.bin .Mod (.v 3) (.bi "len" [.v 0]))) (.c (.int 1103515245))) (.bin .Mult (.c (.int 7919)) (.v 3))) (.c (.int 12345))) (.c (.int 2147483647))), .ret (.bin .Mod (.bin .Mod (.bin .Mod (.bin .Pow (.v 4) (.c (.int 5))) (.c (.int 2147483647))) (.c (.int 999983))) (.v 2))]⟩
def df__law_pick : Df := ⟨["script", "town", "some"], ["script", "town", "some"], some 1, [.ret (.ix (.v 2) (.call "_law_draw" [.v 0, .v 1, .bi "len" [.v 2]]))]⟩
def df__law_test : Df := ⟨["script", "town", "number"], ["script", "town", "number", "some"], some 1, [.asg 3 (.lst [.tup [.c (.str "is"), .c (.str "a")], .tup [.c (.str "is"), .c (.str "b")], .tup [.c (.str "any")], .tup [.c (.str "any")], .tup [.c (.str "none"), .tup [.c (.str "a")]], .tup [.c (.str "none"), .tup [.c (.str "a"), .c (.str "b")]]]), .ifs (.cmp .Gt (.v 2) (.c (.int 0))) [.ex (.mut "extend" 3 [.bin .Mult (.lst [.tup [.c (.str "like"), .call "_law_draw" [.v 0, .v 1, .v 2]]]) (.c (.int 2))])] [], .gh [3] [], .ret (.call "_law_pick" [.v 0, .v 1, .v 3])]⟩
def df__law_rule : Df := ⟨["script", "town", "side"], ["script", "town", "side", "wide", "many", "more", "tests", "items", "k", "field"], some 1, [.asg 3 (.cmp .Gt (.call "_law_draw" [.v 0, .v 1, .c (.int 4)]) (.c (.int 0))), .asg 4 (.ite (.v 3) (.call "_law_draw" [.v 0, .v 1, .bin .Add (.v 2) (.c (.int 1))]) (.bin .Add (.c (.int 1)) (.call "_law_draw" [.v 0, .v 1, .c (.int 2)]))), .asg 5 (.ite (.v 3) (.call "_law_draw" [.v 0, .v 1, .bin .Add (.v 2) (.c (.int 1))]) (.c (.int 0))), .asg 6 (.bi "tuple" [.lc (.call "_law_test" [.v 0, .v 1, .v 8]) (.one 8) .range [.bin .Add (.v 4) (.v 5)] []]), .asg 7 (.lst []), .for_ (.one 8) .range [.bin .Add (.c (.int 1)) (.call "_law_draw" [.v 0, .v 1, .c (.int 3)])] [.asg 9 (.ite (.cmp .NotEq (.v 6) (.tup [])) (.tup [.c (.str "field"), .call "_law_draw" [.v 0, .v 1, .bin .Add (.v 4) (.v 5)]]) (.tup [.c (.str "word"), .c (.str "b")])), .ex (.mut "append" 7 [.call "_law_pick" [.v 0, .v 1, .lst [.tup [.c (.str "word"), .c (.str "a")], .tup [.c (.str "word"), .c (.str "c")], .v 9, .v 9, .v 9, .v 9]]]), .gh [] [8, 9]], .ifs (.and (.v 3) (.cmp .Gt (.call "_law_draw" [.v 0, .v 1, .c (.int 5)]) (.c (.int 0)))) [.ex (.mut "insert" 7 [.call "_law_draw" [.v 0, .v 1, .bin .Add (.bi "len" [.v 7]) (.c (.int 1))], .tup [.c (.str "rest")]])] [], .ret (.tup [.sl (.v 6) .nil (.v 4), .v 3, .sl (.v 6) (.v 4) .nil, .bi "tuple" [.v 7]])]⟩
def df__law_script : Df := ⟨["script", "town", "most", "side"], ["script", "town", "most", "side", "k"], some 1, [.ret (.bi "tuple" [.lc (.call "_law_rule" [.v 0, .v 1, .v 3]) (.one 4) .range [.bin .Add (.c (.int 1)) (.call "_law_draw" [.v 0, .v 1, .v 2])] []])]⟩
def df__law_name : Df := ⟨["script", "town", "most"], ["script", "town", "most", "k"], some 1, [.ret (.bi "tuple" [.lc (.call "_law_pick" [.v 0, .v 1, .lst [.c (.str "a"), .c (.str "b"), .c (.str "c"), .c (.str "d")]]) (.one 3) .range [.bin .Add (.c (.int 1)) (.call "_law_draw" [.v 0, .v 1, .v 2])] []])]⟩
def df__law_made : Df := ⟨["rule", "name"], ["rule", "name", "seen", "made", "item", "fronts", "wide", "backs", "making", "many", "more", "at", "test"], none, [.unp [5, 6, 7, 8] (.v 0), .par 9 10 (.bi "len" [.v 5]) (.bi "len" [.v 7]), .ifs (.or (.cmp .Lt (.bi "len" [.v 1]) (.bin .Add (.v 9) (.v 10))) (.and (.not (.v 6)) (.cmp .NotEq (.bi "len" [.v 1]) (.v 9)))) [.ret (.c .non)] [], .asg 2 (.bin .Add (.bi "list" [.sl (.v 1) .nil (.v 9)]) (.bi "list" [.sl (.v 1) (.bin .Sub (.bi "len" [.v 1]) (.v 10)) .nil])), .for_ (.many [11, 12]) .enum [.bin .Add (.v 5) (.v 7)] [.ifs (.or (.and (.cmp .Eq (.ix (.v 12) (.c (.int 0))) (.c (.str "is"))) (.cmp .NotEq (.ix (.v 2) (.v 11)) (.ix (.v 12) (.c (.int 1))))) (.and (.cmp .Eq (.ix (.v 12) (.c (.int 0))) (.c (.str "none"))) (.cmp .In (.ix (.v 2) (.v 11)) (.ix (.v 12) (.c (.int 1)))))) [.ret (.c .non)] [], .ifs (.and (.cmp .Eq (.ix (.v 12) (.c (.int 0))) (.c (.str "like"))) (.cmp .NotEq (.ix (.v 2) (.v 11)) (.ix (.v 2) (.ix (.v 12) (.c (.int 1)))))) [.ret (.c .non)] [], .gh [] [11, 12]], .asg 3 (.lst []), .for_ (.one 4) .seq [.v 8] [.ifs (.cmp .Eq (.ix (.v 4) (.c (.int 0))) (.c (.str "rest"))) [.ex (.mut "extend" 3 [.bi "list" [.sl (.v 1) (.v 9) (.bin .Sub (.bi "len" [.v 1]) (.v 10))]])] [.ex (.mut "append" 3 [.ite (.cmp .Eq (.ix (.v 4) (.c (.int 0))) (.c (.str "word"))) (.ix (.v 4) (.c (.int 1))) (.ix (.v 2) (.ix (.v 4) (.c (.int 1))))])], .gh [] [4]], .ret (.bi "tuple" [.v 3])]⟩
def df__law_first : Df := ⟨["some", "name"], ["some", "name", "number", "rule"], none, [.for_ (.many [2, 3]) .enum [.v 0] [.ifs (.cmp .IsNot (.call "_law_made" [.v 3, .v 1]) (.c .non)) [.ret (.v 2)] [], .gh [] [2, 3]], .ret (.c .non)]⟩
def df__law_turned : Df := ⟨["some", "name"], ["some", "name", "number"], none, [.asg 2 (.call "_law_first" [.v 0, .v 1]), .ret (.ite (.cmp .Is (.v 2) (.c .non)) (.v 1) (.call "_law_made" [.ix (.v 0) (.v 2), .v 1]))]⟩
def df_is_folder : Df := ⟨["thing"], ["thing", "one"], none, [.ifs (.or (.not (.isi "tuple" (.v 0))) (.or (.cmp .Gt (.bi "len" [.v 0]) (.g "FILES")) (.not (.bi "all" [.lc (.call "is_name" [.v 1]) (.one 1) .seq [.v 0] []])))) [.ret (.c (.bl false))] [], .ret (.call "are_rising" [.v 0])]⟩
def df__law_which : Df := ⟨["e"], ["e", "own"], none, [.asg 1 (.lst [.isx "NoName" 0, .isx "NoRule" 0, .isx "NoScript" 0, .isx "NoFolder" 0]), .ex (.mut "extend" 1 [.lst [.isx "Clash" 0, .isx "NoOrder" 0, .isx "Lost" 0, .isx "Ringed" 0]]), .ex (.mut "extend" 1 [.lst [.isx "NoNumber" 0, .isx "NoRow" 0, .isx "NoWord" 0]]), .ex (.mut "extend" 1 [.lst [.isx "Taken" 0]]), .ex (.mut "extend" 1 [.lst [.isx "NotThere" 0, .isx "Full" 0, .isx "TooLong" 0]]), .ex (.mut "extend" 1 [.lst [.isx "NoDeed" 0]]), .ex (.mut "append" 1 [.isx "NoText" 0]), .ifs (.or (.cmp .NotEq (.me "count" (.v 1) [.c (.bl true)]) (.c (.int 1))) (.not (.isx "ValueError" 0))) [.ret (.tup [.c (.str "refused"), .c (.int (-1))])] [], .ret (.tup [.c (.str "refused"), .me "index" (.v 1) [.c (.bl true)]])]⟩
def df__law_no_tests : Df := ⟨[], ["bad"], none, [.asg 0 (.lst [.c .non, .tup [], .c (.str "any"), .lst [.c (.str "any")], .tup [.c (.str "any"), .c (.int 0)], .tup [.c (.str "is")], .tup [.c (.str "is"), .c (.str "A")], .tup [.c (.str "is"), .c (.str "")]]), .ex (.mut "extend" 0 [.lst [.tup [.c (.str "is"), .c (.str "abcdefg")], .tup [.c (.str "is"), .c (.int 5)], .tup [.c (.str "is"), .c (.str "a"), .c (.str "b")], .tup [.c (.str "some"), .c (.str "a")]]]), .ex (.mut "extend" 0 [.lst [.tup [.c (.str "none"), .c (.str "a")], .tup [.c (.str "none"), .tup []], .tup [.c (.str "none"), .tup [.c (.str "a"), .c (.str "b"), .c (.str "c"), .c (.str "d")]], .tup [.c (.str "none"), .tup [.c (.str "b"), .c (.str "a")]]]]), .ex (.mut "extend" 0 [.lst [.tup [.c (.str "none"), .tup [.c (.str "a"), .c (.str "a")]], .tup [.c (.str "none"), .lst [.c (.str "a")]], .tup [.c (.str "none"), .tup [.c (.str "A")]]]]), .ex (.mut "extend" 0 [.lst [.tup [.c (.str "like"), .c (.int 1)], .tup [.c (.str "like"), .c (.int (-1))], .tup [.c (.str "like"), .c .non], .tup [.c (.str "like"), .c (.bl true)], .tup [.c (.str "like"), .c (.str "0")], .tup [.c (.str "like")]]]), .ex (.mut "extend" 0 [.lst [.tup [.c .non, .c (.str "a")]]]), .ret (.bin .Add (.v 0) (.lst [.tup [.c (.int 5)]]))]⟩
def df__law_no_rules : Df := ⟨[], ["good", "bad", "kinds", "one", "items", "any_one", "word"], none, [.unp [5, 6] (.tup [.tup [.c (.str "any")], .tup [.c (.str "word"), .c (.str "w")]]), .asg 0 (.tup [.tup [.v 5], .c (.bl true), .tup [], .tup [.v 6]]), .asg 1 (.lst [.c .non, .tup [], .sl (.v 0) .nil (.c (.int 3)), .bin .Add (.v 0) (.tup [.c (.int 0)]), .bi "list" [.v 0], .bin .Add (.tup [.lst [.v 5]]) (.sl (.v 0) (.c (.int 1)) .nil)]), .ex (.mut "extend" 1 [.lst [.bin .Add (.tup [.ix (.v 0) (.c (.int 0)), .c (.int 1)]) (.sl (.v 0) (.c (.int 2)) .nil), .bin .Add (.tup [.ix (.v 0) (.c (.int 0)), .c .non]) (.sl (.v 0) (.c (.int 2)) .nil)]]), .ex (.mut "extend" 1 [.lst [.bin .Add (.tup [.bin .Mult (.tup [.v 5]) (.c (.int 3))]) (.sl (.v 0) (.c (.int 1)) .nil), .bin .Add (.sl (.v 0) .nil (.c (.int 2))) (.tup [.bin .Mult (.tup [.v 5]) (.c (.int 3)), .ix (.v 0) (.c (.int 3))])]]), .ex (.mut "extend" 1 [.lst [.tup [.tup [.v 5], .c (.bl false), .tup [.v 5], .tup [.v 6]], .tup [.tup [], .c (.bl false), .tup [], .tup [.v 6]]]]), .asg 2 (.lst [.tup [], .bin .Mult (.tup [.v 6]) (.c (.int 5)), .lst [.v 6], .tup [.c .non], .tup [.tup [.c (.str "rest")]], .tup [.tup [.c (.str "rest")], .tup [.c (.str "rest")], .v 6]]), .ex (.mut "extend" 2 [.lst [.tup [.tup [.c (.str "rest"), .c (.int 0)], .v 6]]]), .for_ (.one 3) .seq [.v 2] [.ex (.mut "append" 1 [.bin .Add (.sl (.v 0) .nil (.c (.int 3))) (.tup [.v 3])]), .gh [] [3]], .asg 4 (.lst [.tup [.c (.str "word")], .tup [.c (.str "word"), .c (.str "W")], .tup [.c (.str "word"), .c (.str "")], .tup [.c (.str "word"), .c (.int 5)], .tup [.c (.str "field"), .c (.int 1)], .tup [.c (.str "field"), .c (.int (-1))]]), .ex (.mut "extend" 4 [.lst [.tup [.c (.str "field"), .c (.bl true)], .tup [.c (.str "field")]]]), .gh [] [3], .for_ (.one 3) .seq [.bin .Add (.v 4) (.lst [.tup [.c (.str "item"), .c (.str "w")], .tup [], .c (.str "word"), .lst [.c (.str "word"), .c (.str "w")], .tup [.c (.str "field"), .c (.int 0), .c (.int 0)], .tup [.c .non, .c (.str "w")], .tup [.c (.str "field"), .c (.str "0")]])] [.ex (.mut "append" 1 [.bin .Add (.sl (.v 0) .nil (.c (.int 3))) (.tup [.tup [.v 3]])]), .gh [] [3]], .ex (.mut "append" 1 [.tup [.tup [.v 5], .c (.bl false), .tup [], .tup [.v 6, .tup [.c (.str "rest")]]]]), .gh [] [3], .for_ (.one 3) .seq [.call "_law_no_tests" []] [.ex (.mut "extend" 1 [.lst [.tup [.tup [.v 5, .v 3], .c (.bl true), .tup [], .tup [.v 6]], .tup [.tup [.v 5], .c (.bl true), .tup [.v 3], .tup [.v 6]]]]), .gh [] [3]], .ret (.bin .Add (.v 1) (.lst [.tup [.tup [.tup [.c (.str "like"), .c (.int 0)]], .c (.bl true), .tup [], .tup [.v 6]]]))]⟩
end Nm
set_option maxRecDepth 100000
set_option maxHeartbeats 4000000
namespace Nm
open PySem
theorem draw_ok0 (T : Tb) (ns : List Int) (a b many : Int) (ha : 0 ≤ a) (h1 : 0 < many) (h2 : many < 2 ^ 30) :
    ∃ r a' b', runDf T df__law_draw [.scr ns, .lst [.int a, .int b], .int many] = some (.ok (.int r) (.lst [.int a', .int b'])) ∧ 0 ≤ r ∧ r < many ∧ 0 ≤ a' := by
  have h2' : many < 1073741824 := by simpa using h2
  have hm : ∀ x : Int, 0 ≤ x % many ∧ x % many < many := fun x => ⟨Int.emod_nonneg _ (by omega), Int.emod_lt_of_pos _ h1⟩
  unfold runDf df__law_draw
  by_cases hb : 0 < b
  · refine ⟨b % many, a, b / many, ?_, (hm _).1, (hm _).2, ha⟩
    simp [bin_addT, bin_addL, allD', hb, bin_mod h1, bin_fdiv h1 h2']
  · by_cases hn : ns = []
    · subst hn
      refine ⟨a % many, a + 1, b, ?_, (hm _).1, (hm _).2, by omega⟩
      simp [bin_addT, bin_addL, allD', hb, bin_mod h1, eqD]
    · have hn' : ns.isEmpty = false := by simp [hn]
      have hlen : 0 < (ns.length : Int) := by
        cases ns with
        | nil => exact absurd rfl hn
        | cons x xs => simp
      have hmod : 0 ≤ a % (ns.length : Int) ∧ a % (ns.length : Int) < ns.length := ⟨Int.emod_nonneg _ (by omega), Int.emod_lt_of_pos _ hlen⟩
      have hj : (a % (ns.length : Int)).toNat < ns.length := by omega
      have hgm : L2.atI ns (a % (ns.length : Int)) = some (ns[(a % (ns.length : Int)).toNat]) := by rw [atN ns _ hmod.1, List.getElem?_eq_getElem hj]
      generalize hy : ns[(a % (ns.length : Int)).toNat] = y at hgm
      have hmx : 0 ≤ (y * 1103515245 + 7919 * a + 12345) % 2147483647 ∧ (y * 1103515245 + 7919 * a + 12345) % 2147483647 < 2147483647 := ⟨Int.emod_nonneg _ (by decide), Int.emod_lt_of_pos _ (by decide)⟩
      have hpw : binD .Pow (.int ((y * 1103515245 + 7919 * a + 12345) % 2147483647)) (.int 5) = some (.int (((y * 1103515245 + 7919 * a + 12345) % 2147483647) ^ 5), false) := bin_pow (by decide) (by decide) (by omega)
      have hm1 : binD .Mult (.int y) (.int 1103515245) = some (.int (y * 1103515245), false) := bin_mul (mulOk_r (by decide))
      have hm2 : binD .Mult (.int 7919) (.int a) = some (.int (7919 * a), false) := bin_mul (mulOk_l (by decide))
      have q1 : ∀ i : Int, binD .Mod (.int i) (.int 2147483647) = some (.int (i % 2147483647), false) := fun i => bin_mod (by decide)
      have q2 : ∀ i : Int, binD .Mod (.int i) (.int 999983) = some (.int (i % 999983), false) := fun i => bin_mod (by decide)
      by_cases hl : a < ns.length
      · have hlt : a.toNat < ns.length := by omega
        have hg : L2.atI ns a = some (ns[a.toNat]) := by rw [atN ns a ha, List.getElem?_eq_getElem hlt]
        generalize hz : ns[a.toNat] = z at hg
        by_cases hx : 1000000000000000000 ≤ z
        · refine ⟨z % many, a + 1, z / many % (big60 * big60), ?_, (hm _).1, (hm _).2, by omega⟩
          simp [bin_addT, bin_addL, allD', hb, bin_mod h1, bin_fdiv h1 h2', eqD, hn', hl, hg, hx, p18, p60, m60, bin_mod big_pos]
        · refine ⟨((y * 1103515245 + 7919 * a + 12345) % 2147483647) ^ 5 % 2147483647 % 999983 % many, a + 1, b, ?_, (hm _).1, (hm _).2, by omega⟩
          simp [bin_addT, bin_addL, allD', hb, bin_mod h1, eqD, hn', hl, hg, hx, p18, bin_mod hlen, hgm, hm1, hm2, q1, q2, hpw]
      · refine ⟨((y * 1103515245 + 7919 * a + 12345) % 2147483647) ^ 5 % 2147483647 % 999983 % many, a + 1, b, ?_, (hm _).1, (hm _).2, by omega⟩
        simp [bin_addT, bin_addL, allD', hb, bin_mod h1, eqD, hn', hl, bin_mod hlen, hgm, hm1, hm2, q1, q2, hpw]
end Nm
set_option maxRecDepth 100000
set_option maxHeartbeats 4000000
namespace Nm
open PySem
structure Gls (T : Tb) : Prop where
  letters : T.gl "LETTERS" = some (.str letters)
  fields : T.gl "FIELDS" = some (.int 30)
  side : T.gl "SIDE" = some (.int 2)
  items : T.gl "ITEMS" = some (.int 4)
  rules : T.gl "RULES" = some (.int 4)
abbrev P_whole : (List D → Option FR) → Prop := fun sem => ∀ i a b : Int, sem [.int i, .int a, .int b] = some (.ok (.bl (decide (a ≤ i) && decide (i ≤ b))) .non)
theorem is_whole_ok (T : Tb) : P_whole (runDf T df_is_whole) := by
  intro i a b
  unfold runDf df_is_whole
  by_cases h : a ≤ i
  · simp [bin_addT, bin_addL, allD', h]
  · simp [bin_addT, bin_addL, allD', h]
abbrev P_word : (List D → Option FR) → Prop := fun sem => ∀ w : Str, sem [.str w] = some (.ok (.bl (wordB w)) .non)
theorem is_word_ok (T : Tb) (g : Gls T) : P_word (runDf T df_is_word) := by
  intro w
  unfold runDf df_is_word wordB
  by_cases h1 : 1 ≤ (w.cps.size : Int)
  · by_cases h2 : (w.cps.size : Int) ≤ 6
    · have hl : lcGo (.one 1) (evTs T []) (evE T (.cmp .In (.v 1) (.g "LETTERS"))) (w.cps.toList.map fun c => .str ⟨#[c]⟩) [] [.val (.str w), .no] = .ok (w.cps.toList.map fun c => .bl (decide (c ∈ letters.cps.toList))) [.val (.str w), .no] := by
        rw [lcGo_map (fun x => match x with | .str z => .bl (decide (z.cps.toList.headD 0 ∈ letters.cps.toList)) | _ => .non)]
        · rw [List.nil_append, List.map_map]
          rfl
        · intro x hx
          obtain ⟨c, hc, rfl⟩ := List.mem_map.mp hx
          refine ⟨[.val (.str w), .val (.str ⟨#[c]⟩)], [.val (.str w), .val (.str ⟨#[c]⟩)], false, rfl, ?_, ?_, rfl⟩
          · simp [bin_addT, bin_addL, allD']
          · simp [bin_addT, bin_addL, allD', g.letters, one1]
      simp [bin_addT, bin_addL, allD', h1, h2, lcE, itemsOf, seqOf, hl, bls_map]
    · simp [bin_addT, bin_addL, allD', h1, h2]
  · simp [bin_addT, bin_addL, allD', h1]
abbrev P_name : (List D → Option FR) → Prop := fun sem => ∀ n : List Str, sem [nmD n] = some (.ok (.bl (decide (1 ≤ (n.length : Int)) && (decide ((n.length : Int) ≤ 30) && n.all wordB))) .non)
theorem is_name_ok (T : Tb) (g : Gls T) (hw : Has T "is_word" 1 none P_word) : P_name (runDf T df_is_name) := by
  obtain ⟨F, e1, e2, e3, e4⟩ := hw
  intro n
  unfold runDf df_is_name nmD
  by_cases h1 : 1 ≤ (n.length : Int)
  · by_cases h2 : (n.length : Int) ≤ 30
    · have hl : lcGo (.one 1) (evTs T []) (evE T (.call "is_word" [.v 1])) (sds n) [] [.val (.tup (sds n)), .no] = .ok (n.map fun w => .bl (wordB w)) [.val (.tup (sds n)), .no] := by
        rw [lcGo_map (fun x => match x with | .str z => .bl (wordB z) | _ => .non)]
        · simp [sds]
        · intro x hx
          obtain ⟨c, hc, rfl⟩ := List.mem_map.mp hx
          refine ⟨[.val (.tup (sds n)), .val (.str c)], [.val (.tup (sds n)), .val (.str c)], false, rfl, ?_, ?_, rfl⟩
          · simp [bin_addT, bin_addL, allD']
          · simp [bin_addT, bin_addL, allD', e1, e2, e3, e4]
      have hlen : (sds n).length = n.length := by simp [sds]
      simp [bin_addT, bin_addL, allD', hlen, g.fields, h1, h2, lcE, itemsOf, seqOf, hl, bls_map]
    · have hlen : (sds n).length = n.length := by simp [sds]
      simp [bin_addT, bin_addL, allD', hlen, g.fields, h1, h2]
  · have hlen : (sds n).length = n.length := by simp [sds]
    simp [bin_addT, bin_addL, allD', hlen, g.fields, h1]
end Nm
set_option maxRecDepth 100000
set_option maxHeartbeats 4000000
namespace Nm
open PySem
abbrev P_rising : (List D → Option FR) → Prop := fun sem => ∀ ws : List Str, sem [.tup (sds ws)] = some (.ok (.bl (risingB ws)) .non)
theorem are_rising_ok (T : Tb) : P_rising (runDf T df_are_rising) := by
  intro ws
  unfold runDf df_are_rising
  have hz : zipD (sds ws) (sds (ws.drop 1)) = (ws.zip (ws.drop 1)).map fun p => .tup [.str p.1, .str p.2] := zip_map _ _ ws _
  have hc : cutD (sds ws) (some 1) none = sds (ws.drop 1) := by rw [cut_from _ (by decide), sds_drop]; rfl
  have hl : lcGo (.many [1, 2]) (evTs T []) (evE T (.cmp .Lt (.v 1) (.v 2))) ((ws.zip (ws.drop 1)).map fun p => .tup [.str p.1, .str p.2]) [] [.val (.tup (sds ws)), .no, .no] = .ok ((ws.zip (ws.drop 1)).map fun p => .bl (ltB p.1 p.2)) [.val (.tup (sds ws)), .no, .no] := by
    rw [lcGo_map (fun x => match x with | .tup [.str x, .str y] => .bl (ltB x y) | _ => .non)]
    · rw [List.nil_append, List.map_map]
      rfl
    · intro x hx
      obtain ⟨p, hp, rfl⟩ := List.mem_map.mp hx
      refine ⟨[.val (.tup (sds ws)), .val (.str p.1), .val (.str p.2)], [.val (.tup (sds ws)), .val (.str p.1), .val (.str p.2)], false, rfl, ?_, ?_, rfl⟩
      · simp [bin_addT, bin_addL, allD']
      · simp [bin_addT, bin_addL, allD', ltB]
  have hb : bls ((ws.zip (ws.drop 1)).map fun p => .bl (ltB p.1 p.2)) = some ((ws.zip (ws.drop 1)).map fun p => ltB p.1 p.2) := bls_map _ _
  have hr := rising_zip ws
  simp only [List.drop_one] at hz hc hl hb hr
  simp [bin_addT, bin_addL, allD', lcE, itemsOf, pairOf, hc, hz, hl, hb]
  rw [← hr]
  simp
abbrev P_test : (List D → Option FR) → Prop := fun sem => ∀ (t : Tst) (n : Nat), sem [t.d, .int n] = some (.ok (.bl (t.ok n)) .non)
theorem is_test_ok (T : Tb) (hw : Has T "is_word" 1 none P_word) (hr : Has T "are_rising" 1 none P_rising) (hi : Has T "is_whole" 3 none P_whole) : P_test (runDf T df_is_test) := by
  obtain ⟨F, e1, e2, e3, e4⟩ := hw
  obtain ⟨G, g1, g2, g3, g4⟩ := hr
  obtain ⟨K, k1, k2, k3, k4⟩ := hi
  intro t n
  unfold runDf df_is_test
  cases t with
  | is w => simp [bin_addT, bin_addL, allD', eq_str, Tst.d, Tst.ok, eqD, D.eqOk, D.plain, D.plains, D.eqv, D.eqvs, e1, e2, e3, e4]
  | any => simp [bin_addT, bin_addL, allD', eq_str, Tst.d, Tst.ok, eqD, D.eqOk, D.plain, D.plains, D.eqv, D.eqvs]
  | like k =>
    simp [bin_addT, bin_addL, allD', eq_str, Tst.d, Tst.ok, eqD, D.eqOk, D.plain, D.plains, D.eqv, D.eqvs, k1, k2, k3, k4]
    by_cases h : k < n
    · simp [h]; omega
    · simp [h]; omega
  | non ws =>
    have hp : D.plains 59 (sds ws) = true := plains_all fun x hx => by
      obtain ⟨w, _, rfl⟩ := List.mem_map.mp hx
      rw [D.plain]
    have hl : lcGo (.one 2) (evTs T []) (evE T (.call "is_word" [.v 2])) (sds ws) [] [.val (.tup [.str "none", .tup (sds ws)]), .val (.int n), .no] = .ok (ws.map fun w => .bl (wordB w)) [.val (.tup [.str "none", .tup (sds ws)]), .val (.int n), .no] := by
      rw [lcGo_map (fun x => match x with | .str z => .bl (wordB z) | _ => .non)]
      · simp [sds]
      · intro x hx
        obtain ⟨c, hc, rfl⟩ := List.mem_map.mp hx
        refine ⟨[.val (.tup [.str "none", .tup (sds ws)]), .val (.int n), .val (.str c)], [.val (.tup [.str "none", .tup (sds ws)]), .val (.int n), .val (.str c)], false, rfl, ?_, ?_, rfl⟩
        · simp [bin_addT, bin_addL, allD']
        · simp [bin_addT, bin_addL, allD', e1, e2, e3, e4]
    by_cases h1 : 1 ≤ (ws.length : Int)
    · by_cases h2 : (ws.length : Int) ≤ 3
      · have h1' : 1 ≤ ws.length := by omega
        have h2' : ws.length ≤ 3 := by omega
        cases ha : ws.all wordB with
        | true =>
          simp [bin_addT, bin_addL, allD', eq_str, Tst.d, Tst.ok, eqD, D.eqOk, D.plain, D.plains, D.eqv, D.eqvs, hp, sds_len, h1, h2, h1', h2', lcE, itemsOf, seqOf, hl, bls_map, ha, g1, g2, g3, g4]
        | false =>
          simp [bin_addT, bin_addL, allD', eq_str, Tst.d, Tst.ok, eqD, D.eqOk, D.plain, D.plains, D.eqv, D.eqvs, hp, sds_len, h1, h2, h1', h2', lcE, itemsOf, seqOf, hl, bls_map, ha, g1, g2, g3, g4]
      · have h2' : ¬ ws.length ≤ 3 := by omega
        simp [bin_addT, bin_addL, allD', eq_str, Tst.d, Tst.ok, eqD, D.eqOk, D.plain, D.plains, D.eqv, D.eqvs, hp, sds_len, h1, h2, h2']
    · have h1' : ¬ 1 ≤ ws.length := by omega
      simp [bin_addT, bin_addL, allD', eq_str, Tst.d, Tst.ok, eqD, D.eqOk, D.plain, D.plains, D.eqv, D.eqvs, hp, sds_len, h1, h1']
end Nm
set_option maxRecDepth 100000
set_option maxHeartbeats 4000000
namespace Nm
open PySem
abbrev P_item : (List D → Option FR) → Prop := fun sem => ∀ (t : Itm) (n : Nat) (b : Bool), sem [t.d, .int n, .bl b] = some (.ok (.bl (t.ok n b)) .non)
theorem is_item_ok (T : Tb) (hw : Has T "is_word" 1 none P_word) (hi : Has T "is_whole" 3 none P_whole) : P_item (runDf T df_is_item) := by
  obtain ⟨F, e1, e2, e3, e4⟩ := hw
  obtain ⟨K, k1, k2, k3, k4⟩ := hi
  intro t n b
  unfold runDf df_is_item
  cases t with
  | word w =>
    cases h : wordB w <;> simp [bin_addT, bin_addL, allD', eq_str, Itm.d, Itm.ok, eqD, D.eqOk, D.plain, D.plains, D.eqv, D.eqvs, e1, e2, e3, e4, h]
  | field k =>
    simp [bin_addT, bin_addL, allD', eq_str, Itm.d, Itm.ok, eqD, D.eqOk, D.plain, D.plains, D.eqv, D.eqvs, k1, k2, k3, k4]
    by_cases h : k < n
    · simp [h]; omega
    · simp [h]; omega
  | rest => cases b <;> simp [bin_addT, bin_addL, allD', eq_str, Itm.d, Itm.ok, eqD, D.eqOk, D.plain, D.plains, D.eqv, D.eqvs]
theorem tests_zip : ∀ (k : Nat) (ts : List Tst), ((ts.zipIdx k).map fun p => Tst.ok p.2 p.1).all id = testsOk k ts
  | _, [] => rfl
  | k, t :: ts => by
    show (t.ok k && ((ts.zipIdx (k + 1)).map fun p => Tst.ok p.2 p.1).all id) = _
    rw [tests_zip (k + 1) ts, testsOk]
theorem rest_eq : ∀ i : Itm, D.eqv i.d (.tup [.str "rest"]) = i.isRest
  | .word w => by simp [Itm.d, D.eqv, D.eqvs, eq_str, Itm.isRest]
  | .field w => by simp [Itm.d, D.eqv, D.eqvs, eq_str, Itm.isRest]
  | .rest => by simp [Itm.d, D.eqv, D.eqvs, eq_str, Itm.isRest]
theorem rest_count (is : List Itm) : ((is.map Itm.d).countP fun x => D.eqv x (.tup [.str "rest"])) = is.countP Itm.isRest := by
  rw [List.countP_map]
  congr 1
  funext i
  exact rest_eq i
theorem me_count (xs : List D) : meOk "count" (.tup xs) = true := by
  unfold meOk
  rw [decide_eq_true (rfl : ("count" : Str) = "count")]
  rfl
theorem me_rest (is : List Itm) : meD "count" (.tup (is.map Itm.d)) [.tup [.str "rest"]] = some (.int (is.countP Itm.isRest), false) := by
  unfold meD
  rw [if_pos rfl]
  show (if (D.plain 60 (.tup (is.map Itm.d)) && D.plain 60 (.tup [.str "rest"])) = true then _ else none) = _
  rw [if_pos, rest_count]
  have h1 : D.plain 60 (.tup (is.map Itm.d)) = true := by
    rw [D.plain]
    refine plains_all fun x hx => ?_
    obtain ⟨i, _, rfl⟩ := List.mem_map.mp hx
    exact i.pl 57
  rw [h1]
  simp [D.plain, D.plains]
abbrev P_rule : (List D → Option FR) → Prop := fun sem => ∀ r : Rul, r.Ok → sem [r.d] = some (.ok (.bl true) .non)
theorem plain_tests (ts : List Tst) : D.plain 60 (.tup (ts.map Tst.d)) = true := by
  rw [D.plain]
  refine plains_all fun x hx => ?_
  obtain ⟨i, _, rfl⟩ := List.mem_map.mp hx
  exact i.pl 57
theorem is_rule_ok (T : Tb) (g : Gls T) (ht : Has T "is_test" 2 none P_test) (hi : Has T "is_item" 3 none P_item) : P_rule (runDf T df_is_rule) := by
  obtain ⟨F, e1, e2, e3, e4⟩ := ht
  obtain ⟨K, k1, k2, k3, k4⟩ := hi
  intro r ok
  obtain ⟨f, wide, b, mk⟩ := r
  obtain ⟨f2, b2, shut, tests, m1, m4, items, rests, restl⟩ := ok
  dsimp only at f2 b2 shut tests m1 m4 items rests restl
  have en : enumD 0 ((f ++ b).map Tst.d) = ((f ++ b).zipIdx 0).map fun p => .tup [.int (p.2 : Nat), p.1.d] := enum_map _ 0 _
  have hlen : ((f ++ b).map Tst.d).length = f.length + b.length := by simp
  have hadd : f.map Tst.d ++ b.map Tst.d = (f ++ b).map Tst.d := by simp
  have mr := me_rest mk
  have mo := me_count (mk.map Itm.d)
  have q1 := eq_nil (plain_tests b)
  have q2 := eq_nil (plain_tests f)
  have lf : (f.map Tst.d).length = f.length := by simp
  have lb : (b.map Tst.d).length = b.length := by simp
  have lm : (mk.map Itm.d).length = mk.length := by simp
  have ie1 : (b.map Tst.d).isEmpty = b.isEmpty := by cases b <;> rfl
  have ie2 : (f.map Tst.d).isEmpty = f.isEmpty := by cases f <;> rfl
  rw [ie1] at q1
  rw [ie2] at q2
  unfold runDf df_is_rule Rul.d
  dsimp only
  have l2 : ∀ thing, lcGo (.many [8, 7]) (evTs T []) (evE T (.call "is_test" [.v 7, .v 8])) ((((f ++ b).zipIdx 0).map fun p => .tup [.int (p.2 : Nat), p.1.d])) []
      [.val thing, .val (.tup ((f ++ b).map Tst.d)), .no, .val (.tup (f.map Tst.d)), .val (.bl wide), .val (.tup (b.map Tst.d)), .val (.tup (mk.map Itm.d)), .no, .no] = .ok (((f ++ b).zipIdx 0).map fun p => .bl (Tst.ok p.2 p.1))
      [.val thing, .val (.tup ((f ++ b).map Tst.d)), .no, .val (.tup (f.map Tst.d)), .val (.bl wide), .val (.tup (b.map Tst.d)), .val (.tup (mk.map Itm.d)), .no, .no] := by
    intro thing
    rw [lcGo_mapP _ (fun p => .bl (Tst.ok p.2 p.1)), List.nil_append]
    intro p hp
    refine ⟨_, false, rfl, xTs_nil, ?_, rfl⟩
    simp [bin_addT, bin_addL, allD', e1, e2, e3, e4]
  have l3 : ∀ thing, lcGo (.one 7) (evTs T []) (evE T (.call "is_item" [.v 7, .bi "len" [.v 1], .v 4])) (mk.map Itm.d) []
      [.val thing, .val (.tup ((f ++ b).map Tst.d)), .no, .val (.tup (f.map Tst.d)), .val (.bl wide), .val (.tup (b.map Tst.d)), .val (.tup (mk.map Itm.d)), .no, .no] = .ok (mk.map fun i => .bl (i.ok (f.length + b.length) wide))
      [.val thing, .val (.tup ((f ++ b).map Tst.d)), .no, .val (.tup (f.map Tst.d)), .val (.bl wide), .val (.tup (b.map Tst.d)), .val (.tup (mk.map Itm.d)), .no, .no] := by
    intro thing
    rw [lcGo_mapP _ (fun i => .bl (i.ok (f.length + b.length) wide)), List.nil_append]
    intro p hp
    have hq := k4 p (f.length + b.length) wide
    rw [Int.natCast_add] at hq
    refine ⟨_, false, rfl, xTs_nil, ?_, rfl⟩
    simp [bin_addT, bin_addL, allD', k1, k2, k3, hq]
  have a2 : allD' [.lst (((f ++ b).zipIdx 0).map fun p => .bl (Tst.ok p.2 p.1))] = some (.bl true, false) := by
    rw [all_map]
    have := tests_zip 0 (f ++ b)
    rw [List.all_map, tests] at this
    have h' : ((f ++ b).zipIdx 0).all (fun p => Tst.ok p.2 p.1) = true := this
    rw [h']
  have a3 : allD' [.lst (mk.map fun i => .bl (i.ok (f.length + b.length) wide))] = some (.bl true, false) := by
    rw [all_map, List.all_eq_true.mpr items]
  generalize ((f ++ b).zipIdx 0).map (fun p => D.tup [.int (p.2 : Nat), p.1.d]) = E2 at en l2
  generalize ((f ++ b).zipIdx 0).map (fun p => D.bl (Tst.ok p.2 p.1)) = L2 at l2 a2
  generalize mk.map (fun i => D.bl (i.ok (f.length + b.length) wide)) = L3 at l3 a3
  generalize (f ++ b).map Tst.d = TS at en hlen hadd l2 l3
  generalize f.map Tst.d = TF at hadd q2 lf l2 l3 ⊢
  generalize b.map Tst.d = TB at hadd q1 lb l2 l3 ⊢
  generalize mk.map Itm.d = TM at mr mo lm l3 l2 ⊢
  have c1 : ((f.length : Int) ≤ 2) := by omega
  have c2 : ((b.length : Int) ≤ 2) := by omega
  have c3 : (1 ≤ (mk.length : Int)) := by omega
  have c4 : ((mk.length : Int) ≤ 4) := by omega
  have c5 : ((mk.countP Itm.isRest : Nat) : Int) ≤ 1 := by omega
  have c6 : ((mk.countP Itm.isRest : Nat) : Int) < mk.length := by omega
  have c7 : ¬ ((2 : Int) < f.length) := by omega
  have c8 : ¬ ((2 : Int) < b.length) := by omega
  have c9 : f.length + b.length ≤ 16777216 := by omega
  rw [step_next (st' := [.val (.tup [.tup TF, .bl wide, .tup TB, .tup TM]), .no, .no, .no, .no, .no, .no, .no, .no]) (by simp [bin_addT, bin_addL, eqD, D.eqOk, D.plain, D.eqv])]
  rw [step_next (st' := [.val (.tup [.tup TF, .bl wide, .tup TB, .tup TM]), .no, .no, .val (.tup TF), .val (.bl wide), .val (.tup TB), .val (.tup TM), .no, .no]) (by simp [bin_addT, bin_addL])]
  rw [step_next (st' := [.val (.tup [.tup TF, .bl wide, .tup TB, .tup TM]), .no, .no, .val (.tup TF), .val (.bl wide), .val (.tup TB), .val (.tup TM), .no, .no]) (by simp [bin_addT, bin_addL, allD', lcE, itemsOf, seqOf, lcGo, bls, g.side, lf, lb, c7, c8])]
  rw [step_next (st' := [.val (.tup [.tup TF, .bl wide, .tup TB, .tup TM]), .val (.tup TS), .no, .val (.tup TF), .val (.bl wide), .val (.tup TB), .val (.tup TM), .no, .no]) (by simp [bin_addT, bin_addL, lf, lb, c9, hadd])]
  rw [step_next (st' := [.val (.tup [.tup TF, .bl wide, .tup TB, .tup TM]), .val (.tup TS), .no, .val (.tup TF), .val (.bl wide), .val (.tup TB), .val (.tup TM), .no, .no]) (by
    cases wide with
    | true => simp [bin_addT, bin_addL, lcE, itemsOf, pairOf, en, l2, a2]
    | false =>
      obtain ⟨hb, hf⟩ := shut rfl
      have hf' : f.isEmpty = false := by simp [hf]
      have hb' : b.isEmpty = true := by simp [hb]
      simp [bin_addT, bin_addL, lcE, itemsOf, pairOf, en, l2, a2, q1, q2, hf', hb'])]
  rw [step_next (st' := [.val (.tup [.tup TF, .bl wide, .tup TB, .tup TM]), .val (.tup TS), .no, .val (.tup TF), .val (.bl wide), .val (.tup TB), .val (.tup TM), .no, .no]) (by simp [bin_addT, bin_addL, lcE, itemsOf, seqOf, l3, a3, lm, c3, c4, g.items])]
  rw [step_next (st' := [.val (.tup [.tup TF, .bl wide, .tup TB, .tup TM]), .val (.tup TS), .val (.int (mk.countP Itm.isRest : Nat)), .val (.tup TF), .val (.bl wide), .val (.tup TB), .val (.tup TM), .no, .no]) (by simp [bin_addT, bin_addL, mr, mo])]
  rw [step_ret (d := .bl true) (st' := [.val (.tup [.tup TF, .bl wide, .tup TB, .tup TM]), .val (.tup TS), .val (.int (mk.countP Itm.isRest : Nat)), .val (.tup TF), .val (.bl wide), .val (.tup TB), .val (.tup TM), .no, .no]) (by simp [bin_addT, bin_addL, lm, c5, c6])]
  rfl
end Nm
set_option maxRecDepth 100000
set_option maxHeartbeats 4000000
namespace Nm
open PySem
def scD (s : List Rul) : D := .tup (s.map Rul.d)
structure ScOk (s : List Rul) : Prop where
  len : s.length ≤ 4
  ok : ∀ r ∈ s, r.Ok
abbrev P_script : (List D → Option FR) → Prop := fun sem => ∀ s : List Rul, ScOk s → sem [scD s] = some (.ok (.bl true) .non)
theorem is_script_ok (T : Tb) (g : Gls T) (hr : Has T "is_rule" 1 none P_rule) : P_script (runDf T df_is_script) := by
  obtain ⟨F, e1, e2, e3, e4⟩ := hr
  intro s ok
  unfold runDf df_is_script scD
  have ha : allD' [.lst (s.map fun _ => .bl true)] = some (.bl true, false) := by
    rw [all_map (fun _ => true)]
    simp
  have hlen : (s.map Rul.d).length = s.length := by simp
  have h4 : (s.length : Int) ≤ 4 := by have := ok.len; omega
  simp [h4, g.rules]
  rw [lcE_map Rul.d (fun _ => .bl true) s (by rfl)]
  · generalize s.map (fun _ => D.bl true) = L at ha
    simp [ha]
  · intro r hr
    have hq := e4 r (ok.ok r hr)
    refine ⟨_, false, rfl, xTs_nil, ?_, rfl⟩
    simp [e1, e2, e3, hq]
abbrev P_needS : (List D → Option FR) → Prop := fun sem => ∀ s : List Rul, ScOk s → sem [scD s] = some (.ok .non .non)
theorem need_script_ok (T : Tb) (hr : Has T "is_script" 1 none P_script) : P_needS (runDf T df_need_script) := by
  obtain ⟨F, e1, e2, e3, e4⟩ := hr
  intro s ok
  have hq := e4 s ok
  unfold runDf df_need_script
  simp [e1, e2, e3, hq]
theorem name_true {n : List Str} (h : NmOk n) : (decide (1 ≤ (n.length : Int)) && (decide ((n.length : Int) ≤ 30) && n.all wordB)) = true := by
  obtain ⟨h1, h2, h3⟩ := h
  have a : n.all wordB = true := List.all_eq_true.mpr h3
  rw [a, decide_eq_true (by omega), decide_eq_true (by omega)]
  rfl
abbrev P_needN : (List D → Option FR) → Prop := fun sem => ∀ n : List Str, NmOk n → sem [nmD n] = some (.ok .non .non)
theorem need_name_ok (T : Tb) (hr : Has T "is_name" 1 none P_name) : P_needN (runDf T df_need_name) := by
  obtain ⟨F, e1, e2, e3, e4⟩ := hr
  intro n ok
  have hq := e4 n
  rw [name_true ok] at hq
  unfold runDf df_need_name
  simp [e1, e2, e3, hq]
/-! ### places -/
def spots (f b n : Nat) : List Nat := List.range f ++ (List.range b).map fun k => n - b + k
def fitsLen (r : Rul) (n : Nat) : Bool := decide (r.fronts.length + r.backs.length ≤ n) && (r.wide || decide (n ≤ r.fronts.length + r.backs.length))
def nums (ks : List Nat) : List D := ks.map fun k => .int (k : Nat)
theorem rg1 {j : Int} (h : 0 ≤ j) (h' : j ≤ 16777216) : itemsOf .range [.int j] = some (nums (List.range j.toNat)) := by
  show (if intOk j && decide (j.toNat ≤ LIM) then some (rangeD 0 j.toNat) else none) = _
  have : intOk j = true := by unfold intOk; rw [decide_eq_true (by omega)]
  rw [this, decide_eq_true (by show j.toNat ≤ 16777216; omega), Bool.and_true, if_pos rfl]
  unfold rangeD nums
  congr 1
  apply List.map_congr_left
  intro k hk
  simp
theorem rg2 {i j : Int} (h0 : 0 ≤ i) (h : i ≤ j) (h' : j ≤ 16777216) : itemsOf .range [.int i, .int j] = some (nums ((List.range (j - i).toNat).map fun k => i.toNat + k)) := by
  show (if intOk i && intOk j && decide ((j - i).toNat ≤ LIM) then some (rangeD i (j - i).toNat) else none) = _
  have : intOk j = true := by unfold intOk; rw [decide_eq_true (by omega)]
  have t : intOk i = true := by unfold intOk; rw [decide_eq_true (by omega)]
  rw [this, t, decide_eq_true (by show (j - i).toNat ≤ 16777216; omega), Bool.and_true, Bool.and_true, if_pos rfl]
  unfold rangeD nums
  rw [List.map_map]
  congr 1
  apply List.map_congr_left
  intro k hk
  show D.int _ = D.int _
  congr 1
  show i + (k : Int) = ((i.toNat + k : Nat) : Int)
  omega
theorem len_nums (ks : List Nat) : (nums ks).length = ks.length := by simp [nums]
abbrev P_places : (List D → Option FR) → Prop := fun sem => ∀ (r : Rul) (n : Nat), r.fronts.length ≤ 2 → r.backs.length ≤ 2 → n ≤ 100000 → sem [r.d, .int n] = some (.ok (if fitsLen r n then .lst (nums (spots r.fronts.length r.backs.length n)) else .non) .non)
theorem places_ok (T : Tb) : P_places (runDf T df_places) := by
  intro r n f2 b2 hn
  obtain ⟨f, wide, b, mk⟩ := r
  dsimp only at f2 b2
  unfold runDf df_places Rul.d fitsLen
  dsimp only
  by_cases h1 : f.length + b.length ≤ n
  · have h1' : ¬ ((n : Int) < (f.length : Int) + b.length) := by omega
    have r1 := rg1 (j := (f.length : Int)) (by omega) (by omega)
    have r2 := rg2 (i := (n : Int) - b.length) (j := n) (by omega) (by omega) (by omega)
    have hs : nums (List.range (f.length : Int).toNat) ++ nums ((List.range ((n : Int) - ((n : Int) - b.length)).toNat).map fun k => ((n : Int) - b.length).toNat + k) = nums (spots f.length b.length n) := by
      have e : ((n : Int) - ((n : Int) - b.length)).toNat = b.length := by omega
      have e' : ((n : Int) - b.length).toNat = n - b.length := by omega
      rw [e, e', Int.toNat_natCast]
      unfold spots nums
      rw [List.map_append]
    have hl : (nums (List.range (f.length : Int).toNat)).length + (nums ((List.range ((n : Int) - ((n : Int) - b.length)).toNat).map fun k => ((n : Int) - b.length).toNat + k)).length ≤ 16777216 := by
      simp [len_nums]
      omega
    generalize nums (List.range (f.length : Int).toNat) = R1 at r1 hs hl
    generalize nums ((List.range ((n : Int) - ((n : Int) - b.length)).toNat).map fun k => ((n : Int) - b.length).toNat + k) = R2 at r2 hs hl
    cases wide with
    | true => simp [h1', h1, r1, r2, bin_addL, hl, hs]
    | false =>
      by_cases h2 : n ≤ f.length + b.length
      · have h2' : ¬ ((f.length : Int) + b.length < n) := by omega
        simp [h1', h1, h2, h2', r1, r2, bin_addL, hl, hs]
      · have h2' : ((f.length : Int) + b.length < n) := by omega
        simp [h1', h1, h2, h2', r1, r2, bin_addL, hl, hs]
  · have h1' : ((n : Int) < (f.length : Int) + b.length) := by omega
    simp [h1, h1']
def passB (seen : List Str) (t : Tst) (x : Str) : Bool := match t with
  | .is w => x == w
  | .any => true
  | .non ws => !ws.contains x
  | .like k => x == seen.getD k ""
abbrev P_passes : (List D → Option FR) → Prop := fun sem => ∀ (t : Tst) (x : Str) (seen : List Str), (∀ k, t = .like k → k < seen.length) → sem [t.d, .str x, .lst (sds seen)] = some (.ok (.bl (passB seen t x)) .non)
theorem flat_sds (ws : List Str) : (sds ws).all D.flat = true := by
  rw [List.all_eq_true]
  intro x hx
  obtain ⟨w, _, rfl⟩ := List.mem_map.mp hx
  rfl
theorem inD_sds (x : Str) : ∀ ws : List Str, inD (.str x) (sds ws) = ws.contains x
  | [] => rfl
  | w :: ws => by
    show (D.eqv (.str w) (.str x) || inD (.str x) (sds ws)) = _
    rw [inD_sds x ws, D.eqv, List.contains_cons]
    congr 1
    rw [Bool.eq_iff_iff]
    constructor
    · intro h
      rw [eq_of_beq h]
      exact beq_self_eq_true x
    · intro h
      rw [eq_of_beq h]
      exact beq_self_eq_true w
theorem passes_ok (T : Tb) : P_passes (runDf T df_passes) := by
  intro t x seen hk
  unfold runDf df_passes passB
  cases t with
  | is w => simp [Tst.d]
  | any => simp [Tst.d]
  | non ws =>
    have hc : cmpD .NotIn (.str x) (.tup (sds ws)) = some (!ws.contains x) := by
      rw [cmpD, flat_sds, inD_sds]
      rfl
    simp [Tst.d, hc]
  | like k =>
    have h := hk k rfl
    have hg : L2.atI (sds seen) (k : Int) = some (.str (seen.getD k "")) := by
      rw [atN _ _ (by omega), Int.toNat_natCast]
      simp [sds, h]
    simp [Tst.d, hg]
end Nm
set_option maxRecDepth 100000
set_option maxHeartbeats 4000000
namespace Nm
open PySem
@[simp] theorem at2 {α : Type} (x y z : α) (xs : List α) : L2.atI (x :: y :: z :: xs) 2 = some z := by
  rw [atN _ _ (by decide)]; rfl
@[simp] theorem at3 {α : Type} (x y z w : α) (xs : List α) : L2.atI (x :: y :: z :: w :: xs) 3 = some w := by
  rw [atN _ _ (by decide)]; rfl
theorem spots_lt {f b n k : Nat} (h : f + b ≤ n) (hk : k ∈ spots f b n) : k < n := by
  unfold spots at hk
  rw [List.mem_append] at hk
  rcases hk with hk | hk
  · have := List.mem_range.mp hk; omega
  · obtain ⟨j, hj, rfl⟩ := List.mem_map.mp hk
    have := List.mem_range.mp hj; omega
theorem spots_len (f b n : Nat) : (spots f b n).length = f + b := by simp [spots]
def seenOf (r : Rul) (n : List Str) : List Str := (spots r.fronts.length r.backs.length n.length).map fun k => n.getD k ""
theorem seen_len (r : Rul) (n : List Str) : (seenOf r n).length = r.fronts.length + r.backs.length := by simp [seenOf, spots_len]
def fitB (r : Rul) (n : List Str) : Bool := fitsLen r n.length && (((r.fronts ++ r.backs).zip (seenOf r n)).all fun p => passB (seenOf r n) p.1 p.2)
theorem fitsLen_le {r : Rul} {n : Nat} (h : fitsLen r n = true) : r.fronts.length + r.backs.length ≤ n := by
  unfold fitsLen at h
  exact of_decide_eq_true (Bool.and_eq_true_iff.mp h).1
theorem testsOk_like : ∀ {ts : List Tst} {n k : Nat}, testsOk n ts = true → Tst.like k ∈ ts → k < n + ts.length
  | [], _, _, _, h => by cases h
  | t :: ts, n, k, h, hm => by
    rw [testsOk] at h
    obtain ⟨h1, h2⟩ := Bool.and_eq_true_iff.mp h
    rcases List.mem_cons.mp hm with rfl | hm
    · have := of_decide_eq_true h1
      rw [List.length_cons]; omega
    · have := testsOk_like h2 hm
      rw [List.length_cons]; omega
abbrev P_fitting : (List D → Option FR) → Prop := fun sem => ∀ (r : Rul) (n : List Str), r.Ok → n.length ≤ 100000 → sem [r.d, nmD n] = some (.ok (.bl (fitB r n)) .non)
theorem fitting_ok (T : Tb) (hp : Has T "places" 2 none P_places) (hq : Has T "passes" 3 none P_passes) : P_fitting (runDf T df_fitting) := by
  obtain ⟨F, e1, e2, e3, e4⟩ := hp
  obtain ⟨G, g1, g2, g3, g4⟩ := hq
  intro r n ok hn
  have hpl := e4 r n.length ok.f2 ok.b2 hn
  unfold runDf df_fitting fitB
  cases hfl : fitsLen r n.length with
  | false =>
    rw [hfl] at hpl
    simp [nmD, sds_len, e1, e2, e3, hpl]
  | true =>
    rw [hfl] at hpl
    have hle := fitsLen_le hfl
    have hsl := seen_len r n
    have hsp : ∀ k, k ∈ spots r.fronts.length r.backs.length n.length → L2.atI (sds n) (k : Int) = some (.str (n.getD k "")) := fun k hk => by
      have := spots_lt hle hk
      rw [atN _ _ (by omega), Int.toNat_natCast]
      simp [sds, this]
    have hadd : r.fronts.map Tst.d ++ r.backs.map Tst.d = (r.fronts ++ r.backs).map Tst.d := by simp
    have hz : zipD ((r.fronts ++ r.backs).map Tst.d) (sds (seenOf r n)) = ((r.fronts ++ r.backs).zip (seenOf r n)).map fun p => .tup [p.1.d, .str p.2] := zip_map _ _ _ _
    have hlen : r.fronts.length + r.backs.length ≤ 16777216 := by have := ok.f2; have := ok.b2; omega
    simp [nmD, sds_len, e1, e2, e3, hpl]
    rw [lcE_map (fun k : Nat => .int (k : Nat)) (fun k => .str (n.getD k "")) (spots r.fronts.length r.backs.length n.length) (by rfl)]
    · have hs : (spots r.fronts.length r.backs.length n.length).map (fun k => D.str (n.getD k "")) = sds (seenOf r n) := by
        simp [sds, seenOf]
      rw [hs]
      simp [Rul.d, bin_addT, hlen]
      rw [lcE_map (fun p : Tst × Str => .tup [p.1.d, .str p.2]) (fun p => .bl (passB (seenOf r n) p.1 p.2)) ((r.fronts ++ r.backs).zip (seenOf r n)) (by rw [hadd]; exact congrArg some hz)]
      · simp [bls_map, all_map]
      · intro p hp
        have hk : ∀ k, p.1 = .like k → k < (seenOf r n).length := fun k e => by
          have h1 := (List.of_mem_zip hp).1
          rw [e] at h1
          have := testsOk_like ok.tests h1
          rw [List.length_append] at this
          omega
        have := g4 p.1 p.2 (seenOf r n) hk
        refine ⟨_, false, rfl, xTs_nil, ?_, rfl⟩
        simp [g1, g2, g3, this]
    · intro k hk
      refine ⟨_, false, rfl, xTs_nil, ?_, rfl⟩
      simp [hsp k hk]
/-! ### making -/
def mkD (r : Rul) (xs : List D) : List D := r.making.flatMap fun i => match i with
  | .word w => [.str w]
  | .field k => [xs.getD ((spots r.fronts.length r.backs.length xs.length).getD k 0) .non]
  | .rest => (xs.take (xs.length - r.backs.length)).drop r.fronts.length
theorem mkD_len1 (r : Rul) (xs : List D) (i : Itm) : (match i with
  | .word w => [.str w]
  | .field k => [xs.getD ((spots r.fronts.length r.backs.length xs.length).getD k 0) .non]
  | .rest => (xs.take (xs.length - r.backs.length)).drop r.fronts.length : List D).length ≤ 1 + xs.length := by
  cases i with
  | word => simp
  | field => simp
  | rest => simp; omega
theorem flat_len {α : Type} (g : α → List D) (n : Nat) : ∀ xs : List α, (∀ x, (g x).length ≤ n) → (xs.flatMap g).length ≤ xs.length * n
  | [], _ => by simp
  | x :: xs, h => by
    rw [List.flatMap_cons, List.length_append, List.length_cons, Nat.add_mul]
    have := flat_len g n xs h
    have := h x
    omega
abbrev P_making : (List D → Option FR) → Prop := fun sem => ∀ (r : Rul) (xs : List D), r.Ok → xs.length ≤ 100000 → fitsLen r xs.length = true → sem [r.d, .tup xs] = some (.ok (.tup (mkD r xs)) .non)
theorem making_ok (T : Tb) (hp : Has T "places" 2 none P_places) : P_making (runDf T df_making_of) := by
  obtain ⟨F, e1, e2, e3, e4⟩ := hp
  intro r xs ok hn hfl
  have hpl := e4 r xs.length ok.f2 ok.b2 hn
  rw [hfl] at hpl
  have hle := fitsLen_le hfl
  unfold runDf df_making_of
  simp [e1, e2, e3, hpl]
  simp [Rul.d, itemsOf, seqOf]
  have hall : 0 + (mkD r xs).length ≤ LIM := by
    have := flat_len _ (1 + xs.length) r.making (mkD_len1 r xs)
    have h4 := ok.m4
    have : r.making.length * (1 + xs.length) ≤ 4 * (1 + xs.length) := Nat.mul_le_mul_right _ h4
    unfold mkD
    show _ ≤ 16777216
    omega
  rw [forGo_acc0 Itm.d 3 (fun i => match i with
      | .word w => [.str w]
      | .field k => [xs.getD ((spots r.fronts.length r.backs.length xs.length).getD k 0) .non]
      | .rest => (xs.take (xs.length - r.backs.length)).drop r.fronts.length) r.making [] rfl hall]
  · simp [mkD]
  · intro acc i hi hl
    have hl : acc.length + _ ≤ 16777216 := hl
    cases i with
    | word w =>
      have hm := mut_app acc (.str w) (by simp at hl; show _ < 16777216; omega)
      refine ⟨_, rfl, ?_⟩
      simp [Itm.d, hm]
    | field k =>
      have hk : k < r.fronts.length + r.backs.length := of_decide_eq_true (ok.items _ hi)
      have hk' : k < (spots r.fronts.length r.backs.length xs.length).length := by rw [spots_len]; exact hk
      have h1 : L2.atI (nums (spots r.fronts.length r.backs.length xs.length)) (k : Int) = some (.int ((spots r.fronts.length r.backs.length xs.length).getD k 0 : Nat)) := by
        rw [atN _ _ (by omega), Int.toNat_natCast]
        simp [nums, hk']
      have h2 : (spots r.fronts.length r.backs.length xs.length).getD k 0 < xs.length := by
        refine spots_lt hle ?_
        rw [List.getD_eq_getElem?_getD, List.getElem?_eq_getElem hk', Option.getD_some]
        exact List.getElem_mem hk'
      have hl : acc.length + 1 ≤ 16777216 := hl
      refine ⟨_, rfl, ?_⟩
      dsimp only
      generalize (spots r.fronts.length r.backs.length xs.length).getD k 0 = q at h1 h2 ⊢
      have h3 : L2.atI xs (q : Int) = some (xs.getD q .non) := by
        rw [atN _ _ (by omega), Int.toNat_natCast]
        simp [h2]
      have hm := mut_app acc (xs.getD q .non) (by show _ < 16777216; omega)
      generalize xs.getD q .non = z at h3 hm ⊢
      simp [Itm.d, h1, h3, hm]
    | rest =>
      have hc : cutD xs (some (r.fronts.length : Int)) (some ((xs.length : Int) - r.backs.length)) = (xs.take (xs.length - r.backs.length)).drop r.fronts.length := by
        rw [cut_mid _ (by omega) (by omega) (by omega), Int.toNat_natCast, show ((xs.length : Int) - r.backs.length).toNat = xs.length - r.backs.length by omega]
      have hl : acc.length + ((xs.take (xs.length - r.backs.length)).drop r.fronts.length).length ≤ 16777216 := hl
      generalize (xs.take (xs.length - r.backs.length)).drop r.fronts.length = z at hc hl
      have hm := mut_extT acc z hl
      refine ⟨_, rfl, ?_⟩
      simp [Itm.d, hc, hm]
end Nm
set_option maxRecDepth 100000
set_option maxHeartbeats 4000000
namespace Nm
open PySem
def mkN (r : Rul) (n : List Str) : List Str := r.making.flatMap fun i => match i with
  | .word w => [w]
  | .field k => [n.getD ((spots r.fronts.length r.backs.length n.length).getD k 0) ""]
  | .rest => (n.take (n.length - r.backs.length)).drop r.fronts.length
theorem getD_sds (n : List Str) (k : Nat) (h : k < n.length) : (sds n).getD k .non = .str (n.getD k "") := by simp [sds, h]
theorem mkD_sds (r : Rul) (n : List Str) (ok : r.Ok) (h : fitsLen r n.length = true) : mkD r (sds n) = sds (mkN r n) := by
  have hle := fitsLen_le h
  unfold mkD mkN
  have : ∀ is : List Itm, (∀ i ∈ is, i ∈ r.making) → (is.flatMap fun i => match i with
    | .word w => [.str w]
    | .field k => [(sds n).getD ((spots r.fronts.length r.backs.length (sds n).length).getD k 0) .non]
    | .rest => ((sds n).take ((sds n).length - r.backs.length)).drop r.fronts.length : List D) = sds (is.flatMap fun i => match i with
    | .word w => [w]
    | .field k => [n.getD ((spots r.fronts.length r.backs.length n.length).getD k 0) ""]
    | .rest => (n.take (n.length - r.backs.length)).drop r.fronts.length) := by
    intro is
    induction is with
    | nil => intro _; rfl
    | cons i is ih =>
      intro hm
      rw [List.flatMap_cons, List.flatMap_cons, ih fun j hj => hm j (List.mem_cons_of_mem _ hj)]
      have happ : ∀ a b : List Str, sds (a ++ b) = sds a ++ sds b := fun a b => by simp [sds]
      rw [happ]
      congr 1
      cases i with
      | word w => rfl
      | field k =>
        have hk : k < r.fronts.length + r.backs.length := of_decide_eq_true (ok.items _ (hm _ List.mem_cons_self))
        have hk' : k < (spots r.fronts.length r.backs.length n.length).length := by rw [spots_len]; exact hk
        have h2 : (spots r.fronts.length r.backs.length n.length).getD k 0 < n.length := by
          refine spots_lt hle ?_
          rw [List.getD_eq_getElem?_getD, List.getElem?_eq_getElem hk', Option.getD_some]
          exact List.getElem_mem hk'
        dsimp only
        rw [sds_len, getD_sds n _ h2]
        rfl
      | rest =>
        dsimp only
        rw [sds_len, sds_take, sds_drop]
  exact this r.making fun _ h => h
abbrev P_makingN : (List D → Option FR) → Prop := fun sem => ∀ (r : Rul) (n : List Str), r.Ok → n.length ≤ 100000 → fitsLen r n.length = true → sem [r.d, nmD n] = some (.ok (nmD (mkN r n)) .non)
theorem makingN {T : Tb} (h : Has T "making_of" 2 none P_making) : Has T "making_of" 2 none P_makingN := by
  obtain ⟨F, e1, e2, e3, e4⟩ := h
  refine ⟨F, e1, e2, e3, fun r n ok hn hf => ?_⟩
  have := e4 r (sds n) ok (by rw [sds_len]; exact hn) (by rw [sds_len]; exact hf)
  rw [mkD_sds r n ok hf] at this
  exact this
theorem fit_len {r : Rul} {n : List Str} (h : fitB r n = true) : fitsLen r n.length = true := (Bool.and_eq_true_iff.mp h).1
def firstK (n : List Str) : Nat → List Rul → Option Nat
  | _, [] => none
  | k, r :: s => if fitB r n then some k else firstK n (k + 1) s
def turnB (s : List Rul) (n : List Str) : List Str := match s.find? fun r => fitB r n with
  | some r => mkN r n
  | none => n
def optN : Option Nat → D
  | some k => .int k
  | none => .non
theorem firstK_find (n : List Str) : ∀ (s : List Rul) (k : Nat), (match firstK n k s with
    | some j => k ≤ j ∧ ∃ r, s[j - k]? = some r ∧ fitB r n = true ∧ (s.find? fun r => fitB r n) = some r
    | none => (s.find? fun r => fitB r n) = none)
  | [], k => rfl
  | r :: s, k => by
    rw [firstK, List.find?_cons]
    cases h : fitB r n with
    | true => exact ⟨Nat.le_refl k, r, by rw [Nat.sub_self]; rfl, h, rfl⟩
    | false =>
      rw [if_neg Bool.false_ne_true]
      have ih := firstK_find n s (k + 1)
      cases hf : firstK n (k + 1) s with
      | none => rw [hf] at ih; exact ih
      | some j =>
        rw [hf] at ih
        obtain ⟨h1, q, h2, h3, h4⟩ := ih
        refine ⟨by omega, q, ?_, h3, h4⟩
        rw [show j - k = (j - (k + 1)) + 1 by omega, List.getElem?_cons_succ]
        exact h2
theorem first_zip (n : List Str) : ∀ (s : List Rul) (k : Nat), (s.zipIdx k).findSome? (fun p => if fitB p.1 n then some (D.int (p.2 : Nat)) else none) = (firstK n k s).map fun j => .int (j : Nat)
  | [], _ => rfl
  | r :: s, k => by
    rw [List.zipIdx_cons, List.findSome?_cons, firstK]
    cases h : fitB r n with
    | true => rfl
    | false =>
      simp only [Bool.false_eq_true, if_false]
      exact first_zip n s (k + 1)
abbrev P_fits : (List D → Option FR) → Prop := fun sem => ∀ (r : Rul) (n : List Str), r.Ok → NmOk n → sem [r.d, nmD n] = some (.ok (.bl (fitB r n)) .non)
theorem fits_ok (T : Tb) (hr : Has T "is_rule" 1 none P_rule) (hn : Has T "need_name" 1 none P_needN) (hf : Has T "fitting" 2 none P_fitting) : P_fits (runDf T df_fits) := by
  obtain ⟨F, e1, e2, e3, e4⟩ := hr
  obtain ⟨G, g1, g2, g3, g4⟩ := hn
  obtain ⟨K, k1, k2, k3, k4⟩ := hf
  intro r n ok on
  have a := e4 r ok
  have b := g4 n on
  have c := k4 r n ok (by have := on.l2; omega)
  unfold runDf df_fits
  simp [e1, e2, e3, a, g1, g2, g3, b, k1, k2, k3, c]
def optM : Option (List Str) → D
  | some m => nmD m
  | none => .non
def madeO (r : Rul) (n : List Str) : Option (List Str) := if fitB r n then some (mkN r n) else none
abbrev P_makes : (List D → Option FR) → Prop := fun sem => ∀ (r : Rul) (n : List Str), r.Ok → NmOk n → sem [r.d, nmD n] = some (.ok (optM (madeO r n)) .non)
theorem makes_ok (T : Tb) (hf : Has T "fits" 2 none P_fits) (hm : Has T "making_of" 2 none P_makingN) : P_makes (runDf T df_makes) := by
  obtain ⟨F, e1, e2, e3, e4⟩ := hf
  obtain ⟨G, g1, g2, g3, g4⟩ := hm
  intro r n ok on
  have a := e4 r n ok on
  unfold runDf df_makes madeO
  cases h : fitB r n with
  | true =>
    rw [h] at a
    have b := g4 r n ok (by have := on.l2; omega) (fit_len h)
    simp [e1, e2, e3, a, g1, g2, g3, b, optM]
  | false =>
    rw [h] at a
    simp [e1, e2, e3, a, optM]
abbrev P_firstOf : (List D → Option FR) → Prop := fun sem => ∀ (s : List Rul) (n : List Str), ScOk s → n.length ≤ 100000 → sem [scD s, nmD n] = some (.ok (optN (firstK n 0 s)) .non)
theorem firstOf_ok (T : Tb) (hf : Has T "fitting" 2 none P_fitting) : P_firstOf (runDf T df_first_of) := by
  obtain ⟨F, e1, e2, e3, e4⟩ := hf
  intro s n ok hn
  unfold runDf df_first_of scD
  have en : enumD 0 (s.map Rul.d) = (s.zipIdx 0).map fun p => .tup [.int (p.2 : Nat), p.1.d] := enum_map _ 0 _
  simp [itemsOf, pairOf, en]
  have L := forGo_find (tg := .many [2, 3]) (body := evSs T [.ifs (.call "fitting" [.v 3, .v 1]) [.ret (.v 2)] [], .gh [] [2, 3]]) (st := [.val (.tup (s.map Rul.d)), .val (nmD n), .no, .no]) (fun p : Rul × Nat => .tup [.int (p.2 : Nat), p.1.d]) (fun p => if fitB p.1 n then some (D.int (p.2 : Nat)) else none) (s.zipIdx 0) (fun p hp => by
    have hr : p.1 ∈ s := by
      have := List.mem_zipIdx hp
      rw [this.2.2]
      exact List.getElem_mem _
    have q := e4 p.1 n (ok.ok _ hr) hn
    refine ⟨_, rfl, ?_⟩
    cases h : fitB p.1 n with
    | true =>
      rw [h] at q
      simp [e1, e2, e3, q]
    | false =>
      rw [h] at q
      simp [e1, e2, e3, q])
  rw [first_zip] at L
  cases h : firstK n 0 s with
  | none =>
    rw [h] at L
    simp only [Option.map_none] at L
    simp [L, optN]
  | some j =>
    rw [h] at L
    obtain ⟨st2, L⟩ := L
    simp [L, optN]
abbrev P_turnedOf : (List D → Option FR) → Prop := fun sem => ∀ (s : List Rul) (n : List Str), ScOk s → n.length ≤ 100000 → sem [scD s, nmD n] = some (.ok (nmD (turnB s n)) .non)
theorem turnedOf_ok (T : Tb) (hf : Has T "first_of" 2 none P_firstOf) (hm : Has T "making_of" 2 none P_makingN) : P_turnedOf (runDf T df_turned_of) := by
  obtain ⟨F, e1, e2, e3, e4⟩ := hf
  obtain ⟨G, g1, g2, g3, g4⟩ := hm
  intro s n ok hn
  have a := e4 s n ok hn
  have fs := firstK_find n s 0
  unfold runDf df_turned_of turnB
  cases h : firstK n 0 s with
  | none =>
    rw [h] at a fs
    have fs : (s.find? fun r => fitB r n) = none := fs
    rw [fs]
    simp [e1, e2, e3, a, optN]
  | some j =>
    rw [h] at a fs
    obtain ⟨_, r, h2, h3, h4⟩ := fs
    rw [Nat.sub_zero] at h2
    rw [h4]
    have hr : r ∈ s := List.mem_of_getElem? h2
    have b := g4 r n (ok.ok r hr) hn (fit_len h3)
    have hx : L2.atI (s.map Rul.d) (j : Int) = some r.d := by
      rw [atN _ _ (by omega), Int.toNat_natCast, List.getElem?_map, h2]
      rfl
    simp [e1, e2, e3, a, optN]
    simp [scD, hx, g1, g2, g3, b]
abbrev P_first : (List D → Option FR) → Prop := fun sem => ∀ (s : List Rul) (n : List Str), ScOk s → NmOk n → sem [scD s, nmD n] = some (.ok (optN (firstK n 0 s)) .non)
theorem first_ok (T : Tb) (hs : Has T "need_script" 1 none P_needS) (hn : Has T "need_name" 1 none P_needN) (hf : Has T "first_of" 2 none P_firstOf) : P_first (runDf T df_first) := by
  obtain ⟨F, e1, e2, e3, e4⟩ := hs
  obtain ⟨G, g1, g2, g3, g4⟩ := hn
  obtain ⟨K, k1, k2, k3, k4⟩ := hf
  intro s n ok on
  have a := e4 s ok
  have b := g4 n on
  have c := k4 s n ok (by have := on.l2; omega)
  unfold runDf df_first
  simp [e1, e2, e3, a, g1, g2, g3, b, k1, k2, k3, c]
abbrev P_turned : (List D → Option FR) → Prop := fun sem => ∀ (s : List Rul) (n : List Str), ScOk s → NmOk n → sem [scD s, nmD n] = some (.ok (nmD (turnB s n)) .non)
theorem turned_ok (T : Tb) (hs : Has T "need_script" 1 none P_needS) (hn : Has T "need_name" 1 none P_needN) (hf : Has T "turned_of" 2 none P_turnedOf) : P_turned (runDf T df_turned) := by
  obtain ⟨F, e1, e2, e3, e4⟩ := hs
  obtain ⟨G, g1, g2, g3, g4⟩ := hn
  obtain ⟨K, k1, k2, k3, k4⟩ := hf
  intro s n ok on
  have a := e4 s ok
  have b := g4 n on
  have c := k4 s n ok (by have := on.l2; omega)
  unfold runDf df_turned
  simp [e1, e2, e3, a, g1, g2, g3, b, k1, k2, k3, c]
end Nm
set_option maxRecDepth 100000
set_option maxHeartbeats 4000000
/-! What the laws draw. -/
namespace Nm
open PySem
abbrev tw (a b : Int) : D := .lst [.int a, .int b]
abbrev P_draw : (List D → Option FR) → Prop := fun sem => ∀ (ns : List Int) (a b many : Int), 0 ≤ a → 0 < many → many < 2 ^ 30 → ∃ r a' b', sem [.scr ns, tw a b, .int many] = some (.ok (.int r) (tw a' b')) ∧ 0 ≤ r ∧ r < many ∧ 0 ≤ a'
theorem draw_ok (T : Tb) : P_draw (runDf T df__law_draw) := fun ns a b many ha h1 h2 => draw_ok0 T ns a b many ha h1 h2
abbrev P_pick : (List D → Option FR) → Prop := fun sem => ∀ (ns : List Int) (a b : Int) (xs : List D), 0 ≤ a → xs ≠ [] → xs.length < 2 ^ 30 → ∃ x a' b', sem [.scr ns, tw a b, .lst xs] = some (.ok x (tw a' b')) ∧ x ∈ xs ∧ 0 ≤ a'
theorem pick_ok (T : Tb) (hd : Has T "_law_draw" 3 (some 1) P_draw) : P_pick (runDf T df__law_pick) := by
  obtain ⟨F, e1, e2, e3, e4⟩ := hd
  intro ns a b xs ha hx hl
  have hpos : 0 < (xs.length : Int) := by
    cases xs with
    | nil => exact absurd rfl hx
    | cons x xs => simp
  obtain ⟨r, a', b', e, h1, h2, h3⟩ := e4 ns a b xs.length ha hpos (by omega)
  have hr : r.toNat < xs.length := by omega
  have hat : L2.atI xs r = some xs[r.toNat] := by rw [atN _ _ h1, List.getElem?_eq_getElem hr]
  refine ⟨xs[r.toNat], a', b', ?_, List.getElem_mem hr, h3⟩
  unfold runDf df__law_pick
  simp [e1, e2, e3, e, hat]
/-- drawn tests -/
def dTests : List Tst := [.is "a", .is "b", .any, .any, .non ["a"], .non ["a", "b"]]
def Tst.Dr (k : Nat) (t : Tst) : Prop := t ∈ dTests ∨ ∃ j, j < k ∧ t = .like j
theorem Tst.Dr.ok {k : Nat} {t : Tst} (h : t.Dr k) : t.ok k = true := by
  rcases h with h | ⟨j, hj, rfl⟩
  · unfold dTests at h
    simp only [List.mem_cons, List.not_mem_nil, or_false] at h
    rcases h with rfl | rfl | rfl | rfl | rfl | rfl
    · exact (by decide +kernel : Tst.ok 0 (.is "a") = true)
    · exact (by decide +kernel : Tst.ok 0 (.is "b") = true)
    · rfl
    · rfl
    · exact (by decide +kernel : Tst.ok 0 (.non ["a"]) = true)
    · exact (by decide +kernel : Tst.ok 0 (.non ["a", "b"]) = true)
  · exact decide_eq_true hj
abbrev P_ltest : (List D → Option FR) → Prop := fun sem => ∀ (ns : List Int) (a b : Int) (k : Nat), 0 ≤ a → k ≤ 1000 → ∃ (t : Tst) (a' b' : Int), sem [.scr ns, tw a b, .int k] = some (.ok t.d (tw a' b')) ∧ t.Dr k ∧ 0 ≤ a'
theorem rep2 (x : D) : binD .Mult (.lst [x]) (.int 2) = some (.lst [x, x], true) := by
  show (if (2 : Int).natAbs < 2 ^ 20 ∧ [x].length * (2 : Int).toNat ≤ LIM then some (D.lst (List.replicate (2 : Int).toNat [x]).flatten, true) else none) = _
  rw [if_pos ⟨by decide, by show 1 * 2 ≤ 16777216; decide⟩]
  rfl
theorem ltest_ok (T : Tb) (hd : Has T "_law_draw" 3 (some 1) P_draw) (hp : Has T "_law_pick" 3 (some 1) P_pick) : P_ltest (runDf T df__law_test) := by
  obtain ⟨F, e1, e2, e3, e4⟩ := hd
  obtain ⟨G, g1, g2, g3, g4⟩ := hp
  intro ns a b k ha hk
  by_cases h0 : k = 0
  · subst h0
    obtain ⟨x, a', b', e, h1, h2⟩ := g4 ns a b (dTests.map Tst.d) ha (by simp [dTests]) (by simp [dTests])
    obtain ⟨t, ht, rfl⟩ := List.mem_map.mp h1
    refine ⟨t, a', b', ?_, .inl ht, h2⟩
    unfold runDf df__law_test
    generalize t.d = z at e ⊢
    simp [dTests, Tst.d, sds] at e
    simp [g1, g2, g3, e]
  · obtain ⟨j, a1, b1, e, h1, h2, h3⟩ := e4 ns a b k ha (by omega) (by omega)
    obtain ⟨j, rfl⟩ := Int.eq_ofNat_of_zero_le h1
    obtain ⟨x, a', b', e', h1', h2'⟩ := g4 ns a1 b1 ((dTests ++ [Tst.like j, Tst.like j]).map Tst.d) h3 (by simp [dTests]) (by simp [dTests])
    obtain ⟨t, ht, rfl⟩ := List.mem_map.mp h1'
    have hpos : (0 : Int) < k := by omega
    have hm := fun xs h => mut_extL xs [(Tst.like j).d, (Tst.like j).d] h
    refine ⟨t, a', b', ?_, ?_, h2'⟩
    · unfold runDf df__law_test
      generalize t.d = z at e' ⊢
      simp [dTests, Tst.d, sds] at e' hm
      have hpos' : 0 < k := by omega
      simp [hpos', e1, e2, e3, e, rep2]
      rw [hm _ (by show 8 ≤ 16777216; decide)]
      simp [g1, g2, g3, e']
    · rw [List.mem_append] at ht
      rcases ht with ht | ht
      · exact .inl ht
      · simp at ht
        exact .inr ⟨j, by omega, ht⟩
/-- drawn items, drawn rules -/
def Itm.Dr (m : Nat) : Itm → Prop
  | .word w => w = "a" ∨ w = "b" ∨ w = "c"
  | .field k => k < m
  | .rest => False
structure Rul.Dr (side : Nat) (r : Rul) : Prop where
  ok : r.Ok
  wf : r.wide = true → r.fronts.length ≤ side ∧ r.backs.length ≤ side
  ts : ∀ t ∈ r.fronts ++ r.backs, ∃ k, t.Dr k
  is : ∀ i ∈ r.making, i = .rest ∨ i.Dr (r.fronts.length + r.backs.length)
  few : r.making.length ≤ 4
theorem testsOk_dr : ∀ (ts : List Tst) (k : Nat), (∀ (j : Nat) (t : Tst), ts[j]? = some t → t.Dr (k + j)) → testsOk k ts = true
  | [], _, _ => rfl
  | t :: ts, k, h => by
    rw [testsOk, (show t.ok k = true from (h 0 t rfl).ok), testsOk_dr ts (k + 1) fun j u e => by
      have := h (j + 1) u (by rw [List.getElem?_cons_succ]; exact e)
      rwa [show k + (j + 1) = k + 1 + j by omega] at this]
    rfl
theorem Itm.Dr.ok {m : Nat} {w : Bool} {i : Itm} (h : i.Dr m) : i.ok m w = true := by
  cases i with
  | word w =>
    have h : w = "a" ∨ w = "b" ∨ w = "c" := h
    rcases h with rfl | rfl | rfl
    · exact (by decide +kernel : wordB "a" = true)
    · exact (by decide +kernel : wordB "b" = true)
    · exact (by decide +kernel : wordB "c" = true)
  | field k => exact decide_eq_true h
  | rest => exact h.elim
theorem Itm.Dr.noRest {m : Nat} {i : Itm} (h : i.Dr m) : i.isRest = false := by
  cases i with
  | rest => exact h.elim
  | _ => rfl
theorem noRests {m : Nat} {is : List Itm} (h : ∀ i ∈ is, i.Dr m) : is.countP Itm.isRest = 0 := by
  rw [List.countP_eq_zero]
  intro i hi
  rw [(h i hi).noRest]
  exact Bool.false_ne_true
theorem rul_dr {side many more : Nat} {wide : Bool} {ts : List Tst} {is : List Itm} (hw : wide = true → many ≤ side ∧ more ≤ side) (hs : side ≤ 2) (hn : wide = false → (many = 1 ∨ many = 2) ∧ more = 0) (hl : ts.length = many + more) (ht : ∀ (j : Nat) (t : Tst), ts[j]? = some t → t.Dr j) (h1 : 1 ≤ is.length) (h3 : is.length ≤ 4)
    (hi : ∀ i ∈ is, i = .rest ∨ i.Dr (many + more)) (hr : wide = false → ∀ i ∈ is, i.Dr (many + more)) (hc : is.countP Itm.isRest ≤ 1) (hc' : is.countP Itm.isRest < is.length) : Rul.Dr side ⟨ts.take many, wide, ts.drop many, is⟩ := by
  have l1 : (ts.take many).length = many := by rw [List.length_take, hl]; omega
  have l2 : (ts.drop many).length = more := by rw [List.length_drop, hl]; omega
  have bd : many ≤ 2 ∧ more ≤ 2 := by
    cases wide with
    | true => have := hw rfl; omega
    | false => have := hn rfl; omega
  refine ⟨⟨by rw [l1]; exact bd.1, by rw [l2]; exact bd.2, fun e => ?_, ?_, h1, h3, fun i hx => ?_, hc, hc'⟩, fun e => by rw [l1, l2]; exact hw e, fun t hx => ?_, fun i hx => by rw [l1, l2]; exact hi i hx, h3⟩
  · have := hn e
    refine ⟨List.eq_nil_of_length_eq_zero (by rw [l2]; exact this.2), fun z => ?_⟩
    have z : ts.take many = [] := z
    rw [z] at l1
    have : many = 0 := l1.symm
    omega
  · show testsOk 0 (ts.take many ++ ts.drop many) = true
    rw [List.take_append_drop]
    exact testsOk_dr ts 0 fun j t e => by rw [Nat.zero_add]; exact ht j t e
  · show i.ok ((ts.take many).length + (ts.drop many).length) wide = true
    rw [l1, l2]
    cases hwd : wide with
    | true =>
      rcases hi i hx with rfl | h
      · rfl
      · exact h.ok
    | false => exact (hr hwd i hx).ok
  · have hx : t ∈ ts.take many ++ ts.drop many := hx
    rw [List.take_append_drop] at hx
    obtain ⟨j, hj, e⟩ := List.getElem_of_mem hx
    exact ⟨j, ht j t (by rw [List.getElem?_eq_getElem hj, e])⟩
end Nm
set_option maxRecDepth 100000
set_option maxHeartbeats 4000000
namespace Nm
open PySem
theorem evSs_append {T : Tb} : ∀ (xs ys : List Sx) (st : Sl), evSs T (xs ++ ys) st = (evSs T xs st).bind fun f st => match f with
    | .next => evSs T ys st
    | .brk => .ok .brk st
    | .ret r => .ok (.ret r) st
  | [], ys, st => by rw [List.nil_append, xSs_nil]; rfl
  | x :: xs, ys, st => by
    rw [List.cons_append, xSs_cons, xSs_cons]
    cases evS T x st with
    | bad => rfl
    | err c p s => rfl
    | ok f s =>
      cases f with
      | next => exact evSs_append xs ys s
      | brk => rfl
      | ret r => rfl
theorem evSs_split {T : Tb} {ss : List Sx} {st st' : Sl} (k : Nat) (h : evSs T (ss.take k) st = .ok .next st') : evSs T ss st = evSs T (ss.drop k) st' := by
  conv => lhs; rw [← List.take_append_drop k ss]
  rw [evSs_append, h]
  rfl
abbrev P_lrule : (List D → Option FR) → Prop := fun sem => ∀ (ns : List Int) (a b : Int) (side : Nat), 0 ≤ a → side ≤ 2 → ∃ (r : Rul) (a' b' : Int), sem [.scr ns, tw a b, .int side] = some (.ok r.d (tw a' b')) ∧ r.Dr side ∧ 0 ≤ a'
theorem Itm.dr_d {m : Nat} (i : Itm) (hi : i.Dr m) : True := trivial
theorem ne_nil_map (ts : List Tst) : eqD (.tup (ts.map Tst.d)) (.tup []) = some ts.isEmpty := by
  rw [eq_nil (plain_tests ts)]
  cases ts <;> rfl
theorem nums_mem {x : D} {ks : List Nat} (h : x ∈ nums ks) : ∃ k, k ∈ ks ∧ x = .int (k : Nat) := by
  obtain ⟨k, h1, rfl⟩ := List.mem_map.mp h
  exact ⟨k, h1, rfl⟩
theorem lrule_ok (T : Tb) (hd : Has T "_law_draw" 3 (some 1) P_draw) (hp : Has T "_law_pick" 3 (some 1) P_pick) (ht : Has T "_law_test" 3 (some 1) P_ltest) : P_lrule (runDf T df__law_rule) := by
  obtain ⟨F, e1, e2, e3, e4⟩ := hd
  obtain ⟨G, g1, g2, g3, g4⟩ := hp
  obtain ⟨K, k1, k2, k3, k4⟩ := ht
  intro ns a b side ha hside
  have key : ∃ (wide : Bool) (many more : Nat) (a3 b3 : Int), 0 ≤ a3 ∧ (wide = true → many ≤ side ∧ more ≤ side) ∧ (wide = false → (many = 1 ∨ many = 2) ∧ more = 0) ∧
      evSs T (df__law_rule.body.take 3) [.val (.scr ns), .bor (tw a b), .val (.int side), .no, .no, .no, .no, .no, .no, .no] = .ok .next [.val (.scr ns), .bor (tw a3 b3), .val (.int side), .val (.bl wide), .val (.int many), .val (.int more), .no, .no, .no, .no] := by
    obtain ⟨r1, a1, b1, q1, h1, h1', h1''⟩ := e4 ns a b 4 ha (by decide) (by decide)
    by_cases hw : 0 < r1
    · obtain ⟨r2, a2, b2, q2, h2, h2', h2''⟩ := e4 ns a1 b1 ((side : Int) + 1) h1'' (by omega) (by omega)
      obtain ⟨r3, a3, b3, q3, h3, h3', h3''⟩ := e4 ns a2 b2 ((side : Int) + 1) h2'' (by omega) (by omega)
      obtain ⟨m, rfl⟩ := Int.eq_ofNat_of_zero_le h2
      obtain ⟨o, rfl⟩ := Int.eq_ofNat_of_zero_le h3
      refine ⟨true, m, o, a3, b3, h3'', fun _ => ⟨by omega, by omega⟩, fun z => (by cases z), ?_⟩
      simp [df__law_rule, e1, e2, e3, q1, hw, q2, q3]
    · obtain ⟨r2, a2, b2, q2, h2, h2', h2''⟩ := e4 ns a1 b1 2 h1'' (by omega) (by omega)
      obtain ⟨m, rfl⟩ := Int.eq_ofNat_of_zero_le h2
      refine ⟨false, 1 + m, 0, a2, b2, h2'', fun z => (by cases z), fun _ => ⟨by omega, rfl⟩, ?_⟩
      simp [df__law_rule, e1, e2, e3, q1, hw, q2]
  obtain ⟨wide, many, more, a3, b3, ha3, hwd, hnw, q3⟩ := key
  have bd : many ≤ 2 ∧ more ≤ 2 := by
    cases wide with
    | true => have := hwd rfl; omega
    | false => have := hnw rfl; omega
  unfold runDf
  rw [show startS df__law_rule.bor 0 [D.scr ns, tw a b, D.int side] (df__law_rule.ns.length - [D.scr ns, tw a b, D.int side].length) = [.val (.scr ns), .bor (tw a b), .val (.int side), .no, .no, .no, .no, .no, .no, .no] from rfl, evSs_split 3 q3]
  -- the tests
  have key2 : ∃ (ts : List Tst) (a4 b4 : Int), 0 ≤ a4 ∧ ts.length = many + more ∧ (∀ (j : Nat) (t : Tst), ts[j]? = some t → t.Dr j) ∧
      evSs T ((df__law_rule.body.drop 3).take 2) [.val (.scr ns), .bor (tw a3 b3), .val (.int side), .val (.bl wide), .val (.int many), .val (.int more), .no, .no, .no, .no] = .ok .next [.val (.scr ns), .bor (tw a4 b4), .val (.int side), .val (.bl wide), .val (.int many), .val (.int more), .val (.tup (ts.map Tst.d)), .own (.lst []), .no, .no] := by
    have hr := rg1 (j := (many : Int) + more) (by omega) (by omega)
    rw [show ((many : Int) + more).toNat = many + more by omega] at hr
    obtain ⟨ts, st', q, hI, hl, hQ⟩ := lcE_ex (tg := .one 8) (ik := .range) (ti := evTs T []) (el := evE T (.call "_law_test" [.v 0, .v 1, .v 8])) (st := [.val (.scr ns), .bor (tw a3 b3), .val (.int side), .val (.bl wide), .val (.int many), .val (.int more), .no, .no, .no, .no]) Tst.d (fun x t => ∃ k : Nat, x = .int k ∧ t.Dr k) (fun st => ∃ a b, 0 ≤ a ∧ st = [.val (.scr ns), .bor (tw a b), .val (.int side), .val (.bl wide), .val (.int many), .val (.int more), .no, .no, .no, .no]) _ hr ⟨a3, b3, ha3, rfl⟩ (fun x hx st hI => by
      obtain ⟨k, hk, rfl⟩ := nums_mem hx
      obtain ⟨a', b', h0, rfl⟩ := hI
      obtain ⟨t, a'', b'', e, d, h⟩ := k4 ns a' b' k h0 (by have := List.mem_range.mp hk; omega)
      refine ⟨[.val (.scr ns), .bor (tw a' b'), .val (.int side), .val (.bl wide), .val (.int many), .val (.int more), .no, .no, .val (.int k), .no], [.val (.scr ns), .bor (tw a'' b''), .val (.int side), .val (.bl wide), .val (.int many), .val (.int more), .no, .no, .val (.int k), .no], t, false, rfl, xTs_nil, ?_, ⟨a'', b'', h, rfl⟩, k, rfl, d⟩
      simp [k1, k2, k3, e])
    obtain ⟨a4, b4, h4, rfl⟩ := hI
    refine ⟨ts, a4, b4, h4, by rw [hl, len_nums, List.length_range], fun j t e => ?_, ?_⟩
    · have hj : j < many + more := by
        have := (List.getElem?_eq_some_iff.mp e).1
        rwa [hl, len_nums, List.length_range] at this
      obtain ⟨k, e', d⟩ := hQ j (.int (j : Nat)) t (by simp [nums, hj]) e
      cases e'
      exact d
    · simp [df__law_rule, q]
  obtain ⟨ts, a4, b4, ha4, hl4, ht4, q4⟩ := key2
  rw [evSs_split 2 q4, List.drop_drop]
  -- the items
  have key3 : ∃ (is : List Itm) (a5 b5 : Int), 0 ≤ a5 ∧ 1 ≤ is.length ∧ is.length ≤ 3 ∧ (∀ i ∈ is, i.Dr (many + more)) ∧
      evSs T ((df__law_rule.body.drop 5).take 1) [.val (.scr ns), .bor (tw a4 b4), .val (.int side), .val (.bl wide), .val (.int many), .val (.int more), .val (.tup (ts.map Tst.d)), .own (.lst []), .no, .no] = .ok .next [.val (.scr ns), .bor (tw a5 b5), .val (.int side), .val (.bl wide), .val (.int many), .val (.int more), .val (.tup (ts.map Tst.d)), .own (.lst (is.map Itm.d)), .no, .no] := by
    obtain ⟨r1, a1, b1, q1, h1, h1', h1''⟩ := e4 ns a4 b4 3 ha4 (by decide) (by decide)
    have hr := rg1 (j := 1 + r1) (by omega) (by omega)
    have hen := ne_nil_map ts
    obtain ⟨st', q, ⟨is, a5, b5, h5, hl5, hd5, rfl⟩⟩ := forGo_ex (tg := .one 8) (body := evSs T [.asg 9 (.ite (.cmp .NotEq (.v 6) (.tup [])) (.tup [.c (.str "field"), .call "_law_draw" [.v 0, .v 1, .bin .Add (.v 4) (.v 5)]]) (.tup [.c (.str "word"), .c (.str "b")])), .ex (.mut "append" 7 [.call "_law_pick" [.v 0, .v 1, .lst [.tup [.c (.str "word"), .c (.str "a")], .tup [.c (.str "word"), .c (.str "c")], .v 9, .v 9, .v 9, .v 9]]]), .gh [] [8, 9]])
      (fun n st => ∃ (is : List Itm) (a b : Int), 0 ≤ a ∧ is.length = n ∧ (∀ i ∈ is, i.Dr (many + more)) ∧ st = [.val (.scr ns), .bor (tw a b), .val (.int side), .val (.bl wide), .val (.int many), .val (.int more), .val (.tup (ts.map Tst.d)), .own (.lst (is.map Itm.d)), .no, .no]) (nums (List.range (1 + r1).toNat)) 0 [.val (.scr ns), .bor (tw a1 b1), .val (.int side), .val (.bl wide), .val (.int many), .val (.int more), .val (.tup (ts.map Tst.d)), .own (.lst []), .no, .no] ⟨[], a1, b1, h1'', rfl, (fun i h => (by cases h)), rfl⟩ (fun x hx n st hn hI => by
        obtain ⟨k, hk, rfl⟩ := nums_mem hx
        obtain ⟨is, a, b, h0, hl, hdr, rfl⟩ := hI
        rw [Nat.zero_add, len_nums, List.length_range] at hn
        cases hts : ts.isEmpty with
        | true =>
          rw [hts] at hen
          obtain ⟨x, a', b', e, hx, h'⟩ := g4 ns a b ([Itm.word "a", .word "c", .word "b", .word "b", .word "b", .word "b"].map Itm.d) h0 (by simp) (by simp)
          obtain ⟨i, hi, rfl⟩ := List.mem_map.mp hx
          have hid : i.Dr (many + more) := by
            simp at hi
            rcases hi with rfl | rfl | rfl
            · exact .inl rfl
            · exact .inr (.inr rfl)
            · exact .inr (.inl rfl)
          have hm := mut_app (is.map Itm.d) i.d (by rw [List.length_map, hl]; show _ < 16777216; omega)
          refine ⟨_, [.val (.scr ns), .bor (tw a' b'), .val (.int side), .val (.bl wide), .val (.int many), .val (.int more), .val (.tup (ts.map Tst.d)), .own (.lst (is.map Itm.d ++ [i.d])), .no, .no], rfl, ?_, is ++ [i], a', b', h', by rw [List.length_append, hl]; rfl, fun j hj => ?_, by simp⟩
          · generalize i.d = z at e hm ⊢
            simp [Itm.d] at e
            generalize ts.map Tst.d = TS at hen ⊢
            generalize is.map Itm.d = IS at hm ⊢
            simp [hen, g1, g2, g3, e, hm]
          · rcases List.mem_append.mp hj with hj | hj
            · exact hdr j hj
            · rw [List.mem_singleton.mp hj]; exact hid
        | false =>
          rw [hts] at hen
          have hpos : 0 < many + more := by
            rw [← hl4]
            cases ts with
            | nil => cases hts
            | cons t ts => simp
          obtain ⟨y, a2, b2, q2, h2, h2', h2''⟩ := e4 ns a b ((many : Int) + more) h0 (by omega) (by omega)
          obtain ⟨y, rfl⟩ := Int.eq_ofNat_of_zero_le h2
          obtain ⟨x, a', b', e, hx, h'⟩ := g4 ns a2 b2 ([Itm.word "a", .word "c", .field y, .field y, .field y, .field y].map Itm.d) h2'' (by simp) (by simp)
          obtain ⟨i, hi, rfl⟩ := List.mem_map.mp hx
          have hid : i.Dr (many + more) := by
            simp at hi
            rcases hi with rfl | rfl | rfl
            · exact .inl rfl
            · exact .inr (.inr rfl)
            · show y < many + more
              omega
          have hm := mut_app (is.map Itm.d) i.d (by rw [List.length_map, hl]; show _ < 16777216; omega)
          refine ⟨_, [.val (.scr ns), .bor (tw a' b'), .val (.int side), .val (.bl wide), .val (.int many), .val (.int more), .val (.tup (ts.map Tst.d)), .own (.lst (is.map Itm.d ++ [i.d])), .no, .no], rfl, ?_, is ++ [i], a', b', h', by rw [List.length_append, hl]; rfl, fun j hj => ?_, by simp⟩
          · generalize i.d = z at e hm ⊢
            simp [Itm.d] at e
            generalize ts.map Tst.d = TS at hen ⊢
            generalize is.map Itm.d = IS at hm ⊢
            simp [hen, e1, e2, e3, q2, g1, g2, g3, e, hm]
          · rcases List.mem_append.mp hj with hj | hj
            · exact hdr j hj
            · rw [List.mem_singleton.mp hj]; exact hid)
    rw [Nat.zero_add, len_nums, List.length_range] at hl5
    refine ⟨is, a5, b5, h5, by omega, by omega, hd5, ?_⟩
    simp [df__law_rule, e1, e2, e3, q1, hr, q]
  obtain ⟨is, a5, b5, ha5, hi1, hi3, hid, q5⟩ := key3
  rw [evSs_split 1 q5, List.drop_drop]
  -- the rest
  have key4 : ∃ (js : List Itm) (a6 b6 : Int), 0 ≤ a6 ∧ 1 ≤ js.length ∧ js.length ≤ 4 ∧ (∀ i ∈ js, i = .rest ∨ i.Dr (many + more)) ∧ (wide = false → ∀ i ∈ js, i.Dr (many + more)) ∧ js.countP Itm.isRest ≤ 1 ∧ js.countP Itm.isRest < js.length ∧
      evSs T ((df__law_rule.body.drop 6).take 1) [.val (.scr ns), .bor (tw a5 b5), .val (.int side), .val (.bl wide), .val (.int many), .val (.int more), .val (.tup (ts.map Tst.d)), .own (.lst (is.map Itm.d)), .no, .no] = .ok .next [.val (.scr ns), .bor (tw a6 b6), .val (.int side), .val (.bl wide), .val (.int many), .val (.int more), .val (.tup (ts.map Tst.d)), .own (.lst (js.map Itm.d)), .no, .no] := by
    have h0 := noRests hid
    have base : ∀ (a6 b6 : Int), 0 ≤ a6 → evSs T ((df__law_rule.body.drop 6).take 1) [.val (.scr ns), .bor (tw a5 b5), .val (.int side), .val (.bl wide), .val (.int many), .val (.int more), .val (.tup (ts.map Tst.d)), .own (.lst (is.map Itm.d)), .no, .no] = .ok .next [.val (.scr ns), .bor (tw a6 b6), .val (.int side), .val (.bl wide), .val (.int many), .val (.int more), .val (.tup (ts.map Tst.d)), .own (.lst (is.map Itm.d)), .no, .no] → ∃ (js : List Itm) (a6 b6 : Int), 0 ≤ a6 ∧ 1 ≤ js.length ∧ js.length ≤ 4 ∧ (∀ i ∈ js, i = .rest ∨ i.Dr (many + more)) ∧ (wide = false → ∀ i ∈ js, i.Dr (many + more)) ∧ js.countP Itm.isRest ≤ 1 ∧ js.countP Itm.isRest < js.length ∧
      evSs T ((df__law_rule.body.drop 6).take 1) [.val (.scr ns), .bor (tw a5 b5), .val (.int side), .val (.bl wide), .val (.int many), .val (.int more), .val (.tup (ts.map Tst.d)), .own (.lst (is.map Itm.d)), .no, .no] = .ok .next [.val (.scr ns), .bor (tw a6 b6), .val (.int side), .val (.bl wide), .val (.int many), .val (.int more), .val (.tup (ts.map Tst.d)), .own (.lst (js.map Itm.d)), .no, .no] := fun a6 b6 h6 e => ⟨is, a6, b6, h6, hi1, by omega, fun i hi => .inr (hid i hi), fun _ => hid, by omega, by omega, e⟩
    cases wide with
    | false => exact base a5 b5 ha5 (by simp [df__law_rule])
    | true =>
      obtain ⟨r1, a1, b1, q1, h1, h1', h1''⟩ := e4 ns a5 b5 5 ha5 (by decide) (by decide)
      by_cases hr : 0 < r1
      · obtain ⟨r2, a2, b2, q2, h2, h2', h2''⟩ := e4 ns a1 b1 ((is.length : Int) + 1) h1'' (by omega) (by omega)
        have hm := mut_ins (is.map Itm.d) r2 (Itm.rest).d ⟨by rw [List.length_map]; show _ < 16777216; omega, h2, by rw [List.length_map]; omega⟩
        refine ⟨is.take r2.toNat ++ .rest :: is.drop r2.toNat, a2, b2, h2'', ?_, ?_, ?_, fun z => (by cases z), ?_, ?_, ?_⟩
        · simp; omega
        · simp; omega
        · intro i hi
          rcases List.mem_append.mp hi with hi | hi
          · exact .inr (hid i (List.mem_of_mem_take hi))
          · rcases List.mem_cons.mp hi with rfl | hi
            · exact .inl rfl
            · exact .inr (hid i (List.mem_of_mem_drop hi))
        · have e1 := noRests (fun i hi => hid i (List.mem_of_mem_take hi) : ∀ i ∈ is.take r2.toNat, _)
          have e2 := noRests (fun i hi => hid i (List.mem_of_mem_drop hi) : ∀ i ∈ is.drop r2.toNat, _)
          rw [List.countP_append, List.countP_cons, e1, e2]
          decide
        · have e1 := noRests (fun i hi => hid i (List.mem_of_mem_take hi) : ∀ i ∈ is.take r2.toNat, _)
          have e2 := noRests (fun i hi => hid i (List.mem_of_mem_drop hi) : ∀ i ∈ is.drop r2.toNat, _)
          rw [List.countP_append, List.countP_cons, e1, e2]
          simp [Itm.isRest]
          omega
        · rw [List.map_append, List.map_cons, List.map_take, List.map_drop]
          have hlen : (is.map Itm.d).length = is.length := by simp
          generalize is.map Itm.d = IS at hm hlen ⊢
          simp [Itm.d] at hm
          simp [df__law_rule, e1, e2, e3, q1, hr, hlen, q2, hm, Itm.d]
      · exact base a1 b1 h1'' (by simp [df__law_rule, e1, e2, e3, q1, hr])
  obtain ⟨js, a6, b6, ha6, hj1, hj4, hjd, hjn, hc, hc', q6⟩ := key4
  rw [evSs_split 1 q6, List.drop_drop]
  refine ⟨⟨ts.take many, wide, ts.drop many, js⟩, a6, b6, ?_, rul_dr hwd hside hnw hl4 ht4 hj1 hj4 hjd hjn hc hc', ha6⟩
  have c1 : cutD (ts.map Tst.d) none (some (many : Int)) = (ts.take many).map Tst.d := by rw [cut_to _ (by omega), Int.toNat_natCast, List.map_take]
  have c2 : cutD (ts.map Tst.d) (some (many : Int)) none = (ts.drop many).map Tst.d := by rw [cut_from _ (by omega), Int.toNat_natCast, List.map_drop]
  simp [df__law_rule, c1, c2, Rul.d]
end Nm
set_option maxRecDepth 100000
set_option maxHeartbeats 4000000
namespace Nm
open PySem
theorem eqD_plain {d e : D} (h : D.eqOk d e = true) (hs : ∀ ns, d ≠ .scr ns) : eqD d e = some (D.eqv d e) := by
  unfold eqD
  split
  · exact absurd rfl (hs _)
  · rw [if_pos h]
@[simp] theorem eq_int (i j : Int) : eqD (.int i) (.int j) = some (decide (i = j)) := by
  rw [eqD_plain (by simp [D.eqOk, D.plain]) (fun _ z => by cases z), D.eqv]
  rfl
@[simp] theorem eq_bl (i j : Bool) : eqD (.bl i) (.bl j) = some (i == j) := by
  rw [eqD_plain (by simp [D.eqOk, D.plain]) (fun _ z => by cases z), D.eqv]
abbrev P_lscript : (List D → Option FR) → Prop := fun sem => ∀ (ns : List Int) (a b : Int) (most side : Nat), 0 ≤ a → 1 ≤ most → most ≤ 1000 → side ≤ 2 → ∃ (s : List Rul) (a' b' : Int), sem [.scr ns, tw a b, .int most, .int side] = some (.ok (scD s) (tw a' b')) ∧ 1 ≤ s.length ∧ s.length ≤ most ∧ (∀ r ∈ s, r.Dr side) ∧ 0 ≤ a'
theorem lscript_ok (T : Tb) (hd : Has T "_law_draw" 3 (some 1) P_draw) (hr : Has T "_law_rule" 3 (some 1) P_lrule) : P_lscript (runDf T df__law_script) := by
  obtain ⟨F, e1, e2, e3, e4⟩ := hd
  obtain ⟨G, g1, g2, g3, g4⟩ := hr
  intro ns a b most side ha h1 h2 hs
  obtain ⟨r1, a1, b1, q1, p1, p1', p1''⟩ := e4 ns a b most ha (by omega) (by omega)
  have hr := rg1 (j := 1 + r1) (by omega) (by omega)
  obtain ⟨s, st', q, ⟨a2, b2, h2, rfl⟩, hl, hQ⟩ := lcE_ex (tg := .one 4) (ik := .range) (ti := evTs T []) (el := evE T (.call "_law_rule" [.v 0, .v 1, .v 3])) (st := [.val (.scr ns), .bor (tw a1 b1), .val (.int most), .val (.int side), .no]) Rul.d (fun x r => r.Dr side) (fun st => ∃ a b, 0 ≤ a ∧ st = [.val (.scr ns), .bor (tw a b), .val (.int most), .val (.int side), .no]) _ hr ⟨a1, b1, p1'', rfl⟩ (fun x hx st hI => by
    obtain ⟨k, hk, rfl⟩ := nums_mem hx
    obtain ⟨a', b', h0, rfl⟩ := hI
    obtain ⟨t, a'', b'', e, d, h⟩ := g4 ns a' b' side h0 hs
    refine ⟨_, [.val (.scr ns), .bor (tw a'' b''), .val (.int most), .val (.int side), .val (.int k)], t, false, rfl, xTs_nil, ?_, ⟨a'', b'', h, rfl⟩, d⟩
    simp [g1, g2, g3, e])
  rw [len_nums, List.length_range] at hl
  refine ⟨s, a2, b2, ?_, by omega, by omega, fun r hr => ?_, h2⟩
  · unfold runDf df__law_script scD
    simp [e1, e2, e3, q1, q]
  · obtain ⟨j, hj, e⟩ := List.getElem_of_mem hr
    exact hQ j (.int (j : Nat)) r (by rw [hl] at hj; simp [nums, hj]) (by rw [List.getElem?_eq_getElem hj, e])
theorem drawn_ok {s : List Rul} {side : Nat} (h : ∀ r ∈ s, r.Dr side) (hl : s.length ≤ 4) : ScOk s := ⟨hl, fun r hr => (h r hr).ok⟩
def dWords : List Str := ["a", "b", "c", "d"]
abbrev P_lname : (List D → Option FR) → Prop := fun sem => ∀ (ns : List Int) (a b : Int) (most : Nat), 0 ≤ a → 1 ≤ most → most ≤ 1000 → ∃ (n : List Str) (a' b' : Int), sem [.scr ns, tw a b, .int most] = some (.ok (nmD n) (tw a' b')) ∧ 1 ≤ n.length ∧ n.length ≤ most ∧ (∀ w ∈ n, w ∈ dWords) ∧ 0 ≤ a'
theorem lname_ok (T : Tb) (hd : Has T "_law_draw" 3 (some 1) P_draw) (hp : Has T "_law_pick" 3 (some 1) P_pick) : P_lname (runDf T df__law_name) := by
  obtain ⟨F, e1, e2, e3, e4⟩ := hd
  obtain ⟨G, g1, g2, g3, g4⟩ := hp
  intro ns a b most ha h1 h2
  obtain ⟨r1, a1, b1, q1, p1, p1', p1''⟩ := e4 ns a b most ha (by omega) (by omega)
  have hr := rg1 (j := 1 + r1) (by omega) (by omega)
  obtain ⟨s, st', q, ⟨a2, b2, h2, rfl⟩, hl, hQ⟩ := lcE_ex (tg := .one 3) (ik := .range) (ti := evTs T []) (el := evE T (.call "_law_pick" [.v 0, .v 1, .lst [.c (.str "a"), .c (.str "b"), .c (.str "c"), .c (.str "d")]])) (st := [.val (.scr ns), .bor (tw a1 b1), .val (.int most), .no]) D.str (fun x w => w ∈ dWords) (fun st => ∃ a b, 0 ≤ a ∧ st = [.val (.scr ns), .bor (tw a b), .val (.int most), .no]) _ hr ⟨a1, b1, p1'', rfl⟩ (fun x hx st hI => by
    obtain ⟨k, hk, rfl⟩ := nums_mem hx
    obtain ⟨a', b', h0, rfl⟩ := hI
    obtain ⟨t, a'', b'', e, d, h⟩ := g4 ns a' b' (sds dWords) h0 (by simp [dWords, sds]) (by simp [dWords, sds])
    obtain ⟨w, hw, rfl⟩ := List.mem_map.mp d
    refine ⟨_, [.val (.scr ns), .bor (tw a'' b''), .val (.int most), .val (.int k)], w, false, rfl, xTs_nil, ?_, ⟨a'', b'', h, rfl⟩, hw⟩
    simp [sds, dWords] at e
    simp [g1, g2, g3, e])
  rw [len_nums, List.length_range] at hl
  refine ⟨s, a2, b2, ?_, by omega, by omega, fun r hr => ?_, h2⟩
  · unfold runDf df__law_name nmD
    simp [e1, e2, e3, q1, q, sds]
  · obtain ⟨j, hj, e⟩ := List.getElem_of_mem hr
    exact hQ j (.int (j : Nat)) r (by rw [hl] at hj; simp [nums, hj]) (by rw [List.getElem?_eq_getElem hj, e])
theorem dWords_ok : ∀ w ∈ dWords, wordB w = true := by decide +kernel
/-! ### the law's own making -/
theorem seen_cut {r : Rul} {n : List Str} (h : r.fronts.length + r.backs.length ≤ n.length) : n.take r.fronts.length ++ n.drop (n.length - r.backs.length) = seenOf r n := by
  apply List.ext_getElem?
  intro i
  unfold seenOf spots
  rw [List.map_append, List.map_map]
  by_cases h1 : i < r.fronts.length
  · rw [List.getElem?_append_left (by rw [List.length_take]; omega), List.getElem?_append_left (by simp; exact h1)]
    simp [h1, List.getElem?_take]
    rw [List.getElem?_eq_getElem (by omega)]
    rfl
  · rw [List.getElem?_append_right (by rw [List.length_take]; omega), List.getElem?_append_right (by simp; omega)]
    rw [List.length_take, List.length_map, List.length_range, Nat.min_eq_left (by omega), List.getElem?_drop]
    by_cases h2 : i - r.fronts.length < r.backs.length
    · simp [h2]
      rw [List.getElem?_eq_getElem (by omega)]
      rfl
    · rw [List.getElem?_eq_none (by omega), List.getElem?_eq_none (by simp; omega)]
theorem all_zip (f : Tst → Str → Bool) : ∀ (ts : List Tst) (ss pre : List Str), ts.length = ss.length → ((ts.zip ss).all fun p => f p.1 p.2) = ((ts.zipIdx pre.length).all fun p => f p.1 ((pre ++ ss).getD p.2 ""))
  | [], [], _, _ => rfl
  | [], _ :: _, _, h => by cases h
  | _ :: _, [], _, h => by cases h
  | t :: ts, x :: ss, pre, h => by
    rw [List.zip_cons_cons, List.all_cons, List.zipIdx_cons, List.all_cons]
    have := all_zip f ts ss (pre ++ [x]) (by simpa using h)
    rw [List.length_append, List.length_singleton, List.append_assoc, List.singleton_append] at this
    rw [this]
    congr 1
    simp
theorem find_none_iff {α : Type} (p : α → Bool) : ∀ xs : List α, (xs.findSome? fun x => if p x then none else some D.non) = if xs.all p then none else some D.non
  | [] => rfl
  | x :: xs => by
    rw [List.findSome?_cons, List.all_cons]
    cases h : p x with
    | true => simp only [if_true, Bool.true_and]; exact find_none_iff p xs
    | false => rfl
abbrev P_lmade : (List D → Option FR) → Prop := fun sem => ∀ (r : Rul) (n : List Str), r.Ok → n.length ≤ 100000 → sem [r.d, nmD n] = some (.ok (optM (madeO r n)) .non)
theorem fitsLen_shut {r : Rul} (ok : r.Ok) (n : Nat) : fitsLen r n = (!(decide (n < r.fronts.length + r.backs.length) || (!r.wide && !decide (n = r.fronts.length)))) := by
  unfold fitsLen
  cases hw : r.wide with
  | true =>
    by_cases h : n < r.fronts.length + r.backs.length
    · simp [h]
    · simp [h]; omega
  | false =>
    obtain ⟨h1, _⟩ := ok.shut hw
    rw [h1]
    by_cases h : n = r.fronts.length
    · simp [h]
    · by_cases h2 : n < r.fronts.length
      · have h3 : ¬ r.fronts.length ≤ n := by omega
        simp [h, h3]
      · have h3 : ¬ n ≤ r.fronts.length := by omega
        simp [h, h3]
theorem lmade_ok (T : Tb) : P_lmade (runDf T df__law_made) := by
  intro r n ok hn
  unfold runDf madeO fitB
  rw [show startS df__law_made.bor 0 [r.d, nmD n] (df__law_made.ns.length - [r.d, nmD n].length) = [.val r.d, .val (nmD n), .no, .no, .no, .no, .no, .no, .no, .no, .no, .no, .no] from rfl]
  have q2 : evSs T (df__law_made.body.take 2) [.val r.d, .val (nmD n), .no, .no, .no, .no, .no, .no, .no, .no, .no, .no, .no] = .ok .next [.val r.d, .val (nmD n), .no, .no, .no, .val (.tup (r.fronts.map Tst.d)), .val (.bl r.wide), .val (.tup (r.backs.map Tst.d)), .val (.tup (r.making.map Itm.d)), .val (.int r.fronts.length), .val (.int r.backs.length), .no, .no] := by
    simp [df__law_made, Rul.d]
  rw [evSs_split 2 q2]
  have hfl := fitsLen_shut ok n.length
  cases hf : fitsLen r n.length with
  | false =>
    rw [hf] at hfl
    have h0 : (decide (n.length < r.fronts.length + r.backs.length) || (!r.wide && !decide (n.length = r.fronts.length))) = true := by
      cases h : (decide (n.length < r.fronts.length + r.backs.length) || (!r.wide && !decide (n.length = r.fronts.length))) with
      | true => rfl
      | false => rw [h] at hfl; cases hfl
    by_cases h : n.length < r.fronts.length + r.backs.length
    · have h' : (n.length : Int) < (r.fronts.length : Int) + r.backs.length := by omega
      simp [df__law_made, nmD, sds_len, h', optM]
    · have h' : ¬ ((n.length : Int) < (r.fronts.length : Int) + r.backs.length) := by omega
      simp [h] at h0
      have e : ¬ ((n.length : Int) = (r.fronts.length : Int)) := by omega
      simp [df__law_made, nmD, sds_len, h', optM, h0.1, e, h0.2]
  | true =>
    rw [hf] at hfl
    have h0 : (decide (n.length < r.fronts.length + r.backs.length) || (!r.wide && !decide (n.length = r.fronts.length))) = false := by
      cases h : (decide (n.length < r.fronts.length + r.backs.length) || (!r.wide && !decide (n.length = r.fronts.length))) with
      | true => rw [h] at hfl; cases hfl
      | false => rfl
    have hle := fitsLen_le hf
    have hsl := seen_len r n
    have q3 : evSs T ((df__law_made.body.drop 2).take 2) [.val r.d, .val (nmD n), .no, .no, .no, .val (.tup (r.fronts.map Tst.d)), .val (.bl r.wide), .val (.tup (r.backs.map Tst.d)), .val (.tup (r.making.map Itm.d)), .val (.int r.fronts.length), .val (.int r.backs.length), .no, .no] = .ok .next [.val r.d, .val (nmD n), .own (.lst (sds (seenOf r n))), .no, .no, .val (.tup (r.fronts.map Tst.d)), .val (.bl r.wide), .val (.tup (r.backs.map Tst.d)), .val (.tup (r.making.map Itm.d)), .val (.int r.fronts.length), .val (.int r.backs.length), .no, .no] := by
      have h' : ¬ ((n.length : Int) < (r.fronts.length : Int) + r.backs.length) := by omega
      have c1 : cutD (sds n) none (some (r.fronts.length : Int)) = sds (n.take r.fronts.length) := by rw [cut_to _ (by omega), Int.toNat_natCast, sds_take]
      have c2 : cutD (sds n) (some ((n.length : Int) - r.backs.length)) none = sds (n.drop (n.length - r.backs.length)) := by rw [cut_from _ (by omega), sds_drop, show ((n.length : Int) - r.backs.length).toNat = n.length - r.backs.length by omega]
      have c3 : sds (n.take r.fronts.length) ++ sds (n.drop (n.length - r.backs.length)) = sds (seenOf r n) := by rw [← seen_cut hle]; simp [sds]
      have c4 : binD .Add (.lst (sds (n.take r.fronts.length))) (.lst (sds (n.drop (n.length - r.backs.length)))) = some (.lst (sds (seenOf r n)), true) := by
        rw [bin_addL, if_pos, c3]
        rw [sds_len, sds_len, List.length_take, List.length_drop]
        show _ ≤ 16777216
        have := ok.f2
        have := ok.b2
        omega
      have e : r.wide = false → n.length = r.fronts.length := fun hw => by
        rw [hw] at h0
        simp at h0
        exact h0.2
      cases hw : r.wide with
      | true => simp [df__law_made, nmD, sds_len, h', c1, c2, c4]
      | false =>
        have e2 : ((n.length : Int) = (r.fronts.length : Int)) = True := eq_true (by rw [e hw])
        simp only [df__law_made, nmD, List.take, List.drop]
        simp [sds_len, h', c1, c2, c4, e2]
    rw [evSs_split 2 q3, List.drop_drop]
    have hadd : r.fronts.map Tst.d ++ r.backs.map Tst.d = (r.fronts ++ r.backs).map Tst.d := by simp
    have en : enumD 0 ((r.fronts ++ r.backs).map Tst.d) = ((r.fronts ++ r.backs).zipIdx 0).map fun p => .tup [.int (p.2 : Nat), p.1.d] := enum_map _ 0 _
    have hbin : binD .Add (.tup (r.fronts.map Tst.d)) (.tup (r.backs.map Tst.d)) = some (.tup ((r.fronts ++ r.backs).map Tst.d), false) := by
      rw [bin_addT, if_pos, hadd]
      rw [List.length_map, List.length_map]
      show _ ≤ 16777216
      have := ok.f2
      have := ok.b2
      omega
    have hz := all_zip (passB (seenOf r n)) (r.fronts ++ r.backs) (seenOf r n) [] (by rw [List.length_append, hsl])
    have htests := ok.tests
    have htl : (r.fronts ++ r.backs).length = r.fronts.length + r.backs.length := List.length_append
    clear hadd
    generalize r.fronts ++ r.backs = ts at en hbin hz htests htl ⊢
    rw [List.length_nil, List.nil_append] at hz
    have sat : ∀ k, k < r.fronts.length + r.backs.length → L2.atI (sds (seenOf r n)) (k : Int) = some (.str ((seenOf r n).getD k "")) := fun k hk => by
      rw [atN _ _ (by omega), Int.toNat_natCast]
      have : k < (seenOf r n).length := by omega
      simp [sds, this]
    have L := forGo_find (tg := .many [11, 12]) (body := evSs T [.ifs (.or (.and (.cmp .Eq (.ix (.v 12) (.c (.int 0))) (.c (.str "is"))) (.cmp .NotEq (.ix (.v 2) (.v 11)) (.ix (.v 12) (.c (.int 1))))) (.and (.cmp .Eq (.ix (.v 12) (.c (.int 0))) (.c (.str "none"))) (.cmp .In (.ix (.v 2) (.v 11)) (.ix (.v 12) (.c (.int 1)))))) [.ret (.c .non)] [], .ifs (.and (.cmp .Eq (.ix (.v 12) (.c (.int 0))) (.c (.str "like"))) (.cmp .NotEq (.ix (.v 2) (.v 11)) (.ix (.v 2) (.ix (.v 12) (.c (.int 1)))))) [.ret (.c .non)] [], .gh [] [11, 12]]) (st := [.val r.d, .val (nmD n), .own (.lst (sds (seenOf r n))), .no, .no, .val (.tup (r.fronts.map Tst.d)), .val (.bl r.wide), .val (.tup (r.backs.map Tst.d)), .val (.tup (r.making.map Itm.d)), .val (.int r.fronts.length), .val (.int r.backs.length), .no, .no]) (fun p : Tst × Nat => .tup [.int (p.2 : Nat), p.1.d]) (fun p => if passB (seenOf r n) p.1 ((seenOf r n).getD p.2 "") then none else some D.non) (ts.zipIdx 0) (fun p hp => by
      have hm := List.mem_zipIdx hp
      have hk : p.2 < r.fronts.length + r.backs.length := by
        have := hm.2.1
        omega
      have hmem : p.1 ∈ ts := by rw [hm.2.2]; exact List.getElem_mem _
      have s1 := sat p.2 hk
      refine ⟨_, rfl, ?_⟩
      obtain ⟨t, k⟩ := p
      dsimp only at s1 hmem hk ⊢
      generalize (seenOf r n).getD k "" = x at s1 ⊢
      have hlike : ∀ j, t = .like j → j < r.fronts.length + r.backs.length := fun j e => by
        rw [e] at hmem
        have := testsOk_like htests hmem
        omega
      have hcon : ∀ ws : List Str, cmpD .In (.str x) (.tup (sds ws)) = some (ws.contains x) := fun ws => by
        rw [cmpD, flat_sds, inD_sds]
        rfl
      cases hp : passB (seenOf r n) t x with
      | true =>
        simp only [if_true]
        cases t with
        | is w =>
          have hp : (x == w) = true := hp
          simp [Tst.d, s1, eq_of_beq hp]
        | any => simp [Tst.d]
        | non ws =>
          have hp : (!ws.contains x) = true := hp
          have hc := hcon ws
          rw [show ws.contains x = false by simpa using hp] at hc
          simp [Tst.d, s1, hc]
        | like j =>
          have s2 := sat j (hlike j rfl)
          have hp : (x == (seenOf r n).getD j "") = true := hp
          rw [← eq_of_beq hp] at s2
          simp [Tst.d, s1, s2]
      | false =>
        simp only [Bool.false_eq_true, if_false]
        cases t with
        | is w =>
          have hp : (x == w) = false := hp
          simp [Tst.d, s1, hp]
        | any => cases hp
        | non ws =>
          have hp : (!ws.contains x) = false := hp
          have hc := hcon ws
          rw [show ws.contains x = true by simpa using hp] at hc
          simp [Tst.d, s1, hc]
        | like j =>
          have s2 := sat j (hlike j rfl)
          have hp : (x == (seenOf r n).getD j "") = false := hp
          generalize (seenOf r n).getD j "" = y at s2 hp
          simp [Tst.d, s1, s2, hp])
    rw [find_none_iff, ← hz] at L
    cases hall : (ts.zip (seenOf r n)).all (fun p => passB (seenOf r n) p.1 p.2) with
    | false =>
      rw [hall] at L
      obtain ⟨st2, L⟩ := L
      simp [df__law_made, hbin, itemsOf, pairOf, en, L, optM]
    | true =>
      rw [hall] at L
      have L : forGo _ _ _ _ = _ := L
      have q4 : evSs T ((df__law_made.body.drop 4).take 2) [.val r.d, .val (nmD n), .own (.lst (sds (seenOf r n))), .no, .no, .val (.tup (r.fronts.map Tst.d)), .val (.bl r.wide), .val (.tup (r.backs.map Tst.d)), .val (.tup (r.making.map Itm.d)), .val (.int r.fronts.length), .val (.int r.backs.length), .no, .no] = .ok .next [.val r.d, .val (nmD n), .own (.lst (sds (seenOf r n))), .own (.lst []), .no, .val (.tup (r.fronts.map Tst.d)), .val (.bl r.wide), .val (.tup (r.backs.map Tst.d)), .val (.tup (r.making.map Itm.d)), .val (.int r.fronts.length), .val (.int r.backs.length), .no, .no] := by
        simp [df__law_made, hbin, itemsOf, pairOf, en, L]
      rw [show 2 + 2 = 4 from rfl, evSs_split 2 q4, List.drop_drop]
      have hlen : 0 + (sds (mkN r n)).length ≤ LIM := by
        rw [← mkD_sds r n ok hf]
        have h6 : (mkD r (sds n)).length ≤ r.making.length * (1 + (sds n).length) := flat_len _ (1 + (sds n).length) r.making (mkD_len1 r (sds n))
        have h4 := ok.m4
        have h5 : r.making.length * (1 + (sds n).length) ≤ 4 * (1 + (sds n).length) := Nat.mul_le_mul_right _ h4
        show _ ≤ 16777216
        rw [sds_len] at h6 h5
        omega
      have hflat : sds (mkN r n) = r.making.flatMap fun i => sds (match i with
        | .word w => [w]
        | .field k => [n.getD ((spots r.fronts.length r.backs.length n.length).getD k 0) ""]
        | .rest => (n.take (n.length - r.backs.length)).drop r.fronts.length) := by
        unfold mkN sds
        rw [List.map_flatMap] <;> rfl
      have L2 := forGo_acc0 (tg := .one 4) (body := evSs T [.ifs (.cmp .Eq (.ix (.v 4) (.c (.int 0))) (.c (.str "rest"))) [.ex (.mut "extend" 3 [.bi "list" [.sl (.v 1) (.v 9) (.bin .Sub (.bi "len" [.v 1]) (.v 10))]])] [.ex (.mut "append" 3 [.ite (.cmp .Eq (.ix (.v 4) (.c (.int 0))) (.c (.str "word"))) (.ix (.v 4) (.c (.int 1))) (.ix (.v 2) (.ix (.v 4) (.c (.int 1))))])], .gh [] [4]]) (st := [.val r.d, .val (nmD n), .own (.lst (sds (seenOf r n))), .own (.lst []), .no, .val (.tup (r.fronts.map Tst.d)), .val (.bl r.wide), .val (.tup (r.backs.map Tst.d)), .val (.tup (r.making.map Itm.d)), .val (.int r.fronts.length), .val (.int r.backs.length), .no, .no]) Itm.d 3 (fun i => sds (match i with
        | .word w => [w]
        | .field k => [n.getD ((spots r.fronts.length r.backs.length n.length).getD k 0) ""]
        | .rest => (n.take (n.length - r.backs.length)).drop r.fronts.length)) r.making [] rfl (by rw [← hflat]; exact hlen) (fun acc i hi hl => by
          cases i with
          | word w =>
            have hl : acc.length + 1 ≤ 16777216 := hl
            have hm := mut_app acc (.str w) (by show _ < 16777216; omega)
            refine ⟨_, rfl, ?_⟩
            simp [Itm.d, hm, sds]
          | field k =>
            have hl : acc.length + 1 ≤ 16777216 := hl
            have hk : k < r.fronts.length + r.backs.length := of_decide_eq_true (ok.items _ hi)
            have s1 := sat k hk
            have hs : (seenOf r n).getD k "" = n.getD ((spots r.fronts.length r.backs.length n.length).getD k 0) "" := by
              have : k < (spots r.fronts.length r.backs.length n.length).length := by rw [spots_len]; exact hk
              simp [seenOf, this]
            rw [hs] at s1
            dsimp only
            generalize n.getD ((spots r.fronts.length r.backs.length n.length).getD k 0) "" = x at s1 ⊢
            have hm := mut_app acc (.str x) (by show _ < 16777216; omega)
            refine ⟨_, rfl, ?_⟩
            simp [Itm.d, hm, sds]
            simp [sds] at s1
            simp [s1, hm]
          | rest =>
            have hc : cutD (sds n) (some (r.fronts.length : Int)) (some ((n.length : Int) - r.backs.length)) = sds ((n.take (n.length - r.backs.length)).drop r.fronts.length) := by
              rw [cut_mid _ (by omega) (by omega) (by rw [sds_len]; omega), Int.toNat_natCast, show ((n.length : Int) - r.backs.length).toNat = n.length - r.backs.length by omega, sds_take, sds_drop]
            dsimp only at hl ⊢
            generalize sds ((n.take (n.length - r.backs.length)).drop r.fronts.length) = z at hc hl ⊢
            have hm := mut_extL acc z hl
            refine ⟨_, rfl, ?_⟩
            simp [Itm.d, nmD, sds_len, hc, hm])
      rw [← hflat, List.nil_append] at L2
      simp [df__law_made, itemsOf, seqOf, L2, optM]
      rfl
abbrev P_lfirst : (List D → Option FR) → Prop := fun sem => ∀ (s : List Rul) (n : List Str), (∀ r ∈ s, r.Ok) → n.length ≤ 100000 → sem [scD s, nmD n] = some (.ok (optN (firstK n 0 s)) .non)
theorem lfirst_ok (T : Tb) (hf : Has T "_law_made" 2 none P_lmade) : P_lfirst (runDf T df__law_first) := by
  obtain ⟨F, e1, e2, e3, e4⟩ := hf
  intro s n ok hn
  unfold runDf df__law_first scD
  have en : enumD 0 (s.map Rul.d) = (s.zipIdx 0).map fun p => .tup [.int (p.2 : Nat), p.1.d] := enum_map _ 0 _
  simp [itemsOf, pairOf, en]
  have L := forGo_find (tg := .many [2, 3]) (body := evSs T [.ifs (.cmp .IsNot (.call "_law_made" [.v 3, .v 1]) (.c .non)) [.ret (.v 2)] [], .gh [] [2, 3]]) (st := [.val (.tup (s.map Rul.d)), .val (nmD n), .no, .no]) (fun p : Rul × Nat => .tup [.int (p.2 : Nat), p.1.d]) (fun p => if fitB p.1 n then some (D.int (p.2 : Nat)) else none) (s.zipIdx 0) (fun p hp => by
    have hr : p.1 ∈ s := by
      have := List.mem_zipIdx hp
      rw [this.2.2]
      exact List.getElem_mem _
    have q := e4 p.1 n (ok _ hr) hn
    unfold madeO at q
    refine ⟨_, rfl, ?_⟩
    cases h : fitB p.1 n with
    | true =>
      rw [h] at q
      have q : F.sem [p.1.d, nmD n] = some (.ok (.tup (sds (mkN p.1 n))) .non) := q
      simp [e1, e2, e3, q]
    | false =>
      rw [h] at q
      simp [e1, e2, e3, q, optM])
  rw [first_zip] at L
  cases h : firstK n 0 s with
  | none =>
    rw [h] at L
    simp only [Option.map_none] at L
    simp [L, optN]
  | some j =>
    rw [h] at L
    obtain ⟨st2, L⟩ := L
    simp [L, optN]
abbrev P_lturned : (List D → Option FR) → Prop := fun sem => ∀ (s : List Rul) (n : List Str), (∀ r ∈ s, r.Ok) → n.length ≤ 100000 → sem [scD s, nmD n] = some (.ok (nmD (turnB s n)) .non)
theorem lturned_ok (T : Tb) (hf : Has T "_law_first" 2 none P_lfirst) (hm : Has T "_law_made" 2 none P_lmade) : P_lturned (runDf T df__law_turned) := by
  obtain ⟨F, e1, e2, e3, e4⟩ := hf
  obtain ⟨G, g1, g2, g3, g4⟩ := hm
  intro s n ok hn
  have a := e4 s n ok hn
  have fs := firstK_find n s 0
  unfold runDf df__law_turned turnB
  cases h : firstK n 0 s with
  | none =>
    rw [h] at a fs
    have fs : (s.find? fun r => fitB r n) = none := fs
    rw [fs]
    simp [e1, e2, e3, a, optN]
  | some j =>
    rw [h] at a fs
    obtain ⟨_, r, h2, h3, h4⟩ := fs
    rw [Nat.sub_zero] at h2
    rw [h4]
    have hr : r ∈ s := List.mem_of_getElem? h2
    have b := g4 r n (ok r hr) hn
    unfold madeO at b
    rw [h3] at b
    have hx : L2.atI (s.map Rul.d) (j : Int) = some r.d := by
      rw [atN _ _ (by omega), Int.toNat_natCast, List.getElem?_map, h2]
      rfl
    simp [e1, e2, e3, a, optN]
    simp [scD, hx, g1, g2, g3, b, optM]
end Nm
set_option maxRecDepth 100000
namespace K02
open PySem L2 Nm
def df__law_ask : Df := ⟨["what", "one", "other"], ["what", "one", "other", "e"], none, [.try_ [.ret (.callv (.ix (.lst [.g "fits", .g "makes", .g "first", .g "turned"]) (.v 0)) [.v 1, .v 2])] "TurnError" (some 3) (.which "_law_which")]⟩
def df_law : Df := ⟨["script"], ["script", "town", "bad", "kinds", "making", "great", "some", "name", "what", "k"], none, [.asg 1 (.lst [.c (.int 0), .c (.int 0)]), .unp [6, 7] (.tup [.call "_law_script" [.v 0, .v 1, .c (.int 4), .c (.int 2)], .call "_law_name" [.v 0, .v 1, .c (.int 5)]]), .for_ (.one 2) .seq [.call "_law_no_rules" []] [.ifs (.or (.cmp .IsNot (.call "is_rule" [.v 2]) (.c (.bl false))) (.cmp .IsNot (.call "is_script" [.tup [.v 2]]) (.c (.bl false)))) [.ret (.c (.bl false))] [], .ifs (.cmp .IsNot (.call "is_script" [.bin .Add (.sl (.v 6) .nil (.c (.int 3))) (.tup [.v 2])]) (.c (.bl false))) [.ret (.c (.bl false))] [], .ifs (.cmp .NotEq (.lc (.call "_law_ask" [.v 8, .v 2, .c .non]) (.one 8) .seq [.tup [.c (.int 0), .c (.int 1)]] []) (.bin .Mult (.lst [.tup [.c (.str "refused"), .c (.int 1)]]) (.c (.int 2)))) [.ret (.c (.bl false))] [], .ifs (.cmp .NotEq (.lc (.call "_law_ask" [.v 8, .tup [.v 2], .c .non]) (.one 8) .seq [.tup [.c (.int 2), .c (.int 3)]] []) (.bin .Mult (.lst [.tup [.c (.str "refused"), .c (.int 2)]]) (.c (.int 2)))) [.ret (.c (.bl false))] [], .gh [] [2]], .gh [] [2], .for_ (.one 2) .seq [.tup [.c .non, .lst [.ix (.v 6) (.c (.int 0))], .bin .Mult (.sl (.v 6) .nil (.c (.int 1))) (.c (.int 5)), .c (.str "script"), .c (.int 5), .ix (.v 6) (.c (.int 0))]] [.ifs (.cmp .IsNot (.call "is_script" [.v 2]) (.c (.bl false))) [.ret (.c (.bl false))] [], .ifs (.cmp .NotEq (.lc (.call "_law_ask" [.v 8, .v 2, .c .non]) (.one 8) .seq [.tup [.c (.int 2), .c (.int 3)]] []) (.bin .Mult (.lst [.tup [.c (.str "refused"), .c (.int 2)]]) (.c (.int 2)))) [.ret (.c (.bl false))] [], .gh [] [2]], .gh [] [2], .for_ (.one 2) .seq [.tup [.c .non, .tup [], .lst [.c (.str "a")], .tup [.c (.str "A")], .tup [.c (.str "")], .tup [.c (.str "abcdefg")], .tup [.c (.int 5)], .tup [.c (.str "a"), .c .non], .c (.str "a"), .bin .Mult (.tup [.c (.str "a")]) (.c (.int 31))]] [.ifs (.cmp .IsNot (.call "is_name" [.v 2]) (.c (.bl false))) [.ret (.c (.bl false))] [], .ifs (.cmp .NotEq (.lc (.call "_law_ask" [.v 8, .ix (.v 6) (.c (.int 0)), .v 2]) (.one 8) .seq [.tup [.c (.int 0), .c (.int 1)]] []) (.bin .Mult (.lst [.tup [.c (.str "refused"), .c (.int 0)]]) (.c (.int 2)))) [.ret (.c (.bl false))] [], .ifs (.cmp .NotEq (.lc (.call "_law_ask" [.v 8, .v 6, .v 2]) (.one 8) .seq [.tup [.c (.int 2), .c (.int 3)]] []) (.bin .Mult (.lst [.tup [.c (.str "refused"), .c (.int 0)]]) (.c (.int 2)))) [.ret (.c (.bl false))] [], .ifs (.cmp .IsNot (.call "is_folder" [.tup [.v 2]]) (.c (.bl false))) [.ret (.c (.bl false))] [], .gh [] [2]], .asg 3 (.lst [.c .non, .lst [.v 7], .tup [.v 7, .v 7], .tup [.tup [.c (.str "b")], .tup [.c (.str "a")]]]), .ex (.mut "extend" 3 [.lst [.bi "tuple" [.lc (.bin .Mult (.tup [.c (.str "a")]) (.bin .Add (.v 9) (.c (.int 1)))) (.one 9) .range [.c (.int 31)] []], .c (.str "folder")]]), .gh [] [2], .for_ (.one 2) .seq [.v 3] [.ifs (.cmp .IsNot (.call "is_folder" [.v 2]) (.c (.bl false))) [.ret (.c (.bl false))] [], .gh [] [2]], .asg 4 (.tup [.tup [.c (.str "rest")], .tup [.c (.str "field"), .c (.int 3)], .tup [.c (.str "word"), .c (.str "abcdef")], .tup [.c (.str "field"), .c (.int 0)]]), .asg 5 (.tup [.tup [.tup [.c (.str "none"), .tup [.c (.str "a"), .c (.str "abcdef"), .c (.str "z")]], .tup [.c (.str "like"), .c (.int 0)]], .c (.bl true), .tup [.tup [.c (.str "is"), .c (.str "abcdef")], .tup [.c (.str "like"), .c (.int 2)]], .v 4]), .ifs (.or (.cmp .IsNot (.call "is_rule" [.v 5]) (.c (.bl true))) (.or (.cmp .IsNot (.call "is_script" [.bin .Mult (.tup [.v 5]) (.c (.int 4))]) (.c (.bl true))) (.cmp .IsNot (.call "is_script" [.tup []]) (.c (.bl true))))) [.ret (.c (.bl false))] [], .ifs (.cmp .IsNot (.call "is_name" [.bin .Mult (.tup [.c (.str "abcdef")]) (.c (.int 30))]) (.c (.bl true))) [.ret (.c (.bl false))] [], .ret (.and (.cmp .Is (.call "is_folder" [.tup []]) (.c (.bl true))) (.cmp .Is (.call "is_folder" [.bi "tuple" [.lc (.bin .Mult (.tup [.c (.str "a")]) (.bin .Add (.v 9) (.c (.int 1)))) (.one 9) .range [.c (.int 30)] []]]) (.c (.bl true))))]⟩
def glT : List (Str × D) := [("LETTERS", .str "abcdefghijklmnopqrstuvwxyz"), ("FIELDS", .int 30), ("FILES", .int 30), ("SIDE", .int 2), ("ITEMS", .int 4), ("RULES", .int 4), ("first", .fn "first"), ("fits", .fn "fits"), ("makes", .fn "makes"), ("turned", .fn "turned")]
def ex0L : List Str := ["NoName", "NoRule", "NoScript"]
def exmL : List ((Str × Str) × Bool) := [(("NoName", "TurnError"), true), (("NoRule", "TurnError"), true), (("NoScript", "TurnError"), true), (("TurnError", "TurnError"), true)]
def ysL : List Str := ["NoName", "NoRule", "NoScript", "NoFolder", "Clash", "NoOrder", "Lost", "Ringed", "NoNumber", "NoRow", "NoWord", "Taken", "NotThere", "Full", "TooLong", "NoDeed", "NoText"]
def whT (f c : Str) : Option D := if f ∈ (["_law_which"] : List Str) ∧ c ∈ ex0L then (ysL.idxOf? c).map fun k => .tup [.str "refused", .int (k : Nat)] else none
def T0 : Tb := { fn := fun _ => none, gl := fun x => glT.lookup x, fu := 100000, ex0 := fun c => decide (c ∈ ex0L), exm := fun c y => exmL.lookup (c, y) }
def T1 : Tb := { T0.ext "is_whole" df_is_whole with wh := whT }
def T2 : Tb := T1.ext "is_word" df_is_word
def T3 : Tb := T2.ext "is_name" df_is_name
def T4 : Tb := T3.ext "are_rising" df_are_rising
def T5 : Tb := T4.ext "is_folder" df_is_folder
def T6 : Tb := T5.ext "is_test" df_is_test
def T7 : Tb := T6.ext "is_item" df_is_item
def T8 : Tb := T7.ext "is_rule" df_is_rule
def T9 : Tb := T8.ext "is_script" df_is_script
def T10 : Tb := T9.ext "need_script" df_need_script
def T11 : Tb := T10.ext "need_name" df_need_name
def T12 : Tb := T11.ext "places" df_places
def T13 : Tb := T12.ext "passes" df_passes
def T14 : Tb := T13.ext "fitting" df_fitting
def T15 : Tb := T14.ext "making_of" df_making_of
def T16 : Tb := T15.ext "fits" df_fits
def T17 : Tb := T16.ext "makes" df_makes
def T18 : Tb := T17.ext "first_of" df_first_of
def T19 : Tb := T18.ext "turned_of" df_turned_of
def T20 : Tb := T19.ext "first" df_first
def T21 : Tb := T20.ext "turned" df_turned
def T22 : Tb := T21.ext "_law_draw" df__law_draw
def T23 : Tb := T22.ext "_law_pick" df__law_pick
def T24 : Tb := T23.ext "_law_test" df__law_test
def T25 : Tb := T24.ext "_law_rule" df__law_rule
def T26 : Tb := T25.ext "_law_script" df__law_script
def T27 : Tb := T26.ext "_law_name" df__law_name
def T28 : Tb := T27.ext "_law_ask" df__law_ask
def T29 : Tb := T28.ext "_law_no_tests" df__law_no_tests
def T30 : Tb := T29.ext "_law_no_rules" df__law_no_rules
end K02
set_option maxRecDepth 100000
set_option maxHeartbeats 4000000
namespace K02
open PySem Nm
theorem gls (T : Tb) (h : T.gl = fun x => glT.lookup x) : Gls T := by
  refine ⟨?_, ?_, ?_, ?_, ?_⟩ <;> (rw [h]; kernel_rfl)
theorem h_is_whole : Has T1 "is_whole" 3 none P_whole := Has.setWh (T := T0.ext "is_whole" df_is_whole) (W := whT) (Has.new (T := T0) (x := "is_whole") (d := df_is_whole) (is_whole_ok T0))
theorem h_is_word : Has T2 "is_word" 1 none P_word := Has.new (is_word_ok T1 (gls T1 rfl))
theorem h_is_name : Has T3 "is_name" 1 none P_name := Has.new (is_name_ok T2 (gls T2 rfl) h_is_word)
theorem h_are_rising : Has T4 "are_rising" 1 none P_rising := Has.new (are_rising_ok T3)
theorem h_is_test : Has T6 "is_test" 2 none P_test := Has.new (is_test_ok T5 (Has.exts [("is_name", df_is_name), ("are_rising", df_are_rising), ("is_folder", df_is_folder)] h_is_word (by decide +kernel)) (Has.exts [("is_folder", df_is_folder)] h_are_rising (by decide +kernel)) (Has.exts [("is_word", df_is_word), ("is_name", df_is_name), ("are_rising", df_are_rising), ("is_folder", df_is_folder)] h_is_whole (by decide +kernel)))
theorem h_is_item : Has T7 "is_item" 3 none P_item := Has.new (is_item_ok T6 (Has.exts [("is_name", df_is_name), ("are_rising", df_are_rising), ("is_folder", df_is_folder), ("is_test", df_is_test)] h_is_word (by decide +kernel)) (Has.exts [("is_word", df_is_word), ("is_name", df_is_name), ("are_rising", df_are_rising), ("is_folder", df_is_folder), ("is_test", df_is_test)] h_is_whole (by decide +kernel)))
theorem h_is_rule : Has T8 "is_rule" 1 none P_rule := Has.new (is_rule_ok T7 (gls T7 rfl) (Has.exts [("is_item", df_is_item)] h_is_test (by decide +kernel)) h_is_item)
theorem h_is_script : Has T9 "is_script" 1 none P_script := Has.new (is_script_ok T8 (gls T8 rfl) h_is_rule)
theorem h_need_script : Has T10 "need_script" 1 none P_needS := Has.new (need_script_ok T9 h_is_script)
theorem h_need_name : Has T11 "need_name" 1 none P_needN := Has.new (need_name_ok T10 (Has.exts [("are_rising", df_are_rising), ("is_folder", df_is_folder), ("is_test", df_is_test), ("is_item", df_is_item), ("is_rule", df_is_rule), ("is_script", df_is_script), ("need_script", df_need_script)] h_is_name (by decide +kernel)))
theorem h_places : Has T12 "places" 2 none P_places := Has.new (places_ok T11)
theorem h_passes : Has T13 "passes" 3 none P_passes := Has.new (passes_ok T12)
theorem h_fitting : Has T14 "fitting" 2 none P_fitting := Has.new (fitting_ok T13 (Has.exts [("passes", df_passes)] h_places (by decide +kernel)) h_passes)
theorem h_making_of : Has T15 "making_of" 2 none P_making := Has.new (making_ok T14 (Has.exts [("passes", df_passes), ("fitting", df_fitting)] h_places (by decide +kernel)))
theorem h_fits : Has T16 "fits" 2 none P_fits := Has.new (fits_ok T15 (Has.exts [("is_script", df_is_script), ("need_script", df_need_script), ("need_name", df_need_name), ("places", df_places), ("passes", df_passes), ("fitting", df_fitting), ("making_of", df_making_of)] h_is_rule (by decide +kernel)) (Has.exts [("places", df_places), ("passes", df_passes), ("fitting", df_fitting), ("making_of", df_making_of)] h_need_name (by decide +kernel)) (Has.exts [("making_of", df_making_of)] h_fitting (by decide +kernel)))
theorem h_makes : Has T17 "makes" 2 none P_makes := Has.new (makes_ok T16 h_fits (makingN (Has.exts [("fits", df_fits)] h_making_of (by decide +kernel))))
theorem h_first_of : Has T18 "first_of" 2 none P_firstOf := Has.new (firstOf_ok T17 (Has.exts [("making_of", df_making_of), ("fits", df_fits), ("makes", df_makes)] h_fitting (by decide +kernel)))
theorem h_turned_of : Has T19 "turned_of" 2 none P_turnedOf := Has.new (turnedOf_ok T18 h_first_of (makingN (Has.exts [("fits", df_fits), ("makes", df_makes), ("first_of", df_first_of)] h_making_of (by decide +kernel))))
theorem h_first : Has T20 "first" 2 none P_first := Has.new (first_ok T19 (Has.exts [("need_name", df_need_name), ("places", df_places), ("passes", df_passes), ("fitting", df_fitting), ("making_of", df_making_of), ("fits", df_fits), ("makes", df_makes), ("first_of", df_first_of), ("turned_of", df_turned_of)] h_need_script (by decide +kernel)) (Has.exts [("places", df_places), ("passes", df_passes), ("fitting", df_fitting), ("making_of", df_making_of), ("fits", df_fits), ("makes", df_makes), ("first_of", df_first_of), ("turned_of", df_turned_of)] h_need_name (by decide +kernel)) (Has.exts [("turned_of", df_turned_of)] h_first_of (by decide +kernel)))
theorem h_turned : Has T21 "turned" 2 none P_turned := Has.new (turned_ok T20 (Has.exts [("need_name", df_need_name), ("places", df_places), ("passes", df_passes), ("fitting", df_fitting), ("making_of", df_making_of), ("fits", df_fits), ("makes", df_makes), ("first_of", df_first_of), ("turned_of", df_turned_of), ("first", df_first)] h_need_script (by decide +kernel)) (Has.exts [("places", df_places), ("passes", df_passes), ("fitting", df_fitting), ("making_of", df_making_of), ("fits", df_fits), ("makes", df_makes), ("first_of", df_first_of), ("turned_of", df_turned_of), ("first", df_first)] h_need_name (by decide +kernel)) (Has.exts [("first", df_first)] h_turned_of (by decide +kernel)))
theorem h__law_draw : Has T22 "_law_draw" 3 (some 1) P_draw := Has.new (draw_ok T21)
theorem h__law_pick : Has T23 "_law_pick" 3 (some 1) P_pick := Has.new (pick_ok T22 h__law_draw)
theorem h__law_test : Has T24 "_law_test" 3 (some 1) P_ltest := Has.new (ltest_ok T23 (Has.exts [("_law_pick", df__law_pick)] h__law_draw (by decide +kernel)) h__law_pick)
theorem h__law_rule : Has T25 "_law_rule" 3 (some 1) P_lrule := Has.new (lrule_ok T24 (Has.exts [("_law_pick", df__law_pick), ("_law_test", df__law_test)] h__law_draw (by decide +kernel)) (Has.exts [("_law_test", df__law_test)] h__law_pick (by decide +kernel)) h__law_test)
theorem h__law_script : Has T26 "_law_script" 4 (some 1) P_lscript := Has.new (lscript_ok T25 (Has.exts [("_law_pick", df__law_pick), ("_law_test", df__law_test), ("_law_rule", df__law_rule)] h__law_draw (by decide +kernel)) h__law_rule)
theorem h__law_name : Has T27 "_law_name" 3 (some 1) P_lname := Has.new (lname_ok T26 (Has.exts [("_law_pick", df__law_pick), ("_law_test", df__law_test), ("_law_rule", df__law_rule), ("_law_script", df__law_script)] h__law_draw (by decide +kernel)) (Has.exts [("_law_test", df__law_test), ("_law_rule", df__law_rule), ("_law_script", df__law_script)] h__law_pick (by decide +kernel)))
theorem e0_is_whole : Has T1 "is_whole" 3 none (fun sem => sem = runDf T0 df_is_whole) := Has.setWh (T := T0.ext "is_whole" df_is_whole) (W := whT) (Has.new (T := T0) (x := "is_whole") (d := df_is_whole) (rfl))
theorem e_is_whole : Has T30 "is_whole" 3 none (fun sem => sem = runDf T0 df_is_whole) := (Has.exts [("is_word", df_is_word), ("is_name", df_is_name), ("are_rising", df_are_rising), ("is_folder", df_is_folder), ("is_test", df_is_test), ("is_item", df_is_item), ("is_rule", df_is_rule), ("is_script", df_is_script), ("need_script", df_need_script), ("need_name", df_need_name), ("places", df_places), ("passes", df_passes), ("fitting", df_fitting), ("making_of", df_making_of), ("fits", df_fits), ("makes", df_makes), ("first_of", df_first_of), ("turned_of", df_turned_of), ("first", df_first), ("turned", df_turned), ("_law_draw", df__law_draw), ("_law_pick", df__law_pick), ("_law_test", df__law_test), ("_law_rule", df__law_rule), ("_law_script", df__law_script), ("_law_name", df__law_name), ("_law_ask", df__law_ask), ("_law_no_tests", df__law_no_tests), ("_law_no_rules", df__law_no_rules)] e0_is_whole (by decide +kernel))
theorem e0_is_word : Has T2 "is_word" 1 none (fun sem => sem = runDf T1 df_is_word) := Has.new (rfl)
theorem e_is_word : Has T30 "is_word" 1 none (fun sem => sem = runDf T1 df_is_word) := (Has.exts [("is_name", df_is_name), ("are_rising", df_are_rising), ("is_folder", df_is_folder), ("is_test", df_is_test), ("is_item", df_is_item), ("is_rule", df_is_rule), ("is_script", df_is_script), ("need_script", df_need_script), ("need_name", df_need_name), ("places", df_places), ("passes", df_passes), ("fitting", df_fitting), ("making_of", df_making_of), ("fits", df_fits), ("makes", df_makes), ("first_of", df_first_of), ("turned_of", df_turned_of), ("first", df_first), ("turned", df_turned), ("_law_draw", df__law_draw), ("_law_pick", df__law_pick), ("_law_test", df__law_test), ("_law_rule", df__law_rule), ("_law_script", df__law_script), ("_law_name", df__law_name), ("_law_ask", df__law_ask), ("_law_no_tests", df__law_no_tests), ("_law_no_rules", df__law_no_rules)] e0_is_word (by decide +kernel))
theorem e0_is_name : Has T3 "is_name" 1 none (fun sem => sem = runDf T2 df_is_name) := Has.new (rfl)
theorem e_is_name : Has T30 "is_name" 1 none (fun sem => sem = runDf T2 df_is_name) := (Has.exts [("are_rising", df_are_rising), ("is_folder", df_is_folder), ("is_test", df_is_test), ("is_item", df_is_item), ("is_rule", df_is_rule), ("is_script", df_is_script), ("need_script", df_need_script), ("need_name", df_need_name), ("places", df_places), ("passes", df_passes), ("fitting", df_fitting), ("making_of", df_making_of), ("fits", df_fits), ("makes", df_makes), ("first_of", df_first_of), ("turned_of", df_turned_of), ("first", df_first), ("turned", df_turned), ("_law_draw", df__law_draw), ("_law_pick", df__law_pick), ("_law_test", df__law_test), ("_law_rule", df__law_rule), ("_law_script", df__law_script), ("_law_name", df__law_name), ("_law_ask", df__law_ask), ("_law_no_tests", df__law_no_tests), ("_law_no_rules", df__law_no_rules)] e0_is_name (by decide +kernel))
theorem e0_are_rising : Has T4 "are_rising" 1 none (fun sem => sem = runDf T3 df_are_rising) := Has.new (rfl)
theorem e_are_rising : Has T30 "are_rising" 1 none (fun sem => sem = runDf T3 df_are_rising) := (Has.exts [("is_folder", df_is_folder), ("is_test", df_is_test), ("is_item", df_is_item), ("is_rule", df_is_rule), ("is_script", df_is_script), ("need_script", df_need_script), ("need_name", df_need_name), ("places", df_places), ("passes", df_passes), ("fitting", df_fitting), ("making_of", df_making_of), ("fits", df_fits), ("makes", df_makes), ("first_of", df_first_of), ("turned_of", df_turned_of), ("first", df_first), ("turned", df_turned), ("_law_draw", df__law_draw), ("_law_pick", df__law_pick), ("_law_test", df__law_test), ("_law_rule", df__law_rule), ("_law_script", df__law_script), ("_law_name", df__law_name), ("_law_ask", df__law_ask), ("_law_no_tests", df__law_no_tests), ("_law_no_rules", df__law_no_rules)] e0_are_rising (by decide +kernel))
theorem e0_is_folder : Has T5 "is_folder" 1 none (fun sem => sem = runDf T4 df_is_folder) := Has.new (rfl)
theorem e_is_folder : Has T30 "is_folder" 1 none (fun sem => sem = runDf T4 df_is_folder) := (Has.exts [("is_test", df_is_test), ("is_item", df_is_item), ("is_rule", df_is_rule), ("is_script", df_is_script), ("need_script", df_need_script), ("need_name", df_need_name), ("places", df_places), ("passes", df_passes), ("fitting", df_fitting), ("making_of", df_making_of), ("fits", df_fits), ("makes", df_makes), ("first_of", df_first_of), ("turned_of", df_turned_of), ("first", df_first), ("turned", df_turned), ("_law_draw", df__law_draw), ("_law_pick", df__law_pick), ("_law_test", df__law_test), ("_law_rule", df__law_rule), ("_law_script", df__law_script), ("_law_name", df__law_name), ("_law_ask", df__law_ask), ("_law_no_tests", df__law_no_tests), ("_law_no_rules", df__law_no_rules)] e0_is_folder (by decide +kernel))
theorem e0_is_test : Has T6 "is_test" 2 none (fun sem => sem = runDf T5 df_is_test) := Has.new (rfl)
theorem e_is_test : Has T30 "is_test" 2 none (fun sem => sem = runDf T5 df_is_test) := (Has.exts [("is_item", df_is_item), ("is_rule", df_is_rule), ("is_script", df_is_script), ("need_script", df_need_script), ("need_name", df_need_name), ("places", df_places), ("passes", df_passes), ("fitting", df_fitting), ("making_of", df_making_of), ("fits", df_fits), ("makes", df_makes), ("first_of", df_first_of), ("turned_of", df_turned_of), ("first", df_first), ("turned", df_turned), ("_law_draw", df__law_draw), ("_law_pick", df__law_pick), ("_law_test", df__law_test), ("_law_rule", df__law_rule), ("_law_script", df__law_script), ("_law_name", df__law_name), ("_law_ask", df__law_ask), ("_law_no_tests", df__law_no_tests), ("_law_no_rules", df__law_no_rules)] e0_is_test (by decide +kernel))
theorem e0_is_item : Has T7 "is_item" 3 none (fun sem => sem = runDf T6 df_is_item) := Has.new (rfl)
theorem e_is_item : Has T30 "is_item" 3 none (fun sem => sem = runDf T6 df_is_item) := (Has.exts [("is_rule", df_is_rule), ("is_script", df_is_script), ("need_script", df_need_script), ("need_name", df_need_name), ("places", df_places), ("passes", df_passes), ("fitting", df_fitting), ("making_of", df_making_of), ("fits", df_fits), ("makes", df_makes), ("first_of", df_first_of), ("turned_of", df_turned_of), ("first", df_first), ("turned", df_turned), ("_law_draw", df__law_draw), ("_law_pick", df__law_pick), ("_law_test", df__law_test), ("_law_rule", df__law_rule), ("_law_script", df__law_script), ("_law_name", df__law_name), ("_law_ask", df__law_ask), ("_law_no_tests", df__law_no_tests), ("_law_no_rules", df__law_no_rules)] e0_is_item (by decide +kernel))
theorem e0_is_rule : Has T8 "is_rule" 1 none (fun sem => sem = runDf T7 df_is_rule) := Has.new (rfl)
theorem e_is_rule : Has T30 "is_rule" 1 none (fun sem => sem = runDf T7 df_is_rule) := (Has.exts [("is_script", df_is_script), ("need_script", df_need_script), ("need_name", df_need_name), ("places", df_places), ("passes", df_passes), ("fitting", df_fitting), ("making_of", df_making_of), ("fits", df_fits), ("makes", df_makes), ("first_of", df_first_of), ("turned_of", df_turned_of), ("first", df_first), ("turned", df_turned), ("_law_draw", df__law_draw), ("_law_pick", df__law_pick), ("_law_test", df__law_test), ("_law_rule", df__law_rule), ("_law_script", df__law_script), ("_law_name", df__law_name), ("_law_ask", df__law_ask), ("_law_no_tests", df__law_no_tests), ("_law_no_rules", df__law_no_rules)] e0_is_rule (by decide +kernel))
theorem e0_is_script : Has T9 "is_script" 1 none (fun sem => sem = runDf T8 df_is_script) := Has.new (rfl)
theorem e_is_script : Has T30 "is_script" 1 none (fun sem => sem = runDf T8 df_is_script) := (Has.exts [("need_script", df_need_script), ("need_name", df_need_name), ("places", df_places), ("passes", df_passes), ("fitting", df_fitting), ("making_of", df_making_of), ("fits", df_fits), ("makes", df_makes), ("first_of", df_first_of), ("turned_of", df_turned_of), ("first", df_first), ("turned", df_turned), ("_law_draw", df__law_draw), ("_law_pick", df__law_pick), ("_law_test", df__law_test), ("_law_rule", df__law_rule), ("_law_script", df__law_script), ("_law_name", df__law_name), ("_law_ask", df__law_ask), ("_law_no_tests", df__law_no_tests), ("_law_no_rules", df__law_no_rules)] e0_is_script (by decide +kernel))
theorem e0_need_script : Has T10 "need_script" 1 none (fun sem => sem = runDf T9 df_need_script) := Has.new (rfl)
theorem e_need_script : Has T30 "need_script" 1 none (fun sem => sem = runDf T9 df_need_script) := (Has.exts [("need_name", df_need_name), ("places", df_places), ("passes", df_passes), ("fitting", df_fitting), ("making_of", df_making_of), ("fits", df_fits), ("makes", df_makes), ("first_of", df_first_of), ("turned_of", df_turned_of), ("first", df_first), ("turned", df_turned), ("_law_draw", df__law_draw), ("_law_pick", df__law_pick), ("_law_test", df__law_test), ("_law_rule", df__law_rule), ("_law_script", df__law_script), ("_law_name", df__law_name), ("_law_ask", df__law_ask), ("_law_no_tests", df__law_no_tests), ("_law_no_rules", df__law_no_rules)] e0_need_script (by decide +kernel))
theorem e0_need_name : Has T11 "need_name" 1 none (fun sem => sem = runDf T10 df_need_name) := Has.new (rfl)
theorem e_need_name : Has T30 "need_name" 1 none (fun sem => sem = runDf T10 df_need_name) := (Has.exts [("places", df_places), ("passes", df_passes), ("fitting", df_fitting), ("making_of", df_making_of), ("fits", df_fits), ("makes", df_makes), ("first_of", df_first_of), ("turned_of", df_turned_of), ("first", df_first), ("turned", df_turned), ("_law_draw", df__law_draw), ("_law_pick", df__law_pick), ("_law_test", df__law_test), ("_law_rule", df__law_rule), ("_law_script", df__law_script), ("_law_name", df__law_name), ("_law_ask", df__law_ask), ("_law_no_tests", df__law_no_tests), ("_law_no_rules", df__law_no_rules)] e0_need_name (by decide +kernel))
theorem e0_places : Has T12 "places" 2 none (fun sem => sem = runDf T11 df_places) := Has.new (rfl)
theorem e_places : Has T30 "places" 2 none (fun sem => sem = runDf T11 df_places) := (Has.exts [("passes", df_passes), ("fitting", df_fitting), ("making_of", df_making_of), ("fits", df_fits), ("makes", df_makes), ("first_of", df_first_of), ("turned_of", df_turned_of), ("first", df_first), ("turned", df_turned), ("_law_draw", df__law_draw), ("_law_pick", df__law_pick), ("_law_test", df__law_test), ("_law_rule", df__law_rule), ("_law_script", df__law_script), ("_law_name", df__law_name), ("_law_ask", df__law_ask), ("_law_no_tests", df__law_no_tests), ("_law_no_rules", df__law_no_rules)] e0_places (by decide +kernel))
theorem e0_passes : Has T13 "passes" 3 none (fun sem => sem = runDf T12 df_passes) := Has.new (rfl)
theorem e_passes : Has T30 "passes" 3 none (fun sem => sem = runDf T12 df_passes) := (Has.exts [("fitting", df_fitting), ("making_of", df_making_of), ("fits", df_fits), ("makes", df_makes), ("first_of", df_first_of), ("turned_of", df_turned_of), ("first", df_first), ("turned", df_turned), ("_law_draw", df__law_draw), ("_law_pick", df__law_pick), ("_law_test", df__law_test), ("_law_rule", df__law_rule), ("_law_script", df__law_script), ("_law_name", df__law_name), ("_law_ask", df__law_ask), ("_law_no_tests", df__law_no_tests), ("_law_no_rules", df__law_no_rules)] e0_passes (by decide +kernel))
theorem e0_fitting : Has T14 "fitting" 2 none (fun sem => sem = runDf T13 df_fitting) := Has.new (rfl)
theorem e_fitting : Has T30 "fitting" 2 none (fun sem => sem = runDf T13 df_fitting) := (Has.exts [("making_of", df_making_of), ("fits", df_fits), ("makes", df_makes), ("first_of", df_first_of), ("turned_of", df_turned_of), ("first", df_first), ("turned", df_turned), ("_law_draw", df__law_draw), ("_law_pick", df__law_pick), ("_law_test", df__law_test), ("_law_rule", df__law_rule), ("_law_script", df__law_script), ("_law_name", df__law_name), ("_law_ask", df__law_ask), ("_law_no_tests", df__law_no_tests), ("_law_no_rules", df__law_no_rules)] e0_fitting (by decide +kernel))
theorem e0_making_of : Has T15 "making_of" 2 none (fun sem => sem = runDf T14 df_making_of) := Has.new (rfl)
theorem e_making_of : Has T30 "making_of" 2 none (fun sem => sem = runDf T14 df_making_of) := (Has.exts [("fits", df_fits), ("makes", df_makes), ("first_of", df_first_of), ("turned_of", df_turned_of), ("first", df_first), ("turned", df_turned), ("_law_draw", df__law_draw), ("_law_pick", df__law_pick), ("_law_test", df__law_test), ("_law_rule", df__law_rule), ("_law_script", df__law_script), ("_law_name", df__law_name), ("_law_ask", df__law_ask), ("_law_no_tests", df__law_no_tests), ("_law_no_rules", df__law_no_rules)] e0_making_of (by decide +kernel))
theorem e0_fits : Has T16 "fits" 2 none (fun sem => sem = runDf T15 df_fits) := Has.new (rfl)
theorem e_fits : Has T30 "fits" 2 none (fun sem => sem = runDf T15 df_fits) := (Has.exts [("makes", df_makes), ("first_of", df_first_of), ("turned_of", df_turned_of), ("first", df_first), ("turned", df_turned), ("_law_draw", df__law_draw), ("_law_pick", df__law_pick), ("_law_test", df__law_test), ("_law_rule", df__law_rule), ("_law_script", df__law_script), ("_law_name", df__law_name), ("_law_ask", df__law_ask), ("_law_no_tests", df__law_no_tests), ("_law_no_rules", df__law_no_rules)] e0_fits (by decide +kernel))
theorem e0_makes : Has T17 "makes" 2 none (fun sem => sem = runDf T16 df_makes) := Has.new (rfl)
theorem e_makes : Has T30 "makes" 2 none (fun sem => sem = runDf T16 df_makes) := (Has.exts [("first_of", df_first_of), ("turned_of", df_turned_of), ("first", df_first), ("turned", df_turned), ("_law_draw", df__law_draw), ("_law_pick", df__law_pick), ("_law_test", df__law_test), ("_law_rule", df__law_rule), ("_law_script", df__law_script), ("_law_name", df__law_name), ("_law_ask", df__law_ask), ("_law_no_tests", df__law_no_tests), ("_law_no_rules", df__law_no_rules)] e0_makes (by decide +kernel))
theorem e0_first_of : Has T18 "first_of" 2 none (fun sem => sem = runDf T17 df_first_of) := Has.new (rfl)
theorem e_first_of : Has T30 "first_of" 2 none (fun sem => sem = runDf T17 df_first_of) := (Has.exts [("turned_of", df_turned_of), ("first", df_first), ("turned", df_turned), ("_law_draw", df__law_draw), ("_law_pick", df__law_pick), ("_law_test", df__law_test), ("_law_rule", df__law_rule), ("_law_script", df__law_script), ("_law_name", df__law_name), ("_law_ask", df__law_ask), ("_law_no_tests", df__law_no_tests), ("_law_no_rules", df__law_no_rules)] e0_first_of (by decide +kernel))
theorem e0_turned_of : Has T19 "turned_of" 2 none (fun sem => sem = runDf T18 df_turned_of) := Has.new (rfl)
theorem e_turned_of : Has T30 "turned_of" 2 none (fun sem => sem = runDf T18 df_turned_of) := (Has.exts [("first", df_first), ("turned", df_turned), ("_law_draw", df__law_draw), ("_law_pick", df__law_pick), ("_law_test", df__law_test), ("_law_rule", df__law_rule), ("_law_script", df__law_script), ("_law_name", df__law_name), ("_law_ask", df__law_ask), ("_law_no_tests", df__law_no_tests), ("_law_no_rules", df__law_no_rules)] e0_turned_of (by decide +kernel))
theorem e0_first : Has T20 "first" 2 none (fun sem => sem = runDf T19 df_first) := Has.new (rfl)
theorem e_first : Has T30 "first" 2 none (fun sem => sem = runDf T19 df_first) := (Has.exts [("turned", df_turned), ("_law_draw", df__law_draw), ("_law_pick", df__law_pick), ("_law_test", df__law_test), ("_law_rule", df__law_rule), ("_law_script", df__law_script), ("_law_name", df__law_name), ("_law_ask", df__law_ask), ("_law_no_tests", df__law_no_tests), ("_law_no_rules", df__law_no_rules)] e0_first (by decide +kernel))
theorem e0_turned : Has T21 "turned" 2 none (fun sem => sem = runDf T20 df_turned) := Has.new (rfl)
theorem e_turned : Has T30 "turned" 2 none (fun sem => sem = runDf T20 df_turned) := (Has.exts [("_law_draw", df__law_draw), ("_law_pick", df__law_pick), ("_law_test", df__law_test), ("_law_rule", df__law_rule), ("_law_script", df__law_script), ("_law_name", df__law_name), ("_law_ask", df__law_ask), ("_law_no_tests", df__law_no_tests), ("_law_no_rules", df__law_no_rules)] e0_turned (by decide +kernel))
theorem e0__law_draw : Has T22 "_law_draw" 3 (some 1) (fun sem => sem = runDf T21 df__law_draw) := Has.new (rfl)
theorem e__law_draw : Has T30 "_law_draw" 3 (some 1) (fun sem => sem = runDf T21 df__law_draw) := (Has.exts [("_law_pick", df__law_pick), ("_law_test", df__law_test), ("_law_rule", df__law_rule), ("_law_script", df__law_script), ("_law_name", df__law_name), ("_law_ask", df__law_ask), ("_law_no_tests", df__law_no_tests), ("_law_no_rules", df__law_no_rules)] e0__law_draw (by decide +kernel))
theorem e0__law_pick : Has T23 "_law_pick" 3 (some 1) (fun sem => sem = runDf T22 df__law_pick) := Has.new (rfl)
theorem e__law_pick : Has T30 "_law_pick" 3 (some 1) (fun sem => sem = runDf T22 df__law_pick) := (Has.exts [("_law_test", df__law_test), ("_law_rule", df__law_rule), ("_law_script", df__law_script), ("_law_name", df__law_name), ("_law_ask", df__law_ask), ("_law_no_tests", df__law_no_tests), ("_law_no_rules", df__law_no_rules)] e0__law_pick (by decide +kernel))
theorem e0__law_test : Has T24 "_law_test" 3 (some 1) (fun sem => sem = runDf T23 df__law_test) := Has.new (rfl)
theorem e__law_test : Has T30 "_law_test" 3 (some 1) (fun sem => sem = runDf T23 df__law_test) := (Has.exts [("_law_rule", df__law_rule), ("_law_script", df__law_script), ("_law_name", df__law_name), ("_law_ask", df__law_ask), ("_law_no_tests", df__law_no_tests), ("_law_no_rules", df__law_no_rules)] e0__law_test (by decide +kernel))
theorem e0__law_rule : Has T25 "_law_rule" 3 (some 1) (fun sem => sem = runDf T24 df__law_rule) := Has.new (rfl)
theorem e__law_rule : Has T30 "_law_rule" 3 (some 1) (fun sem => sem = runDf T24 df__law_rule) := (Has.exts [("_law_script", df__law_script), ("_law_name", df__law_name), ("_law_ask", df__law_ask), ("_law_no_tests", df__law_no_tests), ("_law_no_rules", df__law_no_rules)] e0__law_rule (by decide +kernel))
theorem e0__law_script : Has T26 "_law_script" 4 (some 1) (fun sem => sem = runDf T25 df__law_script) := Has.new (rfl)
theorem e__law_script : Has T30 "_law_script" 4 (some 1) (fun sem => sem = runDf T25 df__law_script) := (Has.exts [("_law_name", df__law_name), ("_law_ask", df__law_ask), ("_law_no_tests", df__law_no_tests), ("_law_no_rules", df__law_no_rules)] e0__law_script (by decide +kernel))
theorem e0__law_name : Has T27 "_law_name" 3 (some 1) (fun sem => sem = runDf T26 df__law_name) := Has.new (rfl)
theorem e__law_name : Has T30 "_law_name" 3 (some 1) (fun sem => sem = runDf T26 df__law_name) := (Has.exts [("_law_ask", df__law_ask), ("_law_no_tests", df__law_no_tests), ("_law_no_rules", df__law_no_rules)] e0__law_name (by decide +kernel))
theorem e0__law_ask : Has T28 "_law_ask" 3 none (fun sem => sem = runDf T27 df__law_ask) := Has.new (rfl)
theorem e__law_ask : Has T30 "_law_ask" 3 none (fun sem => sem = runDf T27 df__law_ask) := (Has.exts [("_law_no_tests", df__law_no_tests), ("_law_no_rules", df__law_no_rules)] e0__law_ask (by decide +kernel))
theorem e0__law_no_tests : Has T29 "_law_no_tests" 0 none (fun sem => sem = runDf T28 df__law_no_tests) := Has.new (rfl)
theorem e__law_no_tests : Has T30 "_law_no_tests" 0 none (fun sem => sem = runDf T28 df__law_no_tests) := (Has.exts [("_law_no_rules", df__law_no_rules)] e0__law_no_tests (by decide +kernel))
theorem e0__law_no_rules : Has T30 "_law_no_rules" 0 none (fun sem => sem = runDf T29 df__law_no_rules) := Has.new (rfl)
theorem e__law_no_rules : Has T30 "_law_no_rules" 0 none (fun sem => sem = runDf T29 df__law_no_rules) := e0__law_no_rules
theorem z_is_whole : Has T30 "is_whole" 3 none P_whole := (Has.exts [("is_word", df_is_word), ("is_name", df_is_name), ("are_rising", df_are_rising), ("is_folder", df_is_folder), ("is_test", df_is_test), ("is_item", df_is_item), ("is_rule", df_is_rule), ("is_script", df_is_script), ("need_script", df_need_script), ("need_name", df_need_name), ("places", df_places), ("passes", df_passes), ("fitting", df_fitting), ("making_of", df_making_of), ("fits", df_fits), ("makes", df_makes), ("first_of", df_first_of), ("turned_of", df_turned_of), ("first", df_first), ("turned", df_turned), ("_law_draw", df__law_draw), ("_law_pick", df__law_pick), ("_law_test", df__law_test), ("_law_rule", df__law_rule), ("_law_script", df__law_script), ("_law_name", df__law_name), ("_law_ask", df__law_ask), ("_law_no_tests", df__law_no_tests), ("_law_no_rules", df__law_no_rules)] h_is_whole (by decide +kernel))
theorem z_is_word : Has T30 "is_word" 1 none P_word := (Has.exts [("is_name", df_is_name), ("are_rising", df_are_rising), ("is_folder", df_is_folder), ("is_test", df_is_test), ("is_item", df_is_item), ("is_rule", df_is_rule), ("is_script", df_is_script), ("need_script", df_need_script), ("need_name", df_need_name), ("places", df_places), ("passes", df_passes), ("fitting", df_fitting), ("making_of", df_making_of), ("fits", df_fits), ("makes", df_makes), ("first_of", df_first_of), ("turned_of", df_turned_of), ("first", df_first), ("turned", df_turned), ("_law_draw", df__law_draw), ("_law_pick", df__law_pick), ("_law_test", df__law_test), ("_law_rule", df__law_rule), ("_law_script", df__law_script), ("_law_name", df__law_name), ("_law_ask", df__law_ask), ("_law_no_tests", df__law_no_tests), ("_law_no_rules", df__law_no_rules)] h_is_word (by decide +kernel))
theorem z_is_name : Has T30 "is_name" 1 none P_name := (Has.exts [("are_rising", df_are_rising), ("is_folder", df_is_folder), ("is_test", df_is_test), ("is_item", df_is_item), ("is_rule", df_is_rule), ("is_script", df_is_script), ("need_script", df_need_script), ("need_name", df_need_name), ("places", df_places), ("passes", df_passes), ("fitting", df_fitting), ("making_of", df_making_of), ("fits", df_fits), ("makes", df_makes), ("first_of", df_first_of), ("turned_of", df_turned_of), ("first", df_first), ("turned", df_turned), ("_law_draw", df__law_draw), ("_law_pick", df__law_pick), ("_law_test", df__law_test), ("_law_rule", df__law_rule), ("_law_script", df__law_script), ("_law_name", df__law_name), ("_law_ask", df__law_ask), ("_law_no_tests", df__law_no_tests), ("_law_no_rules", df__law_no_rules)] h_is_name (by decide +kernel))
theorem z_are_rising : Has T30 "are_rising" 1 none P_rising := (Has.exts [("is_folder", df_is_folder), ("is_test", df_is_test), ("is_item", df_is_item), ("is_rule", df_is_rule), ("is_script", df_is_script), ("need_script", df_need_script), ("need_name", df_need_name), ("places", df_places), ("passes", df_passes), ("fitting", df_fitting), ("making_of", df_making_of), ("fits", df_fits), ("makes", df_makes), ("first_of", df_first_of), ("turned_of", df_turned_of), ("first", df_first), ("turned", df_turned), ("_law_draw", df__law_draw), ("_law_pick", df__law_pick), ("_law_test", df__law_test), ("_law_rule", df__law_rule), ("_law_script", df__law_script), ("_law_name", df__law_name), ("_law_ask", df__law_ask), ("_law_no_tests", df__law_no_tests), ("_law_no_rules", df__law_no_rules)] h_are_rising (by decide +kernel))
theorem z_is_test : Has T30 "is_test" 2 none P_test := (Has.exts [("is_item", df_is_item), ("is_rule", df_is_rule), ("is_script", df_is_script), ("need_script", df_need_script), ("need_name", df_need_name), ("places", df_places), ("passes", df_passes), ("fitting", df_fitting), ("making_of", df_making_of), ("fits", df_fits), ("makes", df_makes), ("first_of", df_first_of), ("turned_of", df_turned_of), ("first", df_first), ("turned", df_turned), ("_law_draw", df__law_draw), ("_law_pick", df__law_pick), ("_law_test", df__law_test), ("_law_rule", df__law_rule), ("_law_script", df__law_script), ("_law_name", df__law_name), ("_law_ask", df__law_ask), ("_law_no_tests", df__law_no_tests), ("_law_no_rules", df__law_no_rules)] h_is_test (by decide +kernel))
theorem z_is_item : Has T30 "is_item" 3 none P_item := (Has.exts [("is_rule", df_is_rule), ("is_script", df_is_script), ("need_script", df_need_script), ("need_name", df_need_name), ("places", df_places), ("passes", df_passes), ("fitting", df_fitting), ("making_of", df_making_of), ("fits", df_fits), ("makes", df_makes), ("first_of", df_first_of), ("turned_of", df_turned_of), ("first", df_first), ("turned", df_turned), ("_law_draw", df__law_draw), ("_law_pick", df__law_pick), ("_law_test", df__law_test), ("_law_rule", df__law_rule), ("_law_script", df__law_script), ("_law_name", df__law_name), ("_law_ask", df__law_ask), ("_law_no_tests", df__law_no_tests), ("_law_no_rules", df__law_no_rules)] h_is_item (by decide +kernel))
theorem z_is_rule : Has T30 "is_rule" 1 none P_rule := (Has.exts [("is_script", df_is_script), ("need_script", df_need_script), ("need_name", df_need_name), ("places", df_places), ("passes", df_passes), ("fitting", df_fitting), ("making_of", df_making_of), ("fits", df_fits), ("makes", df_makes), ("first_of", df_first_of), ("turned_of", df_turned_of), ("first", df_first), ("turned", df_turned), ("_law_draw", df__law_draw), ("_law_pick", df__law_pick), ("_law_test", df__law_test), ("_law_rule", df__law_rule), ("_law_script", df__law_script), ("_law_name", df__law_name), ("_law_ask", df__law_ask), ("_law_no_tests", df__law_no_tests), ("_law_no_rules", df__law_no_rules)] h_is_rule (by decide +kernel))
theorem z_is_script : Has T30 "is_script" 1 none P_script := (Has.exts [("need_script", df_need_script), ("need_name", df_need_name), ("places", df_places), ("passes", df_passes), ("fitting", df_fitting), ("making_of", df_making_of), ("fits", df_fits), ("makes", df_makes), ("first_of", df_first_of), ("turned_of", df_turned_of), ("first", df_first), ("turned", df_turned), ("_law_draw", df__law_draw), ("_law_pick", df__law_pick), ("_law_test", df__law_test), ("_law_rule", df__law_rule), ("_law_script", df__law_script), ("_law_name", df__law_name), ("_law_ask", df__law_ask), ("_law_no_tests", df__law_no_tests), ("_law_no_rules", df__law_no_rules)] h_is_script (by decide +kernel))
theorem z_need_script : Has T30 "need_script" 1 none P_needS := (Has.exts [("need_name", df_need_name), ("places", df_places), ("passes", df_passes), ("fitting", df_fitting), ("making_of", df_making_of), ("fits", df_fits), ("makes", df_makes), ("first_of", df_first_of), ("turned_of", df_turned_of), ("first", df_first), ("turned", df_turned), ("_law_draw", df__law_draw), ("_law_pick", df__law_pick), ("_law_test", df__law_test), ("_law_rule", df__law_rule), ("_law_script", df__law_script), ("_law_name", df__law_name), ("_law_ask", df__law_ask), ("_law_no_tests", df__law_no_tests), ("_law_no_rules", df__law_no_rules)] h_need_script (by decide +kernel))
theorem z_need_name : Has T30 "need_name" 1 none P_needN := (Has.exts [("places", df_places), ("passes", df_passes), ("fitting", df_fitting), ("making_of", df_making_of), ("fits", df_fits), ("makes", df_makes), ("first_of", df_first_of), ("turned_of", df_turned_of), ("first", df_first), ("turned", df_turned), ("_law_draw", df__law_draw), ("_law_pick", df__law_pick), ("_law_test", df__law_test), ("_law_rule", df__law_rule), ("_law_script", df__law_script), ("_law_name", df__law_name), ("_law_ask", df__law_ask), ("_law_no_tests", df__law_no_tests), ("_law_no_rules", df__law_no_rules)] h_need_name (by decide +kernel))
theorem z_places : Has T30 "places" 2 none P_places := (Has.exts [("passes", df_passes), ("fitting", df_fitting), ("making_of", df_making_of), ("fits", df_fits), ("makes", df_makes), ("first_of", df_first_of), ("turned_of", df_turned_of), ("first", df_first), ("turned", df_turned), ("_law_draw", df__law_draw), ("_law_pick", df__law_pick), ("_law_test", df__law_test), ("_law_rule", df__law_rule), ("_law_script", df__law_script), ("_law_name", df__law_name), ("_law_ask", df__law_ask), ("_law_no_tests", df__law_no_tests), ("_law_no_rules", df__law_no_rules)] h_places (by decide +kernel))
theorem z_passes : Has T30 "passes" 3 none P_passes := (Has.exts [("fitting", df_fitting), ("making_of", df_making_of), ("fits", df_fits), ("makes", df_makes), ("first_of", df_first_of), ("turned_of", df_turned_of), ("first", df_first), ("turned", df_turned), ("_law_draw", df__law_draw), ("_law_pick", df__law_pick), ("_law_test", df__law_test), ("_law_rule", df__law_rule), ("_law_script", df__law_script), ("_law_name", df__law_name), ("_law_ask", df__law_ask), ("_law_no_tests", df__law_no_tests), ("_law_no_rules", df__law_no_rules)] h_passes (by decide +kernel))
theorem z_fitting : Has T30 "fitting" 2 none P_fitting := (Has.exts [("making_of", df_making_of), ("fits", df_fits), ("makes", df_makes), ("first_of", df_first_of), ("turned_of", df_turned_of), ("first", df_first), ("turned", df_turned), ("_law_draw", df__law_draw), ("_law_pick", df__law_pick), ("_law_test", df__law_test), ("_law_rule", df__law_rule), ("_law_script", df__law_script), ("_law_name", df__law_name), ("_law_ask", df__law_ask), ("_law_no_tests", df__law_no_tests), ("_law_no_rules", df__law_no_rules)] h_fitting (by decide +kernel))
theorem z_making_of : Has T30 "making_of" 2 none P_making := (Has.exts [("fits", df_fits), ("makes", df_makes), ("first_of", df_first_of), ("turned_of", df_turned_of), ("first", df_first), ("turned", df_turned), ("_law_draw", df__law_draw), ("_law_pick", df__law_pick), ("_law_test", df__law_test), ("_law_rule", df__law_rule), ("_law_script", df__law_script), ("_law_name", df__law_name), ("_law_ask", df__law_ask), ("_law_no_tests", df__law_no_tests), ("_law_no_rules", df__law_no_rules)] h_making_of (by decide +kernel))
theorem z_fits : Has T30 "fits" 2 none P_fits := (Has.exts [("makes", df_makes), ("first_of", df_first_of), ("turned_of", df_turned_of), ("first", df_first), ("turned", df_turned), ("_law_draw", df__law_draw), ("_law_pick", df__law_pick), ("_law_test", df__law_test), ("_law_rule", df__law_rule), ("_law_script", df__law_script), ("_law_name", df__law_name), ("_law_ask", df__law_ask), ("_law_no_tests", df__law_no_tests), ("_law_no_rules", df__law_no_rules)] h_fits (by decide +kernel))
theorem z_makes : Has T30 "makes" 2 none P_makes := (Has.exts [("first_of", df_first_of), ("turned_of", df_turned_of), ("first", df_first), ("turned", df_turned), ("_law_draw", df__law_draw), ("_law_pick", df__law_pick), ("_law_test", df__law_test), ("_law_rule", df__law_rule), ("_law_script", df__law_script), ("_law_name", df__law_name), ("_law_ask", df__law_ask), ("_law_no_tests", df__law_no_tests), ("_law_no_rules", df__law_no_rules)] h_makes (by decide +kernel))
theorem z_first_of : Has T30 "first_of" 2 none P_firstOf := (Has.exts [("turned_of", df_turned_of), ("first", df_first), ("turned", df_turned), ("_law_draw", df__law_draw), ("_law_pick", df__law_pick), ("_law_test", df__law_test), ("_law_rule", df__law_rule), ("_law_script", df__law_script), ("_law_name", df__law_name), ("_law_ask", df__law_ask), ("_law_no_tests", df__law_no_tests), ("_law_no_rules", df__law_no_rules)] h_first_of (by decide +kernel))
theorem z_turned_of : Has T30 "turned_of" 2 none P_turnedOf := (Has.exts [("first", df_first), ("turned", df_turned), ("_law_draw", df__law_draw), ("_law_pick", df__law_pick), ("_law_test", df__law_test), ("_law_rule", df__law_rule), ("_law_script", df__law_script), ("_law_name", df__law_name), ("_law_ask", df__law_ask), ("_law_no_tests", df__law_no_tests), ("_law_no_rules", df__law_no_rules)] h_turned_of (by decide +kernel))
theorem z_first : Has T30 "first" 2 none P_first := (Has.exts [("turned", df_turned), ("_law_draw", df__law_draw), ("_law_pick", df__law_pick), ("_law_test", df__law_test), ("_law_rule", df__law_rule), ("_law_script", df__law_script), ("_law_name", df__law_name), ("_law_ask", df__law_ask), ("_law_no_tests", df__law_no_tests), ("_law_no_rules", df__law_no_rules)] h_first (by decide +kernel))
theorem z_turned : Has T30 "turned" 2 none P_turned := (Has.exts [("_law_draw", df__law_draw), ("_law_pick", df__law_pick), ("_law_test", df__law_test), ("_law_rule", df__law_rule), ("_law_script", df__law_script), ("_law_name", df__law_name), ("_law_ask", df__law_ask), ("_law_no_tests", df__law_no_tests), ("_law_no_rules", df__law_no_rules)] h_turned (by decide +kernel))
theorem z__law_draw : Has T30 "_law_draw" 3 (some 1) P_draw := (Has.exts [("_law_pick", df__law_pick), ("_law_test", df__law_test), ("_law_rule", df__law_rule), ("_law_script", df__law_script), ("_law_name", df__law_name), ("_law_ask", df__law_ask), ("_law_no_tests", df__law_no_tests), ("_law_no_rules", df__law_no_rules)] h__law_draw (by decide +kernel))
theorem z__law_pick : Has T30 "_law_pick" 3 (some 1) P_pick := (Has.exts [("_law_test", df__law_test), ("_law_rule", df__law_rule), ("_law_script", df__law_script), ("_law_name", df__law_name), ("_law_ask", df__law_ask), ("_law_no_tests", df__law_no_tests), ("_law_no_rules", df__law_no_rules)] h__law_pick (by decide +kernel))
theorem z__law_test : Has T30 "_law_test" 3 (some 1) P_ltest := (Has.exts [("_law_rule", df__law_rule), ("_law_script", df__law_script), ("_law_name", df__law_name), ("_law_ask", df__law_ask), ("_law_no_tests", df__law_no_tests), ("_law_no_rules", df__law_no_rules)] h__law_test (by decide +kernel))
theorem z__law_rule : Has T30 "_law_rule" 3 (some 1) P_lrule := (Has.exts [("_law_script", df__law_script), ("_law_name", df__law_name), ("_law_ask", df__law_ask), ("_law_no_tests", df__law_no_tests), ("_law_no_rules", df__law_no_rules)] h__law_rule (by decide +kernel))
theorem z__law_script : Has T30 "_law_script" 4 (some 1) P_lscript := (Has.exts [("_law_name", df__law_name), ("_law_ask", df__law_ask), ("_law_no_tests", df__law_no_tests), ("_law_no_rules", df__law_no_rules)] h__law_script (by decide +kernel))
theorem z__law_name : Has T30 "_law_name" 3 (some 1) P_lname := (Has.exts [("_law_ask", df__law_ask), ("_law_no_tests", df__law_no_tests), ("_law_no_rules", df__law_no_rules)] h__law_name (by decide +kernel))
end K02
set_option maxRecDepth 100000
set_option maxHeartbeats 4000000
namespace K02
open PySem Nm
theorem forGo_all {tg : Tg} {body : Sl → R Fl} {st : Sl} : ∀ xs : List D, (∀ x ∈ xs, ∃ st1, bindTg st tg x = some st1 ∧ body st1 = .ok .next st) → forGo tg body xs st = .ok .next st
  | [], _ => by rw [forGo]
  | x :: xs, h => by
    obtain ⟨st1, e1, e2⟩ := h x List.mem_cons_self
    rw [forGo, e1]
    simp only [e2, R.bind_ok]
    exact forGo_all xs fun y hy => h y (List.mem_cons_of_mem _ hy)
/-- what is_rule says -/
def rb (d : D) : Bool := match runDf T7 df_is_rule [d] with
  | some (.ok (.bl true) .non) => true
  | _ => false
def Df1 (d : D) : Prop := runDf T7 df_is_rule [d] = some (.ok (.bl (rb d)) .non)
def isNo : Option FR → Bool
  | some (.ok (.bl false) .non) => true
  | _ => false
theorem isNo_eq {o : Option FR} (h : isNo o = true) : o = some (.ok (.bl false) .non) := by
  unfold isNo at h
  split at h
  · rfl
  · cases h
theorem rb_no {d : D} (h : runDf T7 df_is_rule [d] = some (.ok (.bl false) .non)) : Df1 d ∧ rb d = false := by
  have e : rb d = false := by unfold rb; rw [h]
  exact ⟨by unfold Df1; rw [e]; exact h, e⟩
theorem rb_yes {d : D} (h : runDf T7 df_is_rule [d] = some (.ok (.bl true) .non)) : Df1 d ∧ rb d = true := by
  have e : rb d = true := by unfold rb; rw [h]
  exact ⟨by unfold Df1; rw [e]; exact h, e⟩
def badRules : List D := match runDf T29 df__law_no_rules [] with
  | some (.ok (.lst xs) .non) => xs
  | _ => []
theorem bad_eq : runDf T29 df__law_no_rules [] = some (.ok (.lst badRules) .non) := by kernel_rfl
theorem bad_all : badRules.all (fun b => isNo (runDf T7 df_is_rule [b])) = true := by kernel_rfl
theorem bad_no {b : D} (h : b ∈ badRules) : Df1 b ∧ rb b = false := rb_no (isNo_eq (List.all_eq_true.mp bad_all b h))
theorem good_yes {r : Rul} (h : r.Ok) : Df1 r.d ∧ rb r.d = true := by
  obtain ⟨F, e1, e2, e3, e4⟩ := h_is_rule
  obtain ⟨F', f1, f2, f3, f4⟩ := e0_is_rule
  rw [e1] at f1
  cases f1
  have := e4 r h
  rw [f4] at this
  exact rb_yes this
/-- by shape alone -/
theorem rule_len {xs : List D} (h : xs.length ≠ 4) : runDf T7 df_is_rule [.tup xs] = some (.ok (.bl false) .non) := by
  unfold runDf df_is_rule
  have h' : ¬ ((xs.length : Int) = 4) := by omega
  simp [h']
theorem rule_flag {a b c e : D} (h : isiD "bool" b = some false) : runDf T7 df_is_rule [.tup [a, b, c, e]] = some (.ok (.bl false) .non) := by
  unfold runDf df_is_rule
  simp [h]
theorem script_gen {xs : List D} (h : ∀ x ∈ xs, Df1 x) : runDf T8 df_is_script [.tup xs] = some (.ok (.bl (decide (xs.length ≤ 4) && xs.all rb)) .non) := by
  obtain ⟨F, e1, e2, e3, e4⟩ := e0_is_rule
  have g := (gls T8 rfl).rules
  generalize T8 = T at e1 g ⊢
  unfold runDf df_is_script
  by_cases hl : xs.length ≤ 4
  · have hl' : (xs.length : Int) ≤ 4 := by omega
    simp [g, hl, hl']
    rw [lcE_map (fun x : D => x) (fun x => .bl (rb x)) xs (by simp [itemsOf, seqOf])]
    · simp
    · intro x hx
      have := h x hx
      unfold Df1 at this
      rw [← e4] at this
      refine ⟨_, false, rfl, xTs_nil, ?_, rfl⟩
      simp [e1, e2, e3, this]
  · have hl' : ¬ ((xs.length : Int) ≤ 4) := by omega
    simp [g, hl, hl']
theorem script_nt {d : D} (h : isiD "tuple" d = some false) : runDf T8 df_is_script [d] = some (.ok (.bl false) .non) := by
  unfold runDf df_is_script
  simp [h]
theorem need_no {d : D} (h : runDf T8 df_is_script [d] = some (.ok (.bl false) .non)) : runDf T9 df_need_script [d] = some (.err "NoScript" [] .non) := by
  obtain ⟨F, e1, e2, e3, e4⟩ := e0_is_script
  have g : T9.ex0 "NoScript" = true := by kernel_rfl
  rw [← e4] at h
  generalize T9 = T at e1 g ⊢
  unfold runDf df_need_script
  simp [e1, e2, e3, h, g]
theorem needN_no {d : D} (h : runDf T2 df_is_name [d] = some (.ok (.bl false) .non)) : runDf T10 df_need_name [d] = some (.err "NoName" [] .non) := by
  obtain ⟨F, e1, e2, e3, e4⟩ : Has T10 "is_name" 1 none (fun sem => sem = runDf T2 df_is_name) := Has.exts [("are_rising", df_are_rising), ("is_folder", df_is_folder), ("is_test", df_is_test), ("is_item", df_is_item), ("is_rule", df_is_rule), ("is_script", df_is_script), ("need_script", df_need_script)] e0_is_name (by decide +kernel)
  have g : T10.ex0 "NoName" = true := by kernel_rfl
  rw [← e4] at h
  generalize T10 = T at e1 g ⊢
  unfold runDf df_need_name
  simp [e1, e2, e3, h, g]
def liftRule15 : Has T15 "is_rule" 1 none (fun sem => sem = runDf T7 df_is_rule) := Has.exts [("is_script", df_is_script), ("need_script", df_need_script), ("need_name", df_need_name), ("places", df_places), ("passes", df_passes), ("fitting", df_fitting), ("making_of", df_making_of)] e0_is_rule (by decide +kernel)
def liftNeedN15 : Has T15 "need_name" 1 none (fun sem => sem = runDf T10 df_need_name) := Has.exts [("places", df_places), ("passes", df_passes), ("fitting", df_fitting), ("making_of", df_making_of)] e0_need_name (by decide +kernel)
theorem fits_no {d x : D} (h : runDf T7 df_is_rule [d] = some (.ok (.bl false) .non)) : runDf T15 df_fits [d, x] = some (.err "NoRule" [] .non) := by
  obtain ⟨F, e1, e2, e3, e4⟩ := liftRule15
  have g : T15.ex0 "NoRule" = true := by kernel_rfl
  rw [← e4] at h
  generalize T15 = T at e1 g ⊢
  unfold runDf df_fits
  simp [e1, e2, e3, h, g]
theorem fits_nn {d x : D} (h : runDf T7 df_is_rule [d] = some (.ok (.bl true) .non)) (hx : runDf T10 df_need_name [x] = some (.err "NoName" [] .non)) : runDf T15 df_fits [d, x] = some (.err "NoName" [] .non) := by
  obtain ⟨F, e1, e2, e3, e4⟩ := liftRule15
  obtain ⟨K, k1, k2, k3, k4⟩ := liftNeedN15
  rw [← e4] at h
  rw [← k4] at hx
  generalize T15 = T at e1 k1 ⊢
  unfold runDf df_fits
  simp [e1, e2, e3, h, k1, k2, k3, hx]
theorem makes_no {d x : D} {c : Str} (h : runDf T15 df_fits [d, x] = some (.err c [] .non)) : runDf T16 df_makes [d, x] = some (.err c [] .non) := by
  obtain ⟨F, e1, e2, e3, e4⟩ := e0_fits
  rw [← e4] at h
  generalize T16 = T at e1 ⊢
  unfold runDf df_makes
  simp [e1, e2, e3, h]
def liftNS19 : Has T19 "need_script" 1 none (fun sem => sem = runDf T9 df_need_script) := Has.exts [("need_name", df_need_name), ("places", df_places), ("passes", df_passes), ("fitting", df_fitting), ("making_of", df_making_of), ("fits", df_fits), ("makes", df_makes), ("first_of", df_first_of), ("turned_of", df_turned_of)] e0_need_script (by decide +kernel)
def liftNN19 : Has T19 "need_name" 1 none (fun sem => sem = runDf T10 df_need_name) := Has.exts [("places", df_places), ("passes", df_passes), ("fitting", df_fitting), ("making_of", df_making_of), ("fits", df_fits), ("makes", df_makes), ("first_of", df_first_of), ("turned_of", df_turned_of)] e0_need_name (by decide +kernel)
def liftNS20 : Has T20 "need_script" 1 none (fun sem => sem = runDf T9 df_need_script) := Has.exts [("first", df_first)] liftNS19 (by decide +kernel)
def liftNN20 : Has T20 "need_name" 1 none (fun sem => sem = runDf T10 df_need_name) := Has.exts [("first", df_first)] liftNN19 (by decide +kernel)
theorem first_no {d x : D} (h : runDf T9 df_need_script [d] = some (.err "NoScript" [] .non)) : runDf T19 df_first [d, x] = some (.err "NoScript" [] .non) := by
  obtain ⟨F, e1, e2, e3, e4⟩ := liftNS19
  rw [← e4] at h
  generalize T19 = T at e1 ⊢
  unfold runDf df_first
  simp [e1, e2, e3, h]
theorem first_nn {d x : D} (h : runDf T9 df_need_script [d] = some (.ok .non .non)) (hx : runDf T10 df_need_name [x] = some (.err "NoName" [] .non)) : runDf T19 df_first [d, x] = some (.err "NoName" [] .non) := by
  obtain ⟨F, e1, e2, e3, e4⟩ := liftNS19
  obtain ⟨K, k1, k2, k3, k4⟩ := liftNN19
  rw [← e4] at h
  rw [← k4] at hx
  generalize T19 = T at e1 k1 ⊢
  unfold runDf df_first
  simp [e1, e2, e3, h, k1, k2, k3, hx]
theorem turned_no {d x : D} (h : runDf T9 df_need_script [d] = some (.err "NoScript" [] .non)) : runDf T20 df_turned [d, x] = some (.err "NoScript" [] .non) := by
  obtain ⟨F, e1, e2, e3, e4⟩ := liftNS20
  rw [← e4] at h
  generalize T20 = T at e1 ⊢
  unfold runDf df_turned
  simp [e1, e2, e3, h]
theorem turned_nn {d x : D} (h : runDf T9 df_need_script [d] = some (.ok .non .non)) (hx : runDf T10 df_need_name [x] = some (.err "NoName" [] .non)) : runDf T20 df_turned [d, x] = some (.err "NoName" [] .non) := by
  obtain ⟨F, e1, e2, e3, e4⟩ := liftNS20
  obtain ⟨K, k1, k2, k3, k4⟩ := liftNN20
  rw [← e4] at h
  rw [← k4] at hx
  generalize T20 = T at e1 k1 ⊢
  unfold runDf df_turned
  simp [e1, e2, e3, h, k1, k2, k3, hx]
/-! ### _law_ask -/
def rows : List (Str × Df) := [("_law_draw", df__law_draw), ("_law_pick", df__law_pick), ("_law_test", df__law_test), ("_law_rule", df__law_rule), ("_law_script", df__law_script), ("_law_name", df__law_name)]
def a_fits : Has T27 "fits" 2 none (fun sem => sem = runDf T15 df_fits) := Has.exts (([("makes", df_makes), ("first_of", df_first_of), ("turned_of", df_turned_of), ("first", df_first), ("turned", df_turned)] : List (Str × Df)) ++ rows) e0_fits (by decide +kernel)
def a_makes : Has T27 "makes" 2 none (fun sem => sem = runDf T16 df_makes) := Has.exts (([("first_of", df_first_of), ("turned_of", df_turned_of), ("first", df_first), ("turned", df_turned)] : List (Str × Df)) ++ rows) e0_makes (by decide +kernel)
def a_first : Has T27 "first" 2 none (fun sem => sem = runDf T19 df_first) := Has.exts (([("turned", df_turned)] : List (Str × Df)) ++ rows) e0_first (by decide +kernel)
def a_turned : Has T27 "turned" 2 none (fun sem => sem = runDf T20 df_turned) := Has.exts rows e0_turned (by decide +kernel)
def ref (k : Int) : D := .tup [.str "refused", .int k]
def codes : List (Str × Int) := [("NoName", 0), ("NoRule", 1), ("NoScript", 2)]
theorem ask_gen (w : Int) (f : Str) (one other : D) (c : Str) (k : Int) (sem : List D → Option FR) (hf : Has T27 f 2 none (fun s => s = sem)) (hw : ixD (.lst [.fn "fits", .fn "makes", .fn "first", .fn "turned"]) (.int w) = some (.fn f)) (h : sem [one, other] = some (.err c [] .non)) (hc : T27.exm c "TurnError" = some true) (hk : T27.wh "_law_which" c = some (ref k)) : runDf T27 df__law_ask [.int w, one, other] = some (.ok (ref k) .non) := by
  obtain ⟨F, e1, e2, e3, e4⟩ := hf
  have g0 : T27.exm "TurnError" "TurnError" = some true := by kernel_rfl
  have g1 : T27.gl "fits" = some (.fn "fits") := by kernel_rfl
  have g2 : T27.gl "makes" = some (.fn "makes") := by kernel_rfl
  have g3 : T27.gl "first" = some (.fn "first") := by kernel_rfl
  have g4 : T27.gl "turned" = some (.fn "turned") := by kernel_rfl
  rw [← e4] at h
  generalize T27 = T at e1 g0 g1 g2 g3 g4 hc hk ⊢
  have hw' : L2.atI [D.fn "fits", .fn "makes", .fn "first", .fn "turned"] w = some (.fn f) := hw
  unfold runDf df__law_ask
  simp [g0, g1, g2, g3, g4, hw', e1, e2, e3, h, hc, hk]
theorem c0 : T27.exm "NoName" "TurnError" = some true := by kernel_rfl
theorem c1 : T27.exm "NoRule" "TurnError" = some true := by kernel_rfl
theorem c2 : T27.exm "NoScript" "TurnError" = some true := by kernel_rfl
theorem w0 : T27.wh "_law_which" "NoName" = some (ref 0) := by kernel_rfl
theorem w1 : T27.wh "_law_which" "NoRule" = some (ref 1) := by kernel_rfl
theorem w2 : T27.wh "_law_which" "NoScript" = some (ref 2) := by kernel_rfl
/-- a rule that is none -/
theorem ask_rule {d x : D} (h : runDf T7 df_is_rule [d] = some (.ok (.bl false) .non)) : runDf T27 df__law_ask [.int 0, d, x] = some (.ok (ref 1) .non) ∧ runDf T27 df__law_ask [.int 1, d, x] = some (.ok (ref 1) .non) :=
  ⟨ask_gen 0 "fits" d x "NoRule" 1 _ a_fits rfl (fits_no h) c1 w1, ask_gen 1 "makes" d x "NoRule" 1 _ a_makes rfl (makes_no (fits_no h)) c1 w1⟩
theorem ask_ruleN {d x : D} (h : runDf T7 df_is_rule [d] = some (.ok (.bl true) .non)) (hx : runDf T2 df_is_name [x] = some (.ok (.bl false) .non)) : runDf T27 df__law_ask [.int 0, d, x] = some (.ok (ref 0) .non) ∧ runDf T27 df__law_ask [.int 1, d, x] = some (.ok (ref 0) .non) :=
  ⟨ask_gen 0 "fits" d x "NoName" 0 _ a_fits rfl (fits_nn h (needN_no hx)) c0 w0, ask_gen 1 "makes" d x "NoName" 0 _ a_makes rfl (makes_no (fits_nn h (needN_no hx))) c0 w0⟩
theorem ask_script {d x : D} (h : runDf T8 df_is_script [d] = some (.ok (.bl false) .non)) : runDf T27 df__law_ask [.int 2, d, x] = some (.ok (ref 2) .non) ∧ runDf T27 df__law_ask [.int 3, d, x] = some (.ok (ref 2) .non) :=
  ⟨ask_gen 2 "first" d x "NoScript" 2 _ a_first rfl (first_no (need_no h)) c2 w2, ask_gen 3 "turned" d x "NoScript" 2 _ a_turned rfl (turned_no (need_no h)) c2 w2⟩
theorem ask_scriptN {d x : D} (h : runDf T9 df_need_script [d] = some (.ok .non .non)) (hx : runDf T2 df_is_name [x] = some (.ok (.bl false) .non)) : runDf T27 df__law_ask [.int 2, d, x] = some (.ok (ref 0) .non) ∧ runDf T27 df__law_ask [.int 3, d, x] = some (.ok (ref 0) .non) :=
  ⟨ask_gen 2 "first" d x "NoName" 0 _ a_first rfl (first_nn h (needN_no hx)) c0 w0, ask_gen 3 "turned" d x "NoName" 0 _ a_turned rfl (turned_nn h (needN_no hx)) c0 w0⟩
end K02
set_option maxRecDepth 100000
set_option maxHeartbeats 4000000
namespace K02
open PySem Nm
def nms (m : Nat) : List D := (List.range m).map fun k => D.tup (List.replicate (k + 1) [D.str "a"]).flatten
def names10 : List D := [.non, .tup [], .lst [.str "a"], .tup [.str "A"], .tup [.str ""], .tup [.str "abcdefg"], .tup [.int 5], .tup [.str "a", .non], .str "a", .tup (List.replicate 31 [D.str "a"]).flatten]
theorem names_no : names10.all (fun b => isNo (runDf T2 df_is_name [b]) && isNo (runDf T4 df_is_folder [.tup [b]])) = true := by kernel_rfl
def great : D := .tup [.tup [.tup [.str "none", .tup [.str "a", .str "abcdef", .str "z"]], .tup [.str "like", .int 0]], .bl true, .tup [.tup [.str "is", .str "abcdef"], .tup [.str "like", .int 2]], .tup [.tup [.str "rest"], .tup [.str "field", .int 3], .tup [.str "word", .str "abcdef"], .tup [.str "field", .int 0]]]
def isYes : Option FR → Bool
  | some (.ok (.bl true) .non) => true
  | _ => false
theorem isYes_eq {o : Option FR} (h : isYes o = true) : o = some (.ok (.bl true) .non) := by
  unfold isYes at h
  split at h
  · rfl
  · cases h
theorem great1 : runDf T7 df_is_rule [great] = some (.ok (.bl true) .non) := isYes_eq (by kernel_rfl)
theorem great4 : runDf T8 df_is_script [.tup [great, great, great, great]] = some (.ok (.bl true) .non) := isYes_eq (by kernel_rfl)
theorem script0 : runDf T8 df_is_script [.tup []] = some (.ok (.bl true) .non) := isYes_eq (by kernel_rfl)
theorem name30 : runDf T2 df_is_name [.tup (List.replicate 30 [D.str "abcdef"]).flatten] = some (.ok (.bl true) .non) := isYes_eq (by kernel_rfl)
theorem folder0 : runDf T4 df_is_folder [.tup []] = some (.ok (.bl true) .non) := isYes_eq (by kernel_rfl)
theorem folder30 : runDf T4 df_is_folder [.tup (nms 30)] = some (.ok (.bl true) .non) := isYes_eq (by kernel_rfl)
theorem folder31 : runDf T4 df_is_folder [.tup (nms 31)] = some (.ok (.bl false) .non) := isNo_eq (by kernel_rfl)
theorem folder_ba : runDf T4 df_is_folder [.tup [.tup [.str "b"], .tup [.str "a"]]] = some (.ok (.bl false) .non) := isNo_eq (by kernel_rfl)
theorem folder_nt {d : D} (h : isiD "tuple" d = some false) : runDf T4 df_is_folder [d] = some (.ok (.bl false) .non) := by
  unfold runDf df_is_folder
  simp [h]
theorem ltD_irrefl : ∀ n : List Str, ltD (sds n) (sds n) = false
  | [] => rfl
  | x :: n => by
    show (if x = x then ltD (sds n) (sds n) else _) = false
    rw [if_pos rfl, ltD_irrefl n]
theorem rising_two {n : List Str} : runDf T3 df_are_rising [.tup [nmD n, nmD n]] = some (.ok (.bl false) .non) := by
  generalize T3 = T
  have hs : (sds n).all D.isStr = true := by
    rw [List.all_eq_true]
    intro x hx
    obtain ⟨w, _, rfl⟩ := List.mem_map.mp hx
    rfl
  have hc : cmpD .Lt (nmD n) (nmD n) = some false := by
    show (if ((sds n).all D.isStr && (sds n).all D.isStr) = true then some (ltD (sds n) (sds n)) else none) = _
    rw [hs, ltD_irrefl]
    rfl
  have hcut : cutD [nmD n, nmD n] (some 1) none = [nmD n] := by rw [cut_from _ (by decide)]; rfl
  unfold runDf df_are_rising
  simp [hcut, lcE, itemsOf, pairOf, zipD, lcGo, hc, allD', bls]
theorem folder_two {n : List Str} (h : NmOk n) : runDf T4 df_is_folder [.tup [nmD n, nmD n]] = some (.ok (.bl false) .non) := by
  obtain ⟨F, e1, e2, e3, e4⟩ : Has T4 "is_name" 1 none P_name := Has.exts [("are_rising", df_are_rising)] h_is_name (by decide +kernel)
  obtain ⟨K, k1, k2, k3, k4⟩ := e0_are_rising
  have q := e4 n
  rw [name_true h] at q
  have r := rising_two (n := n)
  rw [← k4] at r
  have g : T4.gl "FILES" = some (.int 30) := by kernel_rfl
  generalize T4 = T at e1 k1 g ⊢
  unfold runDf df_is_folder
  simp [g, lcE, itemsOf, seqOf, lcGo, e1, e2, e3, q, allD', bls, k1, k2, k3, r]
theorem need_yes {s : List Rul} (h : ScOk s) : runDf T9 df_need_script [scD s] = some (.ok .non .non) := by
  obtain ⟨F, e1, e2, e3, e4⟩ := h_need_script
  obtain ⟨F', f1, f2, f3, f4⟩ := e0_need_script
  rw [e1] at f1
  cases f1
  have := e4 s h
  rw [f4] at this
  exact this
theorem eq_ref (k : Int) : eqD (.lst [ref k, ref k]) (.lst [ref k, ref k]) = some true := by
  rw [eqD_plain (by simp [D.eqOk, D.plain, D.plains, ref]) (fun _ z => by cases z)]
  simp [D.eqv, D.eqvs, ref]
/-- a script's own rule is no script -/
theorem rule_noscript {r : Rul} (h : r.Ok) : runDf T8 df_is_script [r.d] = some (.ok (.bl false) .non) := by
  have d1 := rb_no (rule_len (xs := r.fronts.map Tst.d) (by rw [List.length_map]; have := h.f2; omega))
  have d2 : Df1 (.bl r.wide) ∧ rb (.bl r.wide) = false := by
    refine rb_no ?_
    have hi : isiD "tuple" (.bl r.wide) = some false := by cases r.wide <;> kernel_rfl
    unfold runDf df_is_rule
    simp [hi]
  have d3 := rb_no (rule_len (xs := r.backs.map Tst.d) (by rw [List.length_map]; have := h.b2; omega))
  have d4 : Df1 (.tup (r.making.map Itm.d)) ∧ rb (.tup (r.making.map Itm.d)) = false := by
    refine rb_no ?_
    by_cases hl : (r.making.map Itm.d).length = 4
    · match hm : r.making, hl with
      | [a, b, c, e], _ =>
        refine rule_flag ?_
        cases b <;> kernel_rfl
    · exact rule_len hl
  have := script_gen (xs := [.tup (r.fronts.map Tst.d), .bl r.wide, .tup (r.backs.map Tst.d), .tup (r.making.map Itm.d)]) (by
    intro x hx
    simp at hx
    rcases hx with rfl | rfl | rfl | rfl
    · exact d1.1
    · exact d2.1
    · exact d3.1
    · exact d4.1)
  rw [show (decide ([D.tup (r.fronts.map Tst.d), .bl r.wide, .tup (r.backs.map Tst.d), .tup (r.making.map Itm.d)].length ≤ 4) && [D.tup (r.fronts.map Tst.d), .bl r.wide, .tup (r.backs.map Tst.d), .tup (r.making.map Itm.d)].all rb) = false by simp [d1.2]] at this
  exact this
theorem law_ok (ns : List Int) : ∃ out, runDf T30 df_law [.scr ns] = some (.ok (.bl true) out) := by
  obtain ⟨F1, s1, s2, s3, s4⟩ := z__law_script
  obtain ⟨F2, n1, n2, n3, n4⟩ := z__law_name
  obtain ⟨F3, t1, t2, t3, t4⟩ := e_is_script
  obtain ⟨F4, u1, u2, u3, u4⟩ := e_is_name
  obtain ⟨F5, m1, m2, m3, m4⟩ := e__law_no_rules
  obtain ⟨F6, r1, r2, r3, r4⟩ := e_is_rule
  obtain ⟨F7, f1, f2, f3, f4⟩ := e_is_folder
  obtain ⟨F8, a1, a2, a3, a4⟩ := e__law_ask
  obtain ⟨s, a1', b1, q1, l1, l2, dr, ha1⟩ := s4 ns 0 0 4 2 (by decide) (by decide) (by decide) (by decide)
  obtain ⟨n, a2', b2, q2, l3, l4, dw, ha2⟩ := n4 ns a1' b1 5 ha1 (by decide) (by decide)
  have q1 : F1.sem [.scr ns, tw 0 0, .int 4, .int 2] = some (.ok (scD s) (tw a1' b1)) := q1
  have q2 : F2.sem [.scr ns, tw a1' b1, .int 5] = some (.ok (nmD n) (tw a2' b2)) := q2
  have sok : ScOk s := drawn_ok dr l2
  have nok : NmOk n := ⟨l3, by omega, fun w hw => dWords_ok w (dw w hw)⟩
  have hm := bad_eq
  rw [← m4] at hm
  obtain ⟨r0, s', rfl⟩ : ∃ r0 s', s = r0 :: s' := by
    cases s with
    | nil => simp at l1
    | cons r0 s' => exact ⟨r0, s', rfl⟩
  have ok0 : r0.Ok := sok.ok r0 List.mem_cons_self
  have y0 := (good_yes ok0)
  generalize hS : scD (r0 :: s') = S at q1
  have hcut3 : cutD ((r0 :: s').map Rul.d) none (some 3) = ((r0 :: s').take 3).map Rul.d := by rw [cut_to _ (by decide), List.map_take]; rfl
  have hcut1 : cutD ((r0 :: s').map Rul.d) none (some 1) = [r0.d] := by rw [cut_to _ (by decide)]; rfl
  have hix : ixD S (.int 0) = some r0.d := by rw [← hS]; exact at0 _ _
  have k1 := rep2 (ref 1)
  have k2 := rep2 (ref 2)
  have k0 := rep2 (ref 0)
  have E0 := eq_ref 0
  have E1 := eq_ref 1
  have E2 := eq_ref 2
  have isq : ∀ xs : List D, itemsOf .seq [.tup xs] = some xs := fun xs => rfl
  have isl : ∀ xs : List D, itemsOf .seq [.lst xs] = some xs := fun xs => rfl
  -- the facts at the last table
  have bR : ∀ b ∈ badRules, F6.sem [b] = some (.ok (.bl false) .non) ∧ F3.sem [.tup [b]] = some (.ok (.bl false) .non) ∧ F3.sem [.tup (((r0 :: s').take 3).map Rul.d ++ [b])] = some (.ok (.bl false) .non) ∧
      (F8.sem [.int 0, b, .non] = some (.ok (ref 1) .non) ∧ F8.sem [.int 1, b, .non] = some (.ok (ref 1) .non)) ∧ (F8.sem [.int 2, .tup [b], .non] = some (.ok (ref 2) .non) ∧ F8.sem [.int 3, .tup [b], .non] = some (.ok (ref 2) .non)) := fun b hb => by
    have d := bad_no hb
    have d' : runDf T7 df_is_rule [b] = some (.ok (.bl false) .non) := by have := d.1; unfold Df1 at this; rw [d.2] at this; exact this
    have g1 := script_gen (xs := [b]) (by intro x hx; rw [List.mem_singleton.mp hx]; exact d.1)
    rw [show (decide ([b].length ≤ 4) && [b].all rb) = false by simp [d.2]] at g1
    have g2 := script_gen (xs := ((r0 :: s').take 3).map Rul.d ++ [b]) (by
      intro x hx
      rcases List.mem_append.mp hx with hx | hx
      · obtain ⟨r, hr, rfl⟩ := List.mem_map.mp hx
        exact (good_yes (sok.ok r (List.mem_of_mem_take hr))).1
      · rw [List.mem_singleton.mp hx]; exact d.1)
    rw [show (decide ((((r0 :: s').take 3).map Rul.d ++ [b]).length ≤ 4) && (((r0 :: s').take 3).map Rul.d ++ [b]).all rb) = false by simp [d.2]] at g2
    rw [r4, t4, a4]
    exact ⟨d', g1, g2, ask_rule d', ask_script g1⟩
  have sR : ∀ b, runDf T8 df_is_script [b] = some (.ok (.bl false) .non) → F3.sem [b] = some (.ok (.bl false) .non) ∧ F8.sem [.int 2, b, .non] = some (.ok (ref 2) .non) ∧ F8.sem [.int 3, b, .non] = some (.ok (ref 2) .non) := fun b hb => by
    rw [t4, a4]
    exact ⟨hb, ask_script hb⟩
  have nR : ∀ b ∈ names10, F4.sem [b] = some (.ok (.bl false) .non) ∧ (F8.sem [.int 0, r0.d, b] = some (.ok (ref 0) .non) ∧ F8.sem [.int 1, r0.d, b] = some (.ok (ref 0) .non)) ∧ (F8.sem [.int 2, S, b] = some (.ok (ref 0) .non) ∧ F8.sem [.int 3, S, b] = some (.ok (ref 0) .non)) ∧ F7.sem [.tup [b]] = some (.ok (.bl false) .non) := fun b hb => by
    obtain ⟨z1, z2⟩ := Bool.and_eq_true_iff.mp (List.all_eq_true.mp names_no b hb)
    have z1 := isNo_eq z1
    have z2 := isNo_eq z2
    have d' : runDf T7 df_is_rule [r0.d] = some (.ok (.bl true) .non) := by have := y0.1; unfold Df1 at this; rw [y0.2] at this; exact this
    rw [u4, a4, f4]
    refine ⟨z1, ask_ruleN d' z1, ?_, z2⟩
    rw [← hS]
    exact ask_scriptN (need_yes sok) z1
  have fR : ∀ b, runDf T4 df_is_folder [b] = some (.ok (.bl false) .non) → F7.sem [b] = some (.ok (.bl false) .non) := fun b hb => by rw [f4]; exact hb
  have G1 := great1
  have G2 := great4
  have G3 := script0
  have G4 := name30
  have G5 := folder0
  have G6 := folder30
  rw [← r4] at G1
  rw [← t4] at G2 G3
  rw [← u4] at G4
  rw [← f4] at G5 G6
  have N31 := fR _ folder31
  generalize T30 = T at *
  refine ⟨.non, ?_⟩
  unfold runDf
  rw [show startS df_law.bor 0 [D.scr ns] (df_law.ns.length - [D.scr ns].length) = [.val (.scr ns), .no, .no, .no, .no, .no, .no, .no, .no, .no] from rfl]
  have Q1 : evSs T (df_law.body.take 2) [.val (.scr ns), .no, .no, .no, .no, .no, .no, .no, .no, .no] = .ok .next [.val (.scr ns), .own (tw a2' b2), .no, .no, .no, .no, .val S, .val (nmD n), .no, .no] := by
    simp [df_law, s1, s2, s3, q1, n1, n2, n3, q2]
  rw [evSs_split 2 Q1]
  have Q2 : evSs T ((df_law.body.drop 2).take 2) [.val (.scr ns), .own (tw a2' b2), .no, .no, .no, .no, .val S, .val (nmD n), .no, .no] = .ok .next [.val (.scr ns), .own (tw a2' b2), .no, .no, .no, .no, .val S, .val (nmD n), .no, .no] := by
    simp only [df_law, List.take, List.drop]
    simp [m1, m2, m3, hm, isl]
    rw [forGo_all badRules]
    · simp
    · intro b hb
      obtain ⟨z1, z2, z3, ⟨z4, z5⟩, z6, z7⟩ := bR b hb
      refine ⟨_, rfl, ?_⟩
      have hsl : slD S none (some 3) = some (.tup (((r0 :: s').take 3).map Rul.d), false) := by rw [← hS]; show some (D.tup (cutD ((r0 :: s').map Rul.d) none (some 3)), false) = _; rw [hcut3]
      have hadd : binD .Add (.tup (((r0 :: s').take 3).map Rul.d)) (.tup [b]) = some (.tup (((r0 :: s').take 3).map Rul.d ++ [b]), false) := by
        rw [bin_addT, if_pos]
        simp
        show _ ≤ 16777216
        omega
      generalize ((r0 :: s').take 3).map Rul.d ++ [b] = SB at z3 hadd
      generalize ((r0 :: s').take 3).map Rul.d = SA at hsl hadd
      unfold ref at z4 z5 z6 z7 k1 k2 E1 E2
      simp [r1, r2, r3, z1, t1, t2, t3, z2, hsl, hadd, z3, lcE, isq, lcGo, a1, a2, a3, z4, z5, z6, z7, k1, k2, E1, E2]
  rw [evSs_split 2 Q2, List.drop_drop]
  have hmul : binD .Mult (.tup [r0.d]) (.int 5) = some (.tup [r0.d, r0.d, r0.d, r0.d, r0.d], false) := by
    show (if 1 ≤ (5 : Int) ∧ (5 : Int).toNat ≤ 1000 ∧ [r0.d].length ≤ 1000 ∧ [r0.d] ≠ [] then some (D.tup (List.replicate (5 : Int).toNat [r0.d]).flatten, false) else none) = _
    rw [if_pos ⟨by decide, by decide, by show 1 ≤ 1000; decide, by simp⟩]
    rfl
  have hsl1 : slD S none (some 1) = some (.tup [r0.d], false) := by rw [← hS]; show some (D.tup (cutD ((r0 :: s').map Rul.d) none (some 1)), false) = _; rw [hcut1]
  have hbad : ∀ b ∈ [D.non, .lst [r0.d], .tup [r0.d, r0.d, r0.d, r0.d, r0.d], .str "script", .int 5, r0.d], runDf T8 df_is_script [b] = some (.ok (.bl false) .non) := by
    intro b hb
    simp at hb
    rcases hb with rfl | rfl | rfl | rfl | rfl | rfl
    · exact script_nt (by kernel_rfl)
    · exact script_nt (by unfold isiD; rw [if_pos (by decide +kernel)])
    · have := script_gen (xs := [r0.d, r0.d, r0.d, r0.d, r0.d]) (by intro x hx; simp at hx; rw [hx]; exact y0.1)
      exact this
    · exact script_nt (by kernel_rfl)
    · exact script_nt (by kernel_rfl)
    · exact rule_noscript ok0
  have Q3 : evSs T ((df_law.body.drop 4).take 2) [.val (.scr ns), .own (tw a2' b2), .no, .no, .no, .no, .val S, .val (nmD n), .no, .no] = .ok .next [.val (.scr ns), .own (tw a2' b2), .no, .no, .no, .no, .val S, .val (nmD n), .no, .no] := by
    simp only [df_law, List.take, List.drop]
    simp [hix, hsl1, hmul, isq]
    rw [forGo_all [D.non, .lst [r0.d], .tup [r0.d, r0.d, r0.d, r0.d, r0.d], .str "script", .int 5, r0.d]]
    · simp
    · intro b hb
      obtain ⟨z1, z2, z3⟩ := sR b (hbad b hb)
      refine ⟨_, rfl, ?_⟩
      unfold ref at z2 z3 k2 E2
      simp [t1, t2, t3, z1, lcE, isq, lcGo, a1, a2, a3, z2, z3, k2, E2]
  rw [evSs_split 2 Q3, List.drop_drop]
  have hmul31 : binD .Mult (.tup [.str "a"]) (.int 31) = some (.tup (List.replicate 31 [D.str "a"]).flatten, false) := by kernel_rfl
  have Q4 : evSs T ((df_law.body.drop 6).take 1) [.val (.scr ns), .own (tw a2' b2), .no, .no, .no, .no, .val S, .val (nmD n), .no, .no] = .ok .next [.val (.scr ns), .own (tw a2' b2), .no, .no, .no, .no, .val S, .val (nmD n), .no, .no] := by
    simp only [df_law, List.take, List.drop]
    generalize hX : (List.replicate 31 [D.str "a"]).flatten = X31 at hmul31
    have hl : names10 = [.non, .tup [], .lst [.str "a"], .tup [.str "A"], .tup [.str ""], .tup [.str "abcdefg"], .tup [.int 5], .tup [.str "a", .non], .str "a", .tup X31] := by rw [← hX]; rfl
    simp [hmul31, isq]
    rw [forGo_all [.non, .tup [], .lst [.str "a"], .tup [.str "A"], .tup [.str ""], .tup [.str "abcdefg"], .tup [.int 5], .tup [.str "a", .non], .str "a", .tup X31]]
    · intro b hb
      rw [← hl] at hb
      obtain ⟨z1, ⟨z2, z3⟩, ⟨z4, z5⟩, z6⟩ := nR b hb
      refine ⟨_, rfl, ?_⟩
      unfold ref at z2 z3 z4 z5 k0 E0
      simp [u1, u2, u3, z1, hix, lcE, isq, lcGo, a1, a2, a3, z2, z3, z4, z5, k0, E0, f1, f2, f3, z6]
  rw [evSs_split 1 Q4, List.drop_drop]
  have rgm : ∀ m : Nat, m ≤ 100 → itemsOf .range [.int (m : Int)] = some (nums (List.range m)) := fun m hm => by
    have := rg1 (j := (m : Int)) (by omega) (by omega)
    rw [Int.toNat_natCast] at this
    exact this
  have mulk : ∀ k : Nat, k < 100 → binD .Mult (.tup [.str "a"]) (.int ((k : Int) + 1)) = some (.tup (List.replicate (k + 1) [D.str "a"]).flatten, false) := fun k hk => by
    show (if 1 ≤ ((k : Int) + 1) ∧ ((k : Int) + 1).toNat ≤ 1000 ∧ [D.str "a"].length ≤ 1000 ∧ [D.str "a"] ≠ [] then some (D.tup (List.replicate ((k : Int) + 1).toNat [D.str "a"]).flatten, false) else none) = _
    rw [if_pos ⟨by omega, by omega, by show 1 ≤ 1000; decide, by simp⟩, show ((k : Int) + 1).toNat = k + 1 by omega]
  have lcn : ∀ (m : Nat) (st : Sl), m ≤ 100 → st.length = 10 → (∀ k : Nat, evE T (.bin .Mult (.tup [.c (.str "a")]) (.bin .Add (.v 9) (.c (.int 1)))) (st.set 9 (.val (.int k))) = .ok (.tup (List.replicate (k + 1) [D.str "a"]).flatten, false) (st.set 9 (.val (.int k)))) → True := fun _ _ _ _ _ => trivial
  have Q5 : evSs T ((df_law.body.drop 7).take 3) [.val (.scr ns), .own (tw a2' b2), .no, .no, .no, .no, .val S, .val (nmD n), .no, .no] = .ok .next [.val (.scr ns), .own (tw a2' b2), .no, .own (.lst [.non, .lst [nmD n], .tup [nmD n, nmD n], .tup [.tup [.str "b"], .tup [.str "a"]], .tup (nms 31), .str "folder"]), .no, .no, .val S, .val (nmD n), .no, .no] := by
    simp only [df_law, List.take, List.drop]
    have h31 := rgm 31 (by decide)
    have h31 : itemsOf .range [.int 31] = some (nums (List.range 31)) := h31
    simp
    rw [lcE_map (fun k : Nat => .int (k : Nat)) (fun k => D.tup (List.replicate (k + 1) [D.str "a"]).flatten) (List.range 31) h31]
    · have hme := mut_extL [.non, .lst [nmD n], .tup [nmD n, nmD n], .tup [.tup [.str "b"], .tup [.str "a"]]] [.tup (nms 31), .str "folder"] (by show 6 ≤ 16777216; decide)
      rw [show (List.range 31).map (fun k => D.tup (List.replicate (k + 1) [D.str "a"]).flatten) = nms 31 from rfl]
      simp [hme]
    · intro k hk
      have := mulk k (by have := List.mem_range.mp hk; omega)
      refine ⟨_, false, rfl, xTs_nil, ?_, rfl⟩
      simp [this]
  rw [evSs_split 3 Q5, List.drop_drop]
  have hfold : ∀ b ∈ [D.non, .lst [nmD n], .tup [nmD n, nmD n], .tup [.tup [.str "b"], .tup [.str "a"]], .tup (nms 31), .str "folder"], F7.sem [b] = some (.ok (.bl false) .non) := by
    intro b hb
    simp at hb
    rcases hb with rfl | rfl | rfl | rfl | rfl | rfl
    · exact fR _ (folder_nt (by kernel_rfl))
    · exact fR _ (folder_nt (by unfold isiD; rw [if_pos (by decide +kernel)]))
    · exact fR _ (folder_two nok)
    · exact fR _ folder_ba
    · exact N31
    · exact fR _ (folder_nt (by kernel_rfl))
  have Q6 : evSs T ((df_law.body.drop 10).take 3) [.val (.scr ns), .own (tw a2' b2), .no, .own (.lst [.non, .lst [nmD n], .tup [nmD n, nmD n], .tup [.tup [.str "b"], .tup [.str "a"]], .tup (nms 31), .str "folder"]), .no, .no, .val S, .val (nmD n), .no, .no] = .ok .next [.val (.scr ns), .own (tw a2' b2), .no, .val (.lst [.non, .lst [nmD n], .tup [nmD n, nmD n], .tup [.tup [.str "b"], .tup [.str "a"]], .tup (nms 31), .str "folder"]), .val (.tup [.tup [.str "rest"], .tup [.str "field", .int 3], .tup [.str "word", .str "abcdef"], .tup [.str "field", .int 0]]), .val great, .val S, .val (nmD n), .no, .no] := by
    simp only [df_law, List.take, List.drop]
    simp [isl]
    rw [forGo_all [D.non, .lst [nmD n], .tup [nmD n, nmD n], .tup [.tup [.str "b"], .tup [.str "a"]], .tup (nms 31), .str "folder"]]
    · simp [great]
    · intro b hb
      have z := hfold b hb
      refine ⟨_, rfl, ?_⟩
      simp [f1, f2, f3, z]
  rw [evSs_split 3 Q6, List.drop_drop]
  have hm4 : binD .Mult (.tup [great]) (.int 4) = some (.tup [great, great, great, great], false) := by kernel_rfl
  have hm30 : binD .Mult (.tup [.str "abcdef"]) (.int 30) = some (.tup (List.replicate 30 [D.str "abcdef"]).flatten, false) := by kernel_rfl
  generalize (List.replicate 30 [D.str "abcdef"]).flatten = X30 at hm30 G4
  generalize great = GR at hm4 G1 G2 ⊢
  have h30 : itemsOf .range [.int 30] = some (nums (List.range 30)) := rgm 30 (by decide)
  have Q7 : ∀ KD, evSs T ((df_law.body.drop 13).take 2) [.val (.scr ns), .own (tw a2' b2), .no, .val KD, .val (.tup [.tup [.str "rest"], .tup [.str "field", .int 3], .tup [.str "word", .str "abcdef"], .tup [.str "field", .int 0]]), .val GR, .val S, .val (nmD n), .no, .no] = .ok .next [.val (.scr ns), .own (tw a2' b2), .no, .val KD, .val (.tup [.tup [.str "rest"], .tup [.str "field", .int 3], .tup [.str "word", .str "abcdef"], .tup [.str "field", .int 0]]), .val GR, .val S, .val (nmD n), .no, .no] := by
    intro KD
    simp only [df_law, List.take, List.drop]
    simp [r1, r2, r3, G1, hm4, t1, t2, t3, G2, G3, hm30, u1, u2, u3, G4]
  rw [evSs_split 2 (Q7 _), List.drop_drop]
  simp only [df_law, List.drop]
  simp [f1, f2, f3, G5]
  rw [lcE_map (fun k : Nat => .int (k : Nat)) (fun k => D.tup (List.replicate (k + 1) [D.str "a"]).flatten) (List.range 30) h30]
  · rw [show (List.range 30).map (fun k => D.tup (List.replicate (k + 1) [D.str "a"]).flatten) = nms 30 from rfl]
    simp [f1, f2, f3, G6]
  · intro k hk
    have := mulk k (by have := List.mem_range.mp hk; omega)
    refine ⟨_, false, rfl, xTs_nil, ?_, rfl⟩
    simp [this]
end K02
set_option maxRecDepth 100000
set_option maxHeartbeats 0
namespace K02
open PySem PySem.Spec PyProof.Rows L2 Nm
def top (i : Nat) : Stmt := PySem.Challenge.pw_namescripts_k02_rules_refused.main.body.getD i (.Pass ⟨0, 0, 0, 0⟩)
def d_is_whole : He.DefD := ⟨("is_whole", none), "is_whole", "is_whole", defArgs (top 23), defBody (top 23), defScope (top 23), [], []⟩
def d_is_word : He.DefD := ⟨("is_word", none), "is_word", "is_word", defArgs (top 24), defBody (top 24), defScope (top 24), [], []⟩
def d_is_name : He.DefD := ⟨("is_name", none), "is_name", "is_name", defArgs (top 25), defBody (top 25), defScope (top 25), [], []⟩
def d_are_rising : He.DefD := ⟨("are_rising", none), "are_rising", "are_rising", defArgs (top 26), defBody (top 26), defScope (top 26), [], []⟩
def d_is_folder : He.DefD := ⟨("is_folder", none), "is_folder", "is_folder", defArgs (top 27), defBody (top 27), defScope (top 27), [], []⟩
def d_is_test : He.DefD := ⟨("is_test", none), "is_test", "is_test", defArgs (top 32), defBody (top 32), defScope (top 32), [], []⟩
def d_is_item : He.DefD := ⟨("is_item", none), "is_item", "is_item", defArgs (top 33), defBody (top 33), defScope (top 33), [], []⟩
def d_is_rule : He.DefD := ⟨("is_rule", none), "is_rule", "is_rule", defArgs (top 34), defBody (top 34), defScope (top 34), [], []⟩
def d_is_script : He.DefD := ⟨("is_script", none), "is_script", "is_script", defArgs (top 35), defBody (top 35), defScope (top 35), [], []⟩
def d_need_script : He.DefD := ⟨("need_script", none), "need_script", "need_script", defArgs (top 36), defBody (top 36), defScope (top 36), [], []⟩
def d_need_name : He.DefD := ⟨("need_name", none), "need_name", "need_name", defArgs (top 37), defBody (top 37), defScope (top 37), [], []⟩
def d_places : He.DefD := ⟨("places", none), "places", "places", defArgs (top 38), defBody (top 38), defScope (top 38), [], []⟩
def d_passes : He.DefD := ⟨("passes", none), "passes", "passes", defArgs (top 39), defBody (top 39), defScope (top 39), [], []⟩
def d_fitting : He.DefD := ⟨("fitting", none), "fitting", "fitting", defArgs (top 40), defBody (top 40), defScope (top 40), [], []⟩
def d_making_of : He.DefD := ⟨("making_of", none), "making_of", "making_of", defArgs (top 41), defBody (top 41), defScope (top 41), [], []⟩
def d_fits : He.DefD := ⟨("fits", none), "fits", "fits", defArgs (top 42), defBody (top 42), defScope (top 42), [], []⟩
def d_makes : He.DefD := ⟨("makes", none), "makes", "makes", defArgs (top 43), defBody (top 43), defScope (top 43), [], []⟩
def d_first_of : He.DefD := ⟨("first_of", none), "first_of", "first_of", defArgs (top 44), defBody (top 44), defScope (top 44), [], []⟩
def d_turned_of : He.DefD := ⟨("turned_of", none), "turned_of", "turned_of", defArgs (top 45), defBody (top 45), defScope (top 45), [], []⟩
def d_first : He.DefD := ⟨("first", none), "first", "first", defArgs (top 46), defBody (top 46), defScope (top 46), [], []⟩
def d_turned : He.DefD := ⟨("turned", none), "turned", "turned", defArgs (top 47), defBody (top 47), defScope (top 47), [], []⟩
def d__law_draw : He.DefD := ⟨("_law_draw", none), "_law_draw", "_law_draw", defArgs (top 49), defBody (top 49), defScope (top 49), [], []⟩
def d__law_pick : He.DefD := ⟨("_law_pick", none), "_law_pick", "_law_pick", defArgs (top 50), defBody (top 50), defScope (top 50), [], []⟩
def d__law_test : He.DefD := ⟨("_law_test", none), "_law_test", "_law_test", defArgs (top 51), defBody (top 51), defScope (top 51), [], []⟩
def d__law_rule : He.DefD := ⟨("_law_rule", none), "_law_rule", "_law_rule", defArgs (top 52), defBody (top 52), defScope (top 52), [], []⟩
def d__law_script : He.DefD := ⟨("_law_script", none), "_law_script", "_law_script", defArgs (top 53), defBody (top 53), defScope (top 53), [], []⟩
def d__law_name : He.DefD := ⟨("_law_name", none), "_law_name", "_law_name", defArgs (top 54), defBody (top 54), defScope (top 54), [], []⟩
def d__law_which : He.DefD := ⟨("_law_which", none), "_law_which", "_law_which", defArgs (top 55), defBody (top 55), defScope (top 55), [], []⟩
def d__law_ask : He.DefD := ⟨("_law_ask", none), "_law_ask", "_law_ask", defArgs (top 56), defBody (top 56), defScope (top 56), [], []⟩
def d__law_no_tests : He.DefD := ⟨("_law_no_tests", none), "_law_no_tests", "_law_no_tests", defArgs (top 57), defBody (top 57), defScope (top 57), [], []⟩
def d__law_no_rules : He.DefD := ⟨("_law_no_rules", none), "_law_no_rules", "_law_no_rules", defArgs (top 58), defBody (top 58), defScope (top 58), [], []⟩
def d_law : He.DefD := ⟨("law", none), "law", "law", defArgs (top 59), defBody (top 59), defScope (top 59), [], []⟩
def fn : List He.DefD := [d_is_whole, d_is_word, d_is_name, d_are_rising, d_is_folder, d_is_test, d_is_item, d_is_rule, d_is_script, d_need_script, d_need_name, d_places, d_passes, d_fitting, d_making_of, d_fits, d_makes, d_first_of, d_turned_of, d_first, d_turned, d__law_draw, d__law_pick, d__law_test, d__law_rule, d__law_script, d__law_name, d__law_which, d__law_ask, d__law_no_tests] ++ [d__law_no_rules, d_law]
def fa : List He.Fa := [.glo "TurnError", .glo "NoName", .glo "NoRule", .glo "NoScript", .glo "NoFolder", .glo "Clash", .glo "NoOrder", .glo "Lost", .glo "Ringed", .glo "NoNumber", .glo "NoRow", .glo "NoWord", .glo "Taken", .glo "NotThere", .glo "Full", .glo "TooLong", .glo "NoDeed", .glo "NoText", .glo "is_whole", .glo "is_word", .glo "is_name", .glo "are_rising", .glo "is_folder", .glo "is_test", .glo "is_item", .glo "is_rule", .glo "is_script", .glo "need_script", .glo "need_name", .glo "places"] ++ [.glo "passes", .glo "fitting", .glo "making_of", .glo "fits", .glo "makes", .glo "first_of", .glo "turned_of", .glo "first", .glo "turned", .glo "_law_draw", .glo "_law_pick", .glo "_law_test", .glo "_law_rule", .glo "_law_script", .glo "_law_name", .glo "_law_which", .glo "_law_ask", .glo "_law_no_tests", .glo "_law_no_rules", .glo "law", .str "LETTERS" "abcdefghijklmnopqrstuvwxyz", .int "FIELDS" 30, .int "FILES" 30, .int "SIDE" 2, .int "ITEMS" 4, .int "RULES" 4, .free "len", .free "isinstance", .free "all", .free "any"] ++ [.free "tuple", .free "list", .free "range", .free "enumerate", .free "zip", .free "int", .free "bool", .free "str", .free "sorted", .free "set", .free "dict", .free "min", .free "max", .free "ValueError", .exc "NoName", .exc "NoRule", .exc "NoScript", .exm "NoName" "TurnError" true, .exm "NoRule" "TurnError" true, .exm "NoScript" "TurnError" true, .exm "TurnError" "TurnError" true]
def ex (K : PySem.W.Frag) : Bool := kitB K ex0L ysL
abbrev R : PySem.W.OpenRow := PySem.W.OpenLaw.row PySem.Challenge.rw_namescripts_k02_rules_refused
def names : List PySem.Str := (["TurnError", "NoName", "NoRule", "NoScript", "NoFolder", "Clash", "NoOrder", "Lost", "Ringed", "NoNumber", "NoRow", "NoWord", "Taken", "NotThere", "Full", "TooLong", "NoDeed", "NoText", "LETTERS", "FIELDS", "FILES", "is_whole", "is_word", "is_name", "are_rising", "is_folder", "SIDE", "ITEMS", "RULES", "is_test"] : List PySem.Str) ++ (["is_item", "is_rule", "is_script", "need_script", "need_name", "places", "passes", "fitting", "making_of", "fits", "makes", "first_of", "turned_of", "first", "turned", "_law_draw", "_law_pick", "_law_test", "_law_rule", "_law_script", "_law_name", "_law_which", "_law_ask", "_law_no_tests", "_law_no_rules"] : List PySem.Str)
abbrev hk : PySem.W.Hook := He.hookX 5 fa fn [] [] ex
def ob (s : PySem.W.SharedT) : He.AlX := He.obsX 5 fa fn [] [] ex (HandSHeadRun.getT s)
theorem ob_eq (s : PySem.W.SharedT) : ob s = hk.obs s.abs := He.obsX_eq (HandSHeadRun.getT_eq s)
theorem run (w : World) : HandSHeadRun.RunEq R (PySem.W.view R.prog [59]) hk ob 20000 names w := by
  intro os
  kernel_rfl
theorem m_is_whole : mDf df_is_whole (top 23) = true := by kernel_rfl
theorem m_is_word : mDf df_is_word (top 24) = true := by kernel_rfl
theorem m_is_name : mDf df_is_name (top 25) = true := by kernel_rfl
theorem m_are_rising : mDf df_are_rising (top 26) = true := by kernel_rfl
theorem m_is_folder : mDf df_is_folder (top 27) = true := by kernel_rfl
theorem m_is_test : mDf df_is_test (top 32) = true := by kernel_rfl
theorem m_is_item : mDf df_is_item (top 33) = true := by kernel_rfl
theorem m_is_rule : mDf df_is_rule (top 34) = true := by kernel_rfl
theorem m_is_script : mDf df_is_script (top 35) = true := by kernel_rfl
theorem m_need_script : mDf df_need_script (top 36) = true := by kernel_rfl
theorem m_need_name : mDf df_need_name (top 37) = true := by kernel_rfl
theorem m_places : mDf df_places (top 38) = true := by kernel_rfl
theorem m_passes : mDf df_passes (top 39) = true := by kernel_rfl
theorem m_fitting : mDf df_fitting (top 40) = true := by kernel_rfl
theorem m_making_of : mDf df_making_of (top 41) = true := by kernel_rfl
theorem m_fits : mDf df_fits (top 42) = true := by kernel_rfl
theorem m_makes : mDf df_makes (top 43) = true := by kernel_rfl
theorem m_first_of : mDf df_first_of (top 44) = true := by kernel_rfl
theorem m_turned_of : mDf df_turned_of (top 45) = true := by kernel_rfl
theorem m_first : mDf df_first (top 46) = true := by kernel_rfl
theorem m_turned : mDf df_turned (top 47) = true := by kernel_rfl
theorem m__law_draw : mDf df__law_draw (top 49) = true := by kernel_rfl
theorem m__law_pick : mDf df__law_pick (top 50) = true := by kernel_rfl
theorem m__law_test : mDf df__law_test (top 51) = true := by kernel_rfl
theorem m__law_rule : mDf df__law_rule (top 52) = true := by kernel_rfl
theorem m__law_script : mDf df__law_script (top 53) = true := by kernel_rfl
theorem m__law_name : mDf df__law_name (top 54) = true := by kernel_rfl
theorem m__law_ask : mDf df__law_ask (top 56) = true := by kernel_rfl
theorem m__law_no_tests : mDf df__law_no_tests (top 57) = true := by kernel_rfl
theorem m__law_no_rules : mDf df__law_no_rules (top 58) = true := by kernel_rfl
theorem m__law_which : mDf df__law_which (top 55) = true := by kernel_rfl
theorem m_law : mDf df_law (top 59) = true := by kernel_rfl
section
variable {P : Program} {w : World} {K : PySem.W.Frag} {h base : Heap} {mg : Str → Option Value}
theorem free0 (X : K.In h) (G : h.Ns mainGlobals mg) (c : He.SaysD fa fn K) : ∀ f ∈ builtinNames, mg f = none := by
  intro f hf
  unfold builtinNames at hf
  simp only [List.mem_cons, List.not_mem_nil, or_false] at hf
  rcases hf with rfl | rfl | rfl | rfl | rfl | rfl | rfl | rfl | rfl | rfl | rfl | rfl | rfl | rfl | rfl | rfl | rfl
  · exact He.free_ok X G (c.fact 56 (f := .free "len") rfl)
  · exact He.free_ok X G (c.fact 57 (f := .free "isinstance") rfl)
  · exact He.free_ok X G (c.fact 58 (f := .free "all") rfl)
  · exact He.free_ok X G (c.fact 59 (f := .free "any") rfl)
  · exact He.free_ok X G (c.fact 60 (f := .free "tuple") rfl)
  · exact He.free_ok X G (c.fact 61 (f := .free "list") rfl)
  · exact He.free_ok X G (c.fact 62 (f := .free "range") rfl)
  · exact He.free_ok X G (c.fact 63 (f := .free "enumerate") rfl)
  · exact He.free_ok X G (c.fact 64 (f := .free "zip") rfl)
  · exact He.free_ok X G (c.fact 65 (f := .free "int") rfl)
  · exact He.free_ok X G (c.fact 66 (f := .free "bool") rfl)
  · exact He.free_ok X G (c.fact 67 (f := .free "str") rfl)
  · exact He.free_ok X G (c.fact 68 (f := .free "sorted") rfl)
  · exact He.free_ok X G (c.fact 69 (f := .free "set") rfl)
  · exact He.free_ok X G (c.fact 70 (f := .free "dict") rfl)
  · exact He.free_ok X G (c.fact 71 (f := .free "min") rfl)
  · exact He.free_ok X G (c.fact 72 (f := .free "max") rfl)
theorem C0 (X : K.In h) (G : h.Ns mainGlobals mg) (c : He.SaysD fa fn K) : Fc T0 P w K mg base 0 := by
  refine ⟨fun f F z => (by cases z), fun x d z => ?_, free0 X G c, ⟨fun x z => ?_, fun _ => rfl, fun x y b z => ?_⟩, fun f c d z => (by cases z)⟩
  · have z : glT.lookup x = some d := z
    unfold glT at z
    rw [List.lookup_cons] at z
    split at z
    · rename_i e
      cases eq_of_beq e
      cases z
      obtain ⟨t, et⟩ := He.str_ok X G (c.fact 50 (f := .str "LETTERS" "abcdefghijklmnopqrstuvwxyz") rfl)
      exact ⟨_, .str "abcdefghijklmnopqrstuvwxyz", et, ⟨t, rfl⟩, fun G H => .str _ (by decide +kernel)⟩
    rename_i e_LETTERS
    rw [List.lookup_cons] at z
    split at z
    · rename_i e
      cases eq_of_beq e
      cases z
      obtain ⟨t, et⟩ := He.int_ok X G (c.fact 51 (f := .int "FIELDS" 30) rfl)
      exact ⟨_, .int 30, et, ⟨t, rfl⟩, fun G H => .int _⟩
    rename_i e_FIELDS
    rw [List.lookup_cons] at z
    split at z
    · rename_i e
      cases eq_of_beq e
      cases z
      obtain ⟨t, et⟩ := He.int_ok X G (c.fact 52 (f := .int "FILES" 30) rfl)
      exact ⟨_, .int 30, et, ⟨t, rfl⟩, fun G H => .int _⟩
    rename_i e_FILES
    rw [List.lookup_cons] at z
    split at z
    · rename_i e
      cases eq_of_beq e
      cases z
      obtain ⟨t, et⟩ := He.int_ok X G (c.fact 53 (f := .int "SIDE" 2) rfl)
      exact ⟨_, .int 2, et, ⟨t, rfl⟩, fun G H => .int _⟩
    rename_i e_SIDE
    rw [List.lookup_cons] at z
    split at z
    · rename_i e
      cases eq_of_beq e
      cases z
      obtain ⟨t, et⟩ := He.int_ok X G (c.fact 54 (f := .int "ITEMS" 4) rfl)
      exact ⟨_, .int 4, et, ⟨t, rfl⟩, fun G H => .int _⟩
    rename_i e_ITEMS
    rw [List.lookup_cons] at z
    split at z
    · rename_i e
      cases eq_of_beq e
      cases z
      obtain ⟨t, et⟩ := He.int_ok X G (c.fact 55 (f := .int "RULES" 4) rfl)
      exact ⟨_, .int 4, et, ⟨t, rfl⟩, fun G H => .int _⟩
    rename_i e_RULES
    rw [List.lookup_cons] at z
    split at z
    · rename_i e
      cases eq_of_beq e
      cases z
      have eg := He.glo_ok X G (c.fact 37 (f := .glo "first") rfl)
      exact ⟨_, .ref _, eg, rfl, fun G H => .fn eg⟩
    rename_i e_first
    rw [List.lookup_cons] at z
    split at z
    · rename_i e
      cases eq_of_beq e
      cases z
      have eg := He.glo_ok X G (c.fact 33 (f := .glo "fits") rfl)
      exact ⟨_, .ref _, eg, rfl, fun G H => .fn eg⟩
    rename_i e_fits
    rw [List.lookup_cons] at z
    split at z
    · rename_i e
      cases eq_of_beq e
      cases z
      have eg := He.glo_ok X G (c.fact 34 (f := .glo "makes") rfl)
      exact ⟨_, .ref _, eg, rfl, fun G H => .fn eg⟩
    rename_i e_makes
    rw [List.lookup_cons] at z
    split at z
    · rename_i e
      cases eq_of_beq e
      cases z
      have eg := He.glo_ok X G (c.fact 38 (f := .glo "turned") rfl)
      exact ⟨_, .ref _, eg, rfl, fun G H => .fn eg⟩
    rename_i e_turned
    cases z
  · have z : x ∈ ex0L := of_decide_eq_true z
    unfold ex0L at z
    simp only [List.mem_cons, List.not_mem_nil, or_false] at z
    rcases z with rfl | rfl | rfl
    · obtain ⟨k1, k2⟩ := Nm.ba (c.fact 74 (f := .exc "NoName") rfl)
      obtain ⟨k2, k3⟩ := Nm.ba k2
      obtain ⟨k3, k4⟩ := Nm.ba k3
      exact ⟨_, He.glo_ok X G (c.fact 1 (f := .glo "NoName") rfl), k1, k2, of_decide_eq_true k3, of_decide_eq_true k4⟩
    · obtain ⟨k1, k2⟩ := Nm.ba (c.fact 75 (f := .exc "NoRule") rfl)
      obtain ⟨k2, k3⟩ := Nm.ba k2
      obtain ⟨k3, k4⟩ := Nm.ba k3
      exact ⟨_, He.glo_ok X G (c.fact 2 (f := .glo "NoRule") rfl), k1, k2, of_decide_eq_true k3, of_decide_eq_true k4⟩
    · obtain ⟨k1, k2⟩ := Nm.ba (c.fact 76 (f := .exc "NoScript") rfl)
      obtain ⟨k2, k3⟩ := Nm.ba k2
      obtain ⟨k3, k4⟩ := Nm.ba k3
      exact ⟨_, He.glo_ok X G (c.fact 3 (f := .glo "NoScript") rfl), k1, k2, of_decide_eq_true k3, of_decide_eq_true k4⟩
  · have z : exmL.lookup (x, y) = some b := z
    unfold exmL at z
    rw [List.lookup_cons] at z
    split at z
    · rename_i e
      cases eq_of_beq e
      cases z
      exact ⟨_, _, He.glo_ok X G (c.fact 1 (f := .glo "NoName") rfl), He.glo_ok X G (c.fact 0 (f := .glo "TurnError") rfl), of_decide_eq_true (c.fact 77 (f := .exm "NoName" "TurnError" true) rfl)⟩
    rename_i e_NoName_TurnError
    rw [List.lookup_cons] at z
    split at z
    · rename_i e
      cases eq_of_beq e
      cases z
      exact ⟨_, _, He.glo_ok X G (c.fact 2 (f := .glo "NoRule") rfl), He.glo_ok X G (c.fact 0 (f := .glo "TurnError") rfl), of_decide_eq_true (c.fact 78 (f := .exm "NoRule" "TurnError" true) rfl)⟩
    rename_i e_NoRule_TurnError
    rw [List.lookup_cons] at z
    split at z
    · rename_i e
      cases eq_of_beq e
      cases z
      exact ⟨_, _, He.glo_ok X G (c.fact 3 (f := .glo "NoScript") rfl), He.glo_ok X G (c.fact 0 (f := .glo "TurnError") rfl), of_decide_eq_true (c.fact 79 (f := .exm "NoScript" "TurnError" true) rfl)⟩
    rename_i e_NoScript_TurnError
    rw [List.lookup_cons] at z
    split at z
    · rename_i e
      cases eq_of_beq e
      cases z
      exact ⟨_, _, He.glo_ok X G (c.fact 0 (f := .glo "TurnError") rfl), He.glo_ok X G (c.fact 0 (f := .glo "TurnError") rfl), of_decide_eq_true (c.fact 80 (f := .exm "TurnError" "TurnError" true) rfl)⟩
    rename_i e_TurnError_TurnError
    cases z
theorem wh_run : ∀ c z, whT "_law_which" c = some z → c ∈ ex0L ∧ D.plain 60 z = true ∧ runDf (tbW ysL c) df__law_which [.exc c []] = some (.ok z .non) := by
  intro c z hz
  unfold whT at hz
  split at hz
  · rename_i hh
    have hc := hh.2
    have hc0 := hh.2
    unfold ex0L at hc
    simp only [List.mem_cons, List.not_mem_nil, or_false] at hc
    rcases hc with rfl | rfl | rfl
    · have e : (ysL.idxOf? ("NoName" : Str)).map (fun k => D.tup [.str "refused", .int (k : Nat)]) = some (.tup [.str "refused", .int 0]) := by kernel_rfl
      rw [e] at hz
      cases hz
      exact ⟨hc0, by kernel_rfl, by kernel_rfl⟩
    · have e : (ysL.idxOf? ("NoRule" : Str)).map (fun k => D.tup [.str "refused", .int (k : Nat)]) = some (.tup [.str "refused", .int 1]) := by kernel_rfl
      rw [e] at hz
      cases hz
      exact ⟨hc0, by kernel_rfl, by kernel_rfl⟩
    · have e : (ysL.idxOf? ("NoScript" : Str)).map (fun k => D.tup [.str "refused", .int (k : Nat)]) = some (.tup [.str "refused", .int 2]) := by kernel_rfl
      rw [e] at hz
      cases hz
      exact ⟨hc0, by kernel_rfl, by kernel_rfl⟩
  · cases hz
theorem wh_ok (X : K.In h) (G : h.Ns mainGlobals mg) (c : He.SaysD fa fn K) (cx : ex K = true) : ∃ a fd e, mg ("_law_which" : Str) = some (.ref a) ∧ PySem.W.keepIn K (.ref a) = true ∧ Binds K fd [e] [] ∧ FnW P w K mg base a fd e (whT "_law_which") := by
  obtain ⟨fd, F⟩ := c.def_ 27 (d := d__law_which) rfl
  have F : FunD K "_law_which" "_law_which" (defArgs (top 55)) (defBody (top 55)) (defScope (top 55)) [] [] (He.ga K "_law_which") fd := F
  refine ⟨_, fd, "e", He.glo_ok X G (c.fact 45 (f := .glo "_law_which") rfl), F.kp, FunD.bindsN F (fun _ _ _ _ _ _ us hl => match us, hl with | [_], _ => by rfl), which_head X G F rfl rfl m__law_which (by kernel_rfl) (free0 X G c) (He.free_ok X G (c.fact 73 (f := .free "ValueError") rfl)) (fun y hy => ?_) cx wh_run⟩
  have hy : y ∈ ysL := by
    rcases hy with hy | hy
    · unfold ex0L at hy
      simp only [List.mem_cons, List.not_mem_nil, or_false] at hy
      rcases hy with rfl | rfl | rfl <;> decide +kernel
    · exact hy
  unfold ysL at hy
  simp only [List.mem_cons, List.not_mem_nil, or_false] at hy
  rcases hy with rfl | rfl | rfl | rfl | rfl | rfl | rfl | rfl | rfl | rfl | rfl | rfl | rfl | rfl | rfl | rfl | rfl
  · exact He.glo_ok X G (c.fact 1 (f := .glo "NoName") rfl)
  · exact He.glo_ok X G (c.fact 2 (f := .glo "NoRule") rfl)
  · exact He.glo_ok X G (c.fact 3 (f := .glo "NoScript") rfl)
  · exact He.glo_ok X G (c.fact 4 (f := .glo "NoFolder") rfl)
  · exact He.glo_ok X G (c.fact 5 (f := .glo "Clash") rfl)
  · exact He.glo_ok X G (c.fact 6 (f := .glo "NoOrder") rfl)
  · exact He.glo_ok X G (c.fact 7 (f := .glo "Lost") rfl)
  · exact He.glo_ok X G (c.fact 8 (f := .glo "Ringed") rfl)
  · exact He.glo_ok X G (c.fact 9 (f := .glo "NoNumber") rfl)
  · exact He.glo_ok X G (c.fact 10 (f := .glo "NoRow") rfl)
  · exact He.glo_ok X G (c.fact 11 (f := .glo "NoWord") rfl)
  · exact He.glo_ok X G (c.fact 12 (f := .glo "Taken") rfl)
  · exact He.glo_ok X G (c.fact 13 (f := .glo "NotThere") rfl)
  · exact He.glo_ok X G (c.fact 14 (f := .glo "Full") rfl)
  · exact He.glo_ok X G (c.fact 15 (f := .glo "TooLong") rfl)
  · exact He.glo_ok X G (c.fact 16 (f := .glo "NoDeed") rfl)
  · exact He.glo_ok X G (c.fact 17 (f := .glo "NoText") rfl)
theorem C1 (X : K.In h) (G : h.Ns mainGlobals mg) (c : He.SaysD fa fn K) (cx : ex K = true) : Fc T1 P w K mg base 1 := by
  obtain ⟨fd, F⟩ := c.def_ 0 (d := d_is_whole) rfl
  have F : FunD K "is_whole" "is_whole" (defArgs (top 23)) (defBody (top 23)) (defScope (top 23)) [] [] (He.ga K "is_whole") fd := F
  refine Fc.setWh ((C0 X G c).ext F m_is_whole (He.glo_ok X G (c.fact 18 (f := .glo "is_whole") rfl)) (FunD.bindsN F fun _ _ _ _ _ _ us hl => match us, hl with | [_, _, _], _ => by rfl)) fun f c0 d0 hz => ?_
  have hf : f = "_law_which" := by
    unfold whT at hz
    split at hz
    · rename_i hh
      simpa using hh.1
    · cases hz
  subst hf
  obtain ⟨a, fd, e, q1, q2, q3, q4⟩ := wh_ok (P := P) (w := w) (base := base) X G c cx
  exact ⟨a, fd, e, q1, q2, q3, q4, by decide⟩
theorem C2 (X : K.In h) (G : h.Ns mainGlobals mg) (c : He.SaysD fa fn K) (cx : ex K = true) : Fc T2 P w K mg base 2 := by
  obtain ⟨fd, F⟩ := c.def_ 1 (d := d_is_word) rfl
  have F : FunD K "is_word" "is_word" (defArgs (top 24)) (defBody (top 24)) (defScope (top 24)) [] [] (He.ga K "is_word") fd := F
  exact (C1 X G c cx).ext F m_is_word (He.glo_ok X G (c.fact 19 (f := .glo "is_word") rfl)) (FunD.bindsN F fun _ _ _ _ _ _ us hl => match us, hl with | [_], _ => by rfl)
theorem C3 (X : K.In h) (G : h.Ns mainGlobals mg) (c : He.SaysD fa fn K) (cx : ex K = true) : Fc T3 P w K mg base 3 := by
  obtain ⟨fd, F⟩ := c.def_ 2 (d := d_is_name) rfl
  have F : FunD K "is_name" "is_name" (defArgs (top 25)) (defBody (top 25)) (defScope (top 25)) [] [] (He.ga K "is_name") fd := F
  exact (C2 X G c cx).ext F m_is_name (He.glo_ok X G (c.fact 20 (f := .glo "is_name") rfl)) (FunD.bindsN F fun _ _ _ _ _ _ us hl => match us, hl with | [_], _ => by rfl)
theorem C4 (X : K.In h) (G : h.Ns mainGlobals mg) (c : He.SaysD fa fn K) (cx : ex K = true) : Fc T4 P w K mg base 4 := by
  obtain ⟨fd, F⟩ := c.def_ 3 (d := d_are_rising) rfl
  have F : FunD K "are_rising" "are_rising" (defArgs (top 26)) (defBody (top 26)) (defScope (top 26)) [] [] (He.ga K "are_rising") fd := F
  exact (C3 X G c cx).ext F m_are_rising (He.glo_ok X G (c.fact 21 (f := .glo "are_rising") rfl)) (FunD.bindsN F fun _ _ _ _ _ _ us hl => match us, hl with | [_], _ => by rfl)
theorem C5 (X : K.In h) (G : h.Ns mainGlobals mg) (c : He.SaysD fa fn K) (cx : ex K = true) : Fc T5 P w K mg base 5 := by
  obtain ⟨fd, F⟩ := c.def_ 4 (d := d_is_folder) rfl
  have F : FunD K "is_folder" "is_folder" (defArgs (top 27)) (defBody (top 27)) (defScope (top 27)) [] [] (He.ga K "is_folder") fd := F
  exact (C4 X G c cx).ext F m_is_folder (He.glo_ok X G (c.fact 22 (f := .glo "is_folder") rfl)) (FunD.bindsN F fun _ _ _ _ _ _ us hl => match us, hl with | [_], _ => by rfl)
theorem C6 (X : K.In h) (G : h.Ns mainGlobals mg) (c : He.SaysD fa fn K) (cx : ex K = true) : Fc T6 P w K mg base 6 := by
  obtain ⟨fd, F⟩ := c.def_ 5 (d := d_is_test) rfl
  have F : FunD K "is_test" "is_test" (defArgs (top 32)) (defBody (top 32)) (defScope (top 32)) [] [] (He.ga K "is_test") fd := F
  exact (C5 X G c cx).ext F m_is_test (He.glo_ok X G (c.fact 23 (f := .glo "is_test") rfl)) (FunD.bindsN F fun _ _ _ _ _ _ us hl => match us, hl with | [_, _], _ => by rfl)
theorem C7 (X : K.In h) (G : h.Ns mainGlobals mg) (c : He.SaysD fa fn K) (cx : ex K = true) : Fc T7 P w K mg base 7 := by
  obtain ⟨fd, F⟩ := c.def_ 6 (d := d_is_item) rfl
  have F : FunD K "is_item" "is_item" (defArgs (top 33)) (defBody (top 33)) (defScope (top 33)) [] [] (He.ga K "is_item") fd := F
  exact (C6 X G c cx).ext F m_is_item (He.glo_ok X G (c.fact 24 (f := .glo "is_item") rfl)) (FunD.bindsN F fun _ _ _ _ _ _ us hl => match us, hl with | [_, _, _], _ => by rfl)
theorem C8 (X : K.In h) (G : h.Ns mainGlobals mg) (c : He.SaysD fa fn K) (cx : ex K = true) : Fc T8 P w K mg base 8 := by
  obtain ⟨fd, F⟩ := c.def_ 7 (d := d_is_rule) rfl
  have F : FunD K "is_rule" "is_rule" (defArgs (top 34)) (defBody (top 34)) (defScope (top 34)) [] [] (He.ga K "is_rule") fd := F
  exact (C7 X G c cx).ext F m_is_rule (He.glo_ok X G (c.fact 25 (f := .glo "is_rule") rfl)) (FunD.bindsN F fun _ _ _ _ _ _ us hl => match us, hl with | [_], _ => by rfl)
theorem C9 (X : K.In h) (G : h.Ns mainGlobals mg) (c : He.SaysD fa fn K) (cx : ex K = true) : Fc T9 P w K mg base 9 := by
  obtain ⟨fd, F⟩ := c.def_ 8 (d := d_is_script) rfl
  have F : FunD K "is_script" "is_script" (defArgs (top 35)) (defBody (top 35)) (defScope (top 35)) [] [] (He.ga K "is_script") fd := F
  exact (C8 X G c cx).ext F m_is_script (He.glo_ok X G (c.fact 26 (f := .glo "is_script") rfl)) (FunD.bindsN F fun _ _ _ _ _ _ us hl => match us, hl with | [_], _ => by rfl)
theorem C10 (X : K.In h) (G : h.Ns mainGlobals mg) (c : He.SaysD fa fn K) (cx : ex K = true) : Fc T10 P w K mg base 10 := by
  obtain ⟨fd, F⟩ := c.def_ 9 (d := d_need_script) rfl
  have F : FunD K "need_script" "need_script" (defArgs (top 36)) (defBody (top 36)) (defScope (top 36)) [] [] (He.ga K "need_script") fd := F
  exact (C9 X G c cx).ext F m_need_script (He.glo_ok X G (c.fact 27 (f := .glo "need_script") rfl)) (FunD.bindsN F fun _ _ _ _ _ _ us hl => match us, hl with | [_], _ => by rfl)
theorem C11 (X : K.In h) (G : h.Ns mainGlobals mg) (c : He.SaysD fa fn K) (cx : ex K = true) : Fc T11 P w K mg base 11 := by
  obtain ⟨fd, F⟩ := c.def_ 10 (d := d_need_name) rfl
  have F : FunD K "need_name" "need_name" (defArgs (top 37)) (defBody (top 37)) (defScope (top 37)) [] [] (He.ga K "need_name") fd := F
  exact (C10 X G c cx).ext F m_need_name (He.glo_ok X G (c.fact 28 (f := .glo "need_name") rfl)) (FunD.bindsN F fun _ _ _ _ _ _ us hl => match us, hl with | [_], _ => by rfl)
theorem C12 (X : K.In h) (G : h.Ns mainGlobals mg) (c : He.SaysD fa fn K) (cx : ex K = true) : Fc T12 P w K mg base 12 := by
  obtain ⟨fd, F⟩ := c.def_ 11 (d := d_places) rfl
  have F : FunD K "places" "places" (defArgs (top 38)) (defBody (top 38)) (defScope (top 38)) [] [] (He.ga K "places") fd := F
  exact (C11 X G c cx).ext F m_places (He.glo_ok X G (c.fact 29 (f := .glo "places") rfl)) (FunD.bindsN F fun _ _ _ _ _ _ us hl => match us, hl with | [_, _], _ => by rfl)
theorem C13 (X : K.In h) (G : h.Ns mainGlobals mg) (c : He.SaysD fa fn K) (cx : ex K = true) : Fc T13 P w K mg base 13 := by
  obtain ⟨fd, F⟩ := c.def_ 12 (d := d_passes) rfl
  have F : FunD K "passes" "passes" (defArgs (top 39)) (defBody (top 39)) (defScope (top 39)) [] [] (He.ga K "passes") fd := F
  exact (C12 X G c cx).ext F m_passes (He.glo_ok X G (c.fact 30 (f := .glo "passes") rfl)) (FunD.bindsN F fun _ _ _ _ _ _ us hl => match us, hl with | [_, _, _], _ => by rfl)
theorem C14 (X : K.In h) (G : h.Ns mainGlobals mg) (c : He.SaysD fa fn K) (cx : ex K = true) : Fc T14 P w K mg base 14 := by
  obtain ⟨fd, F⟩ := c.def_ 13 (d := d_fitting) rfl
  have F : FunD K "fitting" "fitting" (defArgs (top 40)) (defBody (top 40)) (defScope (top 40)) [] [] (He.ga K "fitting") fd := F
  exact (C13 X G c cx).ext F m_fitting (He.glo_ok X G (c.fact 31 (f := .glo "fitting") rfl)) (FunD.bindsN F fun _ _ _ _ _ _ us hl => match us, hl with | [_, _], _ => by rfl)
theorem C15 (X : K.In h) (G : h.Ns mainGlobals mg) (c : He.SaysD fa fn K) (cx : ex K = true) : Fc T15 P w K mg base 15 := by
  obtain ⟨fd, F⟩ := c.def_ 14 (d := d_making_of) rfl
  have F : FunD K "making_of" "making_of" (defArgs (top 41)) (defBody (top 41)) (defScope (top 41)) [] [] (He.ga K "making_of") fd := F
  exact (C14 X G c cx).ext F m_making_of (He.glo_ok X G (c.fact 32 (f := .glo "making_of") rfl)) (FunD.bindsN F fun _ _ _ _ _ _ us hl => match us, hl with | [_, _], _ => by rfl)
theorem C16 (X : K.In h) (G : h.Ns mainGlobals mg) (c : He.SaysD fa fn K) (cx : ex K = true) : Fc T16 P w K mg base 16 := by
  obtain ⟨fd, F⟩ := c.def_ 15 (d := d_fits) rfl
  have F : FunD K "fits" "fits" (defArgs (top 42)) (defBody (top 42)) (defScope (top 42)) [] [] (He.ga K "fits") fd := F
  exact (C15 X G c cx).ext F m_fits (He.glo_ok X G (c.fact 33 (f := .glo "fits") rfl)) (FunD.bindsN F fun _ _ _ _ _ _ us hl => match us, hl with | [_, _], _ => by rfl)
theorem C17 (X : K.In h) (G : h.Ns mainGlobals mg) (c : He.SaysD fa fn K) (cx : ex K = true) : Fc T17 P w K mg base 17 := by
  obtain ⟨fd, F⟩ := c.def_ 16 (d := d_makes) rfl
  have F : FunD K "makes" "makes" (defArgs (top 43)) (defBody (top 43)) (defScope (top 43)) [] [] (He.ga K "makes") fd := F
  exact (C16 X G c cx).ext F m_makes (He.glo_ok X G (c.fact 34 (f := .glo "makes") rfl)) (FunD.bindsN F fun _ _ _ _ _ _ us hl => match us, hl with | [_, _], _ => by rfl)
theorem C18 (X : K.In h) (G : h.Ns mainGlobals mg) (c : He.SaysD fa fn K) (cx : ex K = true) : Fc T18 P w K mg base 18 := by
  obtain ⟨fd, F⟩ := c.def_ 17 (d := d_first_of) rfl
  have F : FunD K "first_of" "first_of" (defArgs (top 44)) (defBody (top 44)) (defScope (top 44)) [] [] (He.ga K "first_of") fd := F
  exact (C17 X G c cx).ext F m_first_of (He.glo_ok X G (c.fact 35 (f := .glo "first_of") rfl)) (FunD.bindsN F fun _ _ _ _ _ _ us hl => match us, hl with | [_, _], _ => by rfl)
theorem C19 (X : K.In h) (G : h.Ns mainGlobals mg) (c : He.SaysD fa fn K) (cx : ex K = true) : Fc T19 P w K mg base 19 := by
  obtain ⟨fd, F⟩ := c.def_ 18 (d := d_turned_of) rfl
  have F : FunD K "turned_of" "turned_of" (defArgs (top 45)) (defBody (top 45)) (defScope (top 45)) [] [] (He.ga K "turned_of") fd := F
  exact (C18 X G c cx).ext F m_turned_of (He.glo_ok X G (c.fact 36 (f := .glo "turned_of") rfl)) (FunD.bindsN F fun _ _ _ _ _ _ us hl => match us, hl with | [_, _], _ => by rfl)
theorem C20 (X : K.In h) (G : h.Ns mainGlobals mg) (c : He.SaysD fa fn K) (cx : ex K = true) : Fc T20 P w K mg base 20 := by
  obtain ⟨fd, F⟩ := c.def_ 19 (d := d_first) rfl
  have F : FunD K "first" "first" (defArgs (top 46)) (defBody (top 46)) (defScope (top 46)) [] [] (He.ga K "first") fd := F
  exact (C19 X G c cx).ext F m_first (He.glo_ok X G (c.fact 37 (f := .glo "first") rfl)) (FunD.bindsN F fun _ _ _ _ _ _ us hl => match us, hl with | [_, _], _ => by rfl)
theorem C21 (X : K.In h) (G : h.Ns mainGlobals mg) (c : He.SaysD fa fn K) (cx : ex K = true) : Fc T21 P w K mg base 21 := by
  obtain ⟨fd, F⟩ := c.def_ 20 (d := d_turned) rfl
  have F : FunD K "turned" "turned" (defArgs (top 47)) (defBody (top 47)) (defScope (top 47)) [] [] (He.ga K "turned") fd := F
  exact (C20 X G c cx).ext F m_turned (He.glo_ok X G (c.fact 38 (f := .glo "turned") rfl)) (FunD.bindsN F fun _ _ _ _ _ _ us hl => match us, hl with | [_, _], _ => by rfl)
theorem C22 (X : K.In h) (G : h.Ns mainGlobals mg) (c : He.SaysD fa fn K) (cx : ex K = true) : Fc T22 P w K mg base 22 := by
  obtain ⟨fd, F⟩ := c.def_ 21 (d := d__law_draw) rfl
  have F : FunD K "_law_draw" "_law_draw" (defArgs (top 49)) (defBody (top 49)) (defScope (top 49)) [] [] (He.ga K "_law_draw") fd := F
  exact (C21 X G c cx).ext F m__law_draw (He.glo_ok X G (c.fact 39 (f := .glo "_law_draw") rfl)) (FunD.bindsN F fun _ _ _ _ _ _ us hl => match us, hl with | [_, _, _], _ => by rfl)
theorem C23 (X : K.In h) (G : h.Ns mainGlobals mg) (c : He.SaysD fa fn K) (cx : ex K = true) : Fc T23 P w K mg base 23 := by
  obtain ⟨fd, F⟩ := c.def_ 22 (d := d__law_pick) rfl
  have F : FunD K "_law_pick" "_law_pick" (defArgs (top 50)) (defBody (top 50)) (defScope (top 50)) [] [] (He.ga K "_law_pick") fd := F
  exact (C22 X G c cx).ext F m__law_pick (He.glo_ok X G (c.fact 40 (f := .glo "_law_pick") rfl)) (FunD.bindsN F fun _ _ _ _ _ _ us hl => match us, hl with | [_, _, _], _ => by rfl)
theorem C24 (X : K.In h) (G : h.Ns mainGlobals mg) (c : He.SaysD fa fn K) (cx : ex K = true) : Fc T24 P w K mg base 24 := by
  obtain ⟨fd, F⟩ := c.def_ 23 (d := d__law_test) rfl
  have F : FunD K "_law_test" "_law_test" (defArgs (top 51)) (defBody (top 51)) (defScope (top 51)) [] [] (He.ga K "_law_test") fd := F
  exact (C23 X G c cx).ext F m__law_test (He.glo_ok X G (c.fact 41 (f := .glo "_law_test") rfl)) (FunD.bindsN F fun _ _ _ _ _ _ us hl => match us, hl with | [_, _, _], _ => by rfl)
theorem C25 (X : K.In h) (G : h.Ns mainGlobals mg) (c : He.SaysD fa fn K) (cx : ex K = true) : Fc T25 P w K mg base 25 := by
  obtain ⟨fd, F⟩ := c.def_ 24 (d := d__law_rule) rfl
  have F : FunD K "_law_rule" "_law_rule" (defArgs (top 52)) (defBody (top 52)) (defScope (top 52)) [] [] (He.ga K "_law_rule") fd := F
  exact (C24 X G c cx).ext F m__law_rule (He.glo_ok X G (c.fact 42 (f := .glo "_law_rule") rfl)) (FunD.bindsN F fun _ _ _ _ _ _ us hl => match us, hl with | [_, _, _], _ => by rfl)
theorem C26 (X : K.In h) (G : h.Ns mainGlobals mg) (c : He.SaysD fa fn K) (cx : ex K = true) : Fc T26 P w K mg base 26 := by
  obtain ⟨fd, F⟩ := c.def_ 25 (d := d__law_script) rfl
  have F : FunD K "_law_script" "_law_script" (defArgs (top 53)) (defBody (top 53)) (defScope (top 53)) [] [] (He.ga K "_law_script") fd := F
  exact (C25 X G c cx).ext F m__law_script (He.glo_ok X G (c.fact 43 (f := .glo "_law_script") rfl)) (FunD.bindsN F fun _ _ _ _ _ _ us hl => match us, hl with | [_, _, _, _], _ => by rfl)
theorem C27 (X : K.In h) (G : h.Ns mainGlobals mg) (c : He.SaysD fa fn K) (cx : ex K = true) : Fc T27 P w K mg base 27 := by
  obtain ⟨fd, F⟩ := c.def_ 26 (d := d__law_name) rfl
  have F : FunD K "_law_name" "_law_name" (defArgs (top 54)) (defBody (top 54)) (defScope (top 54)) [] [] (He.ga K "_law_name") fd := F
  exact (C26 X G c cx).ext F m__law_name (He.glo_ok X G (c.fact 44 (f := .glo "_law_name") rfl)) (FunD.bindsN F fun _ _ _ _ _ _ us hl => match us, hl with | [_, _, _], _ => by rfl)
theorem C28 (X : K.In h) (G : h.Ns mainGlobals mg) (c : He.SaysD fa fn K) (cx : ex K = true) : Fc T28 P w K mg base 28 := by
  obtain ⟨fd, F⟩ := c.def_ 28 (d := d__law_ask) rfl
  have F : FunD K "_law_ask" "_law_ask" (defArgs (top 56)) (defBody (top 56)) (defScope (top 56)) [] [] (He.ga K "_law_ask") fd := F
  exact (C27 X G c cx).ext F m__law_ask (He.glo_ok X G (c.fact 46 (f := .glo "_law_ask") rfl)) (FunD.bindsN F fun _ _ _ _ _ _ us hl => match us, hl with | [_, _, _], _ => by rfl)
theorem C29 (X : K.In h) (G : h.Ns mainGlobals mg) (c : He.SaysD fa fn K) (cx : ex K = true) : Fc T29 P w K mg base 29 := by
  obtain ⟨fd, F⟩ := c.def_ 29 (d := d__law_no_tests) rfl
  have F : FunD K "_law_no_tests" "_law_no_tests" (defArgs (top 57)) (defBody (top 57)) (defScope (top 57)) [] [] (He.ga K "_law_no_tests") fd := F
  exact (C28 X G c cx).ext F m__law_no_tests (He.glo_ok X G (c.fact 47 (f := .glo "_law_no_tests") rfl)) (FunD.bindsN F fun _ _ _ _ _ _ us hl => match us, hl with | [], _ => by rfl)
theorem C30 (X : K.In h) (G : h.Ns mainGlobals mg) (c : He.SaysD fa fn K) (cx : ex K = true) : Fc T30 P w K mg base 30 := by
  obtain ⟨fd, F⟩ := c.def_ 30 (d := d__law_no_rules) rfl
  have F : FunD K "_law_no_rules" "_law_no_rules" (defArgs (top 58)) (defBody (top 58)) (defScope (top 58)) [] [] (He.ga K "_law_no_rules") fd := F
  exact (C29 X G c cx).ext F m__law_no_rules (He.glo_ok X G (c.fact 48 (f := .glo "_law_no_rules") rfl)) (FunD.bindsN F fun _ _ _ _ _ _ us hl => match us, hl with | [], _ => by rfl)
end
theorem facts {P : Program} {w : World} {K : PySem.W.Frag} {h : Heap} {mg : Str → Option Value} {f : Addr} (X : K.In h) (G : h.Ns mainGlobals mg) (hfa : mg ("law" : Str) = some (.ref f)) (c : He.SaysD fa fn K) (cx : ex K = true) :
    ∃ fd : FuncData, (∀ (s : Shared) (v : Value), BindsTo s fd ⟨[v], []⟩ [("script", v)]) ∧ ∀ base : Heap, FnOk P w K mg base (L2.CX P w) 31 f fd ["script"] (spF ⟨K, mg, none⟩ (df_law.fn T30)) := by
  obtain ⟨fd, F⟩ := c.def_ 31 (d := d_law) rfl
  have F : FunD K "law" "law" (defArgs (top 59)) (defBody (top 59)) (defScope (top 59)) [] [] (He.ga K "law") fd := F
  have e := hfa.symm.trans (He.glo_ok X G (c.fact 49 (f := .glo "law") rfl))
  cases e
  have b := FunD.bindsA (ps := ["script"]) F fun _ _ _ _ _ _ us hl => match us, hl with | [_], _ => by rfl
  exact ⟨fd, fun s v => b s [v] rfl, fun base => (C30 X G c cx).law F m_law⟩
end K02
open PySem PySem.W PySem.Calls PyProof.Rows Nm
theorem K02.holds_of (hlaw : ∀ ns : List Int, ns.length ≤ 63 → (∀ z ∈ ns, Builtin.Int.intBits z ≤ 1048576) → ∃ out, runDf K02.T30 K02.df_law [.scr ns] = some (.ok (.bl true) out)) : PySem.Challenge.rw_namescripts_k02_rules_refused.Holds := by
  w_on; o_law
  refine HandSHeadRun.head_any (r := OpenLaw.row PySem.Challenge.rw_namescripts_k02_rules_refused) (q := view (OpenLaw.row PySem.Challenge.rw_namescripts_k02_rules_refused).prog [59]) (H := K02.hk) (ob := K02.ob) (M := 20000) (loose := K02.names) (d := HandSHeadRun.topDef (OpenLaw.row PySem.Challenge.rw_namescripts_k02_rules_refused).prog 59) (kwd := []) K02.ob_eq
    (by kernel_rfl) (fun s => by kernel_rfl) K02.run (by kernel_rfl) (by kernel_rfl) (by kernel_rfl) (by rfl) (by first | assumption | decide +kernel) (by decide +kernel) ⟨rfl, rfl, rfl, rfl, rfl, by decide +kernel⟩ ?hw ?hc
  case hw => w_witness2
  case hc =>
    refine walk_bits (l := PySem.Challenge.rw_namescripts_k02_rules_refused) (n := 63) (k := 31) (x := "script") rfl (by decide) (by kernel_rfl) ⟨rfl, by decide, by decide⟩ ?F
    intro w mg fa h Y G hmg0
    obtain ⟨K, KX, c⟩ := Y
    have hmg : mg ("law" : PySem.Str) = some (.ref fa) := by
      have e : (HandSHeadRun.topDef (OpenLaw.row PySem.Challenge.rw_namescripts_k02_rules_refused).prog 59).name = ("law" : PySem.Str) := by kernel_rfl
      rw [← e]
      exact hmg0
    obtain ⟨fd, hb, hF⟩ := K02.facts (P := (PySem.Challenge.rw_namescripts_k02_rules_refused).prog) (w := w) KX G hmg c.t.d c.more
    exact ⟨K, fd, K02.df_law.fn K02.T30, KX, rfl, rfl, hb, fun ns hl hz => hlaw ns hl hz, hF⟩

set_option maxRecDepth 100000 in
set_option maxHeartbeats 8000000 in
theorem PySem.Challenge.cw_namescripts_k02_rules_refused_holds : PySem.Challenge.rw_namescripts_k02_rules_refused.Holds := by
  exact K02.holds_of fun ns _ _ => K02.law_ok ns
