import PyProof.Rows.All
import Wide.All
import OpenK.AllK
import Wide.FinOn
import HandS.ForMost
import HandS.Exc
import HandS.ExcOwn
import HandS.ExcInit
import HandS.TryOnly
import HandS.Wide
import HandS.Conv
import HandS.More
import HandS.IsInst
import HandS.TupAny
import HandS.WordsExc
import HandS.Lambda
import HandS.TupMul
import HandS.ExcCtx
import HandS.DictComp
import KE.GoesEnum
import HandS.HotCalls
import HandS.ExcField
import HandS.ExcIs
import HandS.Hot
import KE.KExcIs
import HandS.Text
import HandS.Codes
import HandS.EndTab
import KE.KNestM
import PySem.Challenge.RW_fusewalk_k31_lines_refused
set_option autoImplicit false
/-! Fw0: a small language of expressions and statements, and what it reckons. Plain Lean, no machine in sight. -/
namespace Fw

/-- a text, by its code points -/
abbrev Txt := List Nat

/-- plain values: what is never changed again stands here by its value; a cell is one that may be changed -/
inductive D where
  | non
  | bl (b : Bool)
  | int (i : Int)
  | str (s : Txt)
  | tup (ds : List D)
  | lst (ds : List D)
  | dic (kvs : List (Txt × D))
  /-- a dict that the module's top made -/
  | gdic (kvs : List (Txt × D))
  | obj (c : Nat) (ds : List D)
  | cell (i : Nat)
  /-- the script -/
  | scr (ns : List Int)
  deriving Inhabited

/-- what may be changed: a list, an instance -/
inductive Cell where
  | lst (ds : List D)
  | obj (c : Nat) (ds : List D)
  deriving Inhabited
abbrev Store := List Cell

/-- an exception: its class by number, its word if it bears one -/
structure Exc where
  c : Nat
  w : Option D

inductive Out (α : Type) where
  | ok (a : α) (st : Store)
  | exc (e : Exc) (st : Store)
  | bad

@[inline] def Out.bind {α β : Type} : Out α → (α → Store → Out β) → Out β
  | .ok a st, f => f a st
  | .exc e st, _ => .exc e st
  | .bad, _ => .bad
@[simp] theorem Out.bind_ok {α β : Type} (a : α) (st : Store) (f : α → Store → Out β) : (Out.ok a st).bind f = f a st := rfl
@[simp] theorem Out.bind_exc {α β : Type} (e : Exc) (st : Store) (f : α → Store → Out β) : (Out.exc e st).bind f = .exc e st := rfl
@[simp] theorem Out.bind_bad {α β : Type} (f : α → Store → Out β) : (Out.bad : Out α).bind f = .bad := rfl
def Out.ofO {α : Type} (st : Store) : Option α → Out α
  | some a => .ok a st
  | none => .bad
@[simp] theorem Out.ofO_some {α : Type} (st : Store) (a : α) : Out.ofO st (some a) = .ok a st := rfl
@[simp] theorem Out.ofO_none {α : Type} (st : Store) : (Out.ofO st none : Out α) = .bad := rfl

inductive Op2 where
  | add | sub | mul | fdiv | mod | pow
  deriving DecidableEq
inductive Cmp where
  | eq | ne | lt | le | gt | ge | is_ | isnt | in_ | notin
  deriving DecidableEq
inductive Ty where
  | int | bool | str | tuple | list
  deriving DecidableEq
inductive Blt where
  | len | abs | min2 | max2 | int1 | str1 | list1 | tuple1 | sum1 | all1 | any1 | min1 | max1 | maxD | sorted1 | sortedSet | listRange | dictCopy | dictPairs
  | isinst (t : Ty)
  deriving DecidableEq
inductive Bm where
  | get | index | join | replace
  deriving DecidableEq

/-- targets: one name, or some names of a tuple -/
inductive Tg where
  | one (i : Nat)
  | many (is : List Nat)

mutual
inductive ME where
  | var (i : Nat)
  | lit (d : D)
  | glob (g : Nat)
  | bin (op : Op2) (a b : ME)
  | neg (a : ME)
  | not (a : ME)
  | cmp (op : Cmp) (a b : ME)
  | chain (a : ME) (r : MC)
  | and (es : MEs)
  | or (es : MEs)
  | ite (c a b : ME)
  | ix (a b : ME)
  | ixO (i : Nat) (b : ME)
  | lenO (i : Nat)
  | slFrom (a lo : ME)
  | slTo (a hi : ME)
  | slBoth (a lo hi : ME)
  | tup (es : MEs)
  | lst (es : MEs)
  | dict (ks : List Txt) (es : MEs)
  | fld (a : ME) (f : Txt)
  | call (f : Nat) (es : MEs)
  | meth (a : ME) (m : Txt) (es : MEs)
  | make (c : Nat) (es : MEs)
  | blt (b : Blt) (es : MEs)
  | bm (m : Bm) (a : ME) (es : MEs)
  | comp (t : Tg) (elt : ME) (it : MI) (cs : MEs)
  | told (e : ME)
  | caught (i : Nat) (e : ME)
inductive MEs where
  | nil
  | cons (e : ME) (es : MEs)
inductive MC where
  | last (op : Cmp) (e : ME)
  | more (op : Cmp) (e : ME) (r : MC)
inductive MI where
  | val (e : ME)
  | range1 (e : ME)
  | range2 (a b : ME)
  | enum (e : ME)
  | zip (a b : ME)
end

mutual
inductive MS where
  | expr (e : ME)
  | set (t : Tg) (e : ME)
  | par2 (i j : Nat) (a b : ME)
  | own (i : Nat) (es : MEs)
  | ownD (i : Nat) (ks : List Txt) (es : MEs)
  | newCell (i : Nat)
  | app (i : Nat) (e : ME)
  | ext (i : Nat) (e : ME)
  | setD (i : Nat) (k e : ME)
  | fixD (i : Nat)
  | appC (i : Nat) (e : ME)
  | fset (i : Nat) (f : Txt) (e : ME)
  | finit (i : Nat) (f : Txt) (e : ME)
  | if_ (c : ME) (a b : MSs)
  | for_ (t : Tg) (it : MI) (body : MSs)
  | while_ (c : ME) (body : MSs)
  | ret (e : ME)
  | raise (c : Nat) (es : MEs)
  | cont
  | pass
  | tryE (e : ME) (c : Nat) (h : MSs)
inductive MSs where
  | nil
  | cons (s : MS) (r : MSs)
end

inductive Slot where
  | un
  | val (d : D)
  | own (ds : List D)
  | ownD (kvs : List (Txt × D))
  | self (c : Nat) (fs : List (Txt × D))
  deriving Inhabited
abbrev Env := List Slot

/-- a def by number: level by level -/
abbrev FT := Nat → List D → Store → Out D

/-! ### plain operations -/
def big : Nat := 16777216

/-- the place of an index -/
def ixN (n : Nat) (i : Int) : Option Nat := if 0 ≤ i then (if i < n then some i.toNat else none) else if -(n : Int) ≤ i then some (i + n).toNat else none
def sIx (n d : Nat) : Option Int → Nat
  | none => d
  | some v => if v < 0 then (v + (n : Int)).toNat else min v.toNat n
def cutL {α : Type} (xs : List α) (lo hi : Option Int) : List α := (xs.drop (sIx xs.length 0 lo)).take (sIx xs.length xs.length hi - sIx xs.length 0 lo)

mutual
def isData : D → Bool
  | .non | .bl _ | .int _ | .str _ => true
  | .tup ds => isDatas ds
  | .lst ds => isDatas ds
  | .scr _ => true
  | .dic _ | .gdic _ | .obj _ _ | .cell _ => false
def isDatas : List D → Bool
  | [] => true
  | .scr _ :: _ => false
  | d :: ds => isData d && isDatas ds
end
mutual
def dep : D → Nat
  | .tup ds => deps ds + 1
  | .lst ds => deps ds + 1
  | .scr _ => 1
  | _ => 0
def deps : List D → Nat
  | [] => 0
  | d :: ds => max (dep d) (deps ds)
end
mutual
/-- == of data -/
def deq : D → D → Bool
  | .non, .non => true
  | .bl a, .bl b => a == b
  | .bl a, .int j => (if a then 1 else 0) == j
  | .int i, .bl b => i == (if b then 1 else 0)
  | .int i, .int j => i == j
  | .str x, .str y => x == y
  | .lst xs, .lst ys => deqs xs ys
  | .tup xs, .tup ys => deqs xs ys
  | .scr ns, .lst [] => ns.isEmpty
  | _, _ => false
def deqs : List D → List D → Bool
  | [], [] => true
  | x :: xs, y :: ys => deq x y && deqs xs ys
  | _, _ => false
end
/-- the script is compared with the empty list alone -/
def scrOk : D → D → Bool
  | .scr _, .lst [] => true
  | .scr _, _ => false
  | _, .scr _ => false
  | _, _ => true
def eqO (a b : D) : Option Bool := if scrOk a b && isData a && isData b && (decide (dep b ≤ 64) || decide (dep a ≤ 64)) then some (deq a b) else none
/-- of texts, numbers, truths, None -/
def flat : D → Bool
  | .non | .bl _ | .int _ | .str _ => true
  | _ => false
def lookT (k : Txt) : List (Txt × D) → Option D
  | [] => none
  | (x, d) :: r => if x = k then some d else lookT k r

def isIn (x y : D) : Option Bool :=
  match y with
  | .tup ys => if flat x && ys.all flat then some (ys.any fun y => deq y x) else none
  | .lst ys => if flat x && ys.all flat then some (ys.any fun y => deq y x) else none
  | .dic kvs => match x with
    | .str k => some (lookT k kvs).isSome
    | _ => none
  | .gdic kvs => match x with
    | .str k => some (lookT k kvs).isSome
    | _ => none
  | .str s => match x with
    | .str [c] => some (s.contains c)
    | _ => none
  | _ => none

def cmp2 : Cmp → D → D → Option Bool
  | .eq, a, b => eqO a b
  | .ne, a, b => (eqO a b).map (!·)
  | .lt, .int i, .int j => some (decide (i < j))
  | .le, .int i, .int j => some (decide (i ≤ j))
  | .gt, .int i, .int j => some (decide (j < i))
  | .ge, .int i, .int j => some (decide (j ≤ i))
  | .is_, a, .non => some (match a with | .non => true | _ => false)
  | .isnt, a, .non => some (match a with | .non => false | _ => true)
  | .in_, a, b => isIn a b
  | .notin, a, b => (isIn a b).map (!·)
  | _, _, _ => none

mutual
/-- what stands there now: a list that may be changed is read -/
def deref (st : Store) : D → D
  | .tup ds => .tup (derefs st ds)
  | .cell i => match st[i]? with
    | some (.lst ds) => .lst ds
    | _ => .cell i
  | d => d
def derefs (st : Store) : List D → List D
  | [] => []
  | d :: ds => deref st d :: derefs st ds
end
/-- two dicts of numbers, one and the same -/
def dicSame (ks ls : List (Txt × D)) : Bool := decide (ks.length = ls.length) && ks.all fun p => match p.2, lookT p.1 ls with
  | .int i, some (.int j) => decide (i = j)
  | _, _ => false
def eqX (st : Store) : D → D → Option Bool
  | .dic ks, .dic ls => if dicSame ks ls then some true else none
  | x, y => eqO (deref st x) (deref st y)
/-- None among data -/
def inX : D → D → Option Bool
  | .non, .lst ys => if isDatas ys then some (ys.any fun y => deq y .non) else none
  | _, _ => none
/-- a comparison; lists that may be changed are read -/
def cmpS (st : Store) (op : Cmp) (x y : D) : Option Bool :=
  match cmp2 op x y with
  | some t => some t
  | none => match op with
    | .eq => eqX st x y
    | .ne => (eqX st x y).map (!·)
    | .in_ => inX x y
    | _ => none

def mulOk (i j : Int) : Bool := decide (i.natAbs < 2 ^ 64) || decide (j.natAbs < 2 ^ 64) || (decide (i.natAbs < 2 ^ 200) && decide (j.natAbs < 2 ^ 200))
def op2 : Op2 → D → D → Option D
  | .add, .int i, .int j => some (.int (i + j))
  | .sub, .int i, .int j => some (.int (i - j))
  | .mul, .int i, .int j => if mulOk i j then some (.int (i * j)) else none
  | .mul, .tup xs, .int k => if (!xs.isEmpty) = true ∧ 2 ≤ k ∧ k ≤ 1000 ∧ xs.length ≤ 1000 then some (.tup (List.replicate k.toNat xs).flatten) else none
  | .mul, .lst xs, .int k => if 0 ≤ k ∧ k ≤ 1000 ∧ xs.length ≤ 1000 then some (.lst (List.replicate k.toNat xs).flatten) else none
  | .fdiv, .int i, .int j => if (j ≠ 0 ∧ j.natAbs < 1073741824) ∨ (0 < j ∧ j.natAbs < 2 ^ 200) then some (.int (i.fdiv j)) else none
  | .mod, .int i, .int j => if j ≠ 0 then some (.int (i.fmod j)) else none
  | .pow, .int i, .int j => if 0 ≤ j ∧ j ≤ 100 ∧ i.natAbs < 2 ^ 64 then some (.int (i ^ j.toNat)) else none
  | .add, .str s, .str t => if s.length + t.length ≤ big then some (.str (s ++ t)) else none
  | .add, .lst xs, .lst ys => if xs.length + ys.length ≤ big then some (.lst (xs ++ ys)) else none
  | .add, .tup xs, .tup ys => if xs.length + ys.length ≤ big then some (.tup (xs ++ ys)) else none
  | _, _, _ => none

def atD (a b : D) : Option D :=
  match a, b with
  | .tup xs, .int i => (ixN xs.length i).bind fun j => xs[j]?
  | .lst xs, .int i => (ixN xs.length i).bind fun j => xs[j]?
  | .scr ns, .int i => ((ixN ns.length i).bind fun j => ns[j]?).map .int
  | .str s, .int i => if s.length ≤ big then ((ixN s.length i).bind fun j => s[j]?).map fun c => .str [c] else none
  | .dic kvs, .str k => lookT k kvs
  | .gdic kvs, .str k => lookT k kvs
  | _, _ => none
def cutD (a : D) (lo hi : Option Int) : Option D :=
  match a with
  | .tup xs => some (.tup (cutL xs lo hi))
  | .lst xs => some (.lst (cutL xs lo hi))
  | .str s => if s.length ≤ big then some (.str (cutL s lo hi)) else none
  | _ => none
def asI : D → Option Int
  | .int i => some i
  | _ => none
def asB : D → Option Bool
  | .bl b => some b
  | _ => none
def asIs : List D → Option (List Int)
  | [] => some []
  | .int i :: r => (asIs r).map (i :: ·)
  | _ :: _ => none
def asBs : List D → Option (List Bool)
  | [] => some []
  | .bl i :: r => (asBs r).map (i :: ·)
  | _ :: _ => none
/-- the items of what is walked -/
def items : D → Option (List D)
  | .tup ds => some ds
  | .lst ds => some ds
  | .str s => some (s.map fun c => .str [c])
  | .dic kvs => some (kvs.map fun kv => .str kv.1)
  | _ => none
/-- of a list, a tuple -/
def itemsQ : D → Option (List D)
  | .lst ds => some ds
  | .tup ds => some ds
  | _ => none
/-- of a list alone -/
def itemsL : D → Option (List D)
  | .lst ds => some ds
  | _ => none
def minI : List Int → Int
  | [] => 0
  | i :: r => r.foldl min i
def maxI : List Int → Int
  | [] => 0
  | i :: r => r.foldl max i
def insI (i : Int) : List Int → List Int
  | [] => [i]
  | j :: r => if i ≤ j then i :: j :: r else j :: insI i r
def sortI : List Int → List Int
  | [] => []
  | i :: r => insI i (sortI r)
def upto (lo : Int) : Nat → List Int
  | 0 => []
  | n + 1 => lo :: upto (lo + 1) n
def rangeD (lo hi : Int) : Option (List D) := if lo.natAbs < 2 ^ 62 ∧ hi.natAbs < 2 ^ 62 ∧ (hi - lo).toNat ≤ big then some ((upto lo (hi - lo).toNat).map .int) else none
def tyIs : Ty → D → Option Bool
  | .int, .int _ => some true
  | .int, .bl _ => some true
  | .bool, .bl _ => some true
  | .str, .str _ => some true
  | .tuple, .tup _ => some true
  | .list, .lst _ => some true
  | _, .non | _, .bl _ | _, .int _ | _, .str _ | _, .tup _ | _, .lst _ => some false
  | _, _ => none
/-- the figures of a number -/
def figs (n : Nat) : Txt := (Nat.toDigits 10 n).map Char.toNat
def showI (i : Int) : Txt := if i < 0 then 45 :: figs i.natAbs else figs i.natAbs
def putT (k : Txt) (d : D) (kvs : List (Txt × D)) : List (Txt × D) :=
  if kvs.any (fun p => decide (p.1 = k)) then kvs.map (fun p => if p.1 = k then (p.1, d) else p) else kvs ++ [(k, d)]
def pairsOf : List D → Option (List (Txt × D))
  | [] => some []
  | .tup [.str k, d] :: r => (pairsOf r).map ((k, d) :: ·)
  | _ :: _ => none
def dedupI : List Int → List Int
  | [] => []
  | i :: r => if r.contains i then dedupI r else i :: dedupI r

def bLen : List D → Option D
  | [.tup ds] => some (.int ds.length)
  | [.lst ds] => some (.int ds.length)
  | [.scr ns] => some (.int ns.length)
  | [.str s] => if s.length ≤ big then some (.int s.length) else none
  | _ => none
def bAbs : List D → Option D
  | [.int i] => some (.int (if i < 0 then -i else i))
  | _ => none
def bMin2 : List D → Option D
  | [.int i, .int j] => some (.int (if j < i then j else i))
  | _ => none
def bMax2 : List D → Option D
  | [.int i, .int j] => some (.int (if j > i then j else i))
  | _ => none
def bInt : List D → Option D
  | [.int i] => some (.int i)
  | [.bl b] => some (.int (if b then 1 else 0))
  | _ => none
def bStr : List D → Option D
  | [.int i] => if i.natAbs < 2 ^ 200 then some (.str (showI i)) else none
  | _ => none
def bList : List D → Option D
  | [.tup ds] => some (.lst ds)
  | [.lst ds] => some (.lst ds)
  | [.dic kvs] => some (.lst (kvs.map fun kv => .str kv.1))
  | _ => none
def bTuple : List D → Option D
  | [.tup ds] => some (.tup ds)
  | [.lst ds] => some (.tup ds)
  | _ => none
def bSum : List D → Option D
  | [.lst ds] => (asIs ds).map fun ns => .int ns.sum
  | _ => none
def bAll : List D → Option D
  | [.lst ds] => (asBs ds).map fun bs => .bl (bs.all id)
  | _ => none
def bAny : List D → Option D
  | [.lst ds] => (asBs ds).map fun bs => .bl (bs.any id)
  | _ => none
def bMin1 : List D → Option D
  | [.lst ds] => if ds.isEmpty then none else (asIs ds).map fun ns => .int (minI ns)
  | _ => none
def bMax1 : List D → Option D
  | [.lst ds] => if ds.isEmpty then none else (asIs ds).map fun ns => .int (maxI ns)
  | _ => none
def bMaxD : List D → Option D
  | [.lst ds] => (asIs ds).map fun ns => .int (maxI ns)
  | _ => none
def bSorted : List D → Option D
  | [.lst ds] => (asIs ds).bind fun ns => if ns.length < 64 then some (.lst ((sortI ns).map .int)) else none
  | _ => none
def bSortedSet : List D → Option D
  | [.lst ds] => (asIs ds).bind fun ns => if ns.length < 64 then some (.lst ((sortI (dedupI ns)).map .int)) else none
  | _ => none
def bListRange : List D → Option D
  | [.int i, .int j] => (rangeD i j).map .lst
  | _ => none
def bDictCopy : List D → Option D
  | [.dic kvs] => some (.dic kvs)
  | _ => none
def bDictPairs : List D → Option D
  | [.lst ds] => (pairsOf ds).bind fun kvs => if (kvs.map (·.1)).Nodup then some (.dic kvs) else none
  | _ => none
def bIsinst (t : Ty) : List D → Option D
  | [d] => (tyIs t d).map .bl
  | _ => none
def blt : Blt → List D → Option D
  | .len => bLen
  | .abs => bAbs
  | .min2 => bMin2
  | .max2 => bMax2
  | .int1 => bInt
  | .str1 => bStr
  | .list1 => bList
  | .tuple1 => bTuple
  | .sum1 => bSum
  | .all1 => bAll
  | .any1 => bAny
  | .min1 => bMin1
  | .max1 => bMax1
  | .maxD => bMaxD
  | .sorted1 => bSorted
  | .sortedSet => bSortedSet
  | .listRange => bListRange
  | .dictCopy => bDictCopy
  | .dictPairs => bDictPairs
  | .isinst t => bIsinst t

/-- texts, one behind the other -/
def joinT (sep : Txt) : List Txt → Txt
  | [] => []
  | [x] => x
  | x :: y :: r => x ++ sep ++ joinT sep (y :: r)
def asTs : List D → Option (List Txt)
  | [] => some []
  | .str t :: r => (asTs r).map (t :: ·)
  | _ :: _ => none
def bmD : Bm → D → List D → Option D
  | .get, .dic kvs, [.str k, d] => some ((lookT k kvs).getD d)
  | .get, .gdic kvs, [.str k, d] => some ((lookT k kvs).getD d)
  | .join, .str sep, [.lst ds] => (asTs ds).bind fun ts => if (ts.map List.length).sum + ts.length * sep.length ≤ big then some (.str (joinT sep ts)) else none
  | .index, .lst ds, [x] => if flat x && ds.all flat && ds.any (fun y => deq y x) then some (.int (ds.findIdx fun y => deq y x)) else none
  | _, _, _ => none

/-- is it of the kind that has the method -/
def bmOk : Bm → D → Bool
  | .get, .dic _ => true
  | .get, .gdic _ => true
  | .index, .lst _ => true
  | .join, .str _ => true
  | .replace, .str _ => true
  | _, _ => false

/-! ### what an expression reckons -/
structure MCls where
  /-- its instances are changed later -/
  mu : Bool
  fs : List Txt
  init : Nat
  ms : List (Txt × Nat)
structure MExc where
  name : Txt
  /-- it bears a word -/
  word : Bool
structure MDef where
  /-- how many slots, how many parameters -/
  n : Nat
  np : Nat
  /-- an __init__: of which class -/
  ini : Option Nat
  body : MSs
structure Pg where
  defs : List MDef
  globs : List D
  cls : List MCls
  excs : List MExc
  /-- the class of faults -/
  fault : Nat
  fuel : Nat

def callT (T : List FT) (f : Nat) (ds : List D) (st : Store) : Out D :=
  match T with
  | [] => .bad
  | F :: _ => F f ds st

mutual
/-- no cell from n on -/
def below (n : Nat) : D → Bool
  | .non | .bl _ | .int _ | .str _ | .scr _ => true
  | .tup ds => belows n ds
  | .lst ds => belows n ds
  | .dic kvs => belowK n kvs
  | .gdic kvs => belowK n kvs
  | .obj _ ds => belows n ds
  | .cell i => decide (i < n)
def belows (n : Nat) : List D → Bool
  | [] => true
  | d :: ds => below n d && belows n ds
def belowK (n : Nat) : List (Txt × D) → Bool
  | [] => true
  | (_, d) :: r => below n d && belowK n r
end
def belowC (n : Nat) : Cell → Bool
  | .lst ds => belows n ds
  | .obj _ ds => belows n ds

def bindTg : Tg → D → Env → Option Env
  | .one i, d, env => if i < env.length then some (env.set i (.val d)) else none
  | .many is, .tup ds, env => if is.length = ds.length ∧ is.all (fun i => decide (i < env.length)) then some ((is.zip ds).foldl (fun e p => e.set p.1 (.val p.2)) env) else none
  | _, _, _ => none

def compGo (f : D → Store → Out (Option D)) : List D → Store → Out (List D)
  | [], st => .ok [] st
  | x :: r, st => (f x st).bind fun o st1 => (compGo f r st1).bind fun ds st2 => .ok (match o with | some d => d :: ds | none => ds) st2

def varD (env : Env) (i : Nat) : Option D :=
  match env[i]? with
  | some (.val d) => some d
  | _ => none
def getF (P : Pg) (c : Nat) (ds : List D) (f : Txt) : Option D :=
  match P.cls[c]? with
  | some k => (k.fs.zip ds).lookup f
  | none => none
def fldD (P : Pg) (st : Store) (f : Txt) : D → Option D
  | .obj c ds => getF P c ds f
  | .cell i => match st[i]? with
    | some (.obj c ds) => getF P c ds f
    | _ => none
  | _ => none
/-- the def of a method of what stands there -/
def methF (P : Pg) (st : Store) (m : Txt) : D → Option Nat
  | .obj c _ => (P.cls[c]?).bind fun k => k.ms.lookup m
  | .cell i => match st[i]? with
    | some (.obj c _) => (P.cls[c]?).bind fun k => k.ms.lookup m
    | _ => none
  | _ => none
def t_refused : Txt := [114, 101, 102, 117, 115, 101, 100]
def t_good : Txt := [103, 111, 111, 100]
def t_fault : Txt := [102, 97, 117, 108, 116]
def t_BadLine : Txt := [66, 97, 100, 76, 105, 110, 101]
def t_BadStep : Txt := [66, 97, 100, 83, 116, 101, 112]
def t_BadTerm : Txt := [66, 97, 100, 84, 101, 114, 109]
def t_BadText : Txt := [66, 97, 100, 84, 101, 120, 116]
def t_Fault : Txt := [70, 97, 117, 108, 116]
def t_five : List Txt := [t_BadLine, t_BadStep, t_BadTerm, t_BadText, t_Fault]
/-- what _law_told makes of an exception -/
def toldD (P : Pg) (e : Exc) : Option D :=
  match P.excs[e.c]? with
  | some k => if t_five.contains k.name && (k.word == (k.name == t_Fault)) then
      match k.word, e.w with
      | true, some w => some (.tup [.str t_refused, .str k.name, w])
      | false, none => some (.tup [.str t_refused, .str k.name])
      | _, _ => none
    else none
  | none => none
def closeC (n : Nat) (tag : Txt) (d : D) (st : Store) : Out D :=
  match st[n]? with
  | some (.lst ds) => if below n d && belows n ds && (st.take n).all (belowC n) then .ok (.tup [.str tag, d, .lst ds]) (st.take n) else .bad
  | _ => .bad

mutual
def evalE (P : Pg) (T : List FT) : ME → Env → Store → Out D
  | .var i, env, st => .ofO st (varD env i)
  | .lit d, _, st => .ok d st
  | .glob g, _, st => .ofO st P.globs[g]?
  | .bin op a b, env, st => (evalE P T a env st).bind fun x st => (evalE P T b env st).bind fun y st => .ofO st (op2 op x y)
  | .neg a, env, st => (evalE P T a env st).bind fun x st => .ofO st ((asI x).map fun i => .int (-i))
  | .not a, env, st => (evalE P T a env st).bind fun x st => .ofO st ((asB x).map fun b => .bl (!b))
  | .cmp op a b, env, st => (evalE P T a env st).bind fun x st => (evalE P T b env st).bind fun y st => .ofO st ((cmpS st op x y).map .bl)
  | .chain a r, env, st => (evalE P T a env st).bind fun x st => evalC P T x r env st
  | .and es, env, st => evalA P T es env st
  | .or es, env, st => evalO P T es env st
  | .ite c a b, env, st => (evalE P T c env st).bind fun x st => match x with
    | .bl true => evalE P T a env st
    | .bl false => evalE P T b env st
    | _ => .bad
  | .ix a b, env, st => (evalE P T a env st).bind fun x st => (evalE P T b env st).bind fun y st => .ofO st (atD x y)
  | .ixO i b, env, st => match env[i]? with
    | some (.own ds) => (evalE P T b env st).bind fun y st => .ofO st (atD (.lst ds) y)
    | _ => .bad
  | .lenO i, env, st => match env[i]? with
    | some (.own ds) => .ok (.int ds.length) st
    | _ => .bad
  | .slFrom a lo, env, st => (evalE P T a env st).bind fun x st => (evalE P T lo env st).bind fun l st => .ofO st ((asI l).bind fun l => cutD x (some l) none)
  | .slTo a hi, env, st => (evalE P T a env st).bind fun x st => (evalE P T hi env st).bind fun h st => .ofO st ((asI h).bind fun h => cutD x none (some h))
  | .slBoth a lo hi, env, st => (evalE P T a env st).bind fun x st => (evalE P T lo env st).bind fun l st => match asI l with
    | some l => (evalE P T hi env st).bind fun h st => .ofO st ((asI h).bind fun h => cutD x (some l) (some h))
    | none => .bad
  | .tup es, env, st => (evalEs P T es env st).bind fun ds st => if ds.length ≤ big then .ok (.tup ds) st else .bad
  | .lst es, env, st => (evalEs P T es env st).bind fun ds st => if ds.length ≤ big then .ok (.lst ds) st else .bad
  | .dict ks es, env, st => (evalEs P T es env st).bind fun ds st => if ds.length = ks.length ∧ ds.length ≤ 15 ∧ ks.Nodup then .ok (.dic (ks.zip ds)) st else .bad
  | .fld a f, env, st => (evalE P T a env st).bind fun x st => .ofO st (fldD P st f x)
  | .call f es, env, st => (evalEs P T es env st).bind fun ds st => callT T f ds st
  | .meth a m es, env, st => (evalE P T a env st).bind fun x st => match methF P st m x with
    | some f => (evalEs P T es env st).bind fun ds st => callT T f (x :: ds) st
    | none => .bad
  | .make c es, env, st => match T with
    | [] => .bad
    | _ :: T' => (evalEs P T es env st).bind fun ds st => match P.cls[c]? with
      | some k => match callT T' k.init ds st with
        | .ok (.tup ds) st => if k.mu then .ok (.cell st.length) (st ++ [.obj c ds]) else .ok (.obj c ds) st
        | _ => .bad
      | none => .bad
  | .blt b es, env, st => (evalEs P T es env st).bind fun ds st => .ofO st (blt b ds)
  | .bm m a es, env, st => (evalE P T a env st).bind fun x st => if bmOk m x then (evalEs P T es env st).bind fun ds st => .ofO st (bmD m x ds) else .bad
  | .comp t elt it cs, env, st => (evalI P T it env st).bind fun xs st => if xs.length ≤ big then
      (compGo (fun x st => match bindTg t x env with
        | some env => (evalA1 P T cs env st).bind fun b st => if b then (evalE P T elt env st).bind fun d st => .ok (some d) st else .ok none st
        | none => .bad) xs st).bind fun ds st => .ok (.lst ds) st else .bad
  | .told e, env, st => match T with
    | _ :: _ :: T' => match evalE P T' e env st with
      | .ok d st => .ok d st
      | .exc e st => .ofO st (toldD P e)
      | .bad => .bad
    | _ => .bad
  | .caught i e, env, st => match T with
    | _ :: _ :: T' => match evalE P T' e (env.set i (.val (.cell st.length))) (st ++ [.lst []]) with
      | .ok d st' => closeC st.length t_good d st'
      | .exc e st' => match e.w with
        | some w => if e.c = P.fault then closeC st.length t_fault w st' else .bad
        | none => .bad
      | .bad => .bad
    | _ => .bad
def evalEs (P : Pg) (T : List FT) : MEs → Env → Store → Out (List D)
  | .nil, _, st => .ok [] st
  | .cons e es, env, st => (evalE P T e env st).bind fun d st => (evalEs P T es env st).bind fun ds st => .ok (d :: ds) st
/-- and -/
def evalA (P : Pg) (T : List FT) : MEs → Env → Store → Out D
  | .nil, _, _ => .bad
  | .cons e .nil, env, st => evalE P T e env st
  | .cons e (.cons e' es), env, st => (evalE P T e env st).bind fun x st => match x with
    | .bl true => evalA P T (.cons e' es) env st
    | .bl false => .ok (.bl false) st
    | _ => .bad
/-- or -/
def evalO (P : Pg) (T : List FT) : MEs → Env → Store → Out D
  | .nil, _, _ => .bad
  | .cons e .nil, env, st => evalE P T e env st
  | .cons e (.cons e' es), env, st => (evalE P T e env st).bind fun x st => match x with
    | .bl true => .ok (.bl true) st
    | .bl false => evalO P T (.cons e' es) env st
    | _ => .bad
/-- a clause's test, if there is one -/
def evalA1 (P : Pg) (T : List FT) : MEs → Env → Store → Out Bool
  | .nil, _, st => .ok true st
  | .cons e .nil, env, st => (evalE P T e env st).bind fun x st => .ofO st (asB x)
  | .cons _ (.cons _ _), _, _ => .bad
/-- a chain of comparisons -/
def evalC (P : Pg) (T : List FT) (x : D) : MC → Env → Store → Out D
  | .last op e, env, st => (evalE P T e env st).bind fun y st => .ofO st ((cmp2 op x y).map .bl)
  | .more op e r, env, st => (evalE P T e env st).bind fun y st => match cmp2 op x y with
    | some true => evalC P T y r env st
    | some false => .ok (.bl false) st
    | none => .bad
/-- what is walked -/
def evalI (P : Pg) (T : List FT) : MI → Env → Store → Out (List D)
  | .val e, env, st => (evalE P T e env st).bind fun x st => .ofO st (items x)
  | .range1 e, env, st => (evalE P T e env st).bind fun x st => .ofO st ((asI x).bind fun n => rangeD 0 n)
  | .range2 a b, env, st => (evalE P T a env st).bind fun x st => (evalE P T b env st).bind fun y st => .ofO st ((asI x).bind fun i => (asI y).bind fun j => rangeD i j)
  | .enum e, env, st => (evalE P T e env st).bind fun x st => .ofO st ((itemsQ x).map fun ds => (upto 0 ds.length).zipWith (fun i d => .tup [.int i, d]) ds)
  | .zip a b, env, st => (evalE P T a env st).bind fun x st => (evalE P T b env st).bind fun y st => .ofO st ((itemsL x).bind fun ds => (itemsL y).map fun es => ds.zipWith (fun d e => .tup [d, e]) es)
end

/-! ### what statements do -/
inductive SO where
  | next (env : Env) (st : Store)
  | ret (d : D) (st : Store)
  | cont (env : Env) (st : Store)
  | exc (e : Exc) (st : Store)
  | bad
def Out.so {α : Type} : Out α → (α → Store → SO) → SO
  | .ok a st, f => f a st
  | .exc e st, _ => .exc e st
  | .bad, _ => .bad
@[simp] theorem Out.so_ok {α : Type} (a : α) (st : Store) (f : α → Store → SO) : (Out.ok a st).so f = f a st := rfl
@[simp] theorem Out.so_exc {α : Type} (e : Exc) (st : Store) (f : α → Store → SO) : (Out.exc e st : Out α).so f = .exc e st := rfl
@[simp] theorem Out.so_bad {α : Type} (f : α → Store → SO) : (Out.bad : Out α).so f = .bad := rfl
def SO.then : SO → (Env → Store → SO) → SO
  | .next env st, f => f env st
  | .ret d st, _ => .ret d st
  | .cont env st, _ => .cont env st
  | .exc e st, _ => .exc e st
  | .bad, _ => .bad
def nextO (st : Store) : Option Env → SO
  | some env => .next env st
  | none => .bad
def freezeS : Slot → Slot
  | .own ds => .val (.lst ds)
  | s => s
def forGo (f : D → Env → Store → SO) : List D → Env → Store → SO
  | [], env, st => .next env st
  | x :: r, env, st => match f x env st with
    | .next env st => forGo f r env st
    | .cont env st => forGo f r env st
    | o => o
def whileGo (c : Env → Store → Out D) (f : Env → Store → SO) : Nat → Env → Store → SO
  | 0, _, _ => .bad
  | n + 1, env, st => (c env st).so fun x st => match x with
    | .bl true => match f env st with
      | .next env st => whileGo c f n env st
      | .cont env st => whileGo c f n env st
      | o => o
    | .bl false => .next env st
    | _ => .bad

mutual
def execS (P : Pg) (T : List FT) : MS → Env → Store → SO
  | .expr e, env, st => (evalE P T e env st).so fun _ st => .next env st
  | .set t e, env, st => (evalE P T e env st).so fun x st => nextO st (bindTg t x env)
  | .par2 i j a b, env, st => (evalE P T a env st).so fun x st => (evalE P T b env st).so fun y st =>
      if i < env.length ∧ j < env.length ∧ i ≠ j then .next ((env.set i (.val x)).set j (.val y)) st else .bad
  | .own i es, env, st => (evalEs P T es env st).so fun ds st => if ds.length ≤ big ∧ i < env.length then .next (env.set i (.own ds)) st else .bad
  | .ownD i ks es, env, st => (evalEs P T es env st).so fun ds st => if ds.length = ks.length ∧ ds.length ≤ 15 ∧ ks.Nodup ∧ i < env.length then .next (env.set i (.ownD (ks.zip ds))) st else .bad
  | .newCell i, env, st => if i < env.length then .next (env.set i (.val (.cell st.length))) (st ++ [.lst []]) else .bad
  | .app i e, env, st => match env[i]? with
    | some (.own ds) => (evalE P T e env st).so fun x st => if ds.length < big then .next (env.set i (.own (ds ++ [x]))) st else .bad
    | _ => .bad
  | .ext i e, env, st => match env[i]? with
    | some (.own ds) => (evalE P T e env st).so fun x st => match x with
      | .lst es => if ds.length + es.length ≤ big then .next (env.set i (.own (ds ++ es))) st else .bad
      | _ => .bad
    | _ => .bad
  | .setD i k e, env, st => match env[i]? with
    | some (.ownD kvs) => (evalE P T e env st).so fun x st => (evalE P T k env st).so fun y st => match y with
      | .str t => if kvs.length < big then .next (env.set i (.ownD (putT t x kvs))) st else .bad
      | _ => .bad
    | _ => .bad
  | .fixD i, env, st => match env[i]? with
    | some (.ownD kvs) => .next (env.set i (.val (.dic kvs))) st
    | some (.own ds) => .next (env.set i (.val (.lst ds))) st
    | _ => .bad
  | .appC i e, env, st => match varD env i with
    | some (.cell j) => match st[j]? with
      | some (.lst _) => (evalE P T e env st).so fun x st => match st[j]? with
        | some (.lst ds) => if ds.length < big then .next env (st.set j (.lst (ds ++ [x]))) else .bad
        | _ => .bad
      | _ => .bad
    | _ => .bad
  | .fset i f e, env, st => match varD env i with
    | some (.cell j) => (evalE P T e env st).so fun x st => match st[j]? with
      | some (.obj c ds) => match (P.cls[c]?).bind fun k => k.fs.findIdx? (· == f) with
        | some n => .next env (st.set j (.obj c (ds.set n x)))
        | none => .bad
      | _ => .bad
    | _ => .bad
  | .finit i f e, env, st => match env[i]? with
    | some (.self c fs) => (evalE P T e env st).so fun x st => if fs.length < 20 ∧ (fs.lookup f).isNone ∧ (P.cls[c]?).map (fun k => k.fs.contains f) = some true then .next (env.set i (.self c (fs ++ [(f, x)]))) st else .bad
    | _ => .bad
  | .if_ c a b, env, st => (evalE P T c env st).so fun x st => match x with
    | .bl true => execSs P T a env st
    | .bl false => execSs P T b env st
    | _ => .bad
  | .for_ t it body, env, st => (evalI P T it env st).so fun xs st => forGo (fun x env st => match bindTg t x env with
      | some env => execSs P T body env st
      | none => .bad) xs env st
  | .while_ c body, env, st => whileGo (evalE P T c) (execSs P T body) P.fuel env st
  | .ret e, env, st => (evalE P T e (env.map freezeS) st).so fun x st => .ret x st
  | .raise c es, env, st => match T with
    | _ :: _ :: _ => (evalEs P T es env st).so fun ds st => match P.excs[c]?, ds with
      | some k, [d] => .exc ⟨c, if k.word then some d else none⟩ st
      | _, _ => .bad
    | _ => .bad
  | .cont, env, st => .cont env st
  | .pass, env, st => .next env st
  | .tryE e c h, env, st => match evalE P T e env st with
    | .ok _ st => .next env st
    | .exc x st => if x.c = c then execSs P T h env st else .bad
    | .bad => .bad
def execSs (P : Pg) (T : List FT) : MSs → Env → Store → SO
  | .nil, env, st => .next env st
  | .cons s r, env, st => match execS P T s env st with
    | .next env st => execSs P T r env st
    | o => o
end

/-! ### defs -/
def startEnv (n : Nat) (ds : List D) : Env := ds.map .val ++ List.replicate (n - ds.length) .un
/-- an instance is made: self stands in slot 0 -/
def startIni (c n : Nat) (ds : List D) : Env := .self c [] :: (ds.map .val ++ List.replicate (n - 1 - ds.length) .un)
def runDef (P : Pg) (T : List FT) (f : Nat) (ds : List D) (st : Store) : Out D :=
  match P.defs[f]? with
  | none => .bad
  | some d =>
    match d.ini with
    | some c => if ds.length + 1 = d.np then
        match execSs P T d.body (startIni c d.n ds) st with
        | .next (.self c' fs :: _) st => if c' = c ∧ some (fs.map (·.1)) = (P.cls[c]?).map (·.fs) then .ok (.tup (fs.map (·.2))) st else .bad
        | .exc e st => .exc e st
        | _ => .bad
      else .bad
    | none => if ds.length = d.np then
        match execSs P T d.body (startEnv d.n ds) st with
        | .next _ st => .ok .non st
        | .ret x st => .ok x st
        | .exc e st => .exc e st
        | _ => .bad
      else .bad
/-- the defs, level by level -/
def tabs (P : Pg) : Nat → List FT
  | 0 => []
  | k + 1 => runDef P (tabs P k) :: tabs P k

end Fw

set_option Elab.async false
set_option linter.all false
set_option maxRecDepth 100000
set_option autoImplicit false
/-! Fw1: how what Fw0 reckons lies in the machine. -/
namespace Fw
open PySem L2

/-- the ground: the text, its world, what the top left, the small program, where its classes stand -/
structure Gd where
  P : Program
  w : World
  K : PySem.W.Frag
  mg : Str → Option Value
  base : Heap
  pg : Pg
  /-- where its classes, its exceptions, its defs stand; a def's data, its parameters -/
  cA : Nat → Addr
  eA : Nat → Addr
  fA : Nat → Addr
  fD : Nat → FuncData
  fP : Nat → List Str
  tb : List (Addr × Str)

/-- a state: the abstract heap, what is never changed any more, where the cells stand -/
structure Z where
  H : Hp
  F : Addr → Prop
  io : List Addr

def sOf (t : Txt) : Str := ⟨t.toArray⟩
def okT (t : Txt) : Bool := t.all fun c => decide (c < 1114112)
def kOf (t : Txt) : Key := Sum.inr (sOf t)
theorem sOf_inj {a b : Txt} (h : sOf a = sOf b) : a = b := by
  have e : (⟨a.toArray⟩ : Str) = ⟨b.toArray⟩ := h
  injection e with e
  simpa using congrArg Array.toList e
theorem sOf_iff {a b : Txt} : sOf a = sOf b ↔ a = b := ⟨sOf_inj, fun e => by rw [e]⟩
theorem kOf_inj {a b : Txt} (h : kOf a = kOf b) : a = b := sOf_inj (Sum.inr.inj h)

/-- a tuple, a list, a dict that the top left -/
def KTup (K : PySem.W.Frag) (a : Addr) (vs : List V) : Prop :=
  ∃ (o : Obj) (its : Array Value) (n : Nat), K.lookup a = some o ∧ o.cls = .type "tuple" ∧ o.data = .seq its n ∧ its.size ≤ sizeLine ∧ Vals vs its.toList
def KLst (K : PySem.W.Frag) (a : Addr) (vs : List V) : Prop :=
  ∃ (o : Obj) (its : Array Value) (n : Nat), K.lookup a = some o ∧ o.cls = .type "list" ∧ o.dict = none ∧ o.data = .seq its n ∧ its.size ≤ sizeLine ∧ Vals vs its.toList
def KDic (G : Gd) (a : Addr) (kvs : List (Key × V)) : Prop :=
  ∃ (es : Array DictEntry) (n : Nat), KDict G.K G.w a es n ∧ ∀ x : Str, ∃ r : Option Value, PySem.W.nsIn G.K a x = some r ∧ RelO (valV kvs (Sum.inr x)) r

mutual
def R (G : Gd) (z : Z) : D → V → Prop
  | .non, v => v = .non
  | .bl b, v => v = .bl b
  | .int i, v => v = .int i
  | .str s, v => v = .str (sOf s) ∧ okT s = true
  | .tup ds, v => ∃ a vs, v = .ref a ∧ ((z.F a ∧ z.H a = some (.tup vs)) ∨ KTup G.K a vs) ∧ Rs G z ds vs
  | .lst ds, v => ∃ a vs, v = .ref a ∧ (z.F a ∧ z.H a = some (.lst vs)) ∧ Rs G z ds vs
  | .dic kvs, v => ∃ a vs, v = .ref a ∧ (z.F a ∧ ∃ o, z.H a = some (.frz o (.dK vs))) ∧ RK G z kvs vs
  | .gdic kvs, v => ∃ a vs, v = .ref a ∧ KDic G a vs ∧ RK G z kvs vs
  | .obj c ds, v => ∃ a dx vs k, v = .ref a ∧ z.F a ∧ G.pg.cls[c]? = some k ∧ z.H a = some (.ins (G.cA c) dx ((k.fs.map sOf).zip vs)) ∧ vs.length = k.fs.length ∧ Rs G z ds vs
  | .cell i, v => ∃ a, z.io[i]? = some a ∧ v = .ref a
  | .scr ns, v => ∃ a, v = .ref a ∧ ((z.F a ∧ Rd z.H a (.lst (ns.map V.int))) ∨ KLst G.K a (ns.map V.int))
def Rs (G : Gd) (z : Z) : List D → List V → Prop
  | [], vs => vs = []
  | d :: ds, vs => ∃ v r, vs = v :: r ∧ R G z d v ∧ Rs G z ds r
def RK (G : Gd) (z : Z) : List (Txt × D) → List (Key × V) → Prop
  | [], vs => vs = []
  | (k, d) :: ds, vs => ∃ v r, vs = (kOf k, v) :: r ∧ okT k = true ∧ R G z d v ∧ RK G z ds r
end

/-- what is known stays known -/
structure Keep (z z' : Z) : Prop where
  f : ∀ a, z.F a → z'.F a
  h : ∀ a o, z.F a → z.H a = some o → z'.H a = some o
  c : ∀ (i : Nat) (a : Addr), z.io[i]? = some a → z'.io[i]? = some a
theorem Keep.refl (z : Z) : Keep z z := ⟨fun _ h => h, fun _ _ _ h => h, fun _ _ h => h⟩

mutual
theorem R.keep {G : Gd} {z z' : Z} (k : Keep z z') : ∀ (d : D) (v : V), R G z d v → R G z' d v
  | .non, v, h => by simpa only [R] using h
  | .bl b, v, h => by simpa only [R] using h
  | .int i, v, h => by simpa only [R] using h
  | .str s, v, h => by simpa only [R] using h
  | .tup ds, v, h => by
    simp only [R] at h ⊢
    obtain ⟨a, vs, e, q, r⟩ := h
    exact ⟨a, vs, e, q.imp (fun ⟨f, h⟩ => ⟨k.f a f, k.h a _ f h⟩) id, Rs.keep k ds vs r⟩
  | .lst ds, v, h => by
    simp only [R] at h ⊢
    obtain ⟨a, vs, e, ⟨f, q⟩, r⟩ := h
    exact ⟨a, vs, e, ⟨k.f a f, k.h a _ f q⟩, Rs.keep k ds vs r⟩
  | .dic kvs, v, h => by
    simp only [R] at h ⊢
    obtain ⟨a, vs, e, ⟨f, o, q⟩, r⟩ := h
    exact ⟨a, vs, e, ⟨k.f a f, o, k.h a _ f q⟩, RK.keep k kvs vs r⟩
  | .gdic kvs, v, h => by
    simp only [R] at h ⊢
    obtain ⟨a, vs, e, q, r⟩ := h
    exact ⟨a, vs, e, q, RK.keep k kvs vs r⟩
  | .obj c ds, v, h => by
    simp only [R] at h ⊢
    obtain ⟨a, dx, vs, kl, e, f, hk, q, hl, r⟩ := h
    exact ⟨a, dx, vs, kl, e, k.f a f, hk, k.h a _ f q, hl, Rs.keep k ds vs r⟩
  | .cell i, v, h => by
    simp only [R] at h ⊢
    obtain ⟨a, q, e⟩ := h
    exact ⟨a, k.c i a q, e⟩
  | .scr ns, v, h => by
    simp only [R] at h ⊢
    obtain ⟨a, e, q⟩ := h
    refine ⟨a, e, q.imp (fun ⟨f, h⟩ => ⟨k.f a f, ?_⟩) id⟩
    rcases h with h | ⟨o, h⟩
    · exact .inl (k.h a _ f h)
    · exact .inr ⟨o, k.h a _ f h⟩
theorem Rs.keep {G : Gd} {z z' : Z} (k : Keep z z') : ∀ (ds : List D) (vs : List V), Rs G z ds vs → Rs G z' ds vs
  | [], vs, h => by simpa only [Rs] using h
  | d :: ds, vs, h => by
    simp only [Rs] at h ⊢
    obtain ⟨v, r, e, h1, h2⟩ := h
    exact ⟨v, r, e, R.keep k d v h1, Rs.keep k ds r h2⟩
theorem RK.keep {G : Gd} {z z' : Z} (k : Keep z z') : ∀ (ds : List (Txt × D)) (vs : List (Key × V)), RK G z ds vs → RK G z' ds vs
  | [], vs, h => by simpa only [RK] using h
  | (x, d) :: ds, vs, h => by
    simp only [RK] at h ⊢
    obtain ⟨v, r, e, h0, h1, h2⟩ := h
    exact ⟨v, r, e, h0, R.keep k d v h1, RK.keep k ds r h2⟩
end

section
variable {G : Gd} {z : Z}
theorem Rs.nil {vs : List V} : Rs G z [] vs ↔ vs = [] := by simp only [Rs]
theorem Rs.cons {d : D} {ds : List D} {v : V} {vs : List V} : Rs G z (d :: ds) (v :: vs) ↔ R G z d v ∧ Rs G z ds vs := by
  simp only [Rs]
  constructor
  · rintro ⟨_, _, e, h1, h2⟩
    cases e
    exact ⟨h1, h2⟩
  · rintro ⟨h1, h2⟩
    exact ⟨v, vs, rfl, h1, h2⟩
theorem Rs.mk (d : D) (ds : List D) {v : V} {vs : List V} (h1 : R G z d v) (h2 : Rs G z ds vs) : Rs G z (d :: ds) (v :: vs) := Rs.cons.mpr ⟨h1, h2⟩
theorem Rs.len : ∀ {ds : List D} {vs : List V}, Rs G z ds vs → vs.length = ds.length
  | [], vs, h => by rw [Rs.nil.mp h]; rfl
  | d :: ds, vs, h => by
    simp only [Rs] at h
    obtain ⟨v, r, rfl, _, h⟩ := h
    simp [Rs.len h]
theorem Rs.get : ∀ {ds : List D} {vs : List V} {i : Nat} {d : D}, Rs G z ds vs → ds[i]? = some d → ∃ v, vs[i]? = some v ∧ R G z d v
  | d' :: ds, vs, i, d, h, e => by
    simp only [Rs] at h
    obtain ⟨v, r, rfl, h1, h2⟩ := h
    cases i with
    | zero => simp at e; subst e; exact ⟨v, rfl, h1⟩
    | succ i =>
      obtain ⟨w, a, b⟩ := Rs.get (i := i) h2 (by simpa using e)
      exact ⟨w, by simpa using a, b⟩
theorem Rs.getV : ∀ {ds : List D} {vs : List V} {i : Nat} {v : V}, Rs G z ds vs → vs[i]? = some v → ∃ d, ds[i]? = some d ∧ R G z d v
  | [], vs, i, v, h, e => by
    rw [Rs.nil.mp h] at e; simp at e
  | d' :: ds, vs, i, v, h, e => by
    simp only [Rs] at h
    obtain ⟨v', r, rfl, h1, h2⟩ := h
    cases i with
    | zero => simp at e; subst e; exact ⟨d', rfl, h1⟩
    | succ i =>
      obtain ⟨w, a, b⟩ := Rs.getV (i := i) h2 (by simpa using e)
      exact ⟨w, by simpa using a, b⟩
theorem Rs.app : ∀ {ds es : List D} {vs ws : List V}, Rs G z ds vs → Rs G z es ws → Rs G z (ds ++ es) (vs ++ ws)
  | [], es, vs, ws, h, h' => by rw [Rs.nil.mp h]; exact h'
  | d :: ds, es, vs, ws, h, h' => by
    simp only [Rs] at h
    obtain ⟨v, r, rfl, h1, h2⟩ := h
    exact Rs.mk _ _ h1 (Rs.app h2 h')
theorem Rs.take : ∀ {ds : List D} {vs : List V} (n : Nat), Rs G z ds vs → Rs G z (ds.take n) (vs.take n)
  | [], vs, n, h => by rw [Rs.nil.mp h]; simp [Rs]
  | d :: ds, vs, 0, h => by simp [Rs]
  | d :: ds, vs, n + 1, h => by
    simp only [Rs] at h
    obtain ⟨v, r, rfl, h1, h2⟩ := h
    exact Rs.mk _ _ h1 (Rs.take n h2)
theorem Rs.drop : ∀ {ds : List D} {vs : List V} (n : Nat), Rs G z ds vs → Rs G z (ds.drop n) (vs.drop n)
  | [], vs, n, h => by rw [Rs.nil.mp h]; simp [Rs]
  | d :: ds, vs, 0, h => h
  | d :: ds, vs, n + 1, h => by
    simp only [Rs] at h
    obtain ⟨v, r, rfl, h1, h2⟩ := h
    exact Rs.drop n h2
theorem Rs.set : ∀ {ds : List D} {vs : List V} (n : Nat) {d : D} {v : V}, Rs G z ds vs → R G z d v → Rs G z (ds.set n d) (vs.set n v)
  | [], vs, n, d, v, h, _ => by rw [Rs.nil.mp h]; simp [Rs]
  | d' :: ds, vs, 0, d, v, h, q => by
    simp only [Rs] at h
    obtain ⟨v', r, rfl, h1, h2⟩ := h
    exact Rs.mk _ _ q h2
  | d' :: ds, vs, n + 1, d, v, h, q => by
    simp only [Rs] at h
    obtain ⟨v', r, rfl, h1, h2⟩ := h
    exact Rs.mk _ _ h1 (Rs.set n h2 q)
theorem R.int {i : Int} {v : V} : R G z (.int i) v ↔ v = .int i := by simp only [R]
theorem R.bl {i : Bool} {v : V} : R G z (.bl i) v ↔ v = .bl i := by simp only [R]
theorem R.non {v : V} : R G z .non v ↔ v = .non := by simp only [R]
theorem R.str {s : Txt} {v : V} : R G z (.str s) v ↔ (v = .str (sOf s) ∧ okT s = true) := by simp only [R]
theorem Rs.ints : ∀ {ns : List Int} {vs : List V}, Rs G z (ns.map .int) vs ↔ vs = ns.map .int
  | [], vs => by simp [Rs]
  | n :: ns, vs => by
    simp only [List.map_cons, Rs, R.int]
    constructor
    · rintro ⟨v, r, rfl, rfl, h⟩
      rw [Rs.ints.mp h]
    · rintro rfl
      exact ⟨_, _, rfl, rfl, Rs.ints.mpr rfl⟩
theorem Rs.bls : ∀ {ns : List Bool} {vs : List V}, Rs G z (ns.map .bl) vs ↔ vs = ns.map .bl
  | [], vs => by simp [Rs]
  | n :: ns, vs => by
    simp only [List.map_cons, Rs, R.bl]
    constructor
    · rintro ⟨v, r, rfl, rfl, h⟩
      rw [Rs.bls.mp h]
    · rintro rfl
      exact ⟨_, _, rfl, rfl, Rs.bls.mpr rfl⟩
end

/-! ### states -/
/-- nothing is told of it, or it is a table -/
def Free (H : Hp) (a : Addr) : Prop := ∀ o, H a = some o → ∃ ps, o = .tbl ps
theorem Free.none {H : Hp} {a : Addr} (h : H a = none) : Free H a := fun o e => by rw [h] at e; cases e
theorem Free.ne {H : Hp} {a b : Addr} {u : HO} (h : Free H a) (e : H b = some u) (t : ∀ ps, u ≠ .tbl ps) : b ≠ a := fun q => by
  rw [q] at e
  obtain ⟨ps, z⟩ := h u e
  exact t ps z
/-- what an expression may do: new objects, other contents of cells, tables of code grow -/
structure Ext (z z' : Z) : Prop where
  f : ∀ a, z.F a → z'.F a
  h : ∀ a o, z.H a = some o → a ∉ z.io → (∀ ps, o ≠ .tbl ps) → z'.H a = some o
  c : ∃ m, z'.io = z.io ++ m ∧ ∀ a ∈ m, Free z.H a
  nf : ∀ a, z'.F a → z.F a ∨ Free z.H a
  gr : ∀ a, Free z'.H a → Free z.H a
/-- cells and the rest stand apart -/
structure Wf (z : Z) : Prop where
  cf : ∀ a ∈ z.io, ¬ z.F a
  nd : z.io.Nodup
  ft : ∀ a, z.F a → ∃ o, z.H a = some o ∧ ∀ ps, o ≠ .tbl ps
def CellAt (G : Gd) (z : Z) (a : Addr) : Cell → Prop
  | .lst ds => ∃ vs, z.H a = some (.lst vs) ∧ Rs G z ds vs
  | .obj c ds => ∃ dx vs k, G.pg.cls[c]? = some k ∧ z.H a = some (.ins (G.cA c) dx ((k.fs.map sOf).zip vs)) ∧ vs.length = k.fs.length ∧ Rs G z ds vs
/-- no table, no thing told by its own object -/
def plainO : HO → Bool
  | .tbl _ => false
  | .ext _ => false
  | _ => true
theorem plain_nt {o : HO} (h : plainO o = true) : ∀ ps, o ≠ .tbl ps := fun ps e => by rw [e] at h; cases h
theorem plain_ne {o : HO} (h : plainO o = true) : ∀ φ, o ≠ .ext φ := fun ps e => by rw [e] at h; cases h
/-- the tables of code objects -/
structure TabI (G : Gd) (H : Hp) : Prop where
  at_ : LamX.Tabs G.tb H
theorem TabI.upd0 {G : Gd} {H : Hp} (t : TabI G H) {p : Addr} {o : HO} (h : H p = none) (nt : ∀ ps, o ≠ .tbl ps) : TabI G (upd H p o) := by
  exact ⟨t.at_.ext fun b u e => by rw [upd_ne (ne_of_none e h)]; exact e⟩
theorem TabI.upd {G : Gd} {H : Hp} (t : TabI G H) {p : Addr} {o : HO} (h : ∀ u, H p = some u → plainO u = true) (nt : ∀ ps, o ≠ .tbl ps) : TabI G (upd H p o) := by
  refine ⟨fun q hq => ?_⟩
  · obtain ⟨ps, h1, h2, h3⟩ := t.at_ q hq
    have n1 : q.1 ≠ p := fun e => by
      have := h _ (by rw [← e]; exact h1)
      cases this
    refine ⟨ps, by rw [upd_ne n1]; exact h1, h2, fun pos cv hc => ?_⟩
    obtain ⟨c, e1, e2⟩ := h3 pos cv hc
    have n2 : c ≠ p := fun e => by
      have := h _ (by rw [← e]; exact e2)
      unfold LamX.CodeO at this
      cases this
    exact ⟨c, e1, by rw [upd_ne n2]; exact e2⟩
structure Rel (G : Gd) (z : Z) (st : Store) : Prop where
  wf : Wf z
  tab : TabI G z.H
  len : z.io.length = st.length
  at_ : ∀ (i : Nat) (c : Cell), st[i]? = some c → ∃ a, z.io[i]? = some a ∧ CellAt G z a c

theorem Ext.refl (z : Z) : Ext z z := ⟨fun _ h => h, fun _ _ h _ _ => h, ⟨[], by simp⟩, fun _ h => .inl h, fun _ h => h⟩
theorem Ext.trans {z1 z2 z3 : Z} (a : Ext z1 z2) (b : Ext z2 z3) : Ext z1 z3 := by
  obtain ⟨m1, e1, n1⟩ := a.c
  obtain ⟨m2, e2, n2⟩ := b.c
  refine ⟨fun x h => b.f x (a.f x h), fun x o h1 h2 h3 => ?_, ⟨m1 ++ m2, by rw [e2, e1, List.append_assoc], fun x hx => ?_⟩, fun x h => ?_, fun x h => a.gr x (b.gr x h)⟩
  · refine b.h x o (a.h x o h1 h2 h3) (fun hm => ?_) h3
    rw [e1] at hm
    rcases List.mem_append.mp hm with hm | hm
    · exact h2 hm
    · obtain ⟨ps, z⟩ := n1 x hm o h1
      exact h3 ps z
  · rcases List.mem_append.mp hx with hx | hx
    · exact n1 x hx
    · exact a.gr x (n2 x hx)
  · rcases b.nf x h with h | h
    · exact a.nf x h
    · exact .inr (a.gr x h)
theorem Ext.keep {z z' : Z} (e : Ext z z') (w : Wf z) : Keep z z' := by
  obtain ⟨m, em, _⟩ := e.c
  refine ⟨e.f, fun a o f h => ?_, fun i a h => ?_⟩
  · obtain ⟨o', h', nt⟩ := w.ft a f
    rw [h] at h'; cases h'
    exact e.h a o h (fun hm => w.cf a hm f) nt
  · rw [em]
    rw [List.getElem?_append_left (List.getElem?_eq_some_iff.mp h).1]
    exact h
theorem R.ext {G : Gd} {z z' : Z} {d : D} {v : V} (h : R G z d v) (e : Ext z z') (w : Wf z) : R G z' d v := R.keep (e.keep w) d v h
theorem Rs.ext {G : Gd} {z z' : Z} {ds : List D} {vs : List V} (h : Rs G z ds vs) (e : Ext z z') (w : Wf z) : Rs G z' ds vs := Rs.keep (e.keep w) ds vs h
theorem Rel.notIn {G : Gd} {z : Z} {st : Store} (r : Rel G z st) {a : Addr} (h : z.H a = none) : a ∉ z.io := fun hm => by
  obtain ⟨i, hi, e⟩ := List.getElem_of_mem hm
  have hl : i < st.length := by rw [← r.len]; exact hi
  obtain ⟨a', e', q⟩ := r.at_ i st[i] (List.getElem?_eq_getElem hl)
  have e2 : z.io[i]? = some a := by rw [List.getElem?_eq_getElem hi, e]
  rw [e2] at e'; cases e'
  cases hc : st[i] with
  | lst ds =>
    rw [hc] at q
    obtain ⟨vs, q, _⟩ := q
    rw [h] at q; cases q
  | obj c ds =>
    rw [hc] at q
    obtain ⟨dx, vs, k, _, q, _⟩ := q
    rw [h] at q; cases q
theorem Rel.notF {G : Gd} {z : Z} {st : Store} (r : Rel G z st) {a : Addr} (h : z.H a = none) : ¬ z.F a := fun hf => by
  obtain ⟨o, e, _⟩ := r.wf.ft a hf
  rw [h] at e; cases e
/-- a new object that is never changed -/
def Z.new (z : Z) (p : Addr) (o : HO) : Z := ⟨upd z.H p o, fun a => z.F a ∨ a = p, z.io⟩
theorem Z.new_at (z : Z) (p : Addr) (o : HO) : (z.new p o).H p = some o := upd_same
theorem Z.new_F (z : Z) (p : Addr) (o : HO) : (z.new p o).F p := .inr rfl
theorem Ext.new {z : Z} {p : Addr} {o : HO} (h : z.H p = none) : Ext z (z.new p o) := by
  refine ⟨fun a f => .inl f, fun a u e _ _ => ?_, ⟨[], by simp [Z.new]⟩, fun a f => f.imp id fun e => by rw [e]; exact Free.none h, fun a e => ?_⟩
  · show upd z.H p o a = some u
    rw [upd_ne (ne_of_none e h)]; exact e
  · by_cases q : a = p
    · rw [q]; exact Free.none h
    · exact fun u e' => e u (by show upd z.H p o a = some u; rw [upd_ne q]; exact e')
theorem CellAt.keep {G : Gd} {z z' : Z} (k : Keep z z') {a : Addr} (ha : ∀ o, z.H a = some o → z'.H a = some o) : ∀ {c : Cell}, CellAt G z a c → CellAt G z' a c
  | .lst ds, ⟨vs, h, r⟩ => ⟨vs, ha _ h, Rs.keep k _ _ r⟩
  | .obj c ds, ⟨dx, vs, kl, h0, h, hl, r⟩ => ⟨dx, vs, kl, h0, ha _ h, hl, Rs.keep k _ _ r⟩
theorem Rel.new {G : Gd} {z : Z} {st : Store} (r : Rel G z st) {p : Addr} {o : HO} (h : z.H p = none) (nt : ∀ ps, o ≠ .tbl ps) : Rel G (z.new p o) st := by
  have e := Ext.new (o := o) h
  refine ⟨⟨fun a hm hf => ?_, r.wf.nd, fun a hf => ?_⟩, r.tab.upd0 h nt, r.len, fun i c hc => ?_⟩
  · rcases hf with hf | hf
    · exact r.wf.cf a hm hf
    · rw [hf] at hm; exact r.notIn h hm
  · rcases hf with hf | hf
    · obtain ⟨u, q, n⟩ := r.wf.ft a hf
      exact ⟨u, by show upd z.H p o a = some u; rw [upd_ne (ne_of_none q h)]; exact q, n⟩
    · exact ⟨o, by rw [hf]; exact upd_same, nt⟩
  · obtain ⟨a, q, k⟩ := r.at_ i c hc
    exact ⟨a, q, CellAt.keep (e.keep r.wf) (fun u q => by show upd z.H p o a = some u; rw [upd_ne (ne_of_none q h)]; exact q) k⟩
/-- an object that nothing else may know: it may be changed -/
structure Alone (z : Z) (p : Addr) : Prop where
  here : ∃ o, z.H p = some o ∧ plainO o = true
  nf : ¬ z.F p
  ni : p ∉ z.io
def Z.put (z : Z) (p : Addr) (o : HO) : Z := ⟨upd z.H p o, z.F, z.io⟩
/-- from now on it is never changed -/
def Z.fix (z : Z) (p : Addr) : Z := ⟨z.H, fun a => z.F a ∨ a = p, z.io⟩
theorem Alone.new {G : Gd} {z : Z} {st : Store} (r : Rel G z st) {p : Addr} {o : HO} (h : z.H p = none) (nt : plainO o = true) : Alone (z.put p o) p :=
  ⟨⟨o, upd_same, nt⟩, r.notF h, r.notIn h⟩
theorem Alone.put {z : Z} {p : Addr} (a : Alone z p) {o : HO} (nt : plainO o = true) : Alone (z.put p o) p := ⟨⟨o, upd_same, nt⟩, a.nf, a.ni⟩
theorem Keep.put {z : Z} {p : Addr} {o : HO} (nf : ¬ z.F p) : Keep z (z.put p o) :=
  ⟨fun _ h => h, fun a u f h => by
    show upd z.H p o a = some u
    have ne : a ≠ p := fun e => nf (by rw [← e]; exact f)
    rw [upd_ne ne]
    exact h, fun _ _ h => h⟩
theorem Keep.fix (z : Z) (p : Addr) : Keep z (z.fix p) := ⟨fun _ h => .inl h, fun _ _ _ h => h, fun _ _ h => h⟩
theorem Rel.put' {G : Gd} {z : Z} {st : Store} (r : Rel G z st) {p : Addr} {o : HO} (nf : ¬ z.F p) (ni : p ∉ z.io) (hp : ∀ u, z.H p = some u → plainO u = true) (no : plainO o = true) : Rel G (z.put p o) st := by
  have ne : ∀ a, z.F a → a ≠ p := fun a f e => nf (by rw [← e]; exact f)
  refine ⟨⟨r.wf.cf, r.wf.nd, fun a f => ?_⟩, r.tab.upd hp (plain_nt no), r.len, fun i c hc => ?_⟩
  · obtain ⟨u, e, n⟩ := r.wf.ft a f
    exact ⟨u, by show upd z.H p o a = some u; rw [upd_ne (ne a f)]; exact e, n⟩
  · obtain ⟨a, q, k⟩ := r.at_ i c hc
    have na : a ≠ p := fun e => ni (by rw [← e]; exact List.mem_of_getElem? q)
    exact ⟨a, q, CellAt.keep (Keep.put nf) (fun u e => by show upd z.H p o a = some u; rw [upd_ne na]; exact e) k⟩
theorem Rel.put0 {G : Gd} {z : Z} {st : Store} (r : Rel G z st) {p : Addr} {o : HO} (np : z.H p = none) (no : plainO o = true := by rfl) : Rel G (z.put p o) st := r.put' (r.notF np) (r.notIn np) (fun u e => by rw [np] at e; cases e) no
theorem Alone.plain {z : Z} {p : Addr} (al : Alone z p) : ∀ u, z.H p = some u → plainO u = true := fun u e => by
  obtain ⟨o, h, n⟩ := al.here
  rw [h] at e; cases e; exact n
theorem Rel.put {G : Gd} {z : Z} {st : Store} (r : Rel G z st) {p : Addr} {o : HO} (al : Alone z p) (no : plainO o = true := by rfl) : Rel G (z.put p o) st := r.put' al.nf al.ni al.plain no
theorem Rel.fix {G : Gd} {z : Z} {st : Store} (r : Rel G z st) {p : Addr} (al : Alone z p) : Rel G (z.fix p) st := by
  refine ⟨⟨fun a hm f => ?_, r.wf.nd, fun a f => ?_⟩, r.tab, r.len, fun i c hc => ?_⟩
  · rcases f with f | f
    · exact r.wf.cf a hm f
    · exact al.ni (by rw [← f]; exact hm)
  · rcases f with f | f
    · exact r.wf.ft a f
    · obtain ⟨o, h, n⟩ := al.here
      rw [f]; exact ⟨o, h, plain_nt n⟩
  · obtain ⟨a, q, k⟩ := r.at_ i c hc
    exact ⟨a, q, CellAt.keep (Keep.fix z p) (fun u e => e) k⟩
theorem Ext.putF {z0 z : Z} (e : Ext z0 z) {p : Addr} {o : HO} (h : Free z0.H p) : Ext z0 (z.put p o) := by
  refine ⟨e.f, fun a u q n t => ?_, e.c, e.nf, fun a q => ?_⟩
  · show upd z.H p o a = some u
    rw [upd_ne (h.ne q t)]
    exact e.h a u q n t
  · by_cases c : a = p
    · rw [c]; exact h
    · exact e.gr a fun u e' => q u (by show upd z.H p o a = some u; rw [upd_ne c]; exact e')
theorem Ext.put {z0 z : Z} (e : Ext z0 z) {p : Addr} {o : HO} (h : z0.H p = none) : Ext z0 (z.put p o) := e.putF (Free.none h)
theorem Ext.fixF {z0 z : Z} (e : Ext z0 z) {p : Addr} (h : Free z0.H p) : Ext z0 (z.fix p) :=
  ⟨fun a f => .inl (e.f a f), e.h, e.c, fun a f => f.elim (e.nf a) fun q => .inr (by rw [q]; exact h), e.gr⟩
theorem Ext.fix {z0 z : Z} (e : Ext z0 z) {p : Addr} (h : z0.H p = none) : Ext z0 (z.fix p) := e.fixF (Free.none h)
theorem Alone.ext {z z' : Z} {p : Addr} (al : Alone z p) (e : Ext z z') : Alone z' p ∧ ∀ o, z.H p = some o → z'.H p = some o := by
  obtain ⟨o, h, nt⟩ := al.here
  have h' := e.h p o h al.ni (plain_nt nt)
  refine ⟨⟨⟨o, h', nt⟩, fun f => ?_, fun hm => ?_⟩, fun u q => ?_⟩
  · rcases e.nf p f with q | q
    · exact al.nf q
    · obtain ⟨ps, z⟩ := q o h
      exact plain_nt nt ps z
  · obtain ⟨m, em, n⟩ := e.c
    rw [em] at hm
    rcases List.mem_append.mp hm with hm | hm
    · exact al.ni hm
    · obtain ⟨ps, z⟩ := n p hm o h
      exact plain_nt nt ps z
  · rw [h] at q; cases q; exact h'

/-! ### the frame -/
def SlotAt (G : Gd) (z : Z) (o : Option (Option V)) : Slot → Prop
  | .un => True
  | .val d => ∃ v, o = some (some v) ∧ R G z d v
  | .own ds => ∃ a vs, o = some (some (.ref a)) ∧ z.H a = some (.lst vs) ∧ Rs G z ds vs ∧ ¬ z.F a ∧ a ∉ z.io
  | .ownD kvs => ∃ a vs, o = some (some (.ref a)) ∧ z.H a = some (.dK vs) ∧ RK G z kvs vs ∧ ¬ z.F a ∧ a ∉ z.io
  | .self c fs => ∃ a dx vs k, o = some (some (.ref a)) ∧ G.pg.cls[c]? = some k ∧ z.H a = some (.ins (G.cA c) dx ((fs.map fun p => sOf p.1).zip vs)) ∧ vs.length = fs.length ∧ Rs G z (fs.map (·.2)) vs ∧ ¬ z.F a ∧ a ∉ z.io
/-- a slot that alone holds its object -/
def Slot.alone : Slot → Bool
  | .own _ | .ownD _ | .self _ _ => true
  | _ => false
structure EnvR (G : Gd) (z : Z) (env : Env) (σ : St) : Prop where
  len : env.length = σ.length
  at_ : ∀ (i : Nat) (s : Slot), env[i]? = some s → SlotAt G z σ[i]? s
  apart : ∀ (i j : Nat) (s t : Slot) (a : Addr), env[i]? = some s → env[j]? = some t → s.alone = true → t.alone = true → σ[i]? = some (some (.ref a)) → σ[j]? = some (some (.ref a)) → i = j

theorem SlotAt.ext {G : Gd} {z z' : Z} {o : Option (Option V)} (e : Ext z z') (w : Wf z) : ∀ {s : Slot}, SlotAt G z o s → SlotAt G z' o s := by
  have own : ∀ {a : Addr} {u : HO}, z.H a = some u → (∀ ps, u ≠ .tbl ps) → ¬ z.F a → a ∉ z.io → z'.H a = some u ∧ ¬ z'.F a ∧ a ∉ z'.io := fun {a u} h nt nf ni => by
    refine ⟨e.h a u h ni nt, fun hf => ?_, fun hm => ?_⟩
    · rcases e.nf a hf with q | q
      · exact nf q
      · obtain ⟨ps, z⟩ := q u h
        exact nt ps z
    · obtain ⟨m, em, n⟩ := e.c
      rw [em] at hm
      rcases List.mem_append.mp hm with hm | hm
      · exact ni hm
      · obtain ⟨ps, z⟩ := n a hm u h
        exact nt ps z
  intro s h
  cases s with
  | un => trivial
  | val d =>
    obtain ⟨v, q, r⟩ := h
    exact ⟨v, q, r.ext e w⟩
  | own ds =>
    obtain ⟨a, vs, q, h, r, nf, ni⟩ := h
    obtain ⟨h1, h2, h3⟩ := own h (fun ps => by simp) nf ni
    exact ⟨a, vs, q, h1, r.ext e w, h2, h3⟩
  | ownD kvs =>
    obtain ⟨a, vs, q, h, r, nf, ni⟩ := h
    obtain ⟨h1, h2, h3⟩ := own h (fun ps => by simp) nf ni
    exact ⟨a, vs, q, h1, RK.keep (e.keep w) _ _ r, h2, h3⟩
  | self c fs =>
    obtain ⟨a, dx, vs, k, q, hk, h, hl, r, nf, ni⟩ := h
    obtain ⟨h1, h2, h3⟩ := own h (fun ps => by simp) nf ni
    exact ⟨a, dx, vs, k, q, hk, h1, hl, r.ext e w, h2, h3⟩
theorem EnvR.ext {G : Gd} {z z' : Z} {env : Env} {σ : St} (h : EnvR G z env σ) (e : Ext z z') (w : Wf z) : EnvR G z' env σ :=
  ⟨h.len, fun i s q => (h.at_ i s q).ext e w, h.apart⟩
theorem EnvR.var {G : Gd} {z : Z} {env : Env} {σ : St} {i : Nat} {d : D} (h : EnvR G z env σ) (e : varD env i = some d) : ∃ v, σ[i]? = some (some v) ∧ R G z d v := by
  unfold varD at e
  split at e
  · rename_i d' q
    cases e
    exact h.at_ i _ q
  · cases e

/-! ### what comes of a reckoning, in the machine -/
/-- an exception in the machine: its class, its own dict -/
def ExcR (G : Gd) (z : Z) (e : Exc) (cls : Value) (dd : Option Addr) : Prop :=
  cls = .ref (G.eA e.c) ∧ match e.w with
    | none => dd = none
    | some w => ∃ d v, dd = some d ∧ z.H d = some (.xd [(("word" : Str), v)]) ∧ R G z w v
def Post {α : Type} (G : Gd) (z : Z) (σ : St) (W : WX) (o : Out α) (k : α → Store → Z → Prop) : Prop :=
  match o with
  | .ok a st => ∀ z', Ext z z' → Rel G z' st → k a st z'
  | .exc e st => ∀ z' cls dd, Ext z z' → Rel G z' st → ExcR G z' e cls dd → W cls dd σ z'.H
  | .bad => False
section
variable {G : Gd} {z : Z} {σ : St} {W : WX}
theorem Post.imp {α : Type} {o : Out α} {k k' : α → Store → Z → Prop} (h : Post G z σ W o k) (f : ∀ a st z', Ext z z' → Rel G z' st → k a st z' → k' a st z') : Post G z σ W o k' := by
  cases o with
  | ok a st => exact fun z' e r => f a st z' e r (h z' e r)
  | exc e st => exact h
  | bad => exact h
theorem Post.later {α : Type} {o : Out α} {k : α → Store → Z → Prop} {z' : Z} (h : Post G z σ W o k) (e : Ext z z') : Post G z' σ W o k := by
  cases o with
  | ok a st => exact fun z2 e2 r => h z2 (e.trans e2) r
  | exc x st => exact fun z2 cls dd e2 r => h z2 cls dd (e.trans e2) r
  | bad => exact h
theorem Post.bind {α β : Type} {o : Out α} {f : α → Store → Out β} {k : β → Store → Z → Prop} (h : Post G z σ W (o.bind f) k) : Post G z σ W o fun a st z' => Post G z' σ W (f a st) k := by
  cases o with
  | ok a st => exact fun z' e r => Post.later (o := f a st) h e
  | exc e st => exact h
  | bad => exact h
theorem Post.bind0 {α β : Type} {o : Out α} {f : α → Store → Out β} {k : β → Store → Z → Prop} (h : Post G z σ W (o.bind f) k) : Post G z σ W o fun a st _ => Post G z σ W (f a st) k := by
  cases o with
  | ok a st => exact fun _ _ _ => h
  | exc e st => exact h
  | bad => exact h
theorem Post.at {α : Type} {a : α} {st : Store} {k : α → Store → Z → Prop} {z' : Z} (h : Post G z σ W (.ok a st) k) (e : Ext z z') (r : Rel G z' st) : k a st z' := h z' e r
theorem Post.ofO {α : Type} {st : Store} {o : Option α} {k : α → Store → Z → Prop} (h : Post G z σ W (Out.ofO st o) k) (r : Rel G z st) : ∃ a, o = some a ∧ k a st z := by
  cases o with
  | some a => exact ⟨a, rfl, h z (Ext.refl z) r⟩
  | none => exact h.elim
theorem Post.ok {α : Type} {a : α} {st : Store} {k : α → Store → Z → Prop} (h : Post G z σ W (.ok a st) k) (r : Rel G z st) : k a st z := h z (Ext.refl z) r
end
end Fw

set_option Elab.async false
set_option linter.all false
set_option maxRecDepth 100000
set_option autoImplicit false
set_option maxHeartbeats 1000000
/-! Fw2: the plain operations of Fw0 are the machine's. -/
namespace Fw
open PySem L2

/-! ### data -/
mutual
def toPd : D → PyData
  | .non => .none
  | .bl b => .bool b
  | .int i => .int i
  | .str s => .str (sOf s)
  | .tup ds => .tuple (toPds ds)
  | .lst ds => .list (toPds ds)
  | .scr ns => .list (ns.map .int)
  | _ => .none
def toPds : List D → List PyData
  | [] => []
  | d :: ds => toPd d :: toPds ds
end
theorem dpInts {K : PySem.W.Frag} {H : Hp} : ∀ ns : List Int, DpAll K H (ns.map V.int) (ns.map PyData.int)
  | [] => .nil
  | n :: ns => .cons (.int n) (dpInts ns)
mutual
theorem R.dp {G : Gd} {z : Z} : ∀ (d : D) (v : V), R G z d v → isData d = true → Dp G.K z.H v (toPd d)
  | .non, v, h, _ => by rw [R.non.mp h]; exact .non
  | .bl b, v, h, _ => by rw [R.bl.mp h]; exact .bl b
  | .int i, v, h, _ => by rw [R.int.mp h]; exact .int i
  | .str s, v, h, _ => by rw [(R.str.mp h).1]; exact .str _
  | .tup ds, v, h, q => by
    simp only [R] at h
    obtain ⟨a, vs, rfl, hq, r⟩ := h
    refine .tup (xs := vs) ?_ (Rs.dp ds vs r (by simpa [isData] using q))
    rcases hq with ⟨_, hq⟩ | hq
    · exact SqT.of hq
    · exact .inr hq
  | .lst ds, v, h, q => by
    simp only [R] at h
    obtain ⟨a, vs, rfl, ⟨_, hq⟩, r⟩ := h
    exact .lst (xs := vs) (SqL.of hq) (Rs.dp ds vs r (by simpa [isData] using q))
  | .scr ns, v, h, _ => by
    simp only [R] at h
    obtain ⟨a, rfl, hq⟩ := h
    refine .lst (xs := ns.map V.int) ?_ (dpInts ns)
    rcases hq with ⟨_, hq⟩ | hq
    · exact .inl hq
    · exact .inr hq
  | .dic kvs, v, _, q => by simp [isData] at q
  | .gdic kvs, v, _, q => by simp [isData] at q
  | .obj c ds, v, _, q => by simp [isData] at q
  | .cell i, v, _, q => by simp [isData] at q
theorem Rs.dp {G : Gd} {z : Z} : ∀ (ds : List D) (vs : List V), Rs G z ds vs → isDatas ds = true → DpAll G.K z.H vs (toPds ds)
  | [], vs, h, _ => by rw [Rs.nil.mp h]; exact .nil
  | d :: ds, vs, h, q => by
    simp only [Rs] at h
    obtain ⟨v, r, rfl, h1, h2⟩ := h
    have q1 : isData d = true ∧ isDatas ds = true := by
      cases d <;> simp_all [isDatas, isData]
    exact .cons (R.dp d v h1 q1.1) (Rs.dp ds r h2 q1.2)
end
mutual
theorem lay_of {G : Gd} {z : Z} : ∀ (d : D) (v : V), R G z d v → (toPd d).canLay0 = true
  | .non, v, h => by simp [toPd, PyData.canLay0]
  | .bl b, v, h => by simp [toPd, PyData.canLay0]
  | .int i, v, h => by simp [toPd, PyData.canLay0]
  | .str s, v, h => by
    have q := (R.str.mp h).2
    simp only [toPd, PyData.canLay0, PyData.strOk, sOf]
    rw [Array.all_eq_true']
    intro x hx
    have hx : x ∈ s := by simpa using hx
    exact List.all_eq_true.mp q x hx
  | .tup ds, v, h => by
    simp only [R] at h
    obtain ⟨a, vs, rfl, hq, r⟩ := h
    simp only [toPd, PyData.canLay0]
    exact lays_of ds vs r
  | .lst ds, v, h => by
    simp only [R] at h
    obtain ⟨a, vs, rfl, hq, r⟩ := h
    simp only [toPd, PyData.canLay0]
    exact lays_of ds vs r
  | .scr ns, v, h => by
    simp only [toPd, PyData.canLay0]
    induction ns with
    | nil => simp [PyData.canLayAll0]
    | cons n r ih =>
      have h' : R G z (.scr r) v → True := fun _ => trivial
      clear h h'
      have all : ∀ l : List Int, PyData.canLayAll0 (l.map PyData.int) = true := fun l => by
        induction l with
        | nil => simp [PyData.canLayAll0]
        | cons a b ih => simp [PyData.canLayAll0, PyData.canLay0, ih]
      exact all (n :: r)
  | .dic kvs, v, h => by simp [toPd, PyData.canLay0]
  | .gdic kvs, v, h => by simp [toPd, PyData.canLay0]
  | .obj c ds, v, h => by simp [toPd, PyData.canLay0]
  | .cell i, v, h => by simp [toPd, PyData.canLay0]
theorem lays_of {G : Gd} {z : Z} : ∀ (ds : List D) (vs : List V), Rs G z ds vs → PyData.canLayAll0 (toPds ds) = true
  | [], vs, h => by simp [toPds, PyData.canLayAll0]
  | d :: ds, vs, h => by
    simp only [Rs] at h
    obtain ⟨v, r, rfl, h1, h2⟩ := h
    simp [toPds, PyData.canLayAll0, lay_of d v h1, lays_of ds r h2]
end
theorem depInts : ∀ ns : List Int, PyData.depthAll (ns.map PyData.int) = 0
  | [] => by simp [PyData.depthAll]
  | n :: ns => by simp [PyData.depthAll, PyData.depth, depInts ns]
mutual
theorem dep_of : ∀ d : D, (toPd d).depth = dep d
  | .non | .bl _ | .int _ | .str _ => by simp [toPd, PyData.depth, dep]
  | .tup ds | .lst ds => by simp [toPd, PyData.depth, dep, deps_of ds]
  | .scr ns => by simp [toPd, PyData.depth, dep, depInts]
  | .dic _ | .gdic _ | .obj _ _ | .cell _ => by simp [toPd, PyData.depth, dep]
theorem deps_of : ∀ ds : List D, PyData.depthAll (toPds ds) = deps ds
  | [] => by simp [toPds, PyData.depthAll, deps]
  | d :: ds => by simp [toPds, PyData.depthAll, deps, dep_of d, deps_of ds]
end
theorem strBeq (x y : Txt) : (sOf x == sOf y) = (x == y) := by
  rw [Bool.eq_iff_iff]
  simp only [beq_iff_eq]
  exact sOf_iff
/-- no script within -/
def noScr : D → Bool
  | .scr _ => false
  | _ => true
mutual
theorem eqv_of : ∀ a b : D, isData a = true → isData b = true → noScr a = true → noScr b = true → PyData.eqv (toPd a) (toPd b) = deq a b
  | .tup xs, .tup ys, ha, hb, _, _ => by
    simp only [toPd, PyData.eqv, deq]
    exact eqvs_of xs ys (by simpa [isData] using ha) (by simpa [isData] using hb)
  | .lst xs, .lst ys, ha, hb, _, _ => by
    simp only [toPd, PyData.eqv, deq]
    exact eqvs_of xs ys (by simpa [isData] using ha) (by simpa [isData] using hb)
  | .str x, .str y, _, _, _, _ => by simp only [toPd, PyData.eqv, deq]; exact strBeq x y
  | .non, b, ha, hb, na, nb => by cases b <;> simp_all [toPd, PyData.eqv, deq, isData, noScr]
  | .bl x, b, ha, hb, na, nb => by cases b <;> simp_all [toPd, PyData.eqv, deq, isData, noScr]
  | .int x, b, ha, hb, na, nb => by cases b <;> simp_all [toPd, PyData.eqv, deq, isData, noScr]
  | .str x, .non, ha, hb, na, nb | .str x, .bl _, ha, hb, na, nb | .str x, .int _, ha, hb, na, nb | .str x, .tup _, ha, hb, na, nb | .str x, .lst _, ha, hb, na, nb => by simp [toPd, PyData.eqv, deq]
  | .str x, .dic _, ha, hb, na, nb | .str x, .gdic _, ha, hb, na, nb | .str x, .obj _ _, ha, hb, na, nb | .str x, .cell _, ha, hb, na, nb => by simp [isData] at hb
  | .str x, .scr _, ha, hb, na, nb => by simp [noScr] at nb
  | .tup x, .non, ha, hb, na, nb | .tup x, .bl _, ha, hb, na, nb | .tup x, .int _, ha, hb, na, nb | .tup x, .str _, ha, hb, na, nb | .tup x, .lst _, ha, hb, na, nb => by simp [toPd, PyData.eqv, deq]
  | .tup x, .dic _, ha, hb, na, nb | .tup x, .gdic _, ha, hb, na, nb | .tup x, .obj _ _, ha, hb, na, nb | .tup x, .cell _, ha, hb, na, nb => by simp [isData] at hb
  | .tup x, .scr _, ha, hb, na, nb => by simp [noScr] at nb
  | .lst x, .non, ha, hb, na, nb | .lst x, .bl _, ha, hb, na, nb | .lst x, .int _, ha, hb, na, nb | .lst x, .str _, ha, hb, na, nb | .lst x, .tup _, ha, hb, na, nb => by simp [toPd, PyData.eqv, deq]
  | .lst x, .dic _, ha, hb, na, nb | .lst x, .gdic _, ha, hb, na, nb | .lst x, .obj _ _, ha, hb, na, nb | .lst x, .cell _, ha, hb, na, nb => by simp [isData] at hb
  | .lst x, .scr _, ha, hb, na, nb => by simp [noScr] at nb
  | .scr _, b, ha, hb, na, nb => by simp [noScr] at na
  | .dic _, b, ha, hb, na, nb | .gdic _, b, ha, hb, na, nb | .obj _ _, b, ha, hb, na, nb | .cell _, b, ha, hb, na, nb => by simp [isData] at ha
theorem eqvs_of : ∀ xs ys : List D, isDatas xs = true → isDatas ys = true → PyData.eqvAll (toPds xs) (toPds ys) = deqs xs ys
  | [], [], _, _ => by simp [toPds, PyData.eqvAll, deqs]
  | [], y :: ys, _, _ => by simp [toPds, PyData.eqvAll, deqs]
  | x :: xs, [], _, _ => by simp [toPds, PyData.eqvAll, deqs]
  | x :: xs, y :: ys, ha, hb => by
    have a1 : isData x = true ∧ isDatas xs = true ∧ noScr x = true := by cases x <;> simp_all [isDatas, isData, noScr]
    have b1 : isData y = true ∧ isDatas ys = true ∧ noScr y = true := by cases y <;> simp_all [isDatas, isData, noScr]
    simp only [toPds, PyData.eqvAll, deqs]
    rw [eqv_of x y a1.1 b1.1 a1.2.2 b1.2.2, eqvs_of xs ys a1.2.1 b1.2.1]
end
theorem eqv_all (a b : D) (hs : scrOk a b = true) (ha : isData a = true) (hb : isData b = true) : PyData.eqv (toPd a) (toPd b) = deq a b := by
  by_cases na : noScr a = true
  · by_cases nb : noScr b = true
    · exact eqv_of a b ha hb na nb
    · cases b <;> simp_all [noScr]
      cases a <;> simp_all [scrOk]
  · cases a <;> simp_all [noScr]
    rename_i ns
    cases b <;> simp_all [scrOk]
    rename_i l
    cases l with
    | nil => cases ns <;> simp [toPd, toPds, PyData.eqv, PyData.eqvAll, deq]
    | cons => simp_all [scrOk]

/-! ### two values, an answer -/
/-- a plain operation's reading -/
def rO2 (G : Gd) (g : D → D → Option D) : R2 := fun x y H Q => ∃ z st dx dy d, z.H = H ∧ Rel G z st ∧ R G z dx x ∧ R G z dy y ∧ g dx dy = some d ∧ ∀ z' v, Ext z z' → Rel G z' st → R G z' d v → Q v z'.H
/-- of a context: it runs over the ground -/
structure On (G : Gd) (X : Cx) : Prop where
  P : X.prog = G.P
  w : X.w = G.w
  K : X.K = G.K
  mg : X.mg = G.mg
  base : X.base = G.base
  calm : X.calm = true
  room : ∃ k, Room k X.A
theorem len_sOf (s : Txt) : (sOf s).length = s.length := by
  show (s.toArray).size = s.length
  simp
theorem okT_app {a b : Txt} (h : okT a = true) (h' : okT b = true) : okT (a ++ b) = true := by
  unfold okT at *
  rw [List.all_append, h, h']
  rfl
theorem sOf_app (a b : Txt) : sOf a ++ sOf b = sOf (a ++ b) := by
  show (⟨a.toArray ++ b.toArray⟩ : Str) = ⟨(a ++ b).toArray⟩
  simp
theorem big_eq : big = sizeLine := by rw [sizeLine_eq]; rfl
theorem bits200 {i : Int} (h : i.natAbs < 2 ^ 200) : i.natAbs.log2 < 200 := PySem.Flt.log2_lt_of (by decide) h
section
variable {G : Gd} {X : Cx}
theorem ROp.mk {f : Value → Value → Sem Value} {g : D → D → Option D}
    (h : ∀ (pins : List (Addr × Obj)) (s : Shared) (σ : L2.St) (z : Z) (st : Store) (x y : V) (v u : Value) (Q : VK) (dx dy d : D), L2.Inv X pins σ z.H s → RelV x v → RelV y u → Rel G z st → R G z dx x → R G z dy y → g dx dy = some d →
      (∀ z' v, Ext z z' → Rel G z' st → R G z' d v → Q v z'.H) → wpAny (model X.prog X.w) X.A (f v u) (EP X pins σ Q) X.xe s) : OpR X f (rO2 G g) := by
  intro pins s σ H x y v u Q I rx ry q
  obtain ⟨z, st, dx, dy, d, rfl, rel, r1, r2, e, q⟩ := q
  exact h pins s σ z st x y v u Q dx dy d I rx ry rel r1 r2 e q
theorem op_addD (o : On G X) : OpR X (binaryOp .Add) (rO2 G (op2 .add)) := by
  refine ROp.mk fun pins s σ z st x y v u Q dx dy d I rx ry rel r1 r2 e q => ?_
  cases dx <;> cases dy <;> simp only [op2] at e <;> try cases e
  · rename_i i j
    rw [R.int] at r1 r2
    exact op_add pins s σ z.H x y v u Q I rx ry ⟨i, j, r1, r2, q z _ (Ext.refl z) rel (R.int.mpr rfl)⟩
  · rename_i i j
    rw [R.str] at r1 r2
    split at e
    · rename_i hl
      cases e
      refine op_add_str pins s σ z.H x y v u Q I rx ry ⟨sOf i, sOf j, r1.1, r2.1, by rw [len_sOf, len_sOf, ← big_eq]; exact hl, ?_⟩
      exact q z _ (Ext.refl z) rel (R.str.mpr ⟨by rw [sOf_app], okT_app r1.2 r2.2⟩)
    · cases e
  · rename_i i j
    split at e
    · rename_i hl
      cases e
      simp only [R] at r1 r2
      obtain ⟨a, vs, rfl, h1, q1⟩ := r1
      obtain ⟨b, ws, rfl, h2, q2⟩ := r2
      have s1 : SqT X.K z.H a vs := by rw [o.K]; rcases h1 with ⟨_, h⟩ | h; exact SqT.of h; exact .inr h
      have s2 : SqT X.K z.H b ws := by rw [o.K]; rcases h2 with ⟨_, h⟩ | h; exact SqT.of h; exact .inr h
      refine op_catA pins s σ z.H _ _ v u Q I rx ry ⟨a, b, vs, ws, rfl, rfl, s1, s2, by rw [q1.len, q2.len, ← big_eq]; exact hl, fun e => ?_, fun _ e => ?_, fun _ _ p np => ?_⟩
      · have e1 : i = [] := List.eq_nil_of_length_eq_zero (by rw [← q1.len, e]; rfl)
        subst e1
        refine q z _ (Ext.refl z) rel ?_
        simp only [R]
        exact ⟨b, ws, rfl, h2, by simpa using q2⟩
      · have e1 : j = [] := List.eq_nil_of_length_eq_zero (by rw [← q2.len, e]; rfl)
        subst e1
        refine q z _ (Ext.refl z) rel ?_
        simp only [R]
        exact ⟨a, vs, rfl, h1, by simpa using q1⟩
      · refine q (z.new p (.tup (vs ++ ws))) _ (Ext.new np) (rel.new np (by simp)) ?_
        simp only [R]
        exact ⟨p, _, rfl, .inl ⟨z.new_F p _, z.new_at p _⟩, (q1.app q2).ext (Ext.new np) rel.wf⟩
    · cases e
  · rename_i i j
    split at e
    · rename_i hl
      cases e
      simp only [R] at r1 r2
      obtain ⟨a, vs, rfl, ⟨f1, h1⟩, q1⟩ := r1
      obtain ⟨b, ws, rfl, ⟨f2, h2⟩, q2⟩ := r2
      refine op_cat pins s σ z.H _ _ v u Q I rx ry ⟨a, b, vs, ws, rfl, rfl, h1, h2, by rw [q1.len, q2.len, ← big_eq]; exact hl, fun p np => ?_⟩
      refine q (z.new p (.lst (vs ++ ws))) _ (Ext.new np) (rel.new np (by simp)) ?_
      simp only [R]
      exact ⟨p, _, rfl, ⟨z.new_F p _, z.new_at p _⟩, (q1.app q2).ext (Ext.new np) rel.wf⟩
    · cases e
theorem op_intD {f : Value → Value → Sem Value} {g : D → D → Option D} {C : Int → Int → Prop} {k : Int → Int → Int} (h : OpR X f (rI C fun i j => .int (k i j)))
    (hg : ∀ dx dy d, g dx dy = some d → ∃ i j, dx = .int i ∧ dy = .int j ∧ C i j ∧ d = .int (k i j)) : OpR X f (rO2 G g) := by
  refine ROp.mk fun pins s σ z st x y v u Q dx dy d I rx ry rel r1 r2 e q => ?_
  obtain ⟨i, j, rfl, rfl, c, rfl⟩ := hg _ _ _ e
  rw [R.int] at r1 r2
  exact h pins s σ z.H x y v u Q I rx ry ⟨i, j, r1, r2, c, q z _ (Ext.refl z) rel (R.int.mpr rfl)⟩
theorem op_subD : OpR X (binaryOp .Sub) (rO2 G (op2 .sub)) := by
  refine ROp.mk fun pins s σ z st x y v u Q dx dy d I rx ry rel r1 r2 e q => ?_
  cases dx <;> cases dy <;> simp only [op2] at e <;> try cases e
  rename_i i j
  rw [R.int] at r1 r2
  exact op_sub pins s σ z.H x y v u Q I rx ry ⟨i, j, r1, r2, q z _ (Ext.refl z) rel (R.int.mpr rfl)⟩
theorem op_modD : OpR X (binaryOp .Mod) (rO2 G (op2 .mod)) := by
  refine op_intD op_modN fun dx dy d e => ?_
  cases dx <;> cases dy <;> simp only [op2] at e <;> try cases e
  rename_i i j
  split at e <;> cases e
  rename_i c
  exact ⟨i, j, rfl, rfl, c, rfl⟩
theorem op_powD : OpR X (binaryOp .Pow) (rO2 G (op2 .pow)) := by
  refine op_intD op_pow fun dx dy d e => ?_
  cases dx <;> cases dy <;> simp only [op2] at e <;> try cases e
  rename_i i j
  split at e <;> cases e
  rename_i c
  exact ⟨i, j, rfl, rfl, ⟨c.1, by omega, c.2.2⟩, rfl⟩
theorem Rs.rep {z : Z} {ds : List D} {vs : List V} (h : Rs G z ds vs) : ∀ n : Nat, Rs G z (List.replicate n ds).flatten (List.replicate n vs).flatten
  | 0 => Rs.nil.mpr rfl
  | n + 1 => by
    simp only [List.replicate_succ, List.flatten_cons]
    exact h.app (Rs.rep h n)
theorem rep_len {α : Type} (xs : List α) (n : Nat) : (List.replicate n xs).flatten.length = n * xs.length := by
  induction n with
  | zero => simp
  | succ n ih => rw [List.replicate_succ, List.flatten_cons, List.length_append, ih, Nat.succ_mul]; omega
theorem op_mulD (o : On G X) : OpR X (binaryOp .Mult) (rO2 G (op2 .mul)) := by
  refine ROp.mk fun pins s σ z st x y v u Q dx dy d I rx ry rel r1 r2 e q => ?_
  cases dx <;> cases dy <;> simp only [op2] at e <;> try cases e
  · rename_i i j
    split at e <;> cases e
    rename_i c
    rw [R.int] at r1 r2
    have fin := q z _ (Ext.refl z) rel (R.int.mpr rfl)
    unfold mulOk at c
    simp only [Bool.or_eq_true, Bool.and_eq_true, decide_eq_true_eq] at c
    rcases c with (c | c) | ⟨c1, c2⟩
    · exact op_mul pins s σ z.H x y v u Q I rx ry ⟨i, j, r1, r2, .inl ⟨by omega, by omega⟩, fin⟩
    · exact op_mul pins s σ z.H x y v u Q I rx ry ⟨i, j, r1, r2, .inr ⟨by omega, by omega⟩, fin⟩
    · exact op_mulW pins s σ z.H x y v u Q I rx ry ⟨i, j, r1, r2, by have := bits200 c1; have := bits200 c2; show _ < _; omega, fin⟩
  · rename_i i j
    split at e <;> cases e
    rename_i c
    obtain ⟨c0, c1, c2, c3⟩ := c
    rw [R.int] at r2
    simp only [R] at r1
    obtain ⟨a, vs, rfl, h1, q1⟩ := r1
    have s1 : SqT X.K z.H a vs := by rw [o.K]; rcases h1 with ⟨_, h⟩ | h; exact SqT.of h; exact .inr h
    refine op_repT pins s σ z.H _ _ v u Q I rx ry ⟨a, j, vs, rfl, r2, s1, fun e => ?_, c1, c2, by rw [q1.len]; exact c3, fun p np => ?_⟩
    · have : i = [] := List.eq_nil_of_length_eq_zero (by rw [← q1.len, e]; rfl)
      rw [this] at c0
      cases c0
    · refine q (z.new p (.tup (List.replicate j.toNat vs).flatten)) _ (Ext.new np) (rel.new np (by simp)) ?_
      simp only [R]
      exact ⟨p, _, rfl, .inl ⟨z.new_F p _, z.new_at p _⟩, (q1.rep _).ext (Ext.new np) rel.wf⟩
  · rename_i i j
    split at e <;> cases e
    rename_i c
    obtain ⟨c1, c2, c3⟩ := c
    rw [R.int] at r2
    simp only [R] at r1
    obtain ⟨a, vs, rfl, ⟨_, h1⟩, q1⟩ := r1
    refine op_rep pins s σ z.H _ _ v u Q I rx ry ⟨a, j, vs, rfl, r2, h1, by omega, by omega, ?_, fun p np => ?_⟩
    · rw [q1.len, ← big_eq]
      have : i.length * j.toNat ≤ 1000 * 1000 := Nat.mul_le_mul c3 (by omega)
      unfold big
      omega
    · refine q (z.new p (.lst (List.replicate j.toNat vs).flatten)) _ (Ext.new np) (rel.new np (by simp)) ?_
      simp only [R]
      exact ⟨p, _, rfl, ⟨z.new_F p _, z.new_at p _⟩, (q1.rep _).ext (Ext.new np) rel.wf⟩
theorem op_fdivD : OpR X (binaryOp .FloorDiv) (rO2 G (op2 .fdiv)) := by
  refine ROp.mk fun pins s σ z st x y v u Q dx dy d I rx ry rel r1 r2 e q => ?_
  cases dx <;> cases dy <;> simp only [op2] at e <;> try cases e
  rename_i i j
  split at e <;> cases e
  rename_i c
  rw [R.int] at r1 r2
  rcases c with c | ⟨c1, c2⟩
  · exact op_fdivN pins s σ z.H x y v u Q I rx ry ⟨i, j, r1, r2, c, q z _ (Ext.refl z) rel (R.int.mpr rfl)⟩
  · refine op_fdivW pins s σ z.H x y v u Q I rx ry ⟨i, j, r1, r2, ⟨c1, by have := bits200 c2; omega⟩, q z _ (Ext.refl z) rel (R.int.mpr ?_)⟩
    rw [Int.fdiv_eq_ediv_of_nonneg _ (Int.le_of_lt c1)]

/-! ### comparisons -/
theorem op_eqD' (o : On G X) : OpR X (compareOp .Eq) (rO2 G fun a b => (cmp2 .eq a b).map .bl) := by
  refine ROp.mk fun pins s σ z st x y v u Q dx dy d I rx ry rel r1 r2 e q => ?_
  simp only [cmp2, eqO] at e
  split at e
  · rename_i c
    simp only [Option.map_some, Option.some.injEq] at e
    subst e
    simp only [Bool.and_eq_true, Bool.or_eq_true, decide_eq_true_eq] at c
    obtain ⟨⟨⟨c0, c1⟩, c2⟩, c3⟩ := c
    obtain ⟨as, q1⟩ := Dp.reads I _ x v (by rw [o.K]; exact R.dp dx x r1 c1) rx
    obtain ⟨bs, q2⟩ := Dp.reads I _ y u (by rw [o.K]; exact R.dp dy y r2 c2) ry
    obtain ⟨k, hr⟩ := o.room
    refine SeqAt.compareEq_reads q1 q2 (lay_of dx x r1) (lay_of dy y r2) ?_ ?_
    · have hu := hr.units
      rw [dep_of, dep_of]
      rcases c3 with c3 | c3
      · have : min (dep dx) (dep dy) ≤ dep dy := Nat.min_le_right _ _
        omega
      · have : min (dep dx) (dep dy) ≤ dep dx := Nat.min_le_left _ _
        omega
    · rw [eqv_all dx dy c0 c1 c2]
      exact ⟨.bl _, z.H, I, rfl, q z _ (Ext.refl z) rel (R.bl.mpr rfl)⟩
  · cases e
theorem op_neD' (o : On G X) : OpR X (compareOp .NotEq) (rO2 G fun a b => (cmp2 .ne a b).map .bl) := by
  refine ROp.mk fun pins s σ z st x y v u Q dx dy d I rx ry rel r1 r2 e q => ?_
  simp only [cmp2, eqO] at e
  split at e
  · rename_i c
    simp only [Option.map_some, Option.some.injEq] at e
    subst e
    simp only [Bool.and_eq_true, Bool.or_eq_true, decide_eq_true_eq] at c
    obtain ⟨⟨⟨c0, c1⟩, c2⟩, c3⟩ := c
    obtain ⟨as, q1⟩ := Dp.reads I _ x v (by rw [o.K]; exact R.dp dx x r1 c1) rx
    obtain ⟨bs, q2⟩ := Dp.reads I _ y u (by rw [o.K]; exact R.dp dy y r2 c2) ry
    obtain ⟨k, hr⟩ := o.room
    refine SeqAt.compareNe_reads q1 q2 (lay_of dx x r1) (lay_of dy y r2) ?_ ?_
    · have hu := hr.units
      rw [dep_of, dep_of]
      rcases c3 with c3 | c3
      · have : min (dep dx) (dep dy) ≤ dep dy := Nat.min_le_right _ _
        omega
      · have : min (dep dx) (dep dy) ≤ dep dx := Nat.min_le_left _ _
        omega
    · rw [eqv_all dx dy c0 c1 c2]
      exact ⟨.bl _, z.H, I, rfl, q z _ (Ext.refl z) rel (R.bl.mpr rfl)⟩
  · cases e
theorem op_ordD {op : CmpOp} {c : Cmp} {p : Int → Int → Bool} (h : OpR X (compareOp op) (rI0 fun i j => .bl (p i j)))
    (hg : ∀ dx dy b, cmp2 c dx dy = some b → ∃ i j, dx = .int i ∧ dy = .int j ∧ b = p i j) : OpR X (compareOp op) (rO2 G fun a b => (cmp2 c a b).map .bl) := by
  refine ROp.mk fun pins s σ z st x y v u Q dx dy d I rx ry rel r1 r2 e q => ?_
  obtain ⟨b, e1, rfl⟩ := Option.map_eq_some_iff.mp e
  obtain ⟨i, j, rfl, rfl, rfl⟩ := hg _ _ _ e1
  rw [R.int] at r1 r2
  exact h pins s σ z.H x y v u Q I rx ry ⟨i, j, r1, r2, q z _ (Ext.refl z) rel (R.bl.mpr rfl)⟩
theorem op_ltD : OpR X (compareOp .Lt) (rO2 G fun a b => (cmp2 .lt a b).map .bl) :=
  op_ordD op_lt fun dx dy b e => by cases dx <;> cases dy <;> simp only [cmp2] at e <;> cases e; exact ⟨_, _, rfl, rfl, rfl⟩
theorem op_leD : OpR X (compareOp .LtE) (rO2 G fun a b => (cmp2 .le a b).map .bl) :=
  op_ordD op_le fun dx dy b e => by cases dx <;> cases dy <;> simp only [cmp2] at e <;> cases e; exact ⟨_, _, rfl, rfl, rfl⟩
theorem op_gtD : OpR X (compareOp .Gt) (rO2 G fun a b => (cmp2 .gt a b).map .bl) :=
  op_ordD op_gt fun dx dy b e => by cases dx <;> cases dy <;> simp only [cmp2] at e <;> cases e; exact ⟨_, _, rfl, rfl, rfl⟩
theorem op_geD : OpR X (compareOp .GtE) (rO2 G fun a b => (cmp2 .ge a b).map .bl) :=
  op_ordD op_ge fun dx dy b e => by cases dx <;> cases dy <;> simp only [cmp2] at e <;> cases e; exact ⟨_, _, rfl, rfl, rfl⟩
theorem R.isNon {z : Z} : ∀ {d : D} {x : V}, R G z d x → decide (x = .non) = (match d with | .non => true | _ => false)
  | .non, x, h => by rw [R.non.mp h]; rfl
  | .bl _, x, h => by rw [R.bl.mp h]; rfl
  | .int _, x, h => by rw [R.int.mp h]; rfl
  | .str _, x, h => by rw [(R.str.mp h).1]; rfl
  | .tup _, x, h => by simp only [R] at h; obtain ⟨a, vs, rfl, _⟩ := h; rfl
  | .lst _, x, h => by simp only [R] at h; obtain ⟨a, vs, rfl, _⟩ := h; rfl
  | .dic _, x, h => by simp only [R] at h; obtain ⟨a, vs, rfl, _⟩ := h; rfl
  | .gdic _, x, h => by simp only [R] at h; obtain ⟨a, vs, rfl, _⟩ := h; rfl
  | .obj _ _, x, h => by simp only [R] at h; obtain ⟨a, dx, vs, k, rfl, _⟩ := h; rfl
  | .cell _, x, h => by simp only [R] at h; obtain ⟨a, _, rfl⟩ := h; rfl
  | .scr _, x, h => by simp only [R] at h; obtain ⟨a, rfl, _⟩ := h; rfl
theorem op_isD : OpR X (compareOp .Is) (rO2 G fun a b => (cmp2 .is_ a b).map .bl) := by
  refine ROp.mk fun pins s σ z st x y v u Q dx dy d I rx ry rel r1 r2 e q => ?_
  cases dy <;> simp only [cmp2] at e <;> try cases e
  rw [R.non] at r2
  refine op_isN pins s σ z.H x y v u Q I rx ry ⟨r2, ?_⟩
  rw [r1.isNon]
  exact q z _ (Ext.refl z) rel (R.bl.mpr rfl)
theorem op_isntD : OpR X (compareOp .IsNot) (rO2 G fun a b => (cmp2 .isnt a b).map .bl) := by
  refine ROp.mk fun pins s σ z st x y v u Q dx dy d I rx ry rel r1 r2 e q => ?_
  cases dy <;> simp only [cmp2] at e <;> try cases e
  rw [R.non] at r2
  refine op_notN pins s σ z.H x y v u Q I rx ry ⟨r2, ?_⟩
  rw [r1.isNon]
  refine q z _ (Ext.refl z) rel (R.bl.mpr ?_)
  cases dx <;> rfl
theorem flat_of {z : Z} {d : D} {x : V} (h : R G z d x) (f : flat d = true) : flatV x = true := by
  cases d <;> simp [flat] at f
  · rw [R.non.mp h]; rfl
  · rw [R.bl.mp h]; rfl
  · rw [R.int.mp h]; rfl
  · rw [(R.str.mp h).1]; rfl
theorem flats_of {z : Z} : ∀ {ds : List D} {vs : List V}, Rs G z ds vs → ds.all flat = true → vs.all flatV = true
  | [], vs, h, _ => by rw [Rs.nil.mp h]; rfl
  | d :: ds, vs, h, f => by
    simp only [Rs] at h
    obtain ⟨v, r, rfl, h1, h2⟩ := h
    simp only [List.all_cons, Bool.and_eq_true] at f ⊢
    exact ⟨flat_of h1 f.1, flats_of h2 f.2⟩
theorem R.flat {z : Z} {d : D} {x : V} (h : R G z d x) (f : Fw.flat d = true) : (d = .non ∧ x = .non) ∨ (∃ b, d = .bl b ∧ x = .bl b) ∨ (∃ i, d = .int i ∧ x = .int i) ∨ ∃ s, d = .str s ∧ x = .str (sOf s) := by
  cases d <;> simp [Fw.flat] at f
  · exact .inl ⟨rfl, R.non.mp h⟩
  · exact .inr (.inl ⟨_, rfl, R.bl.mp h⟩)
  · exact .inr (.inr (.inl ⟨_, rfl, R.int.mp h⟩))
  · exact .inr (.inr (.inr ⟨_, rfl, (R.str.mp h).1⟩))
theorem eqV_of {z : Z} {d e : D} {x y : V} (h : R G z d x) (f : flat d = true) (h' : R G z e y) (f' : flat e = true) : eqV x y = deq d e := by
  rcases h.flat f with ⟨rfl, rfl⟩ | ⟨b, rfl, rfl⟩ | ⟨b, rfl, rfl⟩ | ⟨b, rfl, rfl⟩ <;> rcases h'.flat f' with ⟨rfl, rfl⟩ | ⟨c, rfl, rfl⟩ | ⟨c, rfl, rfl⟩ | ⟨c, rfl, rfl⟩ <;> simp only [eqV, deq]
  exact strBeq _ _
theorem inV_of {z : Z} {d : D} {x : V} (h : R G z d x) (f : flat d = true) : ∀ {ds : List D} {vs : List V}, Rs G z ds vs → ds.all flat = true → inV x vs = ds.any fun y => deq y d
  | [], vs, hs, _ => by rw [Rs.nil.mp hs]; rfl
  | e :: ds, vs, hs, fs => by
    simp only [Rs] at hs
    obtain ⟨v, r, rfl, h1, h2⟩ := hs
    simp only [List.all_cons, Bool.and_eq_true] at fs
    have ih := inV_of h f h2 fs.2
    unfold inV at ih ⊢
    rw [List.any_cons, List.any_cons, ih, eqV_of h1 fs.1 h f]
theorem RK.look {z : Z} : ∀ {kvs : List (Txt × D)} {vs : List (Key × V)}, RK G z kvs vs → ∀ k : Txt, match lookT k kvs with
    | some d => ∃ v, valV vs (kOf k) = some v ∧ R G z d v
    | none => valV vs (kOf k) = none
  | [], vs, h, k => by
    have e : vs = [] := by simpa only [RK] using h
    subst e
    exact valV_nil
  | (x, d) :: r, vs, h, k => by
    simp only [RK] at h
    obtain ⟨v, ws, rfl, _, h1, h2⟩ := h
    have ih := RK.look h2 k
    unfold lookT
    by_cases e : x = k
    · rw [if_pos e]
      subst e
      exact ⟨v, valV_pos rfl, h1⟩
    · have ne : ¬ kOf x = kOf k := fun q => e (kOf_inj q)
      rw [if_neg e, valV_neg (by exact ne)]
      exact ih
theorem RK.len {z : Z} : ∀ {kvs : List (Txt × D)} {vs : List (Key × V)}, RK G z kvs vs → vs.length = kvs.length
  | [], vs, h => by
    have e : vs = [] := by simpa only [RK] using h
    subst e
    rfl
  | (x, d) :: r, vs, h => by
    simp only [RK] at h
    obtain ⟨v, ws, rfl, _, h1, h2⟩ := h
    simp [RK.len h2]
theorem on_units (o : On G X) : X.A.units + 1 < cLine := by
  obtain ⟨k, hr⟩ := o.room
  have := hr.units
  omega
theorem dget_frz {H : Hp} {a : Addr} {kvs : List (Key × V)} {k : Key} {o : Obj} (e : H a = some (.frz o (.dK kvs))) : DGet H a (kV k) (valV kvs k) := .inl ⟨kvs, k, .inr ⟨_, e⟩, rfl, rfl⟩
/-- in a dict, as a rule by values -/
theorem op_inDict : OpR X (compareOp .In) (fun x y H Q => X.A.units + 1 < cLine ∧ ∃ a o, y = .ref a ∧ DGet H a x o ∧ Q (.bl o.isSome) H) := by
  intro pins s σ H x y v u Q I rx ry h
  obtain ⟨hu, a, o, rfl, g, q⟩ := h
  cases ry
  exact d_in hu I g rx fun s' I' => ⟨.bl _, H, I', rfl, q⟩
theorem op_notInDict : OpR X (compareOp .NotIn) (fun x y H Q => X.A.units + 1 < cLine ∧ ∃ a o, y = .ref a ∧ DGet H a x o ∧ Q (.bl (!o.isSome)) H) := by
  intro pins s σ H x y v u Q I rx ry h
  obtain ⟨hu, a, o, rfl, g, q⟩ := h
  cases ry
  exact d_notIn hu I g rx fun s' I' => ⟨.bl _, H, I', rfl, q⟩
theorem isIn_seq {z : Z} {dx : D} {x : V} (r1 : R G z dx x) {ds : List D} {vs : List V} (q : Rs G z ds vs) {b : Bool} (e : (if (flat dx && ds.all flat) = true then some (ds.any fun y => deq y dx) else none) = some b) :
    flatV x = true ∧ vs.all flatV = true ∧ inV x vs = b := by
  split at e
  · rename_i c
    cases e
    simp only [Bool.and_eq_true] at c
    exact ⟨flat_of r1 c.1, flats_of q c.2, inV_of r1 c.1 q c.2⟩
  · cases e
theorem KDic.isSome {a : Addr} {vs : List (Key × V)} (h : KDic G a vs) (x : Str) : ∃ es n r, KDict G.K G.w a es n ∧ PySem.W.nsIn G.K a x = some r ∧ RelO (valV vs (Sum.inr x)) r := by
  obtain ⟨es, n, k, h⟩ := h
  obtain ⟨r, e, q⟩ := h x
  exact ⟨es, n, r, k, e, q⟩
theorem op_inD (o : On G X) : OpR X (compareOp .In) (rO2 G fun a b => (cmp2 .in_ a b).map .bl) := by
  refine ROp.mk fun pins s σ z st x y v u Q dx dy d I rx ry rel r1 r2 e q => ?_
  obtain ⟨b, e1, rfl⟩ := Option.map_eq_some_iff.mp e
  have fin := q z _ (Ext.refl z) rel (R.bl.mpr rfl)
  cases dy <;> simp only [cmp2, isIn] at e1 <;> try cases e1
  · rename_i t
    split at e1 <;> cases e1
    rename_i c
    refine op_in_sign pins s σ z.H x y v u Q I rx ry ⟨c, sOf t, (R.str.mp r1).1, (R.str.mp r2).1, ?_⟩
    have e2 : decide (c ∈ (sOf t).cps.toList) = t.contains c := by
      rw [Bool.eq_iff_iff]
      simp [sOf]
      exact ⟨of_decide_eq_true, decide_eq_true⟩
    rw [e2]
    exact fin
  · rename_i ds
    simp only [R] at r2
    obtain ⟨a, vs, rfl, hq, qs⟩ := r2
    obtain ⟨f1, f2, f3⟩ := isIn_seq r1 qs e1
    refine op_in_seq pins s σ z.H x _ v u Q I rx ry ⟨a, vs, rfl, .inr ?_, f1, f2, ?_⟩
    · rw [o.K]
      rcases hq with ⟨_, h⟩ | h
      · exact SqT.of h
      · exact .inr h
    · rw [f3]
      exact fin
  · rename_i ds
    simp only [R] at r2
    obtain ⟨a, vs, rfl, ⟨_, hq⟩, qs⟩ := r2
    obtain ⟨f1, f2, f3⟩ := isIn_seq r1 qs e1
    refine op_in_seq pins s σ z.H x _ v u Q I rx ry ⟨a, vs, rfl, .inl (SqL.of hq), f1, f2, ?_⟩
    rw [f3]
    exact fin
  · rename_i kvs
    split at e1 <;> cases e1
    rename_i k
    simp only [R] at r2
    obtain ⟨a, vs, rfl, hq, qs⟩ := r2
    have lk := qs.look k
    have e0 := (R.str.mp r1).1
    subst e0
    obtain ⟨_, od, hq⟩ := hq
    refine op_inDict pins s σ z.H _ _ v u Q I rx ry ⟨on_units o, a, valV vs (kOf k), rfl, dget_frz (k := kOf k) hq, ?_⟩
    cases el : lookT k kvs with
    | none => rw [el] at lk; rw [lk]; rw [el] at fin; exact fin
    | some d => rw [el] at lk; obtain ⟨w, w2, _⟩ := lk; rw [w2]; rw [el] at fin; exact fin
  · rename_i kvs
    split at e1 <;> cases e1
    rename_i k
    simp only [R] at r2
    obtain ⟨a, vs, rfl, hq, qs⟩ := r2
    have lk := qs.look k
    have e0 := (R.str.mp r1).1
    subst e0
    obtain ⟨es, n, r, kd, e2, ro⟩ := hq.isSome (sOf k)
    have kd' : KDict X.K X.w a es n := by rw [o.K, o.w]; exact kd
    refine op_in_kd kd' pins s σ z.H _ _ v u Q I rx ry ⟨sOf k, r, rfl, rfl, by rw [o.K]; exact e2, ?_⟩
    rw [← ro.isSome_eq]
    have e3 : valV vs (Sum.inr (sOf k)) = valV vs (kOf k) := rfl
    rw [e3]
    cases el : lookT k kvs with
    | none => rw [el] at lk; rw [lk]; rw [el] at fin; exact fin
    | some d => rw [el] at lk; obtain ⟨w, w1, _⟩ := lk; rw [w1]; rw [el] at fin; exact fin
theorem op_notinD (o : On G X) : OpR X (compareOp .NotIn) (rO2 G fun a b => (cmp2 .notin a b).map .bl) := by
  refine ROp.mk fun pins s σ z st x y v u Q dx dy d I rx ry rel r1 r2 e q => ?_
  obtain ⟨b0, e0, rfl⟩ := Option.map_eq_some_iff.mp e
  obtain ⟨b, e1, rfl⟩ := Option.map_eq_some_iff.mp (show (isIn dx dy).map (!·) = some b0 from e0)
  have fin := q z _ (Ext.refl z) rel (R.bl.mpr rfl)
  clear e e0
  cases dy <;> simp only [isIn] at e1 <;> try cases e1
  · rename_i t
    split at e1 <;> cases e1
    rename_i c
    refine op_notIn_sign pins s σ z.H x y v u Q I rx ry ⟨c, sOf t, (R.str.mp r1).1, (R.str.mp r2).1, ?_⟩
    have e2 : decide (c ∈ (sOf t).cps.toList) = t.contains c := by
      rw [Bool.eq_iff_iff]
      simp [sOf]
      exact ⟨of_decide_eq_true, decide_eq_true⟩
    rw [e2]
    exact fin
  · rename_i ds
    simp only [R] at r2
    obtain ⟨a, vs, rfl, hq, qs⟩ := r2
    obtain ⟨f1, f2, f3⟩ := isIn_seq r1 qs e1
    refine op_notIn_seq pins s σ z.H x _ v u Q I rx ry ⟨a, vs, rfl, .inr ?_, f1, f2, ?_⟩
    · rw [o.K]
      rcases hq with ⟨_, h⟩ | h
      · exact SqT.of h
      · exact .inr h
    · rw [f3]
      exact fin
  · rename_i ds
    simp only [R] at r2
    obtain ⟨a, vs, rfl, ⟨_, hq⟩, qs⟩ := r2
    obtain ⟨f1, f2, f3⟩ := isIn_seq r1 qs e1
    refine op_notIn_seq pins s σ z.H x _ v u Q I rx ry ⟨a, vs, rfl, .inl (SqL.of hq), f1, f2, ?_⟩
    rw [f3]
    exact fin
  · rename_i kvs
    split at e1 <;> cases e1
    rename_i k
    simp only [R] at r2
    obtain ⟨a, vs, rfl, hq, qs⟩ := r2
    have lk := qs.look k
    have e5 := (R.str.mp r1).1
    subst e5
    obtain ⟨_, od, hq⟩ := hq
    refine op_notInDict pins s σ z.H _ _ v u Q I rx ry ⟨on_units o, a, valV vs (kOf k), rfl, dget_frz (k := kOf k) hq, ?_⟩
    cases el : lookT k kvs with
    | none => rw [el] at lk; rw [lk]; rw [el] at fin; exact fin
    | some d => rw [el] at lk; obtain ⟨w, w2, _⟩ := lk; rw [w2]; rw [el] at fin; exact fin
  · rename_i kvs
    split at e1 <;> cases e1
    rename_i k
    simp only [R] at r2
    obtain ⟨a, vs, rfl, hq, qs⟩ := r2
    have lk := qs.look k
    have e5 := (R.str.mp r1).1
    subst e5
    obtain ⟨es, n, r, kd, e2, ro⟩ := hq.isSome (sOf k)
    have kd' : KDict X.K X.w a es n := by rw [o.K, o.w]; exact kd
    refine op_notIn_kd kd' pins s σ z.H _ _ v u Q I rx ry ⟨sOf k, r, rfl, rfl, by rw [o.K]; exact e2, ?_⟩
    rw [← ro.isSome_eq]
    have e3 : valV vs (Sum.inr (sOf k)) = valV vs (kOf k) := rfl
    rw [e3]
    cases el : lookT k kvs with
    | none => rw [el] at lk; rw [lk]; rw [el] at fin; exact fin
    | some d => rw [el] at lk; obtain ⟨w, w1, _⟩ := lk; rw [w1]; rw [el] at fin; exact fin
end
end Fw

set_option Elab.async false
set_option linter.all false
set_option maxRecDepth 100000
set_option autoImplicit false
set_option maxHeartbeats 1000000
/-! Fw3: items, slices, the built-in functions. -/
namespace Fw
open PySem L2
section
variable {G : Gd} {X : Cx}

/-! ### items -/
theorem ixN_eq (n : Nat) (i : Int) : L2.ixN n i = Fw.ixN n i := rfl
theorem R.seqT {z : Z} {ds : List D} {v : V} (o : On G X) (h : R G z (.tup ds) v) : ∃ a vs, v = .ref a ∧ SqT X.K z.H a vs ∧ Rs G z ds vs := by
  simp only [R] at h
  obtain ⟨a, vs, e, hq, r⟩ := h
  refine ⟨a, vs, e, ?_, r⟩
  rw [o.K]
  rcases hq with ⟨_, h⟩ | h
  · exact SqT.of h
  · exact .inr h
theorem R.seqL {z : Z} {ds : List D} {v : V} (o : On G X) (h : R G z (.lst ds) v) : ∃ a vs, v = .ref a ∧ z.H a = some (.lst vs) ∧ SqL X.K z.H a vs ∧ Rs G z ds vs := by
  simp only [R] at h
  obtain ⟨a, vs, e, ⟨_, hq⟩, r⟩ := h
  exact ⟨a, vs, e, hq, SqL.of hq, r⟩
theorem R.seqS {z : Z} {ns : List Int} {v : V} (o : On G X) (h : R G z (.scr ns) v) : ∃ a, v = .ref a ∧ SqL X.K z.H a (ns.map V.int) := by
  simp only [R] at h
  obtain ⟨a, e, hq⟩ := h
  refine ⟨a, e, ?_⟩
  rw [o.K]
  rcases hq with ⟨_, h⟩ | h
  · exact .inl h
  · exact .inr h
theorem atI_of {z : Z} {ds : List D} {vs : List V} {i : Int} {d : D} (r : Rs G z ds vs) (e : ((Fw.ixN ds.length i).bind fun j => ds[j]?) = some d) : ∃ v, L2.atI vs i = some v ∧ R G z d v := by
  obtain ⟨j, e1, e2⟩ := Option.bind_eq_some_iff.mp e
  obtain ⟨v, h1, h2⟩ := r.get e2
  refine ⟨v, ?_, h2⟩
  unfold L2.atI
  rw [r.len, ixN_eq, e1]
  exact h1
theorem ixD (o : On G X) : IxR X (rO2 G atD) := by
  intro value slice pins s σ H x y v u Q I rx ry q hs
  obtain ⟨z, st, dx, dy, d, rfl, rel, r1, r2, e, q⟩ := q
  cases dx <;> cases dy <;> simp only [atD] at e <;> try cases e
  · rename_i t i
    split at e
    · rename_i hl
      obtain ⟨c, e1, rfl⟩ := Option.map_eq_some_iff.mp e
      refine ix_str value slice pins s σ z.H x y v u Q I rx ry ⟨sOf t, i, c, (R.str.mp r1).1, R.int.mp r2, by rw [len_sOf, ← big_eq]; exact hl, ?_, ?_⟩ hs
      · obtain ⟨j, e2, e3⟩ := Option.bind_eq_some_iff.mp e1
        unfold L2.atI
        rw [show (sOf t).cps.toList.length = t.length by simp [sOf], ixN_eq, e2]
        simpa [sOf] using e3
      · refine q z _ (Ext.refl z) rel (R.str.mpr ⟨rfl, ?_⟩)
        obtain ⟨j, e2, e3⟩ := Option.bind_eq_some_iff.mp e1
        have hm : c ∈ t := List.mem_of_getElem? e3
        have ok := (R.str.mp r1).2
        simp only [okT, List.all_cons, List.all_nil, Bool.and_true]
        exact List.all_eq_true.mp ok c hm
    · cases e
  · rename_i ds i
    obtain ⟨a, vs, rfl, hq, r⟩ := r1.seqT o
    obtain ⟨w, e1, r3⟩ := atI_of r e
    exact ix_tup value slice pins s σ z.H _ y v u Q I rx ry ⟨a, vs, i, w, rfl, R.int.mp r2, hq, e1, q z _ (Ext.refl z) rel r3⟩ hs
  · rename_i ds i
    obtain ⟨a, vs, rfl, _, hq, r⟩ := r1.seqL o
    obtain ⟨w, e1, r3⟩ := atI_of r e
    exact ix_list value slice pins s σ z.H _ y v u Q I rx ry ⟨a, vs, i, w, rfl, R.int.mp r2, hq, e1, q z _ (Ext.refl z) rel r3⟩ hs
  · rename_i kvs k
    simp only [R] at r1
    obtain ⟨a, vs, rfl, hq, qs⟩ := r1
    have lk := qs.look k
    rw [e] at lk
    obtain ⟨w, e1, r3⟩ := lk
    have fin := q z _ (Ext.refl z) rel r3
    have e5 := (R.str.mp r2).1
    subst e5
    obtain ⟨_, od, hq⟩ := hq
    obtain rfl : v = Value.ref a := rx
    have g : DGet z.H a (kV (kOf k)) (some w) := by
      have := dget_frz (k := kOf k) hq
      rw [e1] at this
      exact this
    exact PyProof.Rows.tail_any (dict_typeIs I g) PySem.F.slot_dict_getitem.lookup (d_getItem (on_units o) I g ry fun w' s3 I3 rw' => ⟨w, z.H, I3, rw', fin⟩) hs
  · rename_i kvs k
    simp only [R] at r1
    obtain ⟨a, vs, rfl, hq, qs⟩ := r1
    have lk := qs.look k
    rw [e] at lk
    obtain ⟨w, e1, r3⟩ := lk
    have fin := q z _ (Ext.refl z) rel r3
    have e5 := (R.str.mp r2).1
    subst e5
    obtain ⟨es, n, r, kd, e2, ro⟩ := hq.isSome (sOf k)
    have e3 : valV vs (Sum.inr (sOf k)) = some w := e1
    rw [e3] at ro
    cases r with
    | none => exact ro.elim
    | some u0 =>
      refine ix_kdict value slice pins s σ z.H _ _ v u Q I rx ry ⟨a, sOf k, w, rfl, rfl, ⟨es, n, u0, ?_, ?_, ?_, ro⟩, fin⟩ hs
      · rw [o.K]; exact kd.at_
      · rw [o.w]; exact kd.lit
      · rw [o.K]; exact e2
  · rename_i ns i
    obtain ⟨a, rfl, hq⟩ := r1.seqS o
    obtain ⟨n, e1, rfl⟩ := Option.map_eq_some_iff.mp e
    obtain ⟨j, e2, e3⟩ := Option.bind_eq_some_iff.mp e1
    refine ix_list value slice pins s σ z.H _ y v u Q I rx ry ⟨a, _, i, .int n, rfl, R.int.mp r2, hq, ?_, q z _ (Ext.refl z) rel (R.int.mpr rfl)⟩ hs
    unfold L2.atI
    rw [List.length_map, ixN_eq, e2]
    show (ns.map V.int)[j]? = _
    rw [List.getElem?_map, e3]
    rfl

/-! ### slices -/
def rSl (G : Gd) : V → Option Int → Option Int → Hp → VK → Prop := fun x lo hi H Q => ∃ z st dx d, z.H = H ∧ Rel G z st ∧ R G z dx x ∧ cutD dx lo hi = some d ∧ ∀ z' v, Ext z z' → Rel G z' st → R G z' d v → Q v z'.H
theorem sIx_eq (n d : Nat) (o : Option Int) : HT.sIx n d o = Fw.sIx n d o := by
  cases o <;> rfl
theorem cutV_of {z : Z} {ds : List D} {vs : List V} (r : Rs G z ds vs) (lo hi : Option Int) : Rs G z (cutL ds lo hi) (cutV vs lo hi) := by
  unfold cutL cutV
  rw [r.len, sIx_eq, sIx_eq]
  exact (r.drop _).take _
theorem okT_cut {t : Txt} (h : okT t = true) (lo hi : Option Int) : okT (cutL t lo hi) = true := by
  unfold okT cutL at *
  rw [List.all_eq_true] at *
  exact fun x hx => h x (List.mem_of_mem_drop (List.mem_of_mem_take hx))
theorem slD (o : On G X) : SlR X (rSl G) := by
  intro pins s σ H x v vl vu lo hi sl Q I rx hs pl pu q
  obtain ⟨z, st, dx, d, rfl, rel, r1, e, q⟩ := q
  cases dx <;> simp only [cutD] at e <;> try cases e
  · rename_i t
    split at e <;> cases e
    rename_i hl
    refine sl_str pins s σ z.H x v vl vu lo hi sl Q I rx hs pl pu ⟨sOf t, (R.str.mp r1).1, by rw [len_sOf, ← big_eq]; exact hl, ?_⟩
    refine q z _ (Ext.refl z) rel (R.str.mpr ⟨?_, okT_cut (R.str.mp r1).2 _ _⟩)
    unfold cutS cutL
    rw [len_sOf, sIx_eq, sIx_eq]
    simp [sOf]
  · rename_i ds
    obtain ⟨a, vs, rfl, hq, r⟩ := r1.seqT o
    refine sl_tupA pins s σ z.H _ v vl vu lo hi sl Q I rx hs pl pu ⟨a, vs, rfl, hq, fun hw => ?_, fun _ p np => ?_⟩
    · refine q z _ (Ext.refl z) rel ?_
      have e : cutL ds lo hi = ds := by
        unfold cutL
        rw [← r.len, ← sIx_eq, ← sIx_eq, hw.1, hw.2, List.drop_zero, Nat.sub_zero, r.len, List.take_length]
      rw [e]
      exact r1
    · refine q (z.new p (.tup (cutV vs lo hi))) _ (Ext.new np) (rel.new np (by simp)) ?_
      simp only [R]
      exact ⟨p, _, rfl, .inl ⟨z.new_F p _, z.new_at p _⟩, (cutV_of r lo hi).ext (Ext.new np) rel.wf⟩
  · rename_i ds
    obtain ⟨a, vs, rfl, _, hq, r⟩ := r1.seqL o
    refine sl_list pins s σ z.H _ v vl vu lo hi sl Q I rx hs pl pu ⟨a, vs, rfl, hq, fun p np => ?_⟩
    refine q (z.new p (.lst (cutV vs lo hi))) _ (Ext.new np) (rel.new np (by simp)) ?_
    simp only [R]
    exact ⟨p, _, rfl, ⟨z.new_F p _, z.new_at p _⟩, (cutV_of r lo hi).ext (Ext.new np) rel.wf⟩

/-! ### built-in functions -/
def rBl (G : Gd) (g : List D → Option D) : List V → Hp → VK → Prop := fun vs H Q => ∃ z st ds d, z.H = H ∧ Rel G z st ∧ Rs G z ds vs ∧ g ds = some d ∧ ∀ z' v, Ext z z' → Rel G z' st → R G z' d v → Q v z'.H
theorem CallR.mk' {f : Value} {g : List D → Option D}
    (h : ∀ (pins : List (Addr × Obj)) (s : Shared) (σ : L2.St) (z : Z) (st : Store) (vs : List V) (us : List Value) (Q : VK) (ds : List D) (d : D), L2.Inv X pins σ z.H s → Vals vs us → Rel G z st → Rs G z ds vs → g ds = some d →
      (∀ z' v, Ext z z' → Rel G z' st → R G z' d v → Q v z'.H) → wpAny (model X.prog X.w) X.A (call f us) (EP X pins σ Q) X.xe s) : CallR X f (rBl G g) := by
  intro pins s σ H vs us Q I r q
  obtain ⟨z, st, ds, d, rfl, rel, rs, e, q⟩ := q
  exact h pins s σ z st vs us Q ds d I r rel rs e q
theorem Rs.one {z : Z} {d : D} {vs : List V} (h : Rs G z [d] vs) : ∃ v, vs = [v] ∧ R G z d v := by
  simp only [Rs] at h
  obtain ⟨v, r, rfl, h1, rfl⟩ := h
  exact ⟨v, rfl, h1⟩
theorem Rs.two {z : Z} {d e : D} {vs : List V} (h : Rs G z [d, e] vs) : ∃ v w, vs = [v, w] ∧ R G z d v ∧ R G z e w := by
  simp only [Rs] at h
  obtain ⟨v, r, rfl, h1, w, r', rfl, h2, rfl⟩ := h
  exact ⟨v, w, rfl, h1, h2⟩
theorem b_len (o : On G X) : CallR X (.builtin "len") (rBl G bLen) := by
  refine CallR.mk' fun pins s σ z st vs us Q ds d I r rel rs e q => ?_
  unfold bLen at e
  split at e <;> try cases e
  · obtain ⟨v, rfl, h⟩ := rs.one
    obtain ⟨a, ws, rfl, hq, rr⟩ := h.seqT o
    exact call_len pins s σ z.H _ us Q I r ⟨.ref a, ws.length, rfl, .inr ⟨ws, hq, rfl⟩, q z _ (Ext.refl z) rel (R.int.mpr (by rw [rr.len]))⟩
  · obtain ⟨v, rfl, h⟩ := rs.one
    obtain ⟨a, ws, rfl, _, hq, rr⟩ := h.seqL o
    exact call_len pins s σ z.H _ us Q I r ⟨.ref a, ws.length, rfl, .inl ⟨ws, hq, rfl⟩, q z _ (Ext.refl z) rel (R.int.mpr (by rw [rr.len]))⟩
  · obtain ⟨v, rfl, h⟩ := rs.one
    obtain ⟨a, rfl, hq⟩ := h.seqS o
    exact call_len pins s σ z.H _ us Q I r ⟨.ref a, _, rfl, .inl ⟨_, hq, rfl⟩, q z _ (Ext.refl z) rel (R.int.mpr (by rw [List.length_map]))⟩
  · obtain ⟨v, rfl, h⟩ := rs.one
    split at e <;> cases e
    rename_i hl
    rw [R.str] at h
    obtain ⟨rfl, _⟩ := h
    exact call_len pins s σ z.H _ us Q I r ⟨_, _, rfl, ⟨by rw [len_sOf, ← big_eq]; exact hl, rfl⟩, q z _ (Ext.refl z) rel (R.int.mpr (by rw [len_sOf]))⟩
theorem b_abs : CallR X (.builtin "abs") (rBl G bAbs) := by
  refine CallR.mk' fun pins s σ z st vs us Q ds d I r rel rs e q => ?_
  unfold bAbs at e
  split at e <;> try cases e
  obtain ⟨v, rfl, h⟩ := rs.one
  rw [R.int] at h
  subst h
  exact call_abs pins s σ z.H _ us Q I r ⟨_, rfl, q z _ (Ext.refl z) rel (R.int.mpr rfl)⟩
theorem b_min2 (o : On G X) : CallR X (.builtin "min") (rBl G bMin2) := by
  refine CallR.mk' fun pins s σ z st vs us Q ds d I r rel rs e q => ?_
  unfold bMin2 at e
  split at e <;> try cases e
  obtain ⟨v, w, rfl, h, h'⟩ := rs.two
  rw [R.int] at h h'
  subst h h'
  exact call_min2 o.calm pins s σ z.H _ us Q I r ⟨_, _, rfl, q z _ (Ext.refl z) rel (R.int.mpr rfl)⟩
theorem b_max2 (o : On G X) : CallR X (.builtin "max") (rBl G bMax2) := by
  refine CallR.mk' fun pins s σ z st vs us Q ds d I r rel rs e q => ?_
  unfold bMax2 at e
  split at e <;> try cases e
  obtain ⟨v, w, rfl, h, h'⟩ := rs.two
  rw [R.int] at h h'
  subst h h'
  exact call_max2 o.calm pins s σ z.H _ us Q I r ⟨_, _, rfl, q z _ (Ext.refl z) rel (R.int.mpr rfl)⟩
theorem b_int1 : CallR X (.type "int") (rBl G bInt) := by
  refine CallR.mk' fun pins s σ z st vs us Q ds d I r rel rs e q => ?_
  unfold bInt at e
  split at e <;> try cases e
  · obtain ⟨v, rfl, h⟩ := rs.one
    rw [R.int] at h
    subst h
    exact call_int1 pins s σ z.H _ us Q I r (.inl ⟨_, rfl, q z _ (Ext.refl z) rel (R.int.mpr rfl)⟩)
  · obtain ⟨v, rfl, h⟩ := rs.one
    rw [R.bl] at h
    subst h
    exact call_int1 pins s σ z.H _ us Q I r (.inr ⟨_, rfl, q z _ (Ext.refl z) rel (R.int.mpr rfl)⟩)
theorem asIs_eq : ∀ {ds : List D} {ns : List Int}, asIs ds = some ns → ds = ns.map .int
  | [], ns, e => by cases e; rfl
  | .int i :: r, ns, e => by
    obtain ⟨m, e1, rfl⟩ := Option.map_eq_some_iff.mp e
    rw [asIs_eq e1]; rfl
  | .non :: _, _, e | .bl _ :: _, _, e | .str _ :: _, _, e | .tup _ :: _, _, e | .lst _ :: _, _, e | .dic _ :: _, _, e | .obj _ _ :: _, _, e | .cell _ :: _, _, e | .scr _ :: _, _, e => by cases e
theorem asBs_eq : ∀ {ds : List D} {ns : List Bool}, asBs ds = some ns → ds = ns.map .bl
  | [], ns, e => by cases e; rfl
  | .bl i :: r, ns, e => by
    obtain ⟨m, e1, rfl⟩ := Option.map_eq_some_iff.mp e
    rw [asBs_eq e1]; rfl
  | .non :: _, _, e | .int _ :: _, _, e | .str _ :: _, _, e | .tup _ :: _, _, e | .lst _ :: _, _, e | .dic _ :: _, _, e | .obj _ _ :: _, _, e | .cell _ :: _, _, e | .scr _ :: _, _, e => by cases e
theorem R.ints {z : Z} {ds : List D} {ns : List Int} {v : V} (o : On G X) (h : R G z (.lst ds) v) (e : asIs ds = some ns) : ∃ a, v = .ref a ∧ SqL X.K z.H a (ns.map V.int) := by
  obtain ⟨a, ws, rfl, _, hq, rr⟩ := h.seqL o
  rw [asIs_eq e, Rs.ints] at rr
  subst rr
  exact ⟨a, rfl, hq⟩
theorem R.bools {z : Z} {ds : List D} {ns : List Bool} {v : V} (o : On G X) (h : R G z (.lst ds) v) (e : asBs ds = some ns) : ∃ a, v = .ref a ∧ SqL X.K z.H a (ns.map V.bl) := by
  obtain ⟨a, ws, rfl, _, hq, rr⟩ := h.seqL o
  rw [asBs_eq e, Rs.bls] at rr
  subst rr
  exact ⟨a, rfl, hq⟩
theorem b_sum (o : On G X) : CallR X (.builtin "sum") (rBl G bSum) := by
  refine CallR.mk' fun pins s σ z st vs us Q ds d I r rel rs e q => ?_
  unfold bSum at e
  split at e <;> try cases e
  obtain ⟨v, rfl, h⟩ := rs.one
  obtain ⟨ns, e1, rfl⟩ := Option.map_eq_some_iff.mp e
  obtain ⟨a, rfl, hq⟩ := h.ints o e1
  exact cr_sum o.calm pins s σ z.H _ us Q I r ⟨a, ns, rfl, hq, q z _ (Ext.refl z) rel (R.int.mpr rfl)⟩
theorem b_all (o : On G X) : CallR X (.builtin "all") (rBl G bAll) := by
  refine CallR.mk' fun pins s σ z st vs us Q ds d I r rel rs e q => ?_
  unfold bAll at e
  split at e <;> try cases e
  obtain ⟨v, rfl, h⟩ := rs.one
  obtain ⟨ns, e1, rfl⟩ := Option.map_eq_some_iff.mp e
  obtain ⟨a, rfl, hq⟩ := h.bools o e1
  exact cr_all o.calm pins s σ z.H _ us Q I r ⟨a, ns, rfl, hq, q z _ (Ext.refl z) rel (R.bl.mpr rfl)⟩
theorem b_any (o : On G X) : CallR X (.builtin "any") (rBl G bAny) := by
  refine CallR.mk' fun pins s σ z st vs us Q ds d I r rel rs e q => ?_
  unfold bAny at e
  split at e <;> try cases e
  obtain ⟨v, rfl, h⟩ := rs.one
  obtain ⟨ns, e1, rfl⟩ := Option.map_eq_some_iff.mp e
  obtain ⟨a, rfl, hq⟩ := h.bools o e1
  exact cr_any o.calm pins s σ z.H _ us Q I r ⟨a, ns, rfl, hq, q z _ (Ext.refl z) rel (R.bl.mpr rfl)⟩
theorem foldMin : ∀ (r : List Int) (i : Int), (r.foldl min i = i ∨ r.foldl min i ∈ r) ∧ r.foldl min i ≤ i ∧ ∀ y ∈ r, r.foldl min i ≤ y
  | [], i => ⟨.inl rfl, Int.le_refl _, fun _ h => nomatch h⟩
  | a :: r, i => by
    obtain ⟨h1, h2, h3⟩ := foldMin r (min i a)
    rw [List.foldl_cons]
    refine ⟨?_, by omega, fun y hy => ?_⟩
    · rcases h1 with h1 | h1
      · rw [h1]
        by_cases c : i ≤ a
        · left; omega
        · right; have : min i a = a := by omega
          rw [this]; exact List.mem_cons_self
      · exact .inr (List.mem_cons_of_mem _ h1)
    · rcases List.mem_cons.mp hy with rfl | hy
      · omega
      · exact h3 y hy
theorem foldMax : ∀ (r : List Int) (i : Int), (r.foldl max i = i ∨ r.foldl max i ∈ r) ∧ i ≤ r.foldl max i ∧ ∀ y ∈ r, y ≤ r.foldl max i
  | [], i => ⟨.inl rfl, Int.le_refl _, fun _ h => nomatch h⟩
  | a :: r, i => by
    obtain ⟨h1, h2, h3⟩ := foldMax r (max i a)
    rw [List.foldl_cons]
    refine ⟨?_, by omega, fun y hy => ?_⟩
    · rcases h1 with h1 | h1
      · rw [h1]
        by_cases c : a ≤ i
        · left; omega
        · right; have : max i a = a := by omega
          rw [this]; exact List.mem_cons_self
      · exact .inr (List.mem_cons_of_mem _ h1)
    · rcases List.mem_cons.mp hy with rfl | hy
      · omega
      · exact h3 y hy
theorem minI_is {ns : List Int} (h : ns ≠ []) : minI ns ∈ ns ∧ ∀ y ∈ ns, minI ns ≤ y := by
  cases ns with
  | nil => exact absurd rfl h
  | cons i r =>
    obtain ⟨h1, h2, h3⟩ := foldMin r i
    refine ⟨?_, fun y hy => ?_⟩
    · show r.foldl min i ∈ _
      rcases h1 with h1 | h1
      · rw [h1]; exact List.mem_cons_self
      · exact List.mem_cons_of_mem _ h1
    · rcases List.mem_cons.mp hy with rfl | hy
      · exact h2
      · exact h3 y hy
theorem maxI_is {ns : List Int} (h : ns ≠ []) : maxI ns ∈ ns ∧ ∀ y ∈ ns, y ≤ maxI ns := by
  cases ns with
  | nil => exact absurd rfl h
  | cons i r =>
    obtain ⟨h1, h2, h3⟩ := foldMax r i
    refine ⟨?_, fun y hy => ?_⟩
    · show r.foldl max i ∈ _
      rcases h1 with h1 | h1
      · rw [h1]; exact List.mem_cons_self
      · exact List.mem_cons_of_mem _ h1
    · rcases List.mem_cons.mp hy with rfl | hy
      · exact h2
      · exact h3 y hy
theorem b_min (o : On G X) : CallR X (.builtin "min") (rBl G bMin1) := by
  refine CallR.mk' fun pins s σ z st vs us Q ds d I r rel rs e q => ?_
  unfold bMin1 at e
  split at e <;> try cases e
  obtain ⟨v, rfl, h⟩ := rs.one
  split at e
  · cases e
  rename_i hne
  obtain ⟨ns, e1, rfl⟩ := Option.map_eq_some_iff.mp e
  obtain ⟨a, rfl, hq⟩ := h.ints o e1
  have ne : ns ≠ [] := fun z => hne (by rw [asIs_eq e1, z]; rfl)
  have hm := minI_is ne
  refine cr_min o.calm pins s σ z.H _ us Q I r ⟨a, ns, rfl, hq, List.length_pos_iff.mpr ne, fun m hm1 hm2 => ?_⟩
  have : m = minI ns := Int.le_antisymm (hm2 _ hm.1) (hm.2 _ hm1)
  rw [this]
  exact q z _ (Ext.refl z) rel (R.int.mpr rfl)
theorem b_max (o : On G X) : CallR X (.builtin "max") (rBl G bMax1) := by
  refine CallR.mk' fun pins s σ z st vs us Q ds d I r rel rs e q => ?_
  unfold bMax1 at e
  split at e <;> try cases e
  obtain ⟨v, rfl, h⟩ := rs.one
  split at e
  · cases e
  rename_i hne
  obtain ⟨ns, e1, rfl⟩ := Option.map_eq_some_iff.mp e
  obtain ⟨a, rfl, hq⟩ := h.ints o e1
  have ne : ns ≠ [] := fun z => hne (by rw [asIs_eq e1, z]; rfl)
  have hm := maxI_is ne
  refine cr_max o.calm pins s σ z.H _ us Q I r ⟨a, ns, rfl, hq, List.length_pos_iff.mpr ne, fun m hm1 hm2 => ?_⟩
  have : m = maxI ns := Int.le_antisymm (hm.2 _ hm1) (hm2 _ hm.1)
  rw [this]
  exact q z _ (Ext.refl z) rel (R.int.mpr rfl)
theorem R.newL {z : Z} {st : Store} {ds : List D} {vs : List V} (rel : Rel G z st) (rr : Rs G z ds vs) {p : Addr} (np : z.H p = none) : R G (z.new p (.lst vs)) (.lst ds) (.ref p) := by
  simp only [R]
  exact ⟨p, _, rfl, ⟨z.new_F p _, z.new_at p _⟩, rr.ext (Ext.new np) rel.wf⟩
theorem R.newT {z : Z} {st : Store} {ds : List D} {vs : List V} (rel : Rel G z st) (rr : Rs G z ds vs) {p : Addr} (np : z.H p = none) : R G (z.new p (.tup vs)) (.tup ds) (.ref p) := by
  simp only [R]
  exact ⟨p, _, rfl, .inl ⟨z.new_F p _, z.new_at p _⟩, rr.ext (Ext.new np) rel.wf⟩
theorem RK.keys {z : Z} : ∀ {kvs : List (Txt × D)} {vs : List (Key × V)}, RK G z kvs vs → Rs G z (kvs.map fun kv => .str kv.1) (vs.map fun kv => kV kv.1)
  | [], vs, h => by
    have e : vs = [] := by simpa only [RK] using h
    subst e
    exact Rs.nil.mpr rfl
  | (k, d) :: r, vs, h => by
    simp only [RK] at h
    obtain ⟨v, ws, rfl, h0, h1, h2⟩ := h
    exact Rs.mk _ _ (R.str.mpr ⟨rfl, h0⟩) (RK.keys h2)
theorem b_list (o : On G X) : CallR X (.type "list") (rBl G bList) := by
  refine CallR.mk' fun pins s σ z st vs us Q ds d I r rel rs e q => ?_
  unfold bList at e
  split at e <;> try cases e
  · obtain ⟨v, rfl, h⟩ := rs.one
    obtain ⟨a, ws, rfl, hq, rr⟩ := h.seqT o
    exact call_list_of pins s σ z.H _ us Q I r ⟨a, ws, rfl, .inr hq, fun p np => q (z.new p _) _ (Ext.new np) (rel.new np (by simp)) (R.newL rel rr np)⟩
  · obtain ⟨v, rfl, h⟩ := rs.one
    obtain ⟨a, ws, rfl, _, hq, rr⟩ := h.seqL o
    exact call_list_of pins s σ z.H _ us Q I r ⟨a, ws, rfl, .inl hq, fun p np => q (z.new p _) _ (Ext.new np) (rel.new np (by simp)) (R.newL rel rr np)⟩
  · obtain ⟨v, rfl, h⟩ := rs.one
    simp only [R] at h
    obtain ⟨a, ws, rfl, ⟨_, od, hq⟩, rr⟩ := h
    exact call_listD o.calm pins s σ z.H _ us Q I r ⟨a, ws, rfl, .inr ⟨od, hq⟩, fun p np => q (z.new p _) _ (Ext.new np) (rel.new np (by simp)) (R.newL rel rr.keys np)⟩
theorem b_tuple (o : On G X) : CallR X (.type "tuple") (rBl G bTuple) := by
  refine CallR.mk' fun pins s σ z st vs us Q ds d I r rel rs e q => ?_
  unfold bTuple at e
  split at e <;> try cases e
  · obtain ⟨v, rfl, h⟩ := rs.one
    obtain ⟨a, ws, rfl, hq, rr⟩ := h.seqT o
    exact call_tuple_of pins s σ z.H _ us Q I r ⟨a, ws, rfl, .inr ⟨hq, q z _ (Ext.refl z) rel h⟩⟩
  · obtain ⟨v, rfl, h⟩ := rs.one
    obtain ⟨a, ws, rfl, _, hq, rr⟩ := h.seqL o
    exact call_tuple_of pins s σ z.H _ us Q I r ⟨a, ws, rfl, .inl ⟨hq, fun p np => q (z.new p _) _ (Ext.new np) (rel.new np (by simp)) (R.newT rel rr np)⟩⟩
/-- a class by its name -/
def tyN : Ty → String
  | .int => "int" | .bool => "bool" | .str => "str" | .tuple => "tuple" | .list => "list"
theorem kitAll : ∀ t : Ty, ∀ a ∈ ["NoneType", "bool", "int", "str", "list", "tuple"], kitB a (tyN t) = some (a == tyN t || (a == "bool" && tyN t == "int")) := by
  intro t a ha
  cases t <;> simp only [List.mem_cons, List.not_mem_nil, or_false] at ha <;> rcases ha with rfl | rfl | rfl | rfl | rfl | rfl <;> decide +kernel
theorem b_isinst (o : On G X) (t : Ty) : CallR X (.builtin "isinstance") (fun vs H Q => ∃ v, vs = [v, .ty (tyN t)] ∧ rBl G (bIsinst t) [v] H Q) := by
  intro pins s σ H vs us Q I r q
  obtain ⟨v, rfl, z, st, ds, d, rfl, rel, rs, e, q⟩ := q
  unfold bIsinst at e
  split at e <;> try cases e
  rename_i x
  obtain ⟨v', ev, h⟩ := rs.one
  cases ev
  obtain ⟨b, e1, rfl⟩ := Option.map_eq_some_iff.mp e
  have fin := q z _ (Ext.refl z) rel (R.bl.mpr rfl)
  have go : ∀ {a : String}, TyX X.K z.H v (.type a) → kitB a (tyN t) = some b → wpAny (model X.prog X.w) X.A (call (.builtin "isinstance") us) (EP X pins σ Q) X.xe s := fun ty k =>
    call_isi pins s σ z.H _ us Q I r ⟨v, .ty (tyN t), _, .type (tyN t), b, rfl, .ty _, ty, kit_ty k, fin⟩
  have K1 := kitAll t
  cases x <;> simp only [tyIs] at e1
  · rw [R.non] at h; subst h
    refine go (a := "NoneType") (.base .non) ?_
    rw [K1 _ (by simp)]
    cases t <;> cases e1 <;> decide
  · rw [R.bl] at h; subst h
    refine go (a := "bool") (.base (.bl _)) ?_
    rw [K1 _ (by simp)]
    cases t <;> cases e1 <;> decide
  · rw [R.int] at h; subst h
    refine go (a := "int") (.base (.int _)) ?_
    rw [K1 _ (by simp)]
    cases t <;> cases e1 <;> decide
  · rw [R.str] at h; obtain ⟨rfl, _⟩ := h
    refine go (a := "str") (.base (.str _)) ?_
    rw [K1 _ (by simp)]
    cases t <;> cases e1 <;> decide
  · simp only [R] at h
    obtain ⟨a, ws, rfl, hq, _⟩ := h
    refine go (a := "tuple") ?_ ?_
    · rcases hq with ⟨_, hq⟩ | ⟨ob, its, n, l, c, _⟩
      · exact .base (.tup hq)
      · exact .kTuple (o := ob) (by rw [o.K]; exact l) c
    · rw [K1 _ (by simp)]
      cases t <;> cases e1 <;> decide
  · simp only [R] at h
    obtain ⟨a, ws, rfl, ⟨_, hq⟩, _⟩ := h
    refine go (a := "list") (.base (.lst hq)) ?_
    rw [K1 _ (by simp)]
    cases t <;> cases e1 <;> decide
  all_goals (cases t <;> cases e1)
end
end Fw

set_option Elab.async false
set_option linter.all false
set_option maxRecDepth 100000
set_option autoImplicit false
set_option maxHeartbeats 1000000
/-! Fw31: an exception in the air, at the hand of a frame or of a block in it. -/
namespace Fw
open PySem PySem.Spec PyProof.Rows L2

/-- fresh, or with a traceback whose flight is anything -/
def SkyA (B : Heap) (l : List PySem.Env) (a : Addr) (Zp : Obj → Prop) (h : Heap) : Prop :=
  B.StaysIn h ∧ B.get? a = none ∧ h.FunFrames B l ∧ ((∃ oe vs, h.get? a = some oe ∧ Zp oe ∧ oe.data = .fields vs ∧ vs[1]? = some .none) ∨ ∃ fr : Option Addr, HandSPX.TracedZ h B a Zp (fr.elim Value.none fun f => rawInt f))

section
variable {M : Model} {A : Around} {E : Value → Shared → Prop} {s : Shared} {Zp : Obj → Prop} {B : Heap} {env env0 : PySem.Env} {outer : List PySem.Env} {L e : Addr}
theorem note_other {fl : Value} {Q : Unit → Shared → Prop} (hZ : PXN.Steady1 Zp) (hfr : A.frames = some (env :: outer)) (hf : env.frame = some L) (hkb : B.StaysIn s.heap) (hen : B.get? e = none) (hl : s.heap.FunFrames B (env :: outer))
    (tr : HandSPX.TracedZ s.heap B e Zp fl) (hne : (fl == rawInt L) = false)
    (hQ : ∀ h', HandSPX.HeldZ B (env :: outer) e Zp L h' → s.heap.UpToSlots h' → Q () { s with heap := h' }) : wpAny M A (noteFrame (.ref e) env) Q E s := by
  obtain ⟨oe, vs, T, oT, ts, he, hz, hd, h1, hnT, hTe, hT, hdT, h3⟩ := tr
  unfold noteFrame; simp only [hf]
  refine wpAny_bind (wpAny_field he hd h1 ?_)
  rw [if_pos (by simp : (Value.ref T != Value.none) = true)]
  refine wpAny_bind (wpAny_field hT hdT h3 ?_)
  rw [if_neg (by rw [hne]; decide)]
  refine wpAny_bind (wpAny_setField hT hdT (Array.getElem?_eq_some_iff.mp h3).1 ?_)
  have oth : ∀ b, b ≠ T → (s.heap.update T (Obj.mapFields (·.setIfInBounds 3 Value.none))).get? b = s.heap.get? b := fun b n => Heap.get?_update_other _ _ (Ne.symm n)
  have nrec : ∀ b o, s.heap.get? b = some o → (∀ ws, o.data ≠ .fields ws) → b ≠ T := fun b o g nf q => by
    subst q; rw [hT] at g; cases g; exact nf ts hdT
  have keepB : B.StaysIn (s.heap.update T (Obj.mapFields (·.setIfInBounds 3 Value.none))) := fun b o g => by
    rw [oth b fun q => by subst q; rw [hnT] at g; cases g]
    exact hkb b o g
  have fr' : (s.heap.update T (Obj.mapFields (·.setIfInBounds 3 Value.none))).FunFrames B (env :: outer) := hl.of_keeps fun b o g nf => ⟨o, by rw [oth b (nrec b o g nf)]; exact g, rfl⟩
  have he' : (s.heap.update T (Obj.mapFields (·.setIfInBounds 3 Value.none))).get? e = some oe := by rw [oth e (Ne.symm hTe)]; exact he
  refine PXN.wpAny_entryZ hZ hfr fr' hf he' keepB hen hd (Array.getElem?_eq_some_iff.mp h1).1 hz fun h' ⟨x1, x2, x3, x4⟩ => hQ h' ⟨x1, hen, x2, x3⟩ fun b o g nf => ?_
  exact x4 b o (by rw [oth b (nrec b o g nf)]; exact g) nf
theorem rawInt_ne {i j : Addr} (h : i ≠ j) : ((rawInt i : Value) == rawInt j) = false := by
  rw [beq_eq_false_iff_ne]
  intro q
  simp only [rawInt, Value.int.injEq] at q
  exact h (Int.ofNat.inj q.1)
theorem note_frame {a : Addr} (h : env.frame = env0.frame) : noteFrame (.ref a) env = noteFrame (.ref a) env0 := by
  unfold noteFrame PySem.frameOf
  rw [h]
theorem note_held {Q : Unit → Shared → Prop} (hZ : PXN.Steady1 Zp) (hfr : A.frames = some (env0 :: outer)) (hf0 : env0.frame = some L) (hf : env.frame = some L) (x : SkyA B (env0 :: outer) e Zp s.heap)
    (hQ : ∀ h', HandSPX.HeldZ B (env0 :: outer) e Zp L h' → s.heap.UpToSlots h' → Q () { s with heap := h' }) : wpAny M A (noteFrame (.ref e) env) Q E s := by
  rw [note_frame (env0 := env0) (by rw [hf, hf0])]
  obtain ⟨x1, x2, x3, x4⟩ := x
  rcases x4 with ⟨oe, vs, he, hz, hd, h1⟩ | ⟨fr, tr⟩
  · exact PXN.look_newZ hZ hfr x3 hf0 he x1 x2 hd h1 hz hQ
  · cases fr with
    | none => exact PXN.looks_onZ hZ hfr hf0 ⟨x1, x2, x3, tr⟩ hQ
    | some L' =>
      by_cases q : L' = L
      · subst q
        exact HandSPX.againZ hf0 tr (hQ s.heap ⟨x1, x2, x3, tr⟩ (Heap.UpToSlots.refl _))
      · exact note_other hZ hfr hf0 x1 x2 x3 tr (rawInt_ne q) hQ
end

/-- an exception in the air of X, wherever in it -/
def XF (X : Cx) (W : WX) (u : Value) (s' : Shared) : Prop :=
  ∃ (a : Addr) (B : Heap) (sI : Shared) (pins : List (Addr × Obj)) (σ : L2.St) (H : Hp) (cls : Value) (d : Option Addr),
    u = .ref a ∧ L2.Inv X pins σ H sI ∧ (∀ b o, sI.heap.get? b = some o → b ∉ frs X.stack → B.get? b = some o) ∧ sI.heap.UpToSlots s'.heap ∧
      SkyA B X.stack a (L2N.Zn cls d) s'.heap ∧ H a = none ∧ s'.os = sI.os ∧ AllBare s'.gens ∧ W cls d σ H
def TakesF (X : Cx) (W : WX) : Prop := ∀ u s', XF X W u s' → X.xe u s'
theorem XF.of {X : Cx} {W : WX} {u : Value} {s' : Shared} (x : L2N.XE X W u s') : XF X W u s' := by
  obtain ⟨a, B, sI, pins, σ, H, cls, d, e, I, nb, up, sky, na, os, ag, w⟩ := x
  refine ⟨a, B, sI, pins, σ, H, cls, d, e, I, nb, up, ?_, na, os, ag, w⟩
  rcases sky with ⟨h1, h2, h3, h4⟩ | ⟨h1, h2, h3, h4⟩ | ⟨h1, h2, h3, h4⟩
  · exact ⟨h1, h2, h3, .inl h4⟩
  · exact ⟨h1, h2, h3, .inr ⟨none, h4⟩⟩
  · exact ⟨h1, h2, h3, .inr ⟨some _, h4⟩⟩
theorem TakesF.toE {X : Cx} {W : WX} (t : TakesF X W)   : L2N.Takes X W := fun u s' x => t u s' (XF.of x)
theorem TakesF.pass {X : Cx} {W : WX} (t : TakesF X W) (σ : L2.St) : PassesAt (L2N.CX X.prog X.w) X σ (WE W σ) := L2N.passAt t.toE σ
theorem passN {X : Cx} : Passes (L2N.CX X.prog X.w) X (fun _ _ _ => False) := fun _ _ _ _ _ _ _ h => by
  obtain ⟨_, _, _, _, _, _, _, _, _, _, _, _, z⟩ := h
  exact z.elim
/-- the frame that the code runs in -/
def FrOk (X : Cx) : Prop := ∃ (e0 : PySem.Env) (o0 : List PySem.Env) (L : Addr), X.stack = e0 :: o0 ∧ e0.frame = some L ∧ X.env.frame = some L
theorem FrOk.blk {X : Cx} (f : FrOk X) {s : Shared} {H : Hp} {sc : Scope} {cl : List (Str × Addr)} {C : Addr} {fp : List Addr} {E : Value → Shared → Prop} : FrOk ((X.blk s H sc (compEnvC sc cl C X.env) fp).wish E) := f

/-- it leaves a def -/
theorem takesF_of {X : Cx} {E : XK} {E₁ : Value → Shared → Prop} (hs : X.stack = X.env :: X.outer) (hf : X.env.frame = some X.env.locals) (hex : X.ex = [])
    (hx : X.xe = fun e s' => wpAny (model X.prog X.w) X.A (leaving X.env e) (fun _ s'' => L2N.CX X.prog X.w X.outer X.H_0 X.s_0 E e s'') E₁ s') : TakesF X (fun cls d _ H => E cls d H) := by
  intro u s' x
  rw [hx]
  obtain ⟨a, B, sI, pins, σ, H, cls, d, rfl, I, nb, up, sky, na, os, ag, w⟩ := x
  have hfr : X.A.frames = some (X.env :: X.outer) := by rw [I.ok.frames, hs]
  unfold leaving
  rw [hs] at sky
  refine wpAny_bind (note_held L2N.Zn.steady hfr hf hf sky fun h1 held up1 => HandSPX.landsZ held fun h' fl up' => ?_)
  have up2 := up1.trans up'
  obtain ⟨l1, l2, ⟨_, _, l3⟩, l4⟩ := fl
  have nex : ∀ b, b ∉ X.ex := fun b z => by rw [hex] at z; cases z
  have nst : ∀ b o, X.s_0.heap.get? b = some o → b ∉ X.fs → b ∉ frs X.stack := fun b o g nb z => by
    cases List.mem_cons.mp (I.stkSub b z) with
    | inl q =>
      have lt := Heap.lt_size g
      rw [q] at lt
      exact Nat.lt_irrefl _ (Nat.lt_of_lt_of_le lt I.ok.above)
    | inr q => exact nb q
  refine ⟨a, B, H, cls, d, rfl, ⟨l1, l2, l3, l4⟩, I.inGround nb, ?_, na, os.trans I.os, ag, w⟩
  constructor
  · exact fun b o g n z => nb b o (I.base.keep b o g n z (nex b)) (nst b o g z)
  · intro b o g z
    obtain ⟨_, oz, gz, nf⟩ := I.ok.funs.mem z
    rw [g] at gz; cases gz
    obtain ⟨s1, g1⟩ := I.base.slot b o g (I.ok.frf b z) z (nex b)
    obtain ⟨s2, g2⟩ := up b _ g1 nf
    obtain ⟨s3, g3⟩ := up2 b _ g2 nf
    exact ⟨s3, g3⟩
  · exact fun b o g n => I.base.free b o g n (nex b)
  · intro b o g z
    obtain ⟨ob, gb⟩ := I.base.there b o g (nex b)
    exact ⟨ob, nb b ob gb (nst b o g z)⟩
  · exact I.base.tups
  · exact I.base.frzs
  · exact I.base.tbls

/-! ### a block in a frame -/
/-- without the object at C -/
theorem hide1 (h : Heap) (C : Addr) : (∀ b o, b ≠ C → h.get? b = some o → (PySem.W.hideAll h [C]).get? b = some o) ∧ ∀ b o, (PySem.W.hideAll h [C]).get? b = some o → b ≠ C ∧ h.get? b = some o :=
  ⟨fun b o n g => PySem.W.hideAll_get _ g (by simpa using n), fun b o g => ⟨fun q => (by
    have z := PySem.W.hideAll_none (h := h) [C] (b := C) (by simp)
    rw [q, z] at g
    exact nomatch g), PySem.W.of_hideAll _ g⟩⟩
theorem hide1_none {h : Heap} {C b : Addr} (g : h.get? b = none) : (PySem.W.hideAll h [C]).get? b = none := by
  cases q : (PySem.W.hideAll h [C]).get? b with
  | none => rfl
  | some o =>
    have z := ((hide1 h C).2 b o q).2
    rw [g] at z
    cases z
/-- what a block lets out, behind its variables -/
abbrev blkE (X : Cx) (use : Option (Value → Sem Unit)) (Qf : Value → Shared → Prop) (acc : Value) (cenv : PySem.Env) : Value → Shared → Prop :=
  notedBy (model X.prog X.w) X.A cenv fun e s' => compPost (model X.prog X.w) X.A X.xe use Qf acc cenv.locals (.error e) s'
theorem blk_takes {X : Cx} {W : WX} {pins : List (Addr × Obj)} {σ : L2.St} {H3 : Hp} {s3 : Shared} {scope : Scope} {cenv : PySem.Env} {fp : List Addr} {use : Option (Value → Sem Unit)} {Qf : Value → Shared → Prop} {acc : Value} {L : Addr} {e0 : PySem.Env} {o0 : List PySem.Env}
    (tk : TakesF X W) (I3 : L2.Inv X pins σ H3 s3) (f3 : ∀ b ∈ fp, FpOk X pins H3 b) (hC : s3.heap.objs.size ≤ cenv.locals) (hs : X.stack = e0 :: o0) (hf0 : e0.frame = some L) (hf : cenv.frame = some L) :
    TakesF ((X.blk s3 H3 scope cenv fp).wish (blkE X use Qf acc cenv)) (fun cls d _ H => W cls d σ H) := by
  intro u s' x
  obtain ⟨a, B, sI, pinsB, σB, HB, cls, d, rfl, I, nb, up, sky, na, os, ag, w⟩ := x
  have nb : ∀ b o, sI.heap.get? b = some o → b ∉ frs X.stack → B.get? b = some o := nb
  have sky : SkyA B X.stack a (L2N.Zn cls d) s'.heap := sky
  rw [hs] at sky
  have hfr : X.A.frames = some (e0 :: o0) := by rw [I3.ok.frames, hs]
  show wpAny (model X.prog X.w) X.A (noteFrame (.ref a) cenv) (fun _ s'' => compPost (model X.prog X.w) X.A X.xe use Qf acc cenv.locals (.error (.ref a)) s'') _ s'
  refine note_held L2N.Zn.steady hfr hf0 hf sky fun h1 held up1 => ?_
  obtain ⟨m, hn, _⟩ := I.loc
  have hn : sI.heap.Ns cenv.locals m := hn
  obtain ⟨oC, es, ep, gC, dC, kC, mC⟩ := hn
  obtain ⟨sl, gC1⟩ := (up.trans up1) _ _ gC (fun ws q => by rw [dC] at q; cases q)
  have gC1 : h1.get? cenv.locals = some { oC with slots := sl } := gC1
  have nF : cenv.locals ∉ frs X.stack := fun z => by
    cases List.mem_cons.mp (I3.stkSub _ z) with
    | inl q =>
      have := I3.lt
      rw [← q] at this
      exact Nat.lt_irrefl _ (Nat.lt_of_lt_of_le this hC)
    | inr q => exact I3.nofs hC q
  obtain ⟨k1, k2, k3, oe, vs, T, oT, ts, g1, hz, d1, e1, nT, Te, gT, dT, e3⟩ := held
  have Ca : a ≠ cenv.locals := fun q => by rw [q, gC1] at g1; cases g1; rw [show oC.data = _ from dC] at d1; cases d1
  have CT : T ≠ cenv.locals := fun q => by rw [q, gC1] at gT; cases gT; rw [show oC.data = _ from dC] at dT; cases dT
  have done : ∀ h2, Heap.SameBut cenv.locals h1 h2 → ∀ cenv' : PySem.Env, wpAny (model X.prog X.w) X.A (passOn "comprehension.variables-let-go" (.ref a) cenv' : Sem Value) (fun _ _ => False) X.xe { s' with heap := h2 } := by
    intro h2 sb cenv'
    have at2 : ∀ b o, b ≠ cenv.locals → h1.get? b = some o → h2.get? b = some o := fun b o n g => by rw [sb.2 b n]; exact g
    unfold PySem.passOn
    refine wpAny_bind (wpAny_field (at2 a oe Ca g1) d1 e1 ?_)
    rw [if_neg (by simp : ¬ (Value.ref T == Value.none) = true)]
    have kB : (PySem.W.hideAll B [cenv.locals]).StaysIn h2 := fun b o g => at2 b o ((hide1 B _).2 b o g).1 (k1 b o ((hide1 B _).2 b o g).2)
    have fB : h2.FunFrames (PySem.W.hideAll B [cenv.locals]) X.stack := by
      have f1 : h1.FunFrames (PySem.W.hideAll B [cenv.locals]) X.stack := funFrames_none (by rw [hs]; exact k3) fun b hb => hide1_none (by rw [hs] at hb; exact (k3.mem hb).1)
      have go : ∀ (l : List PySem.Env), (∀ b ∈ frs l, b ≠ cenv.locals) → h1.FunFrames (PySem.W.hideAll B [cenv.locals]) l → h2.FunFrames (PySem.W.hideAll B [cenv.locals]) l := by
        intro l
        induction l with
        | nil => exact fun _ _ => trivial
        | cons e r ih =>
          rintro n ⟨c1, ⟨L', oL, c2, c3, c4, c5⟩, c6⟩
          exact ⟨c1, ⟨L', oL, c2, c3, at2 L' oL (n L' (List.mem_filterMap.mpr ⟨e, List.mem_cons_self, c2⟩)) c4, c5⟩, ih (fun b hb => n b (by
            obtain ⟨e', he', q⟩ := List.mem_filterMap.mp hb
            exact List.mem_filterMap.mpr ⟨e', List.mem_cons_of_mem _ he', q⟩)) c6⟩
      exact go X.stack (fun b hb q => nF (by rw [← q]; exact hb)) f1
    have tB : HandSPX.TracedZ h2 (PySem.W.hideAll B [cenv.locals]) a (L2N.Zn cls d) (rawInt L) := ⟨oe, vs, T, oT, ts, at2 a oe Ca g1, hz, d1, e1, hide1_none nT, Te, at2 T oT CT gT, dT, e3⟩
    refine wpAny_bind (HandSPX.setFlight_anyZ (fr := cenv'.frame) kB fB tB fun h3 q1 q2 q3 q4 => wpAny_throw (tk _ _ ?_))
    have I4 : L2.Inv X pins σ HB sI := I3.call' (ch := fp) I.os I.base I.hok I.bare fun b hb => ⟨(f3 b hb).2.2.2.1, (f3 b hb).2.1, (f3 b hb).2.2.2.2.1, (f3 b hb).2.2.2.2.2⟩
    have nC : HB cenv.locals = none := I.free
    obtain ⟨c0, c1, c2, c3, c4, c5⟩ := I3.fpOk (H' := HB) hC nC
    have I5 := I4.turned (h' := PySem.W.hideAll sI.heap [cenv.locals]) (t' := sI.toks) (fun b o n g => (hide1 sI.heap _).1 b o n g) c0 c1 c3 c4 c5
    refine ⟨a, PySem.W.hideAll B [cenv.locals], _, pins, σ, HB, cls, d, rfl, I5, fun b o g nf => ?_, fun b o g nf => ?_, ⟨q1, hide1_none k2, q2, .inr ⟨cenv'.frame, q3⟩⟩, na, os, ag, w⟩
    · obtain ⟨n, g'⟩ := (hide1 sI.heap _).2 b o g
      exact (hide1 B _).1 b o n (nb b o g' nf)
    · obtain ⟨n, g'⟩ := (hide1 sI.heap _).2 b o g
      obtain ⟨s1, g1'⟩ := (up.trans up1) b o g' nf
      obtain ⟨s2, g2'⟩ := q4 b _ (at2 b _ n g1') nf
      exact ⟨s2, g2'⟩
  have fin : ∃ m, h1.Ns cenv.locals m ∧ ∀ h', Heap.SameBut cenv.locals h1 h' → ∀ cenv' : PySem.Env, cenv'.locals = cenv.locals → wpAny (model X.prog X.w) X.A (passOn "comprehension.variables-let-go" (.ref a) cenv' : Sem Value) (fun _ _ => False) X.xe { s' with heap := h' } :=
    ⟨m, ⟨_, es, ep, gC1, dC, kC, mC⟩, fun h2 sb c' _ => done h2 sb c'⟩
  cases use <;> exact fin
end Fw

set_option Elab.async false
set_option linter.all false
set_option maxRecDepth 100000
set_option autoImplicit false
set_option maxHeartbeats 1000000
/-! Fw32: comparisons that read what may be changed; dicts. -/
namespace Fw
open PySem PySem.Spec PyProof.Rows L2
def rO2S (G : Gd) (g : Store → D → D → Option D) : R2 := fun x y H Q => ∃ z st dx dy d, z.H = H ∧ Rel G z st ∧ R G z dx x ∧ R G z dy y ∧ g st dx dy = some d ∧ ∀ z' v, Ext z z' → Rel G z' st → R G z' d v → Q v z'.H
section
variable {G : Gd} {X : Cx}
theorem der_self {st : Store} {d : D} (h : isData d = true) (n : ∀ ds, d ≠ .tup ds) : deref st d = d := by
  cases d <;> simp only [deref] <;> first
    | rfl
    | exact absurd rfl (n _)
    | simp [isData] at h
mutual
theorem R.dpS {z : Z} {st : Store} (rel : Rel G z st) : ∀ (d : D) (v : V), R G z d v → isData (deref st d) = true → Dp G.K z.H v (toPd (deref st d))
  | .tup ds, v, h, q => by
    simp only [deref] at q ⊢
    simp only [R] at h
    obtain ⟨a, vs, rfl, hq, r⟩ := h
    refine .tup (xs := vs) ?_ (Rs.dpS rel ds vs r (by simpa [isData] using q))
    rcases hq with ⟨_, hq⟩ | hq
    · exact SqT.of hq
    · exact .inr hq
  | .cell i, v, h, q => by
    simp only [deref] at q ⊢
    simp only [R] at h
    obtain ⟨a, ha, rfl⟩ := h
    split at q
    · rename_i ds e
      obtain ⟨b, hb, c⟩ := rel.at_ i _ e
      rw [ha] at hb; cases hb
      obtain ⟨vs, e1, rs⟩ := c
      exact .lst (xs := vs) (SqL.of e1) (Rs.dp ds vs rs (by simpa [isData] using q))
    · simp [isData] at q
  | .non, v, h, q => by rw [show deref st .non = .non by simp only [deref]] at q ⊢; exact R.dp _ v h q
  | .bl b, v, h, q => by rw [show deref st (.bl b) = .bl b by simp only [deref]] at q ⊢; exact R.dp _ v h q
  | .int b, v, h, q => by rw [show deref st (.int b) = .int b by simp only [deref]] at q ⊢; exact R.dp _ v h q
  | .str b, v, h, q => by rw [show deref st (.str b) = .str b by simp only [deref]] at q ⊢; exact R.dp _ v h q
  | .lst b, v, h, q => by rw [show deref st (.lst b) = .lst b by simp only [deref]] at q ⊢; exact R.dp _ v h q
  | .scr b, v, h, q => by rw [show deref st (.scr b) = .scr b by simp only [deref]] at q ⊢; exact R.dp _ v h q
  | .dic b, v, h, q => by rw [show deref st (.dic b) = .dic b by simp only [deref]] at q ⊢; exact R.dp _ v h q
  | .gdic b, v, h, q => by rw [show deref st (.gdic b) = .gdic b by simp only [deref]] at q ⊢; exact R.dp _ v h q
  | .obj c b, v, h, q => by rw [show deref st (.obj c b) = .obj c b by simp only [deref]] at q ⊢; exact R.dp _ v h q
theorem Rs.dpS {z : Z} {st : Store} (rel : Rel G z st) : ∀ (ds : List D) (vs : List V), Rs G z ds vs → isDatas (derefs st ds) = true → DpAll G.K z.H vs (toPds (derefs st ds))
  | [], vs, h, _ => by rw [Rs.nil.mp h]; exact .nil
  | d :: ds, vs, h, q => by
    simp only [Rs] at h
    obtain ⟨v, r, rfl, h1, h2⟩ := h
    simp only [derefs] at q ⊢
    have q1 : isData (deref st d) = true ∧ isDatas (derefs st ds) = true := by
      generalize deref st d = e at q
      cases e <;> simp_all [isDatas, isData]
    exact .cons (R.dpS rel d v h1 q1.1) (Rs.dpS rel ds r h2 q1.2)
end
mutual
theorem lay_ofS {z : Z} {st : Store} (rel : Rel G z st) : ∀ (d : D) (v : V), R G z d v → (toPd (deref st d)).canLay0 = true
  | .tup ds, v, h => by
    simp only [deref]
    simp only [R] at h
    obtain ⟨a, vs, rfl, hq, r⟩ := h
    simp only [toPd, PyData.canLay0]
    exact lays_ofS rel ds vs r
  | .cell i, v, h => by
    simp only [deref]
    split
    · rename_i ds e
      obtain ⟨b, hb, c⟩ := rel.at_ i _ e
      obtain ⟨vs, e1, rs⟩ := c
      simp only [toPd, PyData.canLay0]
      exact lays_of ds vs rs
    · simp [toPd, PyData.canLay0]
  | .non, v, h => by rw [show deref st .non = .non by simp only [deref]]; exact lay_of _ v h
  | .bl b, v, h => by rw [show deref st (.bl b) = .bl b by simp only [deref]]; exact lay_of _ v h
  | .int b, v, h => by rw [show deref st (.int b) = .int b by simp only [deref]]; exact lay_of _ v h
  | .str b, v, h => by rw [show deref st (.str b) = .str b by simp only [deref]]; exact lay_of _ v h
  | .lst b, v, h => by rw [show deref st (.lst b) = .lst b by simp only [deref]]; exact lay_of _ v h
  | .scr b, v, h => by rw [show deref st (.scr b) = .scr b by simp only [deref]]; exact lay_of _ v h
  | .dic b, v, h => by rw [show deref st (.dic b) = .dic b by simp only [deref]]; exact lay_of _ v h
  | .gdic b, v, h => by rw [show deref st (.gdic b) = .gdic b by simp only [deref]]; exact lay_of _ v h
  | .obj c b, v, h => by rw [show deref st (.obj c b) = .obj c b by simp only [deref]]; exact lay_of _ v h
theorem lays_ofS {z : Z} {st : Store} (rel : Rel G z st) : ∀ (ds : List D) (vs : List V), Rs G z ds vs → PyData.canLayAll0 (toPds (derefs st ds)) = true
  | [], vs, h => by simp [derefs, toPds, PyData.canLayAll0]
  | d :: ds, vs, h => by
    simp only [Rs] at h
    obtain ⟨v, r, rfl, h1, h2⟩ := h
    simp [derefs, toPds, PyData.canLayAll0, lay_ofS rel d v h1, lays_ofS rel ds r h2]
end
theorem op_eqS (o : On G X) {pins : List (Addr × Obj)} {s : Shared} {σ : L2.St} {z : Z} {st : Store} {x y : V} {v u : Value} {Q : VK} {dx dy : D} {t : Bool} (I : L2.Inv X pins σ z.H s) (rx : RelV x v) (ry : RelV y u) (rel : Rel G z st) (r1 : R G z dx x) (r2 : R G z dy y)
    (e : eqO (deref st dx) (deref st dy) = some t) : (Q (.bl t) z.H → wpAny (model X.prog X.w) X.A (compareOp .Eq v u) (EP X pins σ Q) X.xe s) ∧ (Q (.bl (!t)) z.H → wpAny (model X.prog X.w) X.A (compareOp .NotEq v u) (EP X pins σ Q) X.xe s) := by
  simp only [eqO] at e
  split at e
  · rename_i c
    cases e
    simp only [Bool.and_eq_true, Bool.or_eq_true, decide_eq_true_eq] at c
    obtain ⟨⟨⟨c0, c1⟩, c2⟩, c3⟩ := c
    obtain ⟨as, q1⟩ := Dp.reads I _ x v (by rw [o.K]; exact R.dpS rel dx x r1 c1) rx
    obtain ⟨bs, q2⟩ := Dp.reads I _ y u (by rw [o.K]; exact R.dpS rel dy y r2 c2) ry
    obtain ⟨k, hr⟩ := o.room
    have hu := hr.units
    have hd : min (dep (deref st dx)) (dep (deref st dy)) ≤ 64 := by
      rcases c3 with c3 | c3
      · have : min (dep (deref st dx)) (dep (deref st dy)) ≤ dep (deref st dy) := Nat.min_le_right _ _
        omega
      · have : min (dep (deref st dx)) (dep (deref st dy)) ≤ dep (deref st dx) := Nat.min_le_left _ _
        omega
    refine ⟨fun q => SeqAt.compareEq_reads q1 q2 (lay_ofS rel dx x r1) (lay_ofS rel dy y r2) ?_ ?_, fun q => SeqAt.compareNe_reads q1 q2 (lay_ofS rel dx x r1) (lay_ofS rel dy y r2) ?_ ?_⟩
    · rw [dep_of, dep_of]; omega
    · rw [eqv_all _ _ c0 c1 c2]
      exact ⟨.bl _, z.H, I, rfl, q⟩
    · rw [dep_of, dep_of]; omega
    · rw [eqv_all _ _ c0 c1 c2]
      exact ⟨.bl _, z.H, I, rfl, q⟩
  · cases e
theorem RK.mem {z : Z} : ∀ {kvs : List (Txt × D)} {ws : List (Key × V)}, RK G z kvs ws → ∀ p ∈ ws, ∃ q ∈ kvs, p.1 = kOf q.1 ∧ R G z q.2 p.2
  | [], ws, h, p, hp => by simp only [RK] at h; rw [h] at hp; simp at hp
  | (k, d) :: r, ws, h, p, hp => by
    simp only [RK] at h
    obtain ⟨v, w, rfl, ok, h1, h2⟩ := h
    rcases List.mem_cons.mp hp with rfl | hp
    · exact ⟨_, List.mem_cons_self, rfl, h1⟩
    · obtain ⟨q, hq, e, r⟩ := RK.mem h2 p hp
      exact ⟨q, List.mem_cons_of_mem _ hq, e, r⟩
theorem dic_hits {z : Z} {ks ls : List (Txt × D)} {ws us : List (Key × V)} (h : dicSame ks ls = true) (r1 : RK G z ks ws) (r2 : RK G z ls us) : ws.length = us.length ∧ ∀ p ∈ ws, valV us p.1 = some p.2 ∧ flatB p.2 = true := by
  unfold dicSame at h
  simp only [Bool.and_eq_true, decide_eq_true_eq] at h
  refine ⟨by rw [r1.len, r2.len]; exact h.1, fun p hp => ?_⟩
  obtain ⟨q, hq, e, r⟩ := r1.mem p hp
  have t := List.all_eq_true.mp h.2 q hq
  have lk := r2.look q.1
  rw [e]
  cases e1 : q.2 <;> rw [e1] at t <;> try (simp at t; done)
  cases e2 : lookT q.1 ls with
  | none => rw [e2] at t; simp at t
  | some d =>
    rw [e2] at t lk
    cases d <;> simp at t
    subst t
    obtain ⟨w, e3, r3⟩ := lk
    rw [e1] at r
    rw [R.int.mp r]
    rw [R.int.mp r3] at e3
    exact ⟨e3, rfl⟩
theorem op_eqDic (o : On G X) {pins : List (Addr × Obj)} {s : Shared} {σ : L2.St} {z : Z} {x y : V} {v u : Value} {Q : VK} {ks ls : List (Txt × D)} (I : L2.Inv X pins σ z.H s) (rx : RelV x v) (ry : RelV y u) (r1 : R G z (.dic ks) x) (r2 : R G z (.dic ls) y)
    (e : dicSame ks ls = true) : (Q (.bl true) z.H → wpAny (model X.prog X.w) X.A (compareOp .Eq v u) (EP X pins σ Q) X.xe s) ∧ (Q (.bl false) z.H → wpAny (model X.prog X.w) X.A (compareOp .NotEq v u) (EP X pins σ Q) X.xe s) := by
  simp only [R] at r1 r2
  obtain ⟨a, ws, rfl, ⟨_, oa, ha⟩, k1⟩ := r1
  obtain ⟨b, us, rfl, ⟨_, ob, hb⟩, k2⟩ := r2
  obtain rfl : v = Value.ref a := rx
  obtain rfl : u = Value.ref b := ry
  obtain ⟨hlen, hp⟩ := dic_hits e k1 k2
  obtain ⟨_, ya, va, ra, da⟩ := dk_rd I.hok (.inr ⟨oa, ha⟩)
  obtain ⟨_, yb, vb, rb, db⟩ := dk_rd I.hok (.inr ⟨ob, hb⟩)
  have hl : va.length = vb.length := by rw [← ra.length, ← rb.length]; exact hlen
  have hu : X.A.units < cLine := by have := on_units o; omega
  exact ⟨fun q => PySem.W.keq_eq (knd := mixKind X.prog X.w) (r := true) ya yb da db hu (fun _ => hits_all rb ra hp) (fin_bl I q (by simp [hl])),
    fun q => PySem.W.keq_ne (knd := mixKind X.prog X.w) (r := true) ya yb da db hu (fun _ => hits_all rb ra hp) (fin_bl I q (by simp [hl]))⟩
theorem eqX_run (o : On G X) {pins : List (Addr × Obj)} {s : Shared} {σ : L2.St} {z : Z} {st : Store} {x y : V} {v u : Value} {Q : VK} {dx dy : D} {t : Bool} (I : L2.Inv X pins σ z.H s) (rx : RelV x v) (ry : RelV y u) (rel : Rel G z st) (r1 : R G z dx x) (r2 : R G z dy y)
    (e : eqX st dx dy = some t) : (Q (.bl t) z.H → wpAny (model X.prog X.w) X.A (compareOp .Eq v u) (EP X pins σ Q) X.xe s) ∧ (Q (.bl (!t)) z.H → wpAny (model X.prog X.w) X.A (compareOp .NotEq v u) (EP X pins σ Q) X.xe s) := by
  unfold eqX at e
  split at e
  · split at e <;> cases e
    rename_i h
    exact op_eqDic o I rx ry r1 r2 h
  · exact op_eqS o I rx ry rel r1 r2 e
theorem any_non {z : Z} : ∀ (ds : List D), isDatas ds = true → ((toPds ds).any fun y => PyData.eqv y .none) = ds.any fun y => deq y .non
  | [], _ => rfl
  | d :: r, h => by
    have h0 : scrOk d .non = true ∧ isData d = true ∧ isDatas r = true := by
      cases d <;> simp [isDatas, isData] at h <;> simp [scrOk, isData, h]
    have e := eqv_all d .non h0.1 h0.2.1 rfl
    simp only [toPd] at e
    simp only [toPds, List.any_cons, e, any_non (z := z) r h0.2.2]
theorem inX_run (o : On G X) {pins : List (Addr × Obj)} {s : Shared} {σ : L2.St} {z : Z} {x y : V} {v u : Value} {Q : VK} {dx dy : D} {t : Bool} (I : L2.Inv X pins σ z.H s) (rx : RelV x v) (ry : RelV y u) (r1 : R G z dx x) (r2 : R G z dy y)
    (e : inX dx dy = some t) (q : Q (.bl t) z.H) : wpAny (model X.prog X.w) X.A (compareOp .In v u) (EP X pins σ Q) X.xe s := by
  unfold inX at e
  split at e
  · rename_i ys
    split at e <;> cases e
    rename_i hd
    obtain ⟨as, q1⟩ := Dp.reads I _ x v (by rw [o.K]; exact R.dp .non x r1 rfl) rx
    obtain ⟨bs, q2⟩ := Dp.reads I _ y u (by rw [o.K]; exact R.dp (.lst ys) y r2 (by simpa only [isData] using hd)) ry
    obtain ⟨k, hr⟩ := o.room
    have hu := hr.units
    have hl := lay_of (.lst ys) y r2
    refine SeqAt.in_list_reads q2 q1 (by simpa only [toPd, PyData.canLay0] using hl) rfl ?_ ?_
    · have h0 : min (PyData.depthAll (toPds ys)) (toPd .non).depth ≤ (toPd .non).depth := Nat.min_le_right _ _
      have h1 : (toPd .non).depth = 0 := by rw [dep_of]; rfl
      omega
    · simp only [toPd]
      rw [any_non (z := z) ys hd]
      exact ⟨.bl _, z.H, I, rfl, q⟩
  · cases e
end
end Fw

set_option Elab.async false
set_option linter.all false
set_option maxRecDepth 100000
set_option autoImplicit false
set_option maxHeartbeats 1000000
/-! Fw4: expressions: each form's reading from its parts' readings. -/
namespace Fw
open PySem PySem.Spec PyProof.Rows L2
abbrev St := L2.St

/-! ### readings -/
def tOf (G : Gd) (T : List FT) (W : WX) (m : ME) : TE := fun σ H Q => ∃ z env st, z.H = H ∧ Rel G z st ∧ EnvR G z env σ ∧ Post G z σ W (evalE G.pg T m env st) fun d _ z' => ∀ v, R G z' d v → Q v z'.H
def tTof (G : Gd) (T : List FT) (W : WX) (m : ME) : TT := fun σ H Q => ∃ z env st, z.H = H ∧ Rel G z st ∧ EnvR G z env σ ∧ Post G z σ W (evalE G.pg T m env st) fun d _ z' => ∃ b, d = .bl b ∧ Q b z'.H
def tAof (G : Gd) (T : List FT) (W : WX) (ms : MEs) : TA := fun σ H Q => ∃ z env st, z.H = H ∧ Rel G z st ∧ EnvR G z env σ ∧ Post G z σ W (evalEs G.pg T ms env st) fun ds _ z' => ∀ vs, Rs G z' ds vs → Q vs z'.H
theorem peImp {X : Cx} {e : Expr} {t t' : TE} (h : PE X e t) (f : ∀ σ H Q, t' σ H Q → t σ H Q) : PE X e t' := ⟨fun pins s σ H Q I q => h.run pins s σ H Q I (f σ H Q q)⟩
theorem ptImp {X : Cx} {e : Expr} {t t' : TT} (h : PT X e t) (f : ∀ σ H Q, t' σ H Q → t σ H Q) : PT X e t' := ⟨fun pins s σ H Q I q => h.run pins s σ H Q I (f σ H Q q)⟩
theorem pwImp {X : Cx} {e : Expr} {t t' : TT} (h : PW X e t) (f : ∀ σ H Q, t' σ H Q → t σ H Q) : PW X e t' := ⟨fun w pins s σ H Q I q => h.run w pins s σ H Q I (f σ H Q q)⟩
theorem paImp {X : Cx} {e : List Expr} {t t' : TA} (h : PA X e t) (f : ∀ σ H Q, t' σ H Q → t σ H Q) : PA X e t' := ⟨fun pos pins s σ H Q I q => h.run pos pins s σ H Q I (f σ H Q q)⟩

/-- names by their numbers: constants, defs, classes, exceptions; built-in names that are not hidden -/
structure Nm where
  globs : List Str
  fns : List Str
  cls : List Str
  excs : List Str
  blts : List Str
  /-- _law_told, caught are there -/
  told : Bool
  caught : Bool
  /-- some def tries -/
  tryC : Bool
/-- the def whose code runs may make lambdas: its code object, its table -/
def LamOk (G : Gd) (X : Cx) : Prop := ∃ c P, LamX.TabB X.base X.mg c P ∧ X.env.code = .ref c ∧ (P, X.env.qual ++ "<lambda>") ∈ G.tb ∧ ∀ p ∈ G.tb, p.1 = P → p.2 = X.env.qual ++ "<lambda>"
/-- a name that another scope takes up -/
def hasCell (sc : Scope) : Bool := sc.names.any fun y => decide (y.2 = .cell)
/-- a context: over the ground, its names, its scope, room for k calls, what is wished of an exception -/
structure In (G : Gd) (X : Cx) (N : List Str) (sc : Scope) (k : Nat) (W : WX) (lb : Bool) : Prop extends On G X where
  hN : X.N = N
  nd : N.Nodup
  hsc : X.env.scope = sc
  rm : Room k X.A
  fr : FrOk X
  tk : TakesF X W
  lm : lb = true → hasCell sc = true → LamOk G X
theorem In.pass {G : Gd} {X : Cx} {N : List Str} {sc : Scope} {k : Nat} {W : WX} {lb : Bool} (c : In G X N sc k W lb) (σ : L2.St) : PassesAt (L2N.CX X.prog X.w) X σ (WE W σ) := c.tk.pass σ

def visS (sc : Scope) (x : Str) : Bool := match sc.names.lookup x with
  | some .local | some .cell | some .free => true
  | _ => false
theorem visS_ok {sc : Scope} {x : Str} (h : visS sc x = true) : Vis sc x := by
  unfold visS at h
  split at h
  · exact .inl (by assumption)
  · exact .inr (.inl (by assumption))
  · exact .inr (.inr (by assumption))
  · cases h
def glS (sc : Scope) (x : Str) : Bool := match sc.names.lookup x with
  | some .globalImplicit => true
  | _ => false
theorem glS_ok {sc : Scope} {x : Str} (h : glS sc x = true) : sc.names.lookup x = some .globalImplicit := by
  unfold glS at h
  split at h
  · assumption
  · cases h
def okN (x : Str) : Bool := !(x == ("__debug__" : Str)) && !(x == ("__classdict__" : Str)) && !(x == ("__name__" : Str))
theorem okN_dbg {x : Str} (h : okN x = true) : (x == ("__debug__" : Str)) = false := by
  unfold okN at h; simp only [Bool.and_eq_true, Bool.not_eq_true'] at h; exact h.1.1
theorem okN_cd {x : Str} (h : okN x = true) : (x == ("__classdict__" : Str)) = false := by
  unfold okN at h; simp only [Bool.and_eq_true, Bool.not_eq_true'] at h; exact h.1.2
theorem okN_name {x : Str} (h : okN x = true) : x ≠ "__name__" := by
  unfold okN at h; simp only [Bool.and_eq_true, Bool.not_eq_true'] at h
  exact fun e => by have := h.2; rw [e] at this; simp at this
/-- no star, no slice, no set display -/
def plainE : Expr → Bool
  | .Starred _ _ | .Slice _ _ _ _ | .Set _ _ _ => false
  | _ => true
def plains : List Expr → Bool
  | [] => true
  | e :: es => plainE e && plains es
/-- no call without arguments (super()) -/
def notCall0 : Expr → Bool
  | .Call _ [] _ _ => false
  | _ => true
theorem star_of {e : Expr} (h : plainE e = true) (es : List Expr) (env : PySem.Env) : starEach (e :: es) env = (false, eval e env) :: starEach es env := by
  cases e <;> first | rfl | cases h
theorem backTo_any (pos : Pos) (env : PySem.Env) : ∀ {es : List Expr}, plains es = true → (backTo pos (starEach es env)).any (·.1) = false
  | [], _ => by rfl
  | e :: es, h => by
    simp only [plains, Bool.and_eq_true] at h
    have ih := backTo_any pos env h.2
    rw [star_of h.1]
    simpa [backTo] using ih
theorem marks_of {e : Expr} (h : plainE e = true) (op : CmpOp) : behindInMarks op e = false := by
  cases e <;> first | rfl | cases h
theorem plainIx_of {e : Expr} (h : plainE e = true) : PlainIx e := fun o i => by
  cases e <;> first | rfl | cases h
theorem abase_of {e : Expr} (h : notCall0 e = true) (f : Str) (env : PySem.Env) (w : Sem Value) : attributeBase e f env w = w := by
  cases e <;> try rfl
  rename_i fn args kws pos
  cases args with
  | nil => cases h
  | cons a r => cases fn <;> rfl

/-! ### the forms -/
section
variable {G : Gd} {X : Cx} {N : List Str} {sc : Scope} {k : Nat} {W : WX} {lb : Bool} {T : List FT}
theorem look_sc (c : In G X N sc k W lb) {x : Str} {kd : NameKind} (h : sc.names.lookup x = some kd) : X.env.kindOf x = some kd := by
  show X.env.scope.names.lookup x = some kd
  rw [c.hsc]; exact h
theorem gl_of (c : In G X N sc k W lb) {x : Str} (h : glS sc x = true) : Gl X x := look_sc c (glS_ok h)
theorem e_var (c : In G X N sc k W lb) {i : Nat} {x : Str} {pos : Pos} (h1 : N[i]? = some x) (h2 : visS sc x = true) (h3 : okN x = true) : PE X (.Name x pos) (tOf G T W (.var i)) := by
  refine peImp (pe_var (i := i) (by rw [c.hN]; exact h1) (by rw [c.hsc]; exact visS_ok h2) (okN_dbg h3) (okN_cd h3)) fun σ H Q q => ?_
  obtain ⟨z, env, st, rfl, rel, er, q⟩ := q
  obtain ⟨d, e, q⟩ := Post.ofO (by simpa only [evalE] using q) rel
  obtain ⟨v, hv, r⟩ := er.var e
  exact ⟨v, hv, q v r⟩
theorem e_const {d : D} {e : Expr} {v : V} (h : PE X e (tC v)) (r : ∀ z, R G z d v) : PE X e (tOf G T W (.lit d)) := by
  refine peImp h fun σ H Q q => ?_
  obtain ⟨z, env, st, rfl, rel, er, q⟩ := q
  simp only [evalE] at q
  exact Post.ok q rel v (r z)
theorem e_glob (c : In G X N sc k W lb) {g : Nat} {x : Str} {pos : Pos} (h2 : glS sc x = true) (h3 : okN x = true)
    (hg : ∃ d v u, G.pg.globs[g]? = some d ∧ G.mg x = some u ∧ RelV v u ∧ ∀ z, R G z d v) : PE X (.Name x pos) (tOf G T W (.glob g)) := by
  obtain ⟨d, v, u, e1, e2, e3, e4⟩ := hg
  refine peImp (pe_glob (gl_of c h2) (by rw [c.mg]; exact e2) e3 (okN_dbg h3)) fun σ H Q q => ?_
  obtain ⟨z, env, st, rfl, rel, er, q⟩ := q
  obtain ⟨d', e, q⟩ := Post.ofO (by simpa only [evalE] using q) rel
  rw [e1] at e; cases e
  exact q v (e4 z)
/-- two parts, then a plain operation -/
theorem two_of {ma mb : ME} {g : D → D → Option D} {σ : St} {H : Hp} {Q : VK} (q : ∃ z env st, z.H = H ∧ Rel G z st ∧ EnvR G z env σ ∧
      Post G z σ W ((evalE G.pg T ma env st).bind fun x st => (evalE G.pg T mb env st).bind fun y st => .ofO st (g x y)) fun d _ z' => ∀ v, R G z' d v → Q v z'.H) :
    tOp (rO2 G g) (tOf G T W ma) (tOf G T W mb) σ H Q := by
  obtain ⟨z, env, st, rfl, rel, er, q⟩ := q
  refine ⟨z, env, st, rfl, rel, er, (Post.bind q).imp fun dx st1 z1 e1 rel1 q1 v1 r1 => ?_⟩
  refine ⟨z1, env, st1, rfl, rel1, er.ext e1 rel.wf, (Post.bind q1).imp fun dy st2 z2 e2 rel2 q2 v2 r2 => ?_⟩
  obtain ⟨d, e, q3⟩ := Post.ofO q2 rel2
  refine ⟨z2, st2, dx, dy, d, rfl, rel2, r1.ext e2 rel1.wf, r2, e, fun z3 v e3 rel3 r3 => ?_⟩
  have q4 := Post.later q2 e3
  rw [e] at q4
  simp only [Out.ofO] at q4
  exact Post.ok q4 rel3 v r3
def opOf : Op2 → Operator
  | .add => .Add | .sub => .Sub | .mul => .Mult | .fdiv => .FloorDiv | .mod => .Mod | .pow => .Pow
theorem op_all (o : On G X) (op : Op2) : OpR X (binaryOp (opOf op)) (rO2 G (op2 op)) := by
  cases op
  · exact op_addD o
  · exact op_subD
  · exact op_mulD o
  · exact op_fdivD
  · exact op_modD
  · exact op_powD
theorem e_bin (c : In G X N sc k W lb) {op : Op2} {a b : Expr} {pos : Pos} {ma mb : ME} (ha : PE X a (tOf G T W ma)) (hb : PE X b (tOf G T W mb)) : PE X (.BinOp a (opOf op) b pos) (tOf G T W (.bin op ma mb)) := by
  refine peImp (pe_op (op_all c.toOn op) ha hb) fun σ H Q q => two_of ?_
  obtain ⟨z, env, st, e, rel, er, q⟩ := q
  exact ⟨z, env, st, e, rel, er, by simpa only [evalE] using q⟩
def cmpOf : Cmp → CmpOp
  | .eq => .Eq | .ne => .NotEq | .lt => .Lt | .le => .LtE | .gt => .Gt | .ge => .GtE | .is_ => .Is | .isnt => .IsNot | .in_ => .In | .notin => .NotIn
theorem cmp_all (o : On G X) (op : Cmp) : OpR X (compareOp (cmpOf op)) (rO2 G fun a b => (cmp2 op a b).map .bl) := by
  cases op
  · exact op_eqD' o
  · exact op_neD' o
  · exact op_ltD
  · exact op_leD
  · exact op_gtD
  · exact op_geD
  · exact op_isD
  · exact op_isntD
  · exact op_inD o
  · exact op_notinD o
theorem cmpS_all (o : On G X) (op : Cmp) : OpR X (compareOp (cmpOf op)) (rO2S G fun st a b => (cmpS st op a b).map .bl) := by
  intro pins s σ H x y v u Q I rx ry q
  obtain ⟨z, st, dx, dy, d, rfl, rel, r1, r2, e, q⟩ := q
  obtain ⟨t, e0, rfl⟩ := Option.map_eq_some_iff.mp (show (cmpS st op dx dy).map D.bl = some d from e)
  unfold cmpS at e0
  cases e1 : cmp2 op dx dy with
  | some t' =>
    rw [e1] at e0
    cases e0
    exact cmp_all o op pins s σ z.H x y v u Q I rx ry ⟨z, st, dx, dy, _, rfl, rel, r1, r2, by show (cmp2 op dx dy).map D.bl = _; rw [e1]; rfl, q⟩
  | none =>
    rw [e1] at e0
    cases op <;> simp only [] at e0 <;> try cases e0
    · exact (eqX_run o I rx ry rel r1 r2 e0).1 (q z _ (Ext.refl z) rel (R.bl.mpr rfl))
    · obtain ⟨t, e1, rfl⟩ := Option.map_eq_some_iff.mp e0
      exact (eqX_run o I rx ry rel r1 r2 e1).2 (q z _ (Ext.refl z) rel (R.bl.mpr rfl))
    · exact inX_run o I rx ry r1 r2 e0 (q z _ (Ext.refl z) rel (R.bl.mpr rfl))
theorem two_ofS {ma mb : ME} {g : Store → D → D → Option D} {σ : St} {H : Hp} {Q : VK} (q : ∃ z env st, z.H = H ∧ Rel G z st ∧ EnvR G z env σ ∧
      Post G z σ W ((evalE G.pg T ma env st).bind fun x st => (evalE G.pg T mb env st).bind fun y st => .ofO st (g st x y)) fun d _ z' => ∀ v, R G z' d v → Q v z'.H) :
    tOp (rO2S G g) (tOf G T W ma) (tOf G T W mb) σ H Q := by
  obtain ⟨z, env, st, rfl, rel, er, q⟩ := q
  refine ⟨z, env, st, rfl, rel, er, (Post.bind q).imp fun dx st1 z1 e1 rel1 q1 v1 r1 => ?_⟩
  refine ⟨z1, env, st1, rfl, rel1, er.ext e1 rel.wf, (Post.bind q1).imp fun dy st2 z2 e2 rel2 q2 v2 r2 => ?_⟩
  obtain ⟨d, e, q3⟩ := Post.ofO q2 rel2
  refine ⟨z2, st2, dx, dy, d, rfl, rel2, r1.ext e2 rel1.wf, r2, e, fun z3 v e3 rel3 r3 => ?_⟩
  have q4 := Post.later q2 e3
  rw [e] at q4
  simp only [Out.ofO] at q4
  exact Post.ok q4 rel3 v r3
theorem e_cmp (c : In G X N sc k W lb) {op : Cmp} {a b : Expr} {pos : Pos} {ma mb : ME} (ha : PE X a (tOf G T W ma)) (hb : PE X b (tOf G T W mb)) (hp : plainE b = true) : PE X (.Compare a [cmpOf op] [b] pos) (tOf G T W (.cmp op ma mb)) := by
  refine peImp (pe_cmpR (cmpS_all c.toOn op) ha hb (marks_of hp _)) fun σ H Q q => two_ofS ?_
  obtain ⟨z, env, st, e, rel, er, q⟩ := q
  exact ⟨z, env, st, e, rel, er, by simpa only [evalE] using q⟩
theorem t_cmp (c : In G X N sc k W lb) {op : Cmp} {a b : Expr} {pos : Pos} {ma mb : ME} (ha : PE X a (tOf G T W ma)) (hb : PE X b (tOf G T W mb)) (hp : plainE b = true) : PT X (.Compare a [cmpOf op] [b] pos) (tTof G T W (.cmp op ma mb)) := by
  refine ptImp (pt_cmpR (cmpS_all c.toOn op) ha hb (marks_of hp _)) fun σ H Q q => two_ofS ?_
  obtain ⟨z, env, st, e, rel, er, q⟩ := q
  refine ⟨z, env, st, e, rel, er, (show Post G z σ W _ _ by simpa only [evalE] using q).imp fun d st' z' e' rel' q' v r => ?_⟩
  obtain ⟨b, rfl, q'⟩ := q'
  exact ⟨b, R.bl.mp r, q'⟩
/-- an expression of a plain kind, as a test -/
theorem t_val {e : Expr} {m : ME} (h : PE X e (tOf G T W m)) (he : ∀ whole, isTrue e X.env whole = (do let v ← whole; standAt e.pos; holding [v] (truthy v))) : PT X e (tTof G T W m) := by
  refine ptImp (pt_val h he) fun σ H Q q => ?_
  obtain ⟨z, env, st, e, rel, er, q⟩ := q
  refine ⟨z, env, st, e, rel, er, q.imp fun d st' z' e' rel' q' v r => ?_⟩
  obtain ⟨b, rfl, q'⟩ := q'
  exact ⟨b, R.bl.mp r, q'⟩
theorem e_neg {a : Expr} {pos : Pos} {ma : ME} (ha : PE X a (tOf G T W ma)) : PE X (.UnaryOp .USub a pos) (tOf G T W (.neg ma)) := by
  refine peImp (pe_un un_neg ha) fun σ H Q q => ?_
  obtain ⟨z, env, st, rfl, rel, er, q⟩ := q
  refine ⟨z, env, st, rfl, rel, er, (Post.bind (by simpa only [evalE] using q)).imp fun dx st1 z1 e1 rel1 q1 v1 r1 => ?_⟩
  obtain ⟨d, e, q2⟩ := Post.ofO q1 rel1
  cases dx <;> simp only [asI, Option.map_none, Option.map_some] at e <;> cases e
  exact ⟨_, R.int.mp r1, q2 _ (R.int.mpr rfl)⟩
theorem e_not {a : Expr} {pos : Pos} {ma : ME} (ha : PE X a (tOf G T W ma)) : PE X (.UnaryOp .Not a pos) (tOf G T W (.not ma)) := by
  refine peImp (pe_not ha) fun σ H Q q => ?_
  obtain ⟨z, env, st, rfl, rel, er, q⟩ := q
  refine ⟨z, env, st, rfl, rel, er, (Post.bind (by simpa only [evalE] using q)).imp fun dx st1 z1 e1 rel1 q1 v1 r1 => ?_⟩
  obtain ⟨d, e, q2⟩ := Post.ofO q1 rel1
  cases dx <;> simp only [asB, Option.map_none, Option.map_some] at e <;> cases e
  exact ⟨_, R.bl.mp r1, q2 _ (R.bl.mpr rfl)⟩
theorem t_not {a : Expr} {pos : Pos} {ma : ME} (ha : PT X a (tTof G T W ma)) : PT X (.UnaryOp .Not a pos) (tTof G T W (.not ma)) := by
  refine ptImp (pt_not ha) fun σ H Q q => ?_
  obtain ⟨z, env, st, rfl, rel, er, q⟩ := q
  refine ⟨z, env, st, rfl, rel, er, (Post.bind (by simpa only [evalE] using q)).imp fun dx st1 z1 e1 rel1 q1 => ?_⟩
  obtain ⟨d, e, q2⟩ := Post.ofO q1 rel1
  cases dx <;> simp only [asB, Option.map_none, Option.map_some] at e <;> cases e
  obtain ⟨b', e', q2⟩ := q2
  cases e'
  exact ⟨_, rfl, q2⟩
theorem ite_of {mc ma mb : ME} {α : Type} {f : α → D → Store → Z → Prop} {σ : St} {z : Z} {env : Fw.Env} {st : Store} {x : α} (q : Post G z σ W (evalE G.pg T (.ite mc ma mb) env st) (f x)) :
    Post G z σ W (evalE G.pg T mc env st) fun d st1 z1 => ∃ b, d = .bl b ∧ if b = true then Post G z1 σ W (evalE G.pg T ma env st1) (f x) else Post G z1 σ W (evalE G.pg T mb env st1) (f x) := by
  refine (Post.bind (by simpa only [evalE] using q)).imp fun d st1 z1 e1 rel1 q1 => ?_
  cases d <;> try exact q1.elim
  rename_i b
  cases b with
  | true => exact ⟨true, rfl, by rw [if_pos rfl]; exact q1⟩
  | false => exact ⟨false, rfl, by rw [if_neg (by decide)]; exact q1⟩
theorem e_ite {c a b : Expr} {pos : Pos} {mc ma mb : ME} (hc : PT X c (tTof G T W mc)) (ha : PE X a (tOf G T W ma)) (hb : PE X b (tOf G T W mb)) : PE X (.IfExp c a b pos) (tOf G T W (.ite mc ma mb)) := by
  refine peImp (pe_ifExp hc ha hb) fun σ H Q q => ?_
  obtain ⟨z, env, st, rfl, rel, er, q⟩ := q
  refine ⟨z, env, st, rfl, rel, er, (ite_of (f := fun _ d _ z' => ∀ v, R G z' d v → Q v z'.H) (x := ()) q).imp fun d st1 z1 e1 rel1 q1 => ?_⟩
  obtain ⟨b, rfl, q1⟩ := q1
  refine ⟨b, rfl, ?_⟩
  cases b with
  | true => rw [if_pos rfl] at q1 ⊢; exact ⟨z1, env, st1, rfl, rel1, er.ext e1 rel.wf, q1⟩
  | false => rw [if_neg (by decide)] at q1 ⊢; exact ⟨z1, env, st1, rfl, rel1, er.ext e1 rel.wf, q1⟩
theorem t_ite {c a b : Expr} {pos : Pos} {mc ma mb : ME} (hc : PT X c (tTof G T W mc)) (ha : PT X a (tTof G T W ma)) (hb : PT X b (tTof G T W mb)) : PT X (.IfExp c a b pos) (tTof G T W (.ite mc ma mb)) := by
  refine ⟨fun pins s σ H Q I q => ?_⟩
  obtain ⟨z, env, st, rfl, rel, er, q⟩ := q
  have q' := ite_of (f := fun _ d _ z' => ∃ b, d = .bl b ∧ Q b z'.H) (x := ()) q
  show wpAny _ _ (do
    if ← isTrue c X.env (eval c X.env) then isTrue a X.env (eval a X.env) else isTrue b X.env (eval b X.env)) _ _ _
  refine wpAny_bind (thn (hc.run pins s σ z.H (fun b H1 => if b = true then tTof G T W ma σ H1 Q else tTof G T W mb σ H1 Q) I ⟨z, env, st, rfl, rel, er, q'.imp fun d st1 z1 e1 rel1 q1 => ?_⟩) fun t s1 ⟨H1, I1, q1⟩ => ?_)
  · obtain ⟨b, rfl, q1⟩ := q1
    refine ⟨b, rfl, ?_⟩
    cases b with
    | true => rw [if_pos rfl] at q1 ⊢; exact ⟨z1, env, st1, rfl, rel1, er.ext e1 rel.wf, q1⟩
    | false => rw [if_neg (by decide)] at q1 ⊢; exact ⟨z1, env, st1, rfl, rel1, er.ext e1 rel.wf, q1⟩
  · cases t with
    | true => exact ha.run pins s1 σ H1 Q I1 q1
    | false => exact hb.run pins s1 σ H1 Q I1 q1

/-! ### and, or -/
def tAnds (G : Gd) (T : List FT) (W : WX) (es : MEs) : TE := fun σ H Q => ∃ z env st, z.H = H ∧ Rel G z st ∧ EnvR G z env σ ∧ Post G z σ W (evalA G.pg T es env st) fun d _ z' => ∀ v, R G z' d v → Q v z'.H
def tOrs (G : Gd) (T : List FT) (W : WX) (es : MEs) : TE := fun σ H Q => ∃ z env st, z.H = H ∧ Rel G z st ∧ EnvR G z env σ ∧ Post G z σ W (evalO G.pg T es env st) fun d _ z' => ∀ v, R G z' d v → Q v z'.H
def tAndsT (G : Gd) (T : List FT) (W : WX) (es : MEs) : TT := fun σ H Q => ∃ z env st, z.H = H ∧ Rel G z st ∧ EnvR G z env σ ∧ Post G z σ W (evalA G.pg T es env st) fun d _ z' => ∃ b, d = .bl b ∧ Q b z'.H
def tOrsT (G : Gd) (T : List FT) (W : WX) (es : MEs) : TT := fun σ H Q => ∃ z env st, z.H = H ∧ Rel G z st ∧ EnvR G z env σ ∧ Post G z σ W (evalO G.pg T es env st) fun d _ z' => ∃ b, d = .bl b ∧ Q b z'.H
theorem and_1 {a : Expr} {pos : Pos} {ma : ME} (ha : PE X a (tOf G T W ma)) : PE X (.BoolOp .And [a] pos) (tAnds G T W (.cons ma .nil)) := by
  refine peImp (pe_one ha) fun σ H Q q => ?_
  obtain ⟨z, env, st, e, rel, er, q⟩ := q
  exact ⟨z, env, st, e, rel, er, by simpa only [evalA] using q⟩
theorem or_1 {a : Expr} {pos : Pos} {ma : ME} (ha : PE X a (tOf G T W ma)) : PE X (.BoolOp .Or [a] pos) (tOrs G T W (.cons ma .nil)) := by
  refine peImp (pe_one ha) fun σ H Q q => ?_
  obtain ⟨z, env, st, e, rel, er, q⟩ := q
  exact ⟨z, env, st, e, rel, er, by simpa only [evalO] using q⟩
theorem and_2 {a b : Expr} {r : List Expr} {pos : Pos} {ma mb : ME} {ms : MEs} (ha : PE X a (tOf G T W ma)) (hr : PE X (.BoolOp .And (b :: r) pos) (tAnds G T W (.cons mb ms))) :
    PE X (.BoolOp .And (a :: b :: r) pos) (tAnds G T W (.cons ma (.cons mb ms))) := by
  refine peImp (pe_and ha hr) fun σ H Q q => ?_
  obtain ⟨z, env, st, rfl, rel, er, q⟩ := q
  refine ⟨z, env, st, rfl, rel, er, (Post.bind (by simpa only [evalA] using q)).imp fun d st1 z1 e1 rel1 q1 v r1 => ?_⟩
  cases d <;> try exact q1.elim
  rename_i b
  refine ⟨b, R.bl.mp r1, ?_⟩
  cases b with
  | true => rw [if_pos rfl]; exact ⟨z1, env, st1, rfl, rel1, er.ext e1 rel.wf, q1⟩
  | false => rw [if_neg (by decide)]; exact (Post.ok q1 rel1) _ (R.bl.mpr rfl)
theorem or_2 {a b : Expr} {r : List Expr} {pos : Pos} {ma mb : ME} {ms : MEs} (ha : PE X a (tOf G T W ma)) (hr : PE X (.BoolOp .Or (b :: r) pos) (tOrs G T W (.cons mb ms))) :
    PE X (.BoolOp .Or (a :: b :: r) pos) (tOrs G T W (.cons ma (.cons mb ms))) := by
  refine peImp (pe_or ha hr) fun σ H Q q => ?_
  obtain ⟨z, env, st, rfl, rel, er, q⟩ := q
  refine ⟨z, env, st, rfl, rel, er, (Post.bind (by simpa only [evalO] using q)).imp fun d st1 z1 e1 rel1 q1 v r1 => ?_⟩
  cases d <;> try exact q1.elim
  rename_i b
  refine ⟨b, R.bl.mp r1, ?_⟩
  cases b with
  | true => rw [if_pos rfl]; exact (Post.ok q1 rel1) _ (R.bl.mpr rfl)
  | false => rw [if_neg (by decide)]; exact ⟨z1, env, st1, rfl, rel1, er.ext e1 rel.wf, q1⟩
theorem andT_1 {a : Expr} {pos : Pos} {ma : ME} (ha : PT X a (tTof G T W ma)) : PW X (.BoolOp .And [a] pos) (tAndsT G T W (.cons ma .nil)) := by
  refine pwImp (pw_and1 ha) fun σ H Q q => ?_
  obtain ⟨z, env, st, e, rel, er, q⟩ := q
  exact ⟨z, env, st, e, rel, er, by simpa only [evalA] using q⟩
theorem orT_1 {a : Expr} {pos : Pos} {ma : ME} (ha : PT X a (tTof G T W ma)) : PW X (.BoolOp .Or [a] pos) (tOrsT G T W (.cons ma .nil)) := by
  refine pwImp (pw_or1 ha) fun σ H Q q => ?_
  obtain ⟨z, env, st, e, rel, er, q⟩ := q
  exact ⟨z, env, st, e, rel, er, by simpa only [evalO] using q⟩
theorem andT_2 {a b : Expr} {r : List Expr} {pos : Pos} {ma mb : ME} {ms : MEs} (ha : PT X a (tTof G T W ma)) (hr : PW X (.BoolOp .And (b :: r) pos) (tAndsT G T W (.cons mb ms))) :
    PW X (.BoolOp .And (a :: b :: r) pos) (tAndsT G T W (.cons ma (.cons mb ms))) := by
  refine pwImp (pw_and ha hr) fun σ H Q q => ?_
  obtain ⟨z, env, st, rfl, rel, er, q⟩ := q
  refine ⟨z, env, st, rfl, rel, er, (Post.bind (by simpa only [evalA] using q)).imp fun d st1 z1 e1 rel1 q1 => ?_⟩
  cases d <;> try exact q1.elim
  rename_i b
  refine ⟨b, rfl, ?_⟩
  cases b with
  | true => rw [if_pos rfl]; exact ⟨z1, env, st1, rfl, rel1, er.ext e1 rel.wf, q1⟩
  | false =>
    rw [if_neg (by decide)]
    obtain ⟨b, e, q⟩ := Post.ok q1 rel1
    cases e
    exact q
theorem orT_2 {a b : Expr} {r : List Expr} {pos : Pos} {ma mb : ME} {ms : MEs} (ha : PT X a (tTof G T W ma)) (hr : PW X (.BoolOp .Or (b :: r) pos) (tOrsT G T W (.cons mb ms))) :
    PW X (.BoolOp .Or (a :: b :: r) pos) (tOrsT G T W (.cons ma (.cons mb ms))) := by
  refine pwImp (pw_or ha hr) fun σ H Q q => ?_
  obtain ⟨z, env, st, rfl, rel, er, q⟩ := q
  refine ⟨z, env, st, rfl, rel, er, (Post.bind (by simpa only [evalO] using q)).imp fun d st1 z1 e1 rel1 q1 => ?_⟩
  cases d <;> try exact q1.elim
  rename_i b
  refine ⟨b, rfl, ?_⟩
  cases b with
  | true =>
    rw [if_pos rfl]
    obtain ⟨b, e, q⟩ := Post.ok q1 rel1
    cases e
    exact q
  | false => rw [if_neg (by decide)]; exact ⟨z1, env, st1, rfl, rel1, er.ext e1 rel.wf, q1⟩

/-! ### items, slices, displays, fields -/
theorem e_ix (c : In G X N sc k W lb) {a b : Expr} {pos : Pos} {ma mb : ME} (ha : PE X a (tOf G T W ma)) (hb : PE X b (tOf G T W mb)) (hp : plainE b = true) : PE X (.Subscript a b pos) (tOf G T W (.ix ma mb)) := by
  refine peImp (pe_ix (ixD c.toOn) ha hb (plainIx_of hp)) fun σ H Q q => two_of ?_
  obtain ⟨z, env, st, e, rel, er, q⟩ := q
  exact ⟨z, env, st, e, rel, er, by simpa only [evalE] using q⟩
/-- an item of a list that the frame alone holds -/
theorem e_ixO (c : In G X N sc k W lb) {i : Nat} {x : Str} {b : Expr} {pos p : Pos} {mb : ME} (h1 : N[i]? = some x) (h2 : visS sc x = true) (h3 : okN x = true) (hb : PE X b (tOf G T W mb)) (hp : plainE b = true) :
    PE X (.Subscript (.Name x p) b pos) (tOf G T W (.ixO i mb)) := by
  refine peImp (pe_ix ix_list (pe_var (i := i) (by rw [c.hN]; exact h1) (by rw [c.hsc]; exact visS_ok h2) (okN_dbg h3) (okN_cd h3)) hb (plainIx_of hp)) fun σ H Q q => ?_
  obtain ⟨z, env, st, rfl, rel, er, q⟩ := q
  simp only [evalE] at q
  cases he : env[i]? with
  | none => rw [he] at q; exact q.elim
  | some s =>
    rw [he] at q
    cases s <;> try exact q.elim
    rename_i ds
    obtain ⟨a, vs, hσ, hH, rs, nf, ni⟩ := er.at_ i _ he
    refine ⟨_, hσ, z, env, st, rfl, rel, er, (Post.bind q).imp fun dy st1 z1 e1 rel1 q1 v1 r1 => ?_⟩
    obtain ⟨d, e, q2⟩ := Post.ofO q1 rel1
    have al : Alone z a := ⟨⟨_, hH, rfl⟩, nf, ni⟩
    cases dy <;> simp only [atD] at e <;> try cases e
    obtain ⟨w, e3, r3⟩ := atI_of (rs.ext e1 rel.wf) e
    exact ⟨a, vs, _, w, rfl, R.int.mp r1, SqL.of ((al.ext e1).2 _ hH), e3, q2 w r3⟩
theorem e_slFrom (c : In G X N sc k W lb) {a lo : Expr} {pos p2 : Pos} {ma ml : ME} (ha : PE X a (tOf G T W ma)) (hl : PE X lo (tOf G T W ml)) : PE X (.Subscript a (.Slice (some lo) none none p2) pos) (tOf G T W (.slFrom ma ml)) := by
  refine peImp (pe_slice (slD c.toOn) ha (po_some hl) po_none) fun σ H Q q => ?_
  obtain ⟨z, env, st, rfl, rel, er, q⟩ := q
  refine ⟨z, env, st, rfl, rel, er, (Post.bind (by simpa only [evalE] using q)).imp fun dx st1 z1 e1 rel1 q1 v1 r1 => ?_⟩
  refine ⟨z1, env, st1, rfl, rel1, er.ext e1 rel.wf, (Post.bind q1).imp fun dy st2 z2 e2 rel2 q2 v2 r2 => ?_⟩
  obtain ⟨d, e, q3⟩ := Post.ofO q2 rel2
  cases dy <;> simp only [asI, Option.bind_none, Option.bind_some] at e <;> try cases e
  refine ⟨_, R.int.mp r2, ?_⟩
  refine ⟨z2, st2, dx, d, rfl, rel2, r1.ext e2 rel1.wf, e, fun z3 v e3 rel3 r3 => ?_⟩
  have q4 := Post.later q2 e3
  simp only [asI, Option.bind_some, e, Out.ofO] at q4
  exact (Post.ok q4 rel3) v r3
theorem e_slTo (c : In G X N sc k W lb) {a hi : Expr} {pos p2 : Pos} {ma mh : ME} (ha : PE X a (tOf G T W ma)) (hh : PE X hi (tOf G T W mh)) : PE X (.Subscript a (.Slice none (some hi) none p2) pos) (tOf G T W (.slTo ma mh)) := by
  refine peImp (pe_slice (slD c.toOn) ha po_none (po_some hh)) fun σ H Q q => ?_
  obtain ⟨z, env, st, rfl, rel, er, q⟩ := q
  refine ⟨z, env, st, rfl, rel, er, (Post.bind (by simpa only [evalE] using q)).imp fun dx st1 z1 e1 rel1 q1 v1 r1 => ?_⟩
  refine ⟨z1, env, st1, rfl, rel1, er.ext e1 rel.wf, (Post.bind q1).imp fun dy st2 z2 e2 rel2 q2 v2 r2 => ?_⟩
  obtain ⟨d, e, q3⟩ := Post.ofO q2 rel2
  cases dy <;> simp only [asI, Option.bind_none, Option.bind_some] at e <;> try cases e
  refine ⟨_, R.int.mp r2, ?_⟩
  refine ⟨z2, st2, dx, d, rfl, rel2, r1.ext e2 rel1.wf, e, fun z3 v e3 rel3 r3 => ?_⟩
  have q4 := Post.later q2 e3
  simp only [asI, Option.bind_some, e, Out.ofO] at q4
  exact (Post.ok q4 rel3) v r3
theorem e_slBoth (c : In G X N sc k W lb) {a lo hi : Expr} {pos p2 : Pos} {ma ml mh : ME} (ha : PE X a (tOf G T W ma)) (hl : PE X lo (tOf G T W ml)) (hh : PE X hi (tOf G T W mh)) : PE X (.Subscript a (.Slice (some lo) (some hi) none p2) pos) (tOf G T W (.slBoth ma ml mh)) := by
  refine peImp (pe_slice (slD c.toOn) ha (po_some hl) (po_some hh)) fun σ H Q q => ?_
  obtain ⟨z, env, st, rfl, rel, er, q⟩ := q
  refine ⟨z, env, st, rfl, rel, er, (Post.bind (by simpa only [evalE] using q)).imp fun dx st1 z1 e1 rel1 q1 v1 r1 => ?_⟩
  have er1 := er.ext e1 rel.wf
  refine ⟨z1, env, st1, rfl, rel1, er1, (Post.bind q1).imp fun dl st2 z2 e2 rel2 q2 v2 r2 => ?_⟩
  cases dl <;> simp only [asI] at q2 <;> try exact q2.elim
  refine ⟨_, R.int.mp r2, z2, env, st2, rfl, rel2, er1.ext e2 rel1.wf, (Post.bind q2).imp fun dh st3 z3 e3 rel3 q3 v3 r3 => ?_⟩
  obtain ⟨d, e, q4⟩ := Post.ofO q3 rel3
  cases dh <;> simp only [asI, Option.bind_none, Option.bind_some] at e <;> try cases e
  refine ⟨_, R.int.mp r3, ?_⟩
  refine ⟨z3, st3, dx, d, rfl, rel3, (r1.ext e2 rel1.wf).ext e3 rel2.wf, e, fun z4 v e4 rel4 r4 => ?_⟩
  have q5 := Post.later q3 e4
  simp only [asI, Option.bind_some, e, Out.ofO] at q5
  exact (Post.ok q5 rel4) v r4
end
end Fw

set_option Elab.async false
set_option linter.all false
set_option maxRecDepth 100000
set_option autoImplicit false
set_option maxHeartbeats 1000000
/-! Fw5: displays, fields, calls. -/
namespace Fw
open PySem PySem.Spec PyProof.Rows L2

/-! ### what a def promises -/
def PostF (G : Gd) (z : Z) (o : Out D) (Q : VK) (E : XK) : Prop :=
  match o with
  | .ok d st' => ∀ z', Ext z z' → Rel G z' st' → ∀ v, R G z' d v → Q v z'.H
  | .exc e st' => ∀ z' cls dd, Ext z z' → Rel G z' st' → ExcR G z' e cls dd → E cls dd z'.H
  | .bad => False
def spFn (G : Gd) (T : List FT) (f : Nat) : Sp := fun vs H Q E => ∃ z st ds, z.H = H ∧ Rel G z st ∧ Rs G z ds vs ∧ PostF G z (callT T f ds st) Q E
/-- an __init__: the instance stands at x, without fields -/
def spIni (G : Gd) (T : List FT) (c f : Nat) : Sp := fun vs H Q _ => ∃ z st ds x dx rest, vs = .ref x :: rest ∧ z.H x = none ∧ z.H dx = none ∧ dx ≠ x ∧ H = upd (upd z.H dx (.own x)) x (.ins (G.cA c) dx []) ∧ Rel G z st ∧ Rs G z ds rest ∧
  match callT T f ds st with
  | .ok (.tup fs) st' => ∀ z' ws k dx', Ext z z' → Rel G z' st' → Alone z' x → G.pg.cls[c]? = some k → z'.H x = some (.ins (G.cA c) dx' ((k.fs.map sOf).zip ws)) → ws.length = k.fs.length → Rs G z' fs ws → Q .non z'.H
  | _ => False
def spOf (G : Gd) (T : List FT) (f : Nat) : Sp := match (G.pg.defs[f]?).bind (·.ini) with
  | some c => spIni G T c f
  | none => spFn G T f
def FnsOk (G : Gd) (k : Nat) : Prop := ∀ f, f < G.pg.defs.length → FnOk G.P G.w G.K G.mg G.base (L2N.CX G.P G.w) k (G.fA f) (G.fD f) (G.fP f) (spOf G (tabs G.pg k) f)
/-- an exception's own __init__ stores its word -/
def spX (C : Addr) : Sp := fun vs H Q _ => ∃ (a : Addr) (v : V), vs = [.ref a, v] ∧ H a = some (exo a C none) ∧ ∀ d, H d = none → d ≠ a → Q .non (upd (upd H d (exd d [(("word" : Str), v)])) a (exo a C (some d)))
def bmVE : List Value := [.type "ValueError", .type "Exception", .type "BaseException", .type "object"]
/-- what the machine's top has, for the small program -/
structure Static (G : Gd) (nm : Nm) : Prop where
  globs : ∀ (g : Nat) (x : Str), nm.globs[g]? = some x → ∃ d v u, G.pg.globs[g]? = some d ∧ G.mg x = some u ∧ RelV v u ∧ ∀ z, R G z d v
  fns : ∀ (f : Nat) (x : Str), nm.fns[f]? = some x → x ≠ "" → f < G.pg.defs.length ∧ G.mg x = some (.ref (G.fA f))
  kp : ∀ f, f < G.pg.defs.length → PySem.W.keepIn G.K (.ref (G.fA f)) = true
  bd : ∀ f, f < G.pg.defs.length → Binds G.K (G.fD f) (G.fP f) []
  cls : ∀ (c : Nat) (k : MCls), G.pg.cls[c]? = some k → Cls G.K (G.cA c) ∧ (∀ f ∈ k.fs, NoAttr G.K (G.cA c) (sOf f)) ∧ k.fs.Nodup ∧ k.fs.length < 1000
  ms : ∀ (c : Nat) (k : MCls) (m : Txt) (f : Nat), G.pg.cls[c]? = some k → k.ms.lookup m = some f → Meth G.K (G.cA c) (sOf m) (G.fA f) ∧ m ∉ k.fs ∧ f < G.pg.defs.length ∧ (G.pg.defs[f]?).bind (·.ini) = none
  mkC : ∀ (c : Nat) (k : MCls), G.pg.cls[c]? = some k → Mk G.K (G.cA c) (G.fA k.init) ∧ k.init < G.pg.defs.length ∧ (G.pg.defs[k.init]?).bind (·.ini) = some c
  clsN : ∀ (c : Nat) (x : Str), nm.cls[c]? = some x → G.mg x = some (.ref (G.cA c))
  blts : ∀ x ∈ nm.blts, G.mg x = none
  exc0 : ∀ (c : Nat) (kx : MExc) (x : Str), G.pg.excs[c]? = some kx → nm.excs[c]? = some x → G.mg x = some (.ref (G.eA c)) ∧ PySem.W.keepIn G.K (.ref (G.eA c)) = true ∧ PySem.W.subIn G.K (.ref (G.eA c)) (.type "BaseException") = some true ∧
    PySem.W.typeIn G.K (.ref (G.eA c)) = some (.type "type") ∧ (kx.word = false → PySem.W.excIn G.K (G.eA c) bmVE "ValueError.__new__" = true)
  excW : ∀ (c : Nat) (kx : MExc), G.pg.excs[c]? = some kx → kx.word = true → OexC G.K (G.eA c) ∧ ∃ (fI : Addr) (fd : FuncData) (ps : List Str), PySem.W.findIn G.K (.ref (G.eA c)) "__init__" = some (some (.ref fI)) ∧ PySem.W.typeIn G.K (.ref fI) = some (.type "function") ∧
    Binds G.K fd ps [] ∧ FnOk G.P G.w G.K G.mg G.base (L2N.CX G.P G.w) 1 fI fd ps (spX (G.eA c))

section
variable {G : Gd} {nm : Nm} {X : Cx} {N : List Str} {sc : Scope} {k : Nat} {W : WX} {lb : Bool} {T : List FT}

/-! ### arguments, displays -/
theorem a_nil : PA X [] (tAof G T W .nil) := by
  refine paImp pa_nil fun σ H Q q => ?_
  obtain ⟨z, env, st, rfl, rel, er, q⟩ := q
  simp only [evalEs] at q
  exact Post.ok q rel _ (Rs.nil.mpr rfl)
theorem a_cons {e : Expr} {es : List Expr} {m : ME} {ms : MEs} (he : PE X e (tOf G T W m)) (hr : PA X es (tAof G T W ms)) (hp : plainE e = true) : PA X (e :: es) (tAof G T W (.cons m ms)) := by
  refine paImp (pa_cons he hr (star_of hp _ _)) fun σ H Q q => ?_
  obtain ⟨z, env, st, rfl, rel, er, q⟩ := q
  refine ⟨z, env, st, rfl, rel, er, (Post.bind (by simpa only [evalEs] using q)).imp fun dx st1 z1 e1 rel1 q1 v1 r1 => ?_⟩
  refine ⟨z1, env, st1, rfl, rel1, er.ext e1 rel.wf, (Post.bind q1).imp fun ds st2 z2 e2 rel2 q2 vs r2 => ?_⟩
  exact Post.ok q2 rel2 _ (Rs.mk _ _ (r1.ext e2 rel1.wf) r2)
theorem e_tup {es : List Expr} {ms : MEs} {kk : Nat} {pos : Pos} (h : PA X es (tAof G T W ms)) : PE X (.Tuple es kk pos) (tOf G T W (.tup ms)) := by
  refine peImp (pe_tup h) fun σ H Q q => ?_
  obtain ⟨z, env, st, rfl, rel, er, q⟩ := q
  refine ⟨z, env, st, rfl, rel, er, (Post.bind (by simpa only [evalE] using q)).imp fun ds st1 z1 e1 rel1 q1 vs r1 => ?_⟩
  split at q1
  · rename_i hl
    refine ⟨by rw [r1.len, ← big_eq]; exact hl, fun p np => ?_⟩
    exact q1 (z1.new p (.tup vs)) (Ext.new np) (rel1.new np (by simp)) _ (R.newT rel1 r1 np)
  · exact q1.elim
theorem e_lst {es : List Expr} {ms : MEs} {pos : Pos} (h : PA X es (tAof G T W ms)) : PE X (.List es pos) (tOf G T W (.lst ms)) := by
  refine peImp (pe_lst h) fun σ H Q q => ?_
  obtain ⟨z, env, st, rfl, rel, er, q⟩ := q
  refine ⟨z, env, st, rfl, rel, er, (Post.bind (by simpa only [evalE] using q)).imp fun ds st1 z1 e1 rel1 q1 vs r1 => ?_⟩
  split at q1
  · rename_i hl
    refine ⟨by rw [r1.len, ← big_eq]; exact hl, fun p np => ?_⟩
    exact q1 (z1.new p (.lst vs)) (Ext.new np) (rel1.new np (by simp)) _ (R.newL rel1 r1 np)
  · exact q1.elim
/-- a dict display: texts as keys -/
def pairTs (G : Gd) (T : List FT) (W : WX) : List Txt → MEs → List (TE × TE)
  | k :: ks, .cons m ms => (tC (.str (sOf k)), tOf G T W m) :: pairTs G T W ks ms
  | _, _ => []
theorem lookup_merge : ∀ (more kvs : List (Key × V)), (∀ p ∈ more, valV kvs p.1 = none) → (more.map (·.1)).Nodup → mergeK kvs more = kvs ++ more
  | [], kvs, _, _ => by simp [mergeK]
  | p :: r, kvs, h, nd => by
    have e : mergeK kvs (p :: r) = mergeK (putK kvs p.1 p.2) r := rfl
    rw [e, putK_new p.2 (h p List.mem_cons_self)]
    rw [List.map_cons, List.nodup_cons] at nd
    rw [lookup_merge r _ (fun q hq => ?_) nd.2]
    · simp
    · rw [valV_snoc _ _ _ _ (h p List.mem_cons_self)]
      have ne : ¬ q.1 = p.1 := fun e => nd.1 (by rw [← e]; exact List.mem_map.mpr ⟨q, hq, rfl⟩)
      rw [if_neg ne]
      exact h q (List.mem_cons_of_mem _ hq)
theorem merge_nil {kvs : List (Key × V)} (nd : (kvs.map (·.1)).Nodup) : mergeK [] kvs = kvs := by
  rw [lookup_merge kvs [] (fun _ _ => valV_nil) nd]; rfl
theorem nodup_kOf {ks : List Txt} (h : ks.Nodup) : (ks.map kOf).Nodup := by
  rw [List.Nodup, List.pairwise_map]
  exact h.imp fun ne e => ne (kOf_inj e)
theorem zip_RK {z : Z} : ∀ {ks : List Txt} {ds : List D} {vs : List V}, ks.all okT = true → Rs G z ds vs → ds.length = ks.length → RK G z (ks.zip ds) ((ks.map kOf).zip vs)
  | [], [], vs, _, h, _ => by rw [Rs.nil.mp h]; simp [RK]
  | k :: ks, d :: ds, vs, ok, h, e => by
    simp only [Rs] at h
    obtain ⟨v, r, rfl, h1, h2⟩ := h
    simp only [List.all_cons, Bool.and_eq_true] at ok
    simp only [List.zip_cons_cons, List.map_cons, RK]
    exact ⟨v, _, rfl, ok.1, h1, zip_RK ok.2 h2 (by simpa using e)⟩
  | [], _ :: _, _, _, _, e => by simp at e
  | _ :: _, [], _, _, _, e => by simp at e
def mesLen : MEs → Nat
  | .nil => 0
  | .cons _ r => mesLen r + 1
theorem pairs_run : ∀ {ks : List Txt} {ms : MEs} {σ : St} {H : Hp} {Q : List (V × V) → Hp → Prop}, mesLen ms = ks.length →
    (∃ z env st, z.H = H ∧ Rel G z st ∧ EnvR G z env σ ∧ Post G z σ W (evalEs G.pg T ms env st) fun ds _ z' => ∀ vs, Rs G z' ds vs → Q ((ks.map fun k => V.str (sOf k)).zip vs) z'.H) → tPairs (pairTs G T W ks ms) σ H Q
  | k :: ks, .cons m ms, σ, H, Q, hl, q => by
    obtain ⟨z, env, st, rfl, rel, er, q⟩ := q
    show tPairs ((tC (.str (sOf k)), tOf G T W m) :: pairTs G T W ks ms) σ z.H Q
    refine ⟨z, env, st, rfl, rel, er, (Post.bind (by simpa only [evalEs] using q)).imp fun dx st1 z1 e1 rel1 q1 v1 r1 => ?_⟩
    refine pairs_run (by simpa [mesLen] using hl) ⟨z1, env, st1, rfl, rel1, er.ext e1 rel.wf, (Post.bind q1).imp fun ds st2 z2 e2 rel2 q2 vs r2 => ?_⟩
    exact Post.ok q2 rel2 (v1 :: vs) (Rs.mk _ _ (r1.ext e2 rel1.wf) r2)
  | [], .nil, σ, H, Q, _, q => by
    obtain ⟨z, env, st, rfl, rel, er, q⟩ := q
    simp only [evalEs] at q
    exact Post.ok q rel [] (Rs.nil.mpr rfl)
  | k :: ks, .nil, σ, H, Q, hl, q => by simp [mesLen] at hl
  | [], .cons m ms, σ, H, Q, hl, q => by simp [mesLen] at hl
theorem zip_kV {z : Z} : ∀ {ks : List Txt} {vs : List V}, ((ks.map kOf).zip vs).map (fun kv => (kV kv.1, kv.2)) = (ks.map fun k => V.str (sOf k)).zip vs
  | [], vs => rfl
  | k :: ks, [] => rfl
  | k :: ks, v :: vs => by
    simp only [List.map_cons, List.zip_cons_cons]
    rw [zip_kV (z := z)]
    rfl
theorem zip_keys {α β : Type} : ∀ {ks : List α} {vs : List β}, vs.length = ks.length → (ks.zip vs).map (·.1) = ks
  | [], _, _ => by simp
  | k :: ks, v :: vs, h => by
    simp only [List.zip_cons_cons, List.map_cons]
    rw [zip_keys (by simpa using h)]
  | _ :: _, [], h => by simp at h
theorem pps_of : ∀ {ks : List Txt} {ms : MEs} {es : List Expr} {pos : Pos} {keys : List (Option Expr)}, PPs X pos keys es (pairTs G T W ks ms) → PPs X pos keys es (pairTs G T W ks ms) := fun h => h
/-- what is laid is never written again -/
def tFrz (t : TE) : TE := fun σ H Q => t σ H fun v H1 => ∃ d u, v = .ref d ∧ H1 d = some u ∧ Mut (some u) ∧ ∀ od, Q v (upd H1 d (.frz od u))
theorem pe_frz {X : Cx} {e : Expr} {t : TE} (h : PE X e t) : PE X e (tFrz t) := by
  refine ⟨fun pins s σ H Q I q => thn (h.run pins s σ H _ I q) fun v s1 ⟨x, H1, I1, r, d, u, e1, hd, mu, q1⟩ => ?_⟩
  subst e1
  obtain ⟨od, I2⟩ := I1.lock hd mu
  exact ⟨_, _, I2, r, q1 od⟩
theorem e_dict {ks : List Txt} {ms : MEs} {keys : List (Option Expr)} {es : List Expr} {pos : Pos} (h : PPs X pos keys es (pairTs G T W ks ms)) (hs : keys.all (·.isSome) = true) (hl : keys.length = es.length) (hn : keys ≠ []) (h15 : keys.length ≤ 15)
    (hm : mesLen ms = ks.length) (ok : ks.all okT = true) : PE X (.Dict keys es pos) (tOf G T W (.dict ks ms)) := by
  refine peImp (pe_frz (pe_disp h hs hl hn h15)) fun σ H Q q => ?_
  obtain ⟨z, env, st, rfl, rel, er, q⟩ := q
  intro p np
  have q' := Post.bind0 (by simpa only [evalE] using q)
  have e0 : Ext z (z.put p (.dK [])) := (Ext.refl z).put np
  have rel0 := rel.put0 (o := .dK []) np
  have al0 : Alone (z.put p (.dK [])) p := Alone.new rel np rfl
  refine pairs_run hm ⟨z.put p (.dK []), env, st, rfl, rel0, er.ext e0 rel.wf, (Post.later q' e0).imp fun ds st2 z2 e2 rel2 q2 vs rs => ?_⟩
  obtain ⟨al2, hp⟩ := al0.ext e2
  refine ⟨hp _ upd_same, (ks.map kOf).zip vs, (zip_kV (z := z)).symm, ?_⟩
  split at q2
  · rename_i c
    obtain ⟨c1, c2, c3⟩ := c
    have hv : vs.length = ks.length := by rw [rs.len, c1]
    have hk : (((ks.map kOf).zip vs).map (·.1)) = ks.map kOf := zip_keys (by rw [hv, List.length_map])
    refine ⟨by rw [List.length_zip, List.length_map, hv]; omega, ?_⟩
    rw [merge_nil (by rw [hk]; exact nodup_kOf c3)]
    refine ⟨p, _, rfl, upd_same, trivial, fun od => ?_⟩
    rw [upd_upd]
    have e3 : Ext z ((z2.put p (.frz od (.dK ((ks.map kOf).zip vs)))).fix p) := ((e0.trans e2).put np).fix np
    have al3 : Alone (z2.put p (.frz od (.dK ((ks.map kOf).zip vs)))) p := al2.put rfl
    refine Post.at q2 e3 ((rel2.put al2).fix al3) _ ?_
    simp only [R]
    refine ⟨p, _, rfl, ⟨.inr rfl, od, upd_same⟩, ?_⟩
    exact RK.keep (Keep.fix _ p) _ _ (RK.keep (Keep.put al2.nf) _ _ (zip_RK ok rs c1))
  · exact q2.elim

/-! ### fields -/
theorem zip_look {z : Z} : ∀ {fs : List Txt} {ds : List D} {vs : List V} {f : Txt} {d : D}, Rs G z ds vs → (fs.zip ds).lookup f = some d → ∃ v, ((fs.map sOf).zip vs).lookup (sOf f) = some v ∧ R G z d v
  | [], _, _, f, d, _, e => by simp at e
  | _ :: _, [], _, f, d, _, e => by simp at e
  | x :: fs, d' :: ds, vs, f, d, h, e => by
    simp only [Rs] at h
    obtain ⟨v, r, rfl, h1, h2⟩ := h
    simp only [List.zip_cons_cons, List.map_cons, List.lookup_cons] at e ⊢
    rw [strBeq]
    cases c : f == x with
    | true => rw [c] at e; cases e; exact ⟨v, rfl, h1⟩
    | false => rw [c] at e; exact zip_look h2 e
theorem look_mem : ∀ {l : List (Txt × D)} {f : Txt} {d : D}, l.lookup f = some d → (f, d) ∈ l
  | (x, d') :: r, f, d, e => by
    rw [List.lookup_cons] at e
    cases c : f == x with
    | true =>
      rw [c] at e
      cases e
      rw [eq_of_beq c]
      exact List.mem_cons_self
    | false => rw [c] at e; exact List.mem_cons_of_mem _ (look_mem e)
theorem e_fld (S : Static G nm) (c : In G X N sc k W lb) {a : Expr} {f : Txt} {pos : Pos} {ma : ME} (ha : PE X a (tOf G T W ma)) (hn : notCall0 a = true) : PE X (.Attribute a (sOf f) pos) (tOf G T W (.fld ma f)) := by
  refine peImp (pe_fld ha (abase_of hn _ _ _)) fun σ H Q q => ?_
  obtain ⟨z, env, st, rfl, rel, er, q⟩ := q
  refine ⟨z, env, st, rfl, rel, er, (Post.bind (by simpa only [evalE] using q)).imp fun dx st1 z1 e1 rel1 q1 v1 r1 => ?_⟩
  obtain ⟨d, e, q2⟩ := Post.ofO q1 rel1
  have go : ∀ (c' : Nat) (ds : List D) (kl : MCls) (a : Addr) (dx : Addr) (vs : List V), G.pg.cls[c']? = some kl → v1 = .ref a → z1.H a = some (.ins (G.cA c') dx ((kl.fs.map sOf).zip vs)) → Rs G z1 ds vs → getF G.pg c' ds f = some d →
      ∃ a C dx fs v, v1 = .ref a ∧ z1.H a = some (.ins C dx fs) ∧ Cls X.K C ∧ NoAttr X.K C (sOf f) ∧ fs.lookup (sOf f) = some v ∧ Q v z1.H := by
    intro c' ds kl a dx vs hk ev hH rs e
    unfold getF at e
    rw [hk] at e
    obtain ⟨v, e2, r2⟩ := zip_look rs e
    obtain ⟨s1, s2, s3, s4⟩ := S.cls c' kl hk
    have hf : f ∈ kl.fs := by
      have e : (kl.fs.zip ds).lookup f = some d := e
      exact (List.of_mem_zip (look_mem e)).1
    refine ⟨a, _, dx, _, v, ev, hH, by rw [c.K]; exact s1, by rw [c.K]; exact s2 f hf, e2, q2 v r2⟩
  cases dx <;> simp only [fldD] at e <;> try cases e
  · rename_i c' ds
    simp only [R] at r1
    obtain ⟨a, dx, vs, kl, ev, _, hk, hH, _, rs⟩ := r1
    exact go c' ds kl a dx vs hk ev hH rs e
  · rename_i i
    simp only [R] at r1
    obtain ⟨a, hi, ev⟩ := r1
    cases hs : st1[i]? with
    | none => rw [hs] at e; cases e
    | some cl =>
      rw [hs] at e
      cases cl with
      | lst ds => cases e
      | obj c' ds =>
        obtain ⟨a', ha', dx, vs, kl, hk, hH, _, rs⟩ := rel1.at_ i _ hs
        rw [hi] at ha'; cases ha'
        exact go c' ds kl a dx vs hk ev hH rs e

/-! ### calls -/
theorem PostF.of {z : Z} {σ : St} {o : Out D} {Q : VK} (h : Post G z σ W o fun d _ z' => ∀ v, R G z' d v → Q v z'.H) : PostF G z o Q (WE W σ) := by
  cases o with
  | ok d st => exact fun z' e r v rv => h z' e r v rv
  | exc e st => exact fun z' cls dd e1 r x => h z' cls dd e1 r x
  | bad => exact h
theorem fn_cast (c : In G X N sc k W lb) {j : Nat} {a : Addr} {fd : FuncData} {ps : List Str} {sp : Sp} (F : FnOk G.P G.w G.K G.mg G.base (L2N.CX G.P G.w) j a fd ps sp) : FnOk X.prog X.w X.K X.mg X.base (L2N.CX X.prog X.w) j a fd ps sp := by
  rw [c.P, c.w, c.K, c.mg, c.base]; exact F
theorem call0S {CX : CXT} {j : Nat} {f : Addr} {fd : FuncData} {ps : List Str} {sp : Sp} {E : St → XK} {x : Str} {p pos : Pos} (F : FnOk X.prog X.w X.K X.mg X.base CX j f fd ps sp) (hr : Room j X.A) (hg : Gl X x) (hm : X.mg x = some (.ref f))
    (hk : PySem.W.keepIn X.K (.ref f) = true) (hb : Binds X.K fd ps []) (hx : ∀ σ, PassesAt CX X σ (E σ)) (hdb : (x == ("__debug__" : Str)) = false) : PE X (.Call (.Name x p) [] [] pos) (tCallS sp E tNil) := by
  refine ⟨fun pins s σ H Q I h => wpAny_Call_Name_kw (ld_glob I hg hm ?_ hdb)⟩
  exact PySem.W.callWith_K0 I.kIn hk (run_fnS (us := []) F hr hb (hx σ) I .nil h)
theorem e_call (S : Static G nm) (c : In G X N sc k W lb) (L : FnsOk G k) {f : Nat} {x : Str} {es : List Expr} {ms : MEs} {p pos : Pos} (hf : nm.fns[f]? = some x) (hx : x ≠ "") (hg : glS sc x = true) (hn : okN x = true) (hi : (G.pg.defs[f]?).bind (·.ini) = none)
    (ha : PA X es (tAof G (tabs G.pg k) W ms)) (hp : plains es = true) (hlen : mesLen ms = es.length) : PE X (.Call (.Name x p) es [] pos) (tOf G (tabs G.pg k) W (.call f ms)) := by
  obtain ⟨hl, hm⟩ := S.fns f x hf hx
  have F := fn_cast c (L f hl)
  have hb : Binds X.K (G.fD f) (G.fP f) [] := by rw [c.K]; exact S.bd f hl
  have hk : PySem.W.keepIn X.K (.ref (G.fA f)) = true := by rw [c.K]; exact S.kp f hl
  have hm' : X.mg x = some (.ref (G.fA f)) := by rw [c.mg]; exact hm
  have hsp : ∀ vs H Q E, spFn G (tabs G.pg k) f vs H Q E → spOf G (tabs G.pg k) f vs H Q E := fun vs H Q E q => by unfold spOf; rw [hi]; exact q
  have key : ∀ σ H Q, tOf G (tabs G.pg k) W (.call f ms) σ H Q → tCallS (spOf G (tabs G.pg k) f) (WE W) (tAof G (tabs G.pg k) W ms) σ H Q := fun σ H Q q => by
    obtain ⟨z, env, st, rfl, rel, er, q⟩ := q
    refine ⟨z, env, st, rfl, rel, er, (Post.bind (by simpa only [evalE] using q)).imp fun ds st1 z1 e1 rel1 q1 vs rs => ?_⟩
    exact hsp _ _ _ _ ⟨z1, st1, ds, rfl, rel1, rs, PostF.of q1⟩
  cases es with
  | nil =>
    refine peImp (call0S F c.rm (gl_of c hg) hm' hk hb c.pass (okN_dbg hn)) fun σ H Q q => ?_
    obtain ⟨z, env, st, rfl, rel, er, q⟩ := q
    have q0 : tAof G (tabs G.pg k) W ms σ z.H _ := key σ z.H Q ⟨z, env, st, rfl, rel, er, q⟩
    cases ms with
    | nil =>
      obtain ⟨z', env', st', e', rel', er', q'⟩ := q0
      simp only [evalEs] at q'
      have := Post.ok q' rel' [] (Rs.nil.mpr rfl)
      rw [e'] at this
      exact this
    | cons m r => simp [mesLen] at hlen
  | cons e r =>
    simp only [plains, Bool.and_eq_true] at hp
    exact peImp (pe_callS F c.rm (gl_of c hg) hm' hk hb c.pass ha (okN_dbg hn) (star_of hp.1 _ _) (backTo_any _ _ hp.2)) key
theorem star_all (env : PySem.Env) (pos : Pos) : ∀ {es : List Expr}, plains es = true → (backTo pos (starEach es env)).all (!·.1) = true
  | [], _ => by rfl
  | e :: es, h => by
    simp only [plains, Bool.and_eq_true] at h
    have ih := star_all env pos h.2
    rw [star_of h.1]
    simpa [backTo] using ih
theorem meth_tree {o : Expr} (h : notCall0 o = true) (env : PySem.Env) (m : Str) (apos pos : Pos) {args : List Expr} (hp : plains args = true) (hl : args.length < 30) (hline : (apos.endLine == pos.line) = true) :
    eval (.Call (.Attribute o m apos) args [] pos) env = (do
      let ov ← eval o env
      standAt apos.atName
      let r ← holding [ov] (getMethod ov m (do return (← importBound o env).getD true))
      callWith pos r.1 r.2 (backTo pos (starEach args env)) (backToKw pos (keywordEach [] env))) := by
  have few : methodCallForm (args.length + ([] : List Keyword).length) (backTo pos (starEach args env)) (backToKw pos (keywordEach [] env)) = true := by
    unfold methodCallForm
    rw [star_all env pos hp]
    simp [keywordEach, backToKw]
    omega
  show (do
    let ov ← attributeBase o m env (eval o env)
    standAt apos.atName
    methodCall o m apos pos env ov (args.length + ([] : List Keyword).length) (backTo pos (starEach args env)) (backToKw pos (keywordEach [] env))) = _
  rw [abase_of h]
  unfold methodCall methodCallPos calleeOf
  rw [few, hline]
  rfl
theorem e_meth (S : Static G nm) (c : In G X N sc k W lb) (L : FnsOk G k) {m : Txt} {o : Expr} {es : List Expr} {mo : ME} {ms : MEs} {apos pos : Pos} (ho : PE X o (tOf G (tabs G.pg k) W mo)) (hn : notCall0 o = true)
    (ha : PA X es (tAof G (tabs G.pg k) W ms)) (hp : plains es = true) (hlen : mesLen ms = es.length) (h30 : es.length < 30) (hline : (apos.endLine == pos.line) = true) : PE X (.Call (.Attribute o (sOf m) apos) es [] pos) (tOf G (tabs G.pg k) W (.meth mo m ms)) := by
  refine ⟨fun pins s σ H Q I q => ?_⟩
  have ht := meth_tree hn X.env (sOf m) apos pos hp h30 hline
  obtain ⟨z, env, st, rfl, rel, er, q⟩ := q
  refine methcall_of ho I ⟨z, env, st, rfl, rel, er, (Post.bind (by simpa only [evalE] using q)).imp fun dx st1 z1 e1 rel1 q1 v1 r1 => ?_⟩ ht
  have er1 := er.ext e1 rel.wf
  have go : ∀ (c' : Nat) (kl : MCls) (f : Nat) (a dx' : Addr) (vs : List V), G.pg.cls[c']? = some kl → kl.ms.lookup m = some f → v1 = .ref a → z1.H a = some (.ins (G.cA c') dx' ((kl.fs.map sOf).zip vs)) →
      (Post G z1 σ W ((evalEs G.pg (tabs G.pg k) ms env st1).bind fun ds st => callT (tabs G.pg k) f (dx :: ds) st) fun d _ z' => ∀ v, R G z' d v → Q v z'.H) →
      ∃ a C dx' fs g, v1 = .ref a ∧ z1.H a = some (.ins C dx' fs) ∧ Cls X.K C ∧ Meth X.K C (sOf m) g ∧ fs.lookup (sOf m) = none ∧
        ∀ s1, L2.Inv X pins σ z1.H s1 → wpAny (model X.prog X.w) X.A (callWith pos (.ref g) [.ref a] (backTo pos (starEach es X.env)) (backToKw pos (keywordEach [] X.env))) (EP X pins σ Q) X.xe s1 := by
    intro c' kl f a dx' vs hk hm ev hH q2
    subst ev
    obtain ⟨s1, _, _, _⟩ := S.cls c' kl hk
    obtain ⟨hM, hnf, hfl, hi⟩ := S.ms c' kl m f hk hm
    have hM' : Meth X.K (G.cA c') (sOf m) (G.fA f) := by rw [c.K]; exact hM
    have hl : ((kl.fs.map sOf).zip vs).lookup (sOf m) = none := by
      rw [List.lookup_eq_none_iff]
      intro p hp'
      have := (List.of_mem_zip hp').1
      obtain ⟨x, hx, ex⟩ := List.mem_map.mp this
      simp only [bne_iff_ne, ne_eq, beq_eq_false_iff_ne]
      intro e
      rw [← ex] at e
      exact hnf (by rw [sOf_inj e]; exact hx)
    refine ⟨a, _, dx', _, _, rfl, hH, by rw [c.K]; exact s1, hM', hl, fun s2 I2 => ?_⟩
    have F := fn_cast c (L f hfl)
    have hb : Binds X.K (G.fD f) (G.fP f) [] := by rw [c.K]; exact S.bd f hfl
    have hsp : ∀ vs H Q E, spFn G (tabs G.pg k) f vs H Q E → spOf G (tabs G.pg k) f vs H Q E := fun vs H Q E q => by unfold spOf; rw [hi]; exact q
    cases es with
    | nil =>
      cases ms with
      | cons m r => simp [mesLen] at hlen
      | nil =>
        refine PySem.W.callWith_K0 (first := [.ref a]) I2.kIn hM'.kp (run_fnS (us := [.ref a]) (vs := [.ref a]) F c.rm hb (c.pass σ) I2 (.cons rfl .nil) (hsp _ _ _ _ ⟨z1, st1, [dx], rfl, rel1, ?_, PostF.of (σ := σ) (W := W) ?_⟩))
        · exact Rs.mk _ _ r1 (Rs.nil.mpr rfl)
        · simp only [evalEs, Out.bind_ok] at q2
          exact q2
    | cons e r =>
      simp only [plains, Bool.and_eq_true] at hp
      refine PySem.W.callWith_K (first := [.ref a]) (h₀ := X.base) I2.ok.mod.kin hM'.kp (thn (ha.run pos pins s2 σ z1.H (fun vs H2 => spOf G (tabs G.pg k) f (.ref a :: vs) H2 Q (WE W σ)) I2 ⟨z1, env, st1, rfl, rel1, er1, (Post.bind q2).imp fun ds st2 z2 e2 rel2 q3 vs rs => ?_⟩) fun us s3 ⟨vs, H2, I3, rv, q4⟩ => ⟨I3.kIn, ?_⟩) (star_of hp.1 _ _) (backTo_any _ _ hp.2)
      · exact hsp _ _ _ _ ⟨z2, st2, dx :: ds, rfl, rel2, Rs.mk _ _ (r1.ext e2 rel1.wf) rs, PostF.of q3⟩
      · exact run_fnS (us := .ref a :: us) (vs := .ref a :: vs) F c.rm hb (c.pass σ) I3 (.cons rfl rv) q4
  cases hmf : methF G.pg st1 m dx with
  | none => rw [hmf] at q1; exact q1.elim
  | some f =>
    rw [hmf] at q1
    cases dx <;> simp only [methF] at hmf <;> try cases hmf
    · rename_i c' ds
      obtain ⟨kl, hk, hm⟩ := Option.bind_eq_some_iff.mp hmf
      simp only [R] at r1
      obtain ⟨a, dx', vs, kl', ev, _, hk', hH, _, rs⟩ := r1
      rw [hk] at hk'; cases hk'
      exact go c' kl f a dx' vs hk hm ev hH q1
    · rename_i i
      simp only [R] at r1
      obtain ⟨a, hi, ev⟩ := r1
      cases hs : st1[i]? with
      | none => rw [hs] at hmf; cases hmf
      | some cl =>
        rw [hs] at hmf
        cases cl with
        | lst ds => cases hmf
        | obj c' ds =>
          obtain ⟨kl, hk, hm⟩ := Option.bind_eq_some_iff.mp hmf
          obtain ⟨a', ha', dx', vs, kl', hk', hH, _, rs⟩ := rel1.at_ i _ hs
          rw [hi] at ha'; cases ha'
          rw [hk] at hk'; cases hk'
          exact go c' kl f a dx' vs hk hm ev hH q1
theorem peNever {e : Expr} : PE X e fun _ _ _ => False := ⟨fun _ _ _ _ _ _ h => h.elim⟩
theorem ptNever {e : Expr} : PT X e fun _ _ _ => False := ⟨fun _ _ _ _ _ _ h => h.elim⟩
/-- a new cell -/
def Z.cell (z : Z) (p : Addr) : Z := ⟨z.H, z.F, z.io ++ [p]⟩
theorem Keep.cell (z : Z) (p : Addr) : Keep z (z.cell p) := ⟨fun _ h => h, fun _ _ _ h => h, fun i a h => by
  show (z.io ++ [p])[i]? = some a
  rw [List.getElem?_append_left (List.getElem?_eq_some_iff.mp h).1]
  exact h⟩
theorem Rel.cell {z : Z} {st : Store} (r : Rel G z st) {p : Addr} (al : Alone z p) {cl : Cell} (h : CellAt G (z.cell p) p cl) : Rel G (z.cell p) (st ++ [cl]) := by
  refine ⟨⟨fun a hm => ?_, ?_, r.wf.ft⟩, r.tab, by simp [Z.cell, r.len], fun i c hc => ?_⟩
  · rcases List.mem_append.mp hm with hm | hm
    · exact r.wf.cf a hm
    · rw [List.mem_singleton.mp hm]; exact al.nf
  · show (z.io ++ [p]).Nodup
    rw [List.nodup_append]
    refine ⟨r.wf.nd, by simp, fun a ha b hb e => ?_⟩
    rw [List.mem_singleton.mp hb] at e
    exact al.ni (by rw [← e]; exact ha)
  · by_cases hi : i < st.length
    · rw [List.getElem?_append_left hi] at hc
      obtain ⟨a, q, k⟩ := r.at_ i c hc
      exact ⟨a, (Keep.cell z p).c i a q, CellAt.keep (Keep.cell z p) (fun _ h => h) k⟩
    · rw [List.getElem?_append_right (by omega)] at hc
      have e0 : i = st.length := by
        by_cases e : i - st.length = 0
        · omega
        · rw [List.getElem?_eq_none (by simp; omega)] at hc; cases hc
      subst e0
      simp at hc
      subst hc
      refine ⟨p, ?_, h⟩
      show (z.io ++ [p])[st.length]? = some p
      rw [← r.len]
      simp
theorem Ext.cellF {z0 z : Z} (e : Ext z0 z) {p : Addr} (h : Free z0.H p) : Ext z0 (z.cell p) := by
  obtain ⟨m, em, n⟩ := e.c
  refine ⟨e.f, e.h, ⟨m ++ [p], by show z.io ++ [p] = _; rw [em, List.append_assoc], fun a ha => ?_⟩, e.nf, e.gr⟩
  rcases List.mem_append.mp ha with ha | ha
  · exact n a ha
  · rw [List.mem_singleton.mp ha]; exact h
theorem Ext.cell {z0 z : Z} (e : Ext z0 z) {p : Addr} (h : z0.H p = none) : Ext z0 (z.cell p) := e.cellF (Free.none h)
theorem e_make (S : Static G nm) {k' : Nat} (c : In G X N sc (k' + 1) W lb) (L : FnsOk G k') {cl : Nat} {x : Str} {es : List Expr} {ms : MEs} {p pos : Pos} (hf : nm.cls[cl]? = some x) (hg : glS sc x = true) (hn : okN x = true) (hcl : (G.pg.cls[cl]?).isSome = true)
    (ha : PA X es (tAof G (tabs G.pg (k' + 1)) W ms)) (hp : plains es = true) (hlen : mesLen ms = es.length) : PE X (.Call (.Name x p) es [] pos) (tOf G (tabs G.pg (k' + 1)) W (.make cl ms)) := by
  obtain ⟨kl, hk⟩ := Option.isSome_iff_exists.mp hcl
  obtain ⟨M, hil, hini⟩ := S.mkC cl kl hk
  have F := fn_cast c (L kl.init hil)
  have hb : Binds X.K (G.fD kl.init) (G.fP kl.init) [] := by rw [c.K]; exact S.bd _ hil
  have hm : X.mg x = some (.ref (G.cA cl)) := by rw [c.mg]; exact S.clsN cl x hf
  have M' : Mk X.K (G.cA cl) (G.fA kl.init) := by rw [c.K]; exact M
  have key : ∀ σ H Q, tOf G (tabs G.pg (k' + 1)) W (.make cl ms) σ H Q → tMake (G.cA cl) (spOf G (tabs G.pg k') kl.init) [] E0 (tAof G (tabs G.pg (k' + 1)) W ms) σ H Q := fun σ H Q q => by
    obtain ⟨z, env, st, rfl, rel, er, q⟩ := q
    simp only [evalE, tabs] at q
    refine ⟨z, env, st, rfl, rel, er, (Post.bind q).imp fun ds st1 z1 e1 rel1 q1 vs rs => ?_⟩
    intro y dx hy hdx ne
    rw [hk] at q1
    show spOf G (tabs G.pg k') kl.init _ _ _ _
    unfold spOf
    rw [hini]
    refine ⟨z1, st1, ds, y, dx, vs, by simp, hy, hdx, ne, rfl, rel1, rs, ?_⟩
    simp only at q1
    cases ho : callT (tabs G.pg k') kl.init ds st1 with
    | exc e s => rw [ho] at q1; exact q1.elim
    | bad => rw [ho] at q1; exact q1.elim
    | ok d st2 =>
      rw [ho] at q1
      cases d <;> try exact q1.elim
      rename_i fs
      intro z2 ws k2 dx2 e2 rel2 al hk2 hH hl rf
      refine ⟨rfl, ?_⟩
      simp only at q1
      cases hmu : kl.mu with
      | false =>
        rw [hmu] at q1
        rw [if_neg (by decide)] at q1
        refine Post.at q1 (e2.fix hy) (rel2.fix al) _ ?_
        simp only [R]
        exact ⟨y, dx2, ws, k2, rfl, .inr rfl, hk2, hH, hl, Rs.keep (Keep.fix _ _) _ _ rf⟩
      | true =>
        rw [hmu] at q1
        rw [if_pos rfl] at q1
        refine Post.at q1 (e2.cell hy) (rel2.cell al ⟨dx2, ws, k2, hk2, hH, hl, Rs.keep (Keep.cell _ _) _ _ rf⟩) _ ?_
        simp only [R]
        refine ⟨y, ?_, rfl⟩
        show (z2.io ++ [y])[st2.length]? = some y
        rw [← rel2.len]
        simp
  cases es with
  | nil =>
    cases ms with
    | cons m r => simp [mesLen] at hlen
    | nil =>
      refine peImp (pe_make0 M' F c.rm (gl_of c hg) hm hb .nil passN (okN_dbg hn)) fun σ H Q q => ?_
      obtain ⟨z, env, st, e', rel, er, q'⟩ := key σ H Q q
      simp only [evalEs] at q'
      have := Post.ok q' rel [] (Rs.nil.mpr rfl)
      rw [e'] at this
      exact this
  | cons e r =>
    simp only [plains, Bool.and_eq_true] at hp
    exact peImp (pe_make M' F c.rm (gl_of c hg) hm hb .nil passN ha (okN_dbg hn) (star_of hp.1 _ _) (backTo_any _ _ hp.2)) key
end
end Fw

set_option Elab.async false
set_option linter.all false
set_option maxRecDepth 100000
set_option autoImplicit false
set_option maxHeartbeats 1000000
/-! Fw6: chains of comparisons, the built-in functions as expressions. -/
namespace Fw
open PySem PySem.Spec PyProof.Rows L2
section
variable {G : Gd} {nm : Nm} {X : Cx} {N : List Str} {sc : Scope} {k : Nat} {W : WX} {lb : Bool} {T : List FT}

/-! ### chains -/
inductive ChOk (G : Gd) (T : List FT) (W : WX) (X : Cx) : MC → List CmpOp → List Expr → Prop
  | last {op : Cmp} {m : ME} {b : Expr} : PE X b (tOf G T W m) → plainE b = true → ChOk G T W X (.last op m) [cmpOf op] [b]
  | more {op : Cmp} {m : ME} {b : Expr} {r : MC} {ops : List CmpOp} {es : List Expr} : PE X b (tOf G T W m) → plainE b = true → ChOk G T W X r ops es → ChOk G T W X (.more op m r) (cmpOf op :: ops) (b :: es)
theorem ChOk.marks {r : MC} {ops : List CmpOp} {es : List Expr} (h : ChOk G T W X r ops es) : lastMarks ops es = false := by
  induction h with
  | last _ hp => exact marks_of hp _
  | more _ _ h ih =>
    cases h with
    | last _ _ => exact ih
    | more _ _ _ => exact ih
theorem EP.mono {X : Cx} {pins : List (Addr × Obj)} {σ : St} {Q Q' : VK} {u : Value} {s : Shared} (h : EP X pins σ Q u s) (f : ∀ v H, Q v H → Q' v H) : EP X pins σ Q' u s := by
  obtain ⟨v, H, I, r, q⟩ := h
  exact ⟨v, H, I, r, f _ _ q⟩
/-- one link: the next value, the comparison's answer -/
theorem link_run (c : On G X) {op : Cmp} {m : ME} {b : Expr} (hb : PE X b (tOf G T W m)) {pins : List (Addr × Obj)} {s : Shared} {σ : St} {z : Z} {env : Fw.Env} {st : Store} {dx : D} {x : V} {v : Value} (I : L2.Inv X pins σ z.H s) (rv : RelV x v) (rel : Rel G z st) (er : EnvR G z env σ) (rx : R G z dx x)
    {C : D → Bool → Store → Z → Prop} (hC : ∀ dy t st1 z1 z2, Ext z1 z2 → C dy t st1 z1 → C dy t st1 z2) (q : Post G z σ W (evalE G.pg T m env st) fun dy st1 z1 => ∃ t, cmp2 op dx dy = some t ∧ C dy t st1 z1) {F : Value → Value → Shared → Prop}
    (hF : ∀ u s1 z1 st1 dy y t, L2.Inv X pins σ z1.H s1 → RelV y u → Ext z z1 → Rel G z1 st1 → R G z1 dy y → C dy t st1 z1 → F u (.bool t) s1) :
    wpAny (model X.prog X.w) X.A (eval b X.env) (fun u s1 => wpAny (model X.prog X.w) X.A (compareOp (cmpOf op) v u) (fun w s2 => F u w s2) X.xe s1) X.xe s := by
  refine thn (hb.run pins s σ z.H (fun y H1 => ∃ z1 st1 dy t, z1.H = H1 ∧ Ext z z1 ∧ Rel G z1 st1 ∧ R G z1 dy y ∧ cmp2 op dx dy = some t ∧ C dy t st1 z1) I ⟨z, env, st, rfl, rel, er, q.imp fun dy st1 z1 e1 rel1 q1 y ry => ?_⟩) fun u s1 ⟨y, H1, I1, ru, z1, st1, dy, t, e0, e1, rel1, ry, ec, q1⟩ => ?_
  · obtain ⟨t, ec, q1⟩ := q1
    exact ⟨z1, st1, dy, t, rfl, e1, rel1, ry, ec, q1⟩
  · subst e0
    have hd : (fun a b => (cmp2 op a b).map D.bl) dx dy = some (.bl t) := by show (cmp2 op dx dy).map D.bl = _; rw [ec]; rfl
    refine thn (cmp_all c op pins s1 σ z1.H x y v u (fun w H2 => ∃ z2, H2 = z2.H ∧ Ext z1 z2 ∧ Rel G z2 st1 ∧ w = .bl t) I1 rv ru ⟨z1, st1, dx, dy, .bl t, rfl, rel1, rx.ext e1 rel.wf, ry, hd, fun z2 w e2 rel2 rw2 => ⟨z2, rfl, e2, rel2, R.bl.mp rw2⟩⟩) fun w s2 ⟨w', H2, I2, r2, z2, eH, e2, rel2, ew⟩ => ?_
    subst eH ew
    cases r2
    exact hF u s2 z2 st1 dy y t I2 ru (e1.trans e2) rel2 (ry.ext e2 rel1.wf) (hC _ _ _ _ _ e2 q1)
theorem chain_run (c : On G X) {pos : Pos} {r : MC} {ops : List CmpOp} {es : List Expr} (h : ChOk G T W X r ops es) : ∀ {pins : List (Addr × Obj)} {s : Shared} {σ : St} {z : Z} {env : Fw.Env} {st : Store} {dx : D} {x : V} {v : Value} {Q : VK},
    L2.Inv X pins σ z.H s → RelV x v → Rel G z st → EnvR G z env σ → R G z dx x → Post G z σ W (evalC G.pg T dx r env st) (fun d _ z' => ∀ v, R G z' d v → Q v z'.H) →
    wpAny (model X.prog X.w) X.A (compareChain pos v ops (evalEach es X.env)) (EP X pins σ Q) X.xe s := by
  induction h with
  | last hb hp =>
    intro pins s σ z env st dx x v Q I rv rel er rx q
    rename_i op m b
    refine chain_last (link_run c hb I rv rel er rx (C := fun dy t st1 z1 => Post G z1 σ W (.ok (.bl t) st1) fun d _ z' => ∀ v, R G z' d v → Q v z'.H) (fun _ _ _ _ _ e p => Post.later p e) ((Post.bind (by simpa only [evalC] using q)).imp fun dy st1 z1 e1 rel1 q1 => ?_) fun u s1 z1 st1 dy y t I1 ru e1 rel1 ry q1 => ?_)
    · obtain ⟨d, e, _⟩ := Post.ofO q1 rel1
      obtain ⟨t, e2, rfl⟩ := Option.map_eq_some_iff.mp e
      refine ⟨t, e2, ?_⟩
      rw [e2] at q1
      exact q1
    · exact ⟨.bl t, z1.H, I1, rfl, Post.ok q1 rel1 _ (R.bl.mpr rfl)⟩
  | more hb hp hr ih =>
    intro pins s σ z env st dx x v Q I rv rel er rx q
    rename_i op m b r' ops' es'
    obtain ⟨op2, ops2, e2, es2, eo, ee⟩ : ∃ op2 ops2 e2 es2, ops' = op2 :: ops2 ∧ es' = e2 :: es2 := by
      cases hr with
      | last _ _ => exact ⟨_, _, _, _, rfl, rfl⟩
      | more _ _ _ => exact ⟨_, _, _, _, rfl, rfl⟩
    subst eo ee
    refine chain_link (link_run c hb I rv rel er rx (C := fun dy t st1 z1 => Post G z1 σ W (if t = true then evalC G.pg T dy r' env st1 else .ok (.bl false) st1) fun d _ z' => ∀ v, R G z' d v → Q v z'.H) (fun _ _ _ _ _ e p => Post.later p e) ((Post.bind (by simpa only [evalC] using q)).imp fun dy st1 z1 e1 rel1 q1 => ?_) fun u s1 z1 st1 dy y t I1 ru e1 rel1 ry q1 => ?_)
    · cases ec : cmp2 op dx dy with
      | none => rw [ec] at q1; exact q1.elim
      | some t =>
        rw [ec] at q1
        refine ⟨t, rfl, ?_⟩
        cases t with
        | true => exact q1
        | false => exact q1
    · refine wpAny_truthy_bool ?_
      cases t with
      | false => exact ⟨.bl false, z1.H, I1, rfl, Post.ok q1 rel1 _ (R.bl.mpr rfl)⟩
      | true => exact ih I1 ru rel1 (er.ext e1 rel.wf) ry q1
theorem chainT_run (c : On G X) {pos : Pos} {r : MC} {ops : List CmpOp} {es : List Expr} (h : ChOk G T W X r ops es) : ∀ {pins : List (Addr × Obj)} {s : Shared} {σ : St} {z : Z} {env : Fw.Env} {st : Store} {dx : D} {x : V} {v : Value} {Q : Bool → Hp → Prop},
    L2.Inv X pins σ z.H s → RelV x v → Rel G z st → EnvR G z env σ → R G z dx x → Post G z σ W (evalC G.pg T dx r env st) (fun d _ z' => ∃ b, d = .bl b ∧ Q b z'.H) →
    wpAny (model X.prog X.w) X.A (testChain pos v ops (evalEach es X.env)) (TP X pins σ Q) X.xe s := by
  induction h with
  | last hb hp =>
    intro pins s σ z env st dx x v Q I rv rel er rx q
    rename_i op m b
    refine test_last (link_run c hb I rv rel er rx (C := fun dy t st1 z1 => Post G z1 σ W (.ok (D.bl t) st1) fun d _ z' => ∃ b, d = D.bl b ∧ Q b z'.H) (fun _ _ _ _ _ e p => Post.later p e) ((Post.bind (by simpa only [evalC] using q)).imp fun dy st1 z1 e1 rel1 q1 => ?_) fun u s1 z1 st1 dy y t I1 ru e1 rel1 ry q1 => ?_)
    · obtain ⟨d, e, _⟩ := Post.ofO q1 rel1
      obtain ⟨t, e2, rfl⟩ := Option.map_eq_some_iff.mp e
      refine ⟨t, e2, ?_⟩
      rw [e2] at q1
      exact q1
    · refine wpAny_truthy_bool ?_
      obtain ⟨b', e', q2⟩ := Post.ok q1 rel1
      cases e'
      exact ⟨z1.H, I1, q2⟩
  | more hb hp hr ih =>
    intro pins s σ z env st dx x v Q I rv rel er rx q
    rename_i op m b r' ops' es'
    obtain ⟨op2, ops2, e2, es2, eo, ee⟩ : ∃ op2 ops2 e2 es2, ops' = op2 :: ops2 ∧ es' = e2 :: es2 := by
      cases hr with
      | last _ _ => exact ⟨_, _, _, _, rfl, rfl⟩
      | more _ _ _ => exact ⟨_, _, _, _, rfl, rfl⟩
    subst eo ee
    refine test_link (link_run c hb I rv rel er rx (C := fun dy t st1 z1 => Post G z1 σ W (if t = true then evalC G.pg T dy r' env st1 else .ok (.bl false) st1) fun d _ z' => ∃ b, d = .bl b ∧ Q b z'.H) (fun _ _ _ _ _ e p => Post.later p e) ((Post.bind (by simpa only [evalC] using q)).imp fun dy st1 z1 e1 rel1 q1 => ?_) fun u s1 z1 st1 dy y t I1 ru e1 rel1 ry q1 => ?_)
    · cases ec : cmp2 op dx dy with
      | none => rw [ec] at q1; exact q1.elim
      | some t =>
        rw [ec] at q1
        refine ⟨t, rfl, ?_⟩
        cases t with
        | true => exact q1
        | false => exact q1
    · refine wpAny_truthy_bool ?_
      cases t with
      | false =>
        obtain ⟨b', e', q2⟩ := Post.ok q1 rel1
        cases e'
        exact ⟨z1.H, I1, q2⟩
      | true => exact ih I1 ru rel1 (er.ext e1 rel.wf) ry q1
theorem ChOk.two {op : Cmp} {m : ME} {r : MC} {ops : List CmpOp} {es : List Expr} (h : ChOk G T W X (.more op m r) ops es) : ∃ o1 o2 os a b bs, ops = o1 :: o2 :: os ∧ es = a :: b :: bs := by
  cases h with
  | more _ _ h =>
    cases h with
    | last _ _ => exact ⟨_, _, _, _, _, _, rfl, rfl⟩
    | more _ _ _ => exact ⟨_, _, _, _, _, _, rfl, rfl⟩
theorem e_chain (c : On G X) {a : Expr} {ma : ME} {op : Cmp} {m : ME} {r : MC} {ops : List CmpOp} {es : List Expr} {pos : Pos} (ha : PE X a (tOf G T W ma)) (h : ChOk G T W X (.more op m r) ops es) : PE X (.Compare a ops es pos) (tOf G T W (.chain ma (.more op m r))) := by
  refine ⟨fun pins s σ H Q I q => ?_⟩
  obtain ⟨o1, o2, os, e1, e2, bs, eo, ee⟩ := h.two
  have hm := h.marks
  subst eo ee
  obtain ⟨z, env, st, rfl, rel, er, q⟩ := q
  refine Compare_chain (thn (ha.run pins s σ z.H (fun x H1 => ∃ z1 st1 dx, z1.H = H1 ∧ Ext z z1 ∧ Rel G z1 st1 ∧ R G z1 dx x ∧ Post G z1 σ W (evalC G.pg T dx (.more op m r) env st1) fun d _ z' => ∀ v, R G z' d v → Q v z'.H) I ⟨z, env, st, rfl, rel, er, (Post.bind (by simpa only [evalE] using q)).imp fun dx st1 z1 e1 rel1 q1 v1 r1 => ⟨z1, st1, dx, rfl, e1, rel1, r1, q1⟩⟩)
    fun v s1 ⟨x, H1, I1, rv, z1, st1, dx, e0, e1, rel1, r1, q1⟩ => ?_) hm
  subst e0
  exact chain_run c h I1 rv rel1 (er.ext e1 rel.wf) r1 q1
theorem t_chain (c : On G X) {a : Expr} {ma : ME} {op : Cmp} {m : ME} {r : MC} {ops : List CmpOp} {es : List Expr} {pos : Pos} (ha : PE X a (tOf G T W ma)) (h : ChOk G T W X (.more op m r) ops es) : PT X (.Compare a ops es pos) (tTof G T W (.chain ma (.more op m r))) := by
  refine ⟨fun pins s σ H Q I q => ?_⟩
  obtain ⟨o1, o2, os, e1, e2, bs, eo, ee⟩ := h.two
  have hm := h.marks
  subst eo ee
  obtain ⟨z, env, st, rfl, rel, er, q⟩ := q
  refine isTrue_chain (thn (ha.run pins s σ z.H (fun x H1 => ∃ z1 st1 dx, z1.H = H1 ∧ Ext z z1 ∧ Rel G z1 st1 ∧ R G z1 dx x ∧ Post G z1 σ W (evalC G.pg T dx (.more op m r) env st1) fun d _ z' => ∃ b, d = .bl b ∧ Q b z'.H) I ⟨z, env, st, rfl, rel, er, (Post.bind (by simpa only [evalE] using q)).imp fun dx st1 z1 e1 rel1 q1 v1 r1 => ⟨z1, st1, dx, rfl, e1, rel1, r1, q1⟩⟩)
    fun v s1 ⟨x, H1, I1, rv, z1, st1, dx, e0, e1, rel1, r1, q1⟩ => ?_) hm
  subst e0
  exact chainT_run c h I1 rv rel1 (er.ext e1 rel.wf) r1 q1

/-! ### built-in functions -/
theorem blt_of {b : Blt} {ms : MEs} {g : List D → Option D} (hg : blt b = g) {σ : St} {H : Hp} {Q : VK} (q : tOf G T W (.blt b ms) σ H Q) : tCB (rBl G g) (tAof G T W ms) σ H Q := by
  obtain ⟨z, env, st, rfl, rel, er, q⟩ := q
  refine ⟨z, env, st, rfl, rel, er, (Post.bind (by simpa only [evalE] using q)).imp fun ds st1 z1 e1 rel1 q1 vs rs => ?_⟩
  obtain ⟨d, e, _⟩ := Post.ofO q1 rel1
  rw [hg] at e q1
  rw [e] at q1
  exact ⟨z1, st1, ds, d, rfl, rel1, rs, e, fun z2 v e2 rel2 rv => Post.at q1 e2 rel2 v rv⟩
theorem e_bltB (S : Static G nm) (c : In G X N sc k W lb) {b : Blt} {id : String} {x : Str} {e : Expr} {es : List Expr} {ms : MEs} {p pos : Pos} (hr : CallR X (.builtin id) (rBl G (blt b))) (hg : glS sc x = true) (hx : x ∈ nm.blts) (hv : bootBuiltins x = some (.builtin id)) (hn : okN x = true)
    (ha : PA X (e :: es) (tAof G T W ms)) (hp : plains (e :: es) = true) : PE X (.Call (.Name x p) (e :: es) [] pos) (tOf G T W (.blt b ms)) := by
  simp only [plains, Bool.and_eq_true] at hp
  exact peImp (pe_callB hr (gl_of c hg) (by rw [c.mg]; exact S.blts x hx) hv ha (okN_name hn) (okN_dbg hn) (star_of hp.1 _ _) (backTo_any _ _ hp.2)) fun σ H Q q => blt_of rfl q
theorem e_bltT (S : Static G nm) (c : In G X N sc k W lb) {b : Blt} {ty : String} {x : Str} {e : Expr} {es : List Expr} {ms : MEs} {p pos : Pos} (hr : CallR X (.type ty) (rBl G (blt b))) (hg : glS sc x = true) (hx : x ∈ nm.blts) (hv : bootBuiltins x = some (.type ty)) (hn : okN x = true)
    (ha : PA X (e :: es) (tAof G T W ms)) (hp : plains (e :: es) = true) : PE X (.Call (.Name x p) (e :: es) [] pos) (tOf G T W (.blt b ms)) := by
  simp only [plains, Bool.and_eq_true] at hp
  exact peImp (pe_callTy hr (gl_of c hg) (by rw [c.mg]; exact S.blts x hx) hv ha (okN_name hn) (okN_dbg hn) (star_of hp.1 _ _) (backTo_any _ _ hp.2)) fun σ H Q q => blt_of rfl q
theorem e_isinst (S : Static G nm) (c : In G X N sc k W lb) {t : Ty} {x y : Str} {e : Expr} {m : ME} {p p2 pos : Pos} (hg : glS sc x = true) (hx : x ∈ nm.blts) (hv : bootBuiltins x = some (.builtin "isinstance")) (hn : okN x = true)
    (hg2 : glS sc y = true) (hx2 : y ∈ nm.blts) (hv2 : bootBuiltins y = some (.type (tyN t))) (hn2 : okN y = true) (he : PE X e (tOf G T W m)) (hp : plainE e = true) : PE X (.Call (.Name x p) [e, .Name y p2] [] pos) (tOf G T W (.blt (.isinst t) (.cons m .nil))) := by
  have ha : PA X [e, .Name y p2] (tCons (tOf G T W m) (tCons (tC (.ty (tyN t))) tNil)) := pa_cons he (pa_cons (pe_bltn (gl_of c hg2) (by rw [c.mg]; exact S.blts y hx2) hv2 rfl (okN_name hn2) (okN_dbg hn2)) pa_nil rfl) (star_of hp _ _)
  refine peImp (pe_callB (b_isinst c.toOn t) (gl_of c hg) (by rw [c.mg]; exact S.blts x hx) hv ha (okN_name hn) (okN_dbg hn) (star_of hp _ _) (backTo_any _ _ rfl)) fun σ H Q q => ?_
  obtain ⟨z, env, st, rfl, rel, er, q⟩ := q
  have q' : Post G z σ W ((evalE G.pg T m env st).bind fun dx st => Out.ofO st (blt (.isinst t) [dx])) fun d _ z' => ∀ v, R G z' d v → Q v z'.H := by
    simp only [evalE, evalEs] at q
    cases ho : evalE G.pg T m env st with
    | ok a b => rw [ho] at q; exact q
    | exc a b => rw [ho] at q; exact q
    | bad => rw [ho] at q; exact q
  refine ⟨z, env, st, rfl, rel, er, (Post.bind q').imp fun dx st1 z1 e1 rel1 q2 v1 r1 => ?_⟩
  obtain ⟨d, e, _⟩ := Post.ofO q2 rel1
  rw [e] at q2
  exact ⟨v1, rfl, z1, st1, [dx], d, rfl, rel1, Rs.mk _ _ r1 (Rs.nil.mpr rfl), e, fun z2 v e2 rel2 rv => Post.at q2 e2 rel2 v rv⟩
end
end Fw

set_option Elab.async false
set_option linter.all false
set_option maxRecDepth 100000
set_option autoImplicit false
set_option maxHeartbeats 4000000
/-! Fw71: enumerate over a tuple. -/
namespace Fw
open PySem PySem.Spec PyProof.Rows L2
theorem meets_enum1 {v : Value} {o : Obj} {H : Heap → Prop} (B : Begins v o H) :
    Meets (Builtin.«enumerate.__new__» ⟨[.type "enumerate", v], []⟩) (fun _ R s => H s.heap ∧
      R (.ok (.ret (.ref (s.heap.push o).objs.size))) { s with heap := (s.heap.push o).push { cls := .type "enumerate", data := .fields #[.none, .bool false, .ref s.heap.objs.size, rawInt 0, .none, .none] } }) :=
  .of_wp fun prog w A R s h => by
    obtain ⟨hp, g, d, tk, os⟩ := s; obtain ⟨h1, h⟩ := h
    have hsub := sub_enumerate
    have q1 : ∀ {A' : Around} {E : Value → Shared → Prop} {Q : Value → Shared → Prop}, Q (.ref hp.objs.size) ⟨hp.push o, g, d, tk, os⟩ → wpAny (model prog w) A' (pyIter v) Q E ⟨hp, g, d, tk, os⟩ :=
      fun q => B.iter prog w _ _ ⟨hp, g, d, tk, os⟩ _ h1 q
    wp_walk using q1
    refine wpAny_stack_any fun st => wpAny_pure ?_
    split
    · rename_i c _ _ _ _ _
      cases (c == Value.type "enumerate")
      · wp_walk using q1
        exact ⟨_, rfl, h⟩
      · wp_walk using q1
        exact ⟨_, rfl, h⟩
    · wp_walk using q1
      exact ⟨_, rfl, h⟩
section
variable {prog : Program} {w : World} {A : Around} {E : Value → Shared → Prop} {s : Shared}
theorem enum_begins1 {v : Value} {o : Obj} {H : Heap → Prop} {Q : Value → Shared → Prop} (B : Begins v o H) (h1 : H s.heap)
    (h : ∀ h', IsEnum h' (s.heap.objs.size + 1) s.heap.objs.size 0 .none → h'.get? s.heap.objs.size = some o → h'.objs.size = s.heap.objs.size + 2 →
      (∀ b o, s.heap.get? b = some o → h'.get? b = some o) → Q (.ref (s.heap.objs.size + 1)) { s with heap := h' }) :
    wpAny (model prog w) A (call (.type "enumerate") [v]) Q E s := by
  refine callType_new PySem.F.called_enumerate (by decide) (PySem.F.typeCall_enumerate_1 _) (PySem.F.newCall_enumerate_1 _) (fun obj => PySem.F.args_object_init_2 obj _) PySem.F.entry_enumerate_new
    (meets_enum1 B) ⟨h1, ?_⟩
  have hz : (s.heap.push o).objs.size = s.heap.objs.size + 1 := Heap.size_push ..
  show _ ∧ _
  rw [hz]
  have he : IsEnum ((s.heap.push o).push { cls := .type "enumerate", data := .fields #[.none, .bool false, .ref s.heap.objs.size, rawInt 0, .none, .none] }) (s.heap.objs.size + 1) s.heap.objs.size 0 .none := by
    have := Heap.get?_push_size (s.heap.push o) (o := { cls := .type "enumerate", data := .fields #[.none, .bool false, .ref s.heap.objs.size, rawInt 0, .none, .none] }) rfl
    rw [hz] at this; exact this
  refine ⟨⟨_, he, rfl⟩, h _ he (Heap.get?_push_of_some _ (Heap.get?_push_size _ B.free)) (by rw [Heap.size_push, hz]) fun b o x => Heap.get?_push_of_some _ (Heap.get?_push_of_some _ x)⟩
end
/-- the tuple at a, each item in a new pair -/
def Itet (K : PySem.W.Frag) (a : Addr) : It :=
  ⟨fun i H => ∃ (xs : List V) (x : V), SqT K H a xs ∧ xs[i]? = some x, fun i H v H' => ∃ T x, v = .ref T ∧ H T = none ∧ H' = upd H T (.tup [.int (i : Nat), x]) ∧ ∀ xs, SqT K H a xs → xs[i]? = some x, fun i H => ∃ xs : List V, SqT K H a xs ∧ xs.length ≤ i⟩
theorem turn_enumT {P : Program} {w : World} {K : PySem.W.Frag} {elts : List Expr} {kk : Nat} {tpos : Pos} (a e it : Addr) (hai : a ≠ it) (hae : a ≠ e) :
    Turn P w K (.Tuple elts kk tpos) (Itet K a) [e, it] e (fun i h => (∃ old, IsEnum h e it ((i : Nat) : Int) old) ∧ h.IsTupleIter it a i ∧ e ≠ it) where
  mem := by simp
  obj := fun i h st b hb => by
    obtain ⟨⟨old, he⟩, ⟨o, ho, hc, hd⟩, _⟩ := st
    have e' : b = e ∨ b = it := by simpa using hb
    rcases e' with z | z
    · rw [z]; exact ⟨_, he, fun v q => nomatch q⟩
    · rw [z]; exact ⟨o, ho, fun v q => by rw [hd] at q; cases q⟩
  keep := fun i h h' st k => let ⟨⟨old, he⟩, hi, hne⟩ := st; ⟨⟨old, k e (by simp) _ he⟩, hi.at fun o q => k it (by simp) o q, hne⟩
  item := by
    intro X hP hw hK hc i pins s σ H E I hf st hg
    subst hP hw hK
    obtain ⟨⟨old, he⟩, hit, hne⟩ := st
    obtain ⟨xs, x, hq, hx⟩ := hg
    obtain ⟨its, rv, p, hz⟩ := I.tuple hq
    obtain ⟨u, hu, ru⟩ := rv.get hx
    have hel : e < s.heap.objs.size := Heap.lt_size he
    have hil : it < s.heap.objs.size := by obtain ⟨_, q, _⟩ := hit; exact Heap.lt_size q
    have hil2 : i < its.toArray.size := by
      have := (List.getElem?_eq_some_iff.mp hu).1
      simpa using this
    have D := Draws.tuple (prog := X.prog) (w := X.w) (A := X.A.in1) (show X.A.in1.handled = none from I.ok.hd hc) it a hai its.toArray
    refine wpAny_pyNext_enum_itemD D he ⟨hit, (show s.heap.IsTuple a its.toArray from p)⟩ hil2 hne (by simp [hne, Ne.symm hae]) fun y h' tk hy ho hst hT hsz hk => ?_
    obtain rfl : y = u := by
      have e1 : its.toArray[i]? = some u := by simpa using hu
      rw [hy] at e1
      exact Option.some.inj e1
    obtain ⟨hit', _⟩ := hst
    refine ⟨_, rfl, wpAny_letOwnedTupleGo_enum (s := { s with heap := h', toks := tk + 1 }) ho fun h'' he' sb => ?_⟩
    have hT2 : h''.get? s.heap.objs.size = some { cls := .type "tuple", data := .seq #[.int i tk, y] } := (sb.2 _ (Nat.ne_of_gt hel)).trans hT
    have new : ObjOk X.prog X.w (upd H s.heap.objs.size (.tup [.int (i : Nat), x])) h'' s.heap.objs.size (.tup [.int (i : Nat), x]) :=
      ⟨by show 2 ≤ sizeLine; decide, [.int i tk, y], .cons ⟨_, rfl⟩ (.cons ru .nil), ⟨_, hT2, rfl, _, rfl⟩⟩
    have I1 : Inv X pins σ (upd H s.heap.objs.size (.tup [.int (i : Nat), x])) { s with heap := h'', toks := tk + 1 } :=
      I.turnedNew (ch := [e, it]) (fun b ob hb q => (sb.2 b (fun z => hb (by simp [z]))).trans (hk b ob (fun z => hb (by simp [z])) (fun z => hb (by simp [z])) q)) hf (Nat.le_refl _) new
    refine ⟨.ref s.heap.objs.size, _, I1, rfl, ⟨_, x, rfl, I.hok.fresh (Nat.le_refl _), rfl, fun ys hy => by rw [I.tuple_inj hy hq]; exact hx⟩, ⟨⟨y, ?_⟩, hit'.at fun o q => (sb.2 it (Ne.symm hne)).trans q, hne⟩, fun b hb => ?_⟩
    · have e1 : ((i + 1 : Nat) : Int) = (i : Int) + 1 := by omega
      rw [e1]; exact he'
    · have hb' : b < s.heap.objs.size := by
        have e' : b = e ∨ b = it := by simpa using hb
        rcases e' with z | z
        · rw [z]; exact hel
        · rw [z]; exact hil
      rw [upd_ne (Nat.ne_of_lt hb')]
      exact (hf b hb).1
  done := by
    intro X hP hw hK hc i pins s σ H E I hf st hg
    subst hP hw hK
    obtain ⟨⟨old, he⟩, hit, hne⟩ := st
    obtain ⟨xs, hq, hx⟩ := hg
    obtain ⟨its, rv, p, hz⟩ := I.tuple hq
    obtain ⟨f0, f1, f2, f3, f4, f5⟩ := hf it (by simp)
    have hl := rv.length
    have hT : s.TypeIs (.ref e) "enumerate" := ⟨_, he, rfl⟩
    unfold pyNext
    refine wpAny_bind (wpAny_attempt (wpAny_callSpecial?_slot (name := Str.ofString "__next__") hT PySem.F.slot_enumerate_next
      (wpAny_call_entry PySem.F.slot_enumerate_next hT PySem.F.entry_enumerate_next ?_ (PySem.F.args_enumerate_next_1 _))))
    show wpAny _ _ (field (.ref e) 2 >>= _) _ _ _
    refine wpAny_bind (wpAny_field he rfl (x := .ref it) rfl ?_)
    refine wpAny_bind (wpAny_nextOf_tuple_end (show X.A.in1.in1.handled = none from I.ok.hd hc) hit (show s.heap.IsTuple a its.toArray from p) (by simp; omega) fun h' x he' hx' => ?_)
    obtain ⟨o, ho, hcx⟩ := hx'
    refine wpAny_bind (wpAny_isInstance (T := "StopIteration") (b := true) ⟨o, ho, hcx⟩ isSubtype_stop ?_)
    refine wpAny_pure ⟨rfl, I.turned (t' := s.toks) (fun b o hb q => he' b o hb q) f0 f1 f3 f4 f5⟩
  self := fun A i s Q E st h => let ⟨⟨_, he⟩, _⟩ := st; wpAny_pyIter_enum he h
def iEnumA (K : PySem.W.Frag) (ta : TA) : TI := fun σ H R => ta σ H fun vs H1 => ∃ a xs, vs = [.ref a] ∧ ((SqL K H1 a xs ∧ R (Ite K a) H1) ∨ (SqT K H1 a xs ∧ R (Itet K a) H1))
theorem pi_enumA {X : Cx} {e : Expr} {ta : TA} {p pos tpos : Pos} {elts : List Expr} {kk : Nat} (hg : Gl X "enumerate") (hm : X.mg "enumerate" = none) (ha : PA X [e] ta) (hs : starEach [e] X.env = [(false, eval e X.env)] := by rfl) :
    PI X (.Tuple elts kk tpos) (.Call (.Name "enumerate" p) [e] [] pos) (iEnumA X.K ta) := by
  refine ⟨fun pins s σ H R I h => ?_⟩
  refine Call_ (ld_blt I hg hm boot_enumerate (PyProof.Rows.callWith_type1 (thn (ha.run pos pins s σ H _ I h) fun us s1 ⟨vs, H1, I1, r1, q1⟩ => ?_) hs rfl))
  obtain ⟨a, xs, ex, q⟩ := q1
  subst ex
  cases r1 with
  | cons r rr =>
    cases rr
    cases r
    have fp : ∀ b ∈ [s1.heap.objs.size + 1, s1.heap.objs.size], s1.heap.objs.size ≤ b := fun b hb => by
      have e' : b = s1.heap.objs.size + 1 ∨ b = s1.heap.objs.size := by simpa using hb
      rcases e' with z | z
      · rw [z]; exact Nat.le_add_right _ _
      · rw [z]; exact Nat.le_refl _
    rcases q with ⟨hq, q⟩ | ⟨hq, q⟩
    · obtain ⟨its, rv, p', hz⟩ := I1.list hq
      refine call_enumerate_list p'.isList fun h' he hit hsz hk => wpAny_pyIter_enum he ?_
      have I2 : Inv X pins σ H1 { s1 with heap := h' } := I1.kept (t' := s1.toks) hk
      refine ⟨s1.heap.objs.size + 1, [s1.heap.objs.size + 1, s1.heap.objs.size], _, _, H1, rfl, I2, turn_enum a (s1.heap.objs.size + 1) s1.heap.objs.size, ⟨⟨.none, he⟩, hit, Nat.succ_ne_self _⟩, fun b hb => ?_, q⟩
      exact I1.fpOk (fp b hb) (I1.hok.fresh (fp b hb))
    · obtain ⟨its, rv, p', hz⟩ := I1.tuple hq
      have al : a < s1.heap.objs.size := p'.lt
      refine enum_begins1 (begins_tuple a its.toArray) p' fun h' he hit hsz hk => wpAny_pyIter_enum he ?_
      have I2 : Inv X pins σ H1 { s1 with heap := h' } := I1.kept (t' := s1.toks) hk
      refine ⟨s1.heap.objs.size + 1, [s1.heap.objs.size + 1, s1.heap.objs.size], _, _, H1, rfl, I2, turn_enumT a (s1.heap.objs.size + 1) s1.heap.objs.size (Nat.ne_of_lt al) (Nat.ne_of_lt (Nat.lt_succ_of_lt al)), ⟨⟨.none, he⟩, ⟨_, hit, rfl, rfl⟩, Nat.succ_ne_self _⟩, fun b hb => ?_, q⟩
      exact I1.fpOk (fp b hb) (I1.hok.fresh (fp b hb))
end Fw

set_option Elab.async false
set_option linter.all false
set_option maxRecDepth 100000
set_option autoImplicit false
set_option maxHeartbeats 1000000
/-! Fw7: targets, what is walked. -/
namespace Fw
open PySem PySem.Spec PyProof.Rows L2

/-! ### slots forgotten, slots set -/
theorem wipe_at (σ : St) (j : Nat) : ∀ vs : List Nat, (wipe σ vs)[j]? = if j ∈ vs then (if j < σ.length then some none else none) else σ[j]?
  | [] => by simp [wipe]
  | v :: vs => by
    have ih := wipe_at σ j vs
    unfold wipe
    rw [List.getElem?_set, wipe_length, ih]
    by_cases h : v = j
    · subst h; simp
    · have : ¬ j = v := fun e => h e.symm
      simp [h, this]
theorem wipe_set {σ : St} {i : Nat} {o : Option V} {vs : List Nat} (h : i ∈ vs) : wipe (σ.set i o) vs = wipe σ vs := by
  apply List.ext_getElem?
  intro j
  rw [wipe_at, wipe_at, List.length_set]
  by_cases c : j ∈ vs
  · simp [c]
  · simp only [c, if_false]
    rw [List.getElem?_set_ne]
    exact fun e => c (by rw [← e]; exact h)
theorem wipe_wipe (σ : St) (vs : List Nat) : wipe (wipe σ vs) vs = wipe σ vs := by
  apply List.ext_getElem?
  intro j
  rw [wipe_at, wipe_at, wipe_length]
  by_cases c : j ∈ vs <;> simp [c]
/-- the frame holds, but for the slots vs -/
structure EnvX (G : Gd) (z : Z) (vs : List Nat) (env : Env) (σ : St) : Prop where
  len : env.length = σ.length
  at_ : ∀ (i : Nat) (s : Slot), i ∉ vs → env[i]? = some s → SlotAt G z σ[i]? s
  apart : ∀ (i j : Nat) (s t : Slot) (a : Addr), i ∉ vs → j ∉ vs → env[i]? = some s → env[j]? = some t → s.alone = true → t.alone = true → σ[i]? = some (some (.ref a)) → σ[j]? = some (some (.ref a)) → i = j
section
variable {G : Gd} {z : Z} {vs : List Nat} {env env' : Env} {σ : St}
theorem EnvX.done (h : EnvX G z [] env σ) : EnvR G z env σ := ⟨h.len, fun i s e => h.at_ i s (by simp) e, fun i j s t a => h.apart i j s t a (by simp) (by simp)⟩
theorem EnvR.open_ (h : EnvR G z env σ) (vs : List Nat) : EnvX G z vs env σ := ⟨h.len, fun i s _ e => h.at_ i s e, fun i j s t a _ _ => h.apart i j s t a⟩
theorem EnvR.wiped (h : EnvR G z env σ) (vs : List Nat) : EnvX G z vs env (wipe σ vs) := by
  refine ⟨by rw [wipe_length]; exact h.len, fun i s n e => ?_, fun i j s t a n1 n2 e1 e2 a1 a2 q1 q2 => ?_⟩
  · rw [wipe_at, if_neg n]; exact h.at_ i s e
  · rw [wipe_at, if_neg n1] at q1
    rw [wipe_at, if_neg n2] at q2
    exact h.apart i j s t a e1 e2 a1 a2 q1 q2
theorem EnvX.set {i : Nat} {d : D} {v : V} (h : EnvX G z (i :: vs) env σ) (r : R G z d v) : EnvX G z vs (env.set i (.val d)) (σ.set i (some v)) := by
  refine ⟨by rw [List.length_set, List.length_set]; exact h.len, fun j s n e => ?_, fun j k s t a n1 n2 e1 e2 a1 a2 q1 q2 => ?_⟩
  · by_cases c : i = j
    · subst c
      have hl : i < env.length := by
        have := (List.getElem?_eq_some_iff.mp e).1
        rwa [List.length_set] at this
      rw [List.getElem?_set_self hl] at e
      cases e
      rw [List.getElem?_set_self (by rw [← h.len]; exact hl)]
      exact ⟨v, rfl, r⟩
    · rw [List.getElem?_set_ne c] at e ⊢
      exact h.at_ j s (by simp only [List.mem_cons, not_or]; exact ⟨fun q => c q.symm, n⟩) e
  · have ne : ∀ {j : Nat} {s : Slot}, (env.set i (.val d))[j]? = some s → s.alone = true → i ≠ j := fun {j s} e al q => by
      subst q
      have hl : i < env.length := by
        have := (List.getElem?_eq_some_iff.mp e).1
        rwa [List.length_set] at this
      rw [List.getElem?_set_self hl] at e
      cases e
      cases al
    have c1 := ne e1 a1
    have c2 := ne e2 a2
    rw [List.getElem?_set_ne c1] at e1 q1
    rw [List.getElem?_set_ne c2] at e2 q2
    exact h.apart j k s t a (by simp only [List.mem_cons, not_or]; exact ⟨fun q => c1 q.symm, n1⟩) (by simp only [List.mem_cons, not_or]; exact ⟨fun q => c2 q.symm, n2⟩) e1 e2 a1 a2 q1 q2
end

/-! ### targets -/
def gNames : List Nat → TGs
  | [] => gNil
  | i :: is => gCons (gName i) (gNames is)
def gOf (K : PySem.W.Frag) : Tg → TG
  | .one i => gName i
  | .many is => gTup K is.length (gNames is)
def tgVs : Tg → List Nat
  | .one i => [i]
  | .many is => is
theorem gNames_run {G : Gd} {z : Z} {Q : St → Hp → Prop} (P : List Nat → Env → St → Prop) (hP : ∀ i vs env σ d v, P (i :: vs) env σ → P vs (env.set i (.val d)) (σ.set i (some v))) : ∀ {is vs0 : List Nat} {ds : List D} {vs : List V} {env : Env} {σ : St}, Rs G z ds vs → is.length = ds.length → EnvX G z (is ++ vs0) env σ → P (is ++ vs0) env σ →
    (∀ σ', EnvX G z vs0 ((is.zip ds).foldl (fun e p => e.set p.1 (.val p.2)) env) σ' → P vs0 ((is.zip ds).foldl (fun e p => e.set p.1 (.val p.2)) env) σ' → (∀ ws : List Nat, (∀ i ∈ is, i ∈ ws) → wipe σ' ws = wipe σ ws) → Q σ' z.H) → gNames is vs σ z.H Q
  | [], vs0, [], vs, env, σ, h, _, ex, pp, q => ⟨Rs.nil.mp h, q σ ex pp fun _ _ => rfl⟩
  | i :: is, vs0, d :: ds, vs, env, σ, h, e, ex, pp, q => by
    simp only [Rs] at h
    obtain ⟨v, r, rfl, h1, h2⟩ := h
    refine ⟨v, r, rfl, ?_⟩
    show gNames is r (σ.set i (some v)) z.H Q
    refine gNames_run P hP h2 (by simpa using e) (ex.set h1) (hP _ _ _ _ d v pp) fun σ' e' p' w => q σ' e' p' fun ws hw => ?_
    rw [w ws fun j hj => hw j (List.mem_cons_of_mem _ hj), wipe_set (hw i List.mem_cons_self)]
  | [], _, _ :: _, _, _, _, _, e, _, _, _ => by simp at e
  | _ :: _, _, [], _, _, _, _, e, _, _, _ => by simp at e
theorem gOf_runP {G : Gd} {z : Z} {Q : St → Hp → Prop} (P : List Nat → Env → St → Prop) (hP : ∀ i vs env σ d v, P (i :: vs) env σ → P vs (env.set i (.val d)) (σ.set i (some v))) {t : Tg} {d : D} {v : V} {env env' : Env} {σ : St} (hb : bindTg t d env = some env') (r : R G z d v) (ex : EnvX G z (tgVs t) env σ) (pp : P (tgVs t) env σ)
    (q : ∀ σ', EnvR G z env' σ' → P [] env' σ' → (∀ ws : List Nat, (∀ i ∈ tgVs t, i ∈ ws) → wipe σ' ws = wipe σ ws) → Q σ' z.H) : gOf G.K t v σ z.H Q := by
  cases t with
  | one i =>
    simp only [bindTg] at hb
    split at hb
    · cases hb
      exact q _ (ex.set r).done (hP _ _ _ _ d v pp) fun ws hw => wipe_set (hw i (by simp [tgVs]))
    · cases hb
  | many is =>
    cases d <;> simp only [bindTg] at hb <;> try cases hb
    rename_i ds
    split at hb
    · rename_i c
      cases hb
      simp only [R] at r
      obtain ⟨a, vs, rfl, ha, rs⟩ := r
      refine ⟨a, vs, rfl, ?_, by rw [rs.len, c.1], ?_⟩
      · rcases ha with ⟨_, ha⟩ | ha
        · exact SqT.of ha
        · exact .inr ha
      · exact gNames_run P hP (vs0 := []) rs c.1 (by rw [List.append_nil]; exact ex) (by rw [List.append_nil]; exact pp) fun σ' e' p' w => q σ' e'.done p' w
    · cases hb
theorem gOf_run {G : Gd} {z : Z} {Q : St → Hp → Prop} {t : Tg} {d : D} {v : V} {env env' : Env} {σ : St} (hb : bindTg t d env = some env') (r : R G z d v) (ex : EnvX G z (tgVs t) env σ)
    (q : ∀ σ', EnvR G z env' σ' → (∀ ws : List Nat, (∀ i ∈ tgVs t, i ∈ ws) → wipe σ' ws = wipe σ ws) → Q σ' z.H) : gOf G.K t v σ z.H Q :=
  gOf_runP (fun _ _ _ => True) (fun _ _ _ _ _ _ _ => trivial) hb r ex trivial fun σ' e _ w => q σ' e w
theorem isNone_or {α : Type} (o : Option α) : o = none ∨ ∃ a, o = some a := by cases o <;> simp

/-! ### what is walked -/
structure Drives (G : Gd) (J : It) (z : Z) (ds : List D) : Prop where
  go : ∀ i z', Keep z z' → i < ds.length → J.go i z'.H
  stop : ∀ z', Keep z z' → J.stop ds.length z'.H
  yld : ∀ i d z' st x H', Keep z z' → Rel G z' st → ds[i]? = some d → J.yld i z'.H x H' → ∃ z2, z2.H = H' ∧ Ext z' z2 ∧ Rel G z2 st ∧ R G z2 d x
theorem sqT_of {G : Gd} {z z' : Z} {a : Addr} {vs : List V} (k : Keep z z') (h : (z.F a ∧ z.H a = some (.tup vs)) ∨ KTup G.K a vs) : SqT G.K z'.H a vs := by
  rcases h with ⟨f, h⟩ | h
  · exact SqT.of (k.h a _ f h)
  · exact .inr h
theorem drives_list {G : Gd} {z : Z} {ds : List D} {a : Addr} {vs : List V} (h : z.F a ∧ z.H a = some (.lst vs)) (rs : Rs G z ds vs) : Drives G (Itl G.K a) z ds := by
  have sq : ∀ {z'}, Keep z z' → SqL G.K z'.H a vs := fun k => SqL.of (k.h a _ h.1 h.2)
  refine ⟨fun i z' k hi => ⟨vs, vs[i]'(by rw [rs.len]; exact hi), sq k, by simp [rs.len, hi]⟩, fun z' k => ⟨vs, sq k, by rw [rs.len]; exact Nat.le_refl _⟩, fun i d z' st x H' k rel e y => ?_⟩
  obtain ⟨e1, y⟩ := y
  obtain ⟨v, e2, r⟩ := (Rs.keep k _ _ rs).get e
  rw [y vs (sq k)] at e2; cases e2
  exact ⟨z', e1.symm, Ext.refl _, rel, r⟩
theorem drives_tup {G : Gd} {z : Z} {ds : List D} {a : Addr} {vs : List V} (h : (z.F a ∧ z.H a = some (.tup vs)) ∨ KTup G.K a vs) (rs : Rs G z ds vs) : Drives G (Itt G.K a) z ds := by
  refine ⟨fun i z' k hi => ⟨vs, vs[i]'(by rw [rs.len]; exact hi), sqT_of k h, by simp [rs.len, hi]⟩, fun z' k => ⟨vs, sqT_of k h, by rw [rs.len]; exact Nat.le_refl _⟩, fun i d z' st x H' k rel e y => ?_⟩
  obtain ⟨e1, y⟩ := y
  obtain ⟨v, e2, r⟩ := (Rs.keep k _ _ rs).get e
  rw [y vs (sqT_of k h)] at e2; cases e2
  exact ⟨z', e1.symm, Ext.refl _, rel, r⟩
theorem drives_str {G : Gd} {z : Z} {s : Txt} (ok : okT s = true) : Drives G (Its (sOf s)) z (s.map fun c => .str [c]) := by
  have hs : (sOf s).cps.size = s.length := by simp [sOf]
  refine ⟨fun i z' k hi => ?_, fun z' k => ?_, fun i d z' st x H' k rel e y => ?_⟩
  · show i < (sOf s).cps.size
    rw [hs]; simpa using hi
  · show (sOf s).cps.size ≤ (s.map fun c => D.str [c]).length
    rw [hs]; simp
  · obtain ⟨e1, c, e2, e3⟩ := y
    have e2 : (s.toArray)[i]? = some c := e2
    rw [List.getElem?_toArray] at e2
    rw [List.getElem?_map, e2] at e
    cases e
    refine ⟨z', e1.symm, Ext.refl _, rel, R.str.mpr ⟨e3, ?_⟩⟩
    unfold okT at ok ⊢
    rw [List.all_eq_true] at ok
    simpa using ok c (List.mem_of_getElem? e2)
theorem RK.at_ {G : Gd} {z : Z} : ∀ {kvs : List (Txt × D)} {ws : List (Key × V)} {i : Nat} {kv : Txt × D}, RK G z kvs ws → kvs[i]? = some kv → ∃ v, ws[i]? = some (kOf kv.1, v) ∧ okT kv.1 = true
  | [], _, _, _, _, e => by simp at e
  | (k, d) :: r, ws, i, kv, h, e => by
    simp only [RK] at h
    obtain ⟨v, w, rfl, ok, _, h2⟩ := h
    cases i with
    | zero => cases e; exact ⟨v, rfl, ok⟩
    | succ i =>
      rw [List.getElem?_cons_succ] at e ⊢
      exact RK.at_ h2 e
theorem drives_dic {G : Gd} {z : Z} {kvs : List (Txt × D)} {d : Addr} {o : Obj} {ws : List (Key × V)} (h : z.F d ∧ z.H d = some (.frz o (.dK ws))) (rk : RK G z kvs ws) : Drives G (Itk d o ws) z (kvs.map fun kv => .str kv.1) := by
  refine ⟨fun i z' k hi => ⟨k.h d _ h.1 h.2, by rw [rk.len]; simpa using hi⟩, fun z' k => ⟨k.h d _ h.1 h.2, by rw [rk.len]; simp⟩, fun i e z' st x H' k rel e0 y => ?_⟩
  obtain ⟨e1, k1, v1, e2, e3⟩ := y
  rw [List.getElem?_map] at e0
  obtain ⟨kv, e4, rfl⟩ := Option.map_eq_some_iff.mp e0
  obtain ⟨v, e5, ok⟩ := rk.at_ e4
  rw [e5] at e2; cases e2
  exact ⟨z', e1.symm, Ext.refl _, rel, R.str.mpr ⟨e3, ok⟩⟩
theorem upto_len (lo : Int) : ∀ n : Nat, (upto lo n).length = n
  | 0 => rfl
  | n + 1 => by unfold upto; rw [List.length_cons, upto_len]
theorem upto_at : ∀ (n : Nat) (lo : Int) (i : Nat), i < n → (upto lo n)[i]? = some (lo + i)
  | 0, _, _, h => by omega
  | n + 1, lo, 0, _ => by simp [upto]
  | n + 1, lo, i + 1, h => by
    unfold upto
    rw [List.getElem?_cons_succ, upto_at n (lo + 1) i (by omega)]
    congr 1
    push_cast
    omega
theorem drives_range {G : Gd} {z : Z} (lo : Int) (n : Nat) : Drives G (Itr lo n) z ((upto lo n).map .int) := by
  refine ⟨fun i z' k hi => ?_, fun z' k => ?_, fun i d z' st x H' k rel e y => ?_⟩
  · show i < n
    rw [List.length_map, upto_len] at hi; exact hi
  · show n ≤ _
    rw [List.length_map, upto_len]; exact Nat.le_refl _
  · obtain ⟨e1, e2⟩ := y
    have hi : i < n := by
      have := (List.getElem?_eq_some_iff.mp e).1
      rwa [List.length_map, upto_len] at this
    rw [List.getElem?_map, upto_at n lo i hi] at e
    cases e
    exact ⟨z', e1.symm, Ext.refl _, rel, R.int.mpr e2⟩
theorem drives_enum {G : Gd} {z : Z} {ds : List D} {a : Addr} {vs : List V} (h : z.F a ∧ z.H a = some (.lst vs)) (rs : Rs G z ds vs) : Drives G (Ite G.K a) z ((upto 0 ds.length).zipWith (fun i d => .tup [.int i, d]) ds) := by
  have sq : ∀ {z'}, Keep z z' → SqL G.K z'.H a vs := fun k => SqL.of (k.h a _ h.1 h.2)
  have hl : ((upto 0 ds.length).zipWith (fun i d => D.tup [.int i, d]) ds).length = ds.length := by rw [List.length_zipWith, upto_len, Nat.min_self]
  refine ⟨fun i z' k hi => ⟨vs, vs[i]'(by rw [rs.len, ← hl]; exact hi), sq k, by rw [hl] at hi; simp [rs.len, hi]⟩, fun z' k => ⟨vs, sq k, by rw [rs.len, hl]; exact Nat.le_refl _⟩, fun i d z' st x H' k rel e y => ?_⟩
  obtain ⟨p, v, e1, e2, e3, y⟩ := y
  have hi : i < ds.length := by
    have := (List.getElem?_eq_some_iff.mp e).1
    rwa [hl] at this
  obtain ⟨w, e4, r⟩ := (Rs.keep k _ _ rs).get (List.getElem?_eq_getElem hi)
  rw [y vs (sq k)] at e4; cases e4
  rw [List.getElem?_zipWith, upto_at _ _ _ hi, List.getElem?_eq_getElem hi] at e
  cases e
  refine ⟨z'.new p (.tup [.int i, v]), e3.symm, Ext.new e2, rel.new e2 (by simp), ?_⟩
  rw [e1]
  refine R.newT rel (Rs.mk _ _ (R.int.mpr ?_) (Rs.mk _ _ r (Rs.nil.mpr rfl))) e2
  simp
theorem drives_enumT {G : Gd} {z : Z} {ds : List D} {a : Addr} {vs : List V} (h : (z.F a ∧ z.H a = some (.tup vs)) ∨ KTup G.K a vs) (rs : Rs G z ds vs) : Drives G (Itet G.K a) z ((upto 0 ds.length).zipWith (fun i d => .tup [.int i, d]) ds) := by
  have sq : ∀ {z'}, Keep z z' → SqT G.K z'.H a vs := fun k => sqT_of k h
  have hl : ((upto 0 ds.length).zipWith (fun i d => D.tup [.int i, d]) ds).length = ds.length := by rw [List.length_zipWith, upto_len, Nat.min_self]
  refine ⟨fun i z' k hi => ⟨vs, vs[i]'(by rw [rs.len, ← hl]; exact hi), sq k, by rw [hl] at hi; simp [rs.len, hi]⟩, fun z' k => ⟨vs, sq k, by rw [rs.len, hl]; exact Nat.le_refl _⟩, fun i d z' st x H' k rel e y => ?_⟩
  obtain ⟨p, v, e1, e2, e3, y⟩ := y
  have hi : i < ds.length := by
    have := (List.getElem?_eq_some_iff.mp e).1
    rwa [hl] at this
  obtain ⟨w, e4, r⟩ := (Rs.keep k _ _ rs).get (List.getElem?_eq_getElem hi)
  rw [y vs (sq k)] at e4; cases e4
  rw [List.getElem?_zipWith, upto_at _ _ _ hi, List.getElem?_eq_getElem hi] at e
  cases e
  refine ⟨z'.new p (.tup [.int i, v]), e3.symm, Ext.new e2, rel.new e2 (by simp), ?_⟩
  rw [e1]
  refine R.newT rel (Rs.mk _ _ (R.int.mpr ?_) (Rs.mk _ _ r (Rs.nil.mpr rfl))) e2
  simp
theorem drives_zip {G : Gd} {z : Z} {ds es : List D} {a b : Addr} {vs ws : List V} (h : z.F a ∧ z.H a = some (.lst vs)) (rs : Rs G z ds vs) (h' : z.F b ∧ z.H b = some (.lst ws)) (rs' : Rs G z es ws) : Drives G (Itz G.K a b) z (ds.zipWith (fun d e => .tup [d, e]) es) := by
  have sq : ∀ {z'}, Keep z z' → SqL G.K z'.H a vs := fun k => SqL.of (k.h a _ h.1 h.2)
  have sq' : ∀ {z'}, Keep z z' → SqL G.K z'.H b ws := fun k => SqL.of (k.h b _ h'.1 h'.2)
  have l1 := rs.len
  have l2 := rs'.len
  refine ⟨fun i z' k hi => ?_, fun z' k => ?_, fun i d z' st x H' k rel e y => ?_⟩
  · rw [List.length_zipWith] at hi
    exact ⟨vs, ws, vs[i]'(by omega), ws[i]'(by omega), sq k, sq' k, by rw [List.getElem?_eq_getElem], by rw [List.getElem?_eq_getElem]⟩
  · refine ⟨vs, ws, sq k, sq' k, ?_⟩
    rw [List.length_zipWith]; omega
  · obtain ⟨p, x1, x2, e1, e2, e3, y1, y2⟩ := y
    rw [List.getElem?_zipWith] at e
    rcases isNone_or ds[i]? with q | ⟨d1, q⟩
    · rw [q] at e; cases e
    rcases isNone_or es[i]? with q' | ⟨d2, q'⟩
    · rw [q, q'] at e; cases e
    rw [q, q'] at e
    cases e
    obtain ⟨w1, f1, r1⟩ := (Rs.keep k _ _ rs).get q
    obtain ⟨w2, f2, r2⟩ := (Rs.keep k _ _ rs').get q'
    rw [y1 vs (sq k)] at f1; cases f1
    rw [y2 ws (sq' k)] at f2; cases f2
    refine ⟨z'.new p (.tup [x1, x2]), e3.symm, Ext.new e2, rel.new e2 (by simp), ?_⟩
    rw [e1]
    exact R.newT rel (Rs.mk _ _ r1 (Rs.mk _ _ r2 (Rs.nil.mpr rfl))) e2

/-- a list, a tuple, a text, walked -/
def iVal (K : PySem.W.Frag) (tl : TE) : TI := fun σ H Rr => tl σ H fun x H1 => (∃ a, x = .ref a ∧ (∃ xs, SqL K H1 a xs) ∧ Rr (Itl K a) H1) ∨ (∃ a, x = .ref a ∧ (∃ xs, SqT K H1 a xs) ∧ Rr (Itt K a) H1) ∨ (∃ t, x = .str t ∧ Rr (Its t) H1) ∨ ∃ d o kvs, x = .ref d ∧ H1 d = some (.frz o (.dK kvs)) ∧ Rr (Itk d o kvs) H1
theorem pi_val {X : Cx} {tg l : Expr} {tl : TE} (hl : PE X l tl) : PI X tg l (iVal X.K tl) := by
  refine ⟨fun pins s σ H Rr I h => thn (hl.run pins s σ H _ I h) fun v s1 ⟨x, H1, I1, r1, q1⟩ => ?_⟩
  rcases q1 with ⟨a, rfl, ⟨xs, hq⟩, q⟩ | ⟨a, rfl, ⟨xs, hq⟩, q⟩ | ⟨t, rfl, q⟩ | ⟨d, o, kvs, rfl, hd, q⟩
  · cases r1
    obtain ⟨its, rv, pl, hz⟩ := I1.list hq
    exact wpAny_pyIter_list pl.isList (pi_one (tk := s1.toks) I1 _ (turn_list a _) ⟨_, Heap.get?_push_size _ rfl, rfl, rfl⟩ q)
  · cases r1
    obtain ⟨its, rv, pl, hz⟩ := I1.tuple hq
    exact wpAny_pyIter_tuple (show s1.heap.IsTuple a its.toArray from pl) (pi_one (tk := s1.toks) I1 _ (turn_tuple a _) ⟨_, Heap.get?_push_size _ rfl, rfl, rfl⟩ q)
  · obtain ⟨tk, rfl⟩ := r1
    cases ha : t.cps.all (· < 128)
    · exact wpAny_pyIter_wide ha (pi_one (tk := s1.toks) I1 _ (turn_str _ t tk "str_iterator" (.inr rfl)) ⟨_, Heap.get?_push_size _ rfl, rfl, rfl⟩ q)
    · exact wpAny_pyIter_ascii ha (pi_one (tk := s1.toks) I1 _ (turn_str _ t tk "str_ascii_iterator" (.inl rfl)) ⟨_, Heap.get?_push_size _ rfl, rfl, rfl⟩ q)
  · cases r1
    obtain ⟨hs, hgd, hx, es, ep, vs, hdt, hsz, kv, hm⟩ := I1.frzK hd
    refine iter_keys hs hgd hx hdt (pi_one (tk := s1.toks) I1 _ (turn_keys _ hdt) ⟨_, Heap.get?_push_size _ rfl, rfl, ?_⟩ q)
    rw [hsz] <;> rfl
def iOf (G : Gd) (T : List FT) (W : WX) (m : MI) : TI := fun σ H Rr => ∃ z env st, z.H = H ∧ Rel G z st ∧ EnvR G z env σ ∧ Post G z σ W (evalI G.pg T m env st) fun ds _ z' => ∀ J, Drives G J z' ds → Rr J z'.H
theorem piImp {X : Cx} {tg e : Expr} {t t' : TI} (h : PI X tg e t) (f : ∀ σ H Q, t' σ H Q → t σ H Q) : PI X tg e t' := ⟨fun pins s σ H Q I q => h.run pins s σ H Q I (f σ H Q q)⟩
section
variable {G : Gd} {nm : Nm} {X : Cx} {N : List Str} {sc : Scope} {k : Nat} {W : WX} {lb : Bool} {T : List FT}
theorem i_val (c : In G X N sc k W lb) {tg e : Expr} {m : ME} (h : PE X e (tOf G T W m)) : PI X tg e (iOf G T W (.val m)) := by
  refine piImp (pi_val h) fun σ H Rr q => ?_
  obtain ⟨z, env, st, rfl, rel, er, q⟩ := q
  refine ⟨z, env, st, rfl, rel, er, (Post.bind (by simpa only [evalI] using q)).imp fun dx st1 z1 e1 rel1 q1 v1 r1 => ?_⟩
  obtain ⟨ds, e, q2⟩ := Post.ofO q1 rel1
  cases dx <;> simp only [items] at e <;> cases e
  · obtain ⟨e, ok⟩ := R.str.mp r1
    exact .inr (.inr (.inl ⟨_, e, q2 _ (drives_str ok)⟩))
  · simp only [R] at r1
    obtain ⟨a, vs, rfl, h, rs⟩ := r1
    refine .inr (.inl ⟨a, rfl, ⟨vs, ?_⟩, ?_⟩)
    · rw [c.K]; exact sqT_of (Keep.refl _) h
    · rw [c.K]; exact q2 _ (drives_tup h rs)
  · simp only [R] at r1
    obtain ⟨a, vs, rfl, h, rs⟩ := r1
    exact .inl ⟨a, rfl, ⟨vs, by rw [c.K]; exact SqL.of h.2⟩, by rw [c.K]; exact q2 _ (drives_list h rs)⟩
  · simp only [R] at r1
    obtain ⟨a, vs, rfl, ⟨f, o, h⟩, rk⟩ := r1
    exact .inr (.inr (.inr ⟨a, o, vs, rfl, h, q2 _ (drives_dic ⟨f, h⟩ rk)⟩))
theorem star1 {e : Expr} (hp : plainE e = true) (env : PySem.Env) : starEach [e] env = [(false, eval e env)] := by rw [star_of hp]; rfl
theorem star2 {a b : Expr} (ha : plainE a = true) (hb : plainE b = true) (env : PySem.Env) : starEach [a, b] env = [(false, eval a env), (false, eval b env)] := by rw [star_of ha, star_of hb]; rfl
theorem rangeD_some {lo hi : Int} {ds : List D} (h : rangeD lo hi = some ds) : lo.natAbs < 2 ^ 62 ∧ hi.natAbs < 2 ^ 62 ∧ ds = (upto lo (hi - lo).toNat).map .int := by
  unfold rangeD at h
  split at h
  · rename_i c
    cases h
    exact ⟨c.1, c.2.1, rfl⟩
  · cases h
theorem i_range1 (S : Static G nm) (c : In G X N sc k W lb) {tg e : Expr} {m : ME} {p pos : Pos} (hg : glS sc "range" = true) (hx : ("range" : Str) ∈ nm.blts) (h : PE X e (tOf G T W m)) (hp : plainE e = true) : PI X tg (.Call (.Name "range" p) [e] [] pos) (iOf G T W (.range1 m)) := by
  refine piImp (pi_range1 (gl_of c hg) (by rw [c.mg]; exact S.blts _ hx) (pa_cons h pa_nil (star_of hp _ _)) (star1 hp _)) fun σ H Rr q => ?_
  obtain ⟨z, env, st, rfl, rel, er, q⟩ := q
  refine ⟨z, env, st, rfl, rel, er, (Post.bind (by simpa only [evalI] using q)).imp fun dx st1 z1 e1 rel1 q1 v1 r1 => ?_⟩
  obtain ⟨ds, e, q2⟩ := Post.ofO q1 rel1
  cases dx <;> simp only [asI, Option.bind_none, Option.bind_some] at e <;> try cases e
  rename_i j
  obtain ⟨h1, h2, rfl⟩ := rangeD_some e
  rw [Int.sub_zero] at q2
  refine ⟨j, by rw [R.int.mp r1], by omega, by omega, q2 _ (drives_range 0 j.toNat)⟩
theorem i_range2 (S : Static G nm) (c : In G X N sc k W lb) {tg a b : Expr} {ma mb : ME} {p pos : Pos} (hg : glS sc "range" = true) (hx : ("range" : Str) ∈ nm.blts) (ha : PE X a (tOf G T W ma)) (hb : PE X b (tOf G T W mb)) (hp : plainE a = true) (hp2 : plainE b = true) :
    PI X tg (.Call (.Name "range" p) [a, b] [] pos) (iOf G T W (.range2 ma mb)) := by
  refine piImp (pi_range2 (gl_of c hg) (by rw [c.mg]; exact S.blts _ hx) (pa_cons ha (pa_cons hb pa_nil (star_of hp2 _ _)) (star_of hp _ _)) (star2 hp hp2 _) (star1 hp2 _)) fun σ H Rr q => ?_
  obtain ⟨z, env, st, rfl, rel, er, q⟩ := q
  refine ⟨z, env, st, rfl, rel, er, (Post.bind (by simpa only [evalI] using q)).imp fun dx st1 z1 e1 rel1 q1 v1 r1 => ?_⟩
  refine ⟨z1, env, st1, rfl, rel1, er.ext e1 rel.wf, (Post.bind q1).imp fun dy st2 z2 e2 rel2 q2 v2 r2 => ?_⟩
  obtain ⟨ds, e, q3⟩ := Post.ofO q2 rel2
  cases dx <;> simp only [asI, Option.bind_none, Option.bind_some] at e <;> try cases e
  cases dy <;> simp only [asI, Option.bind_none, Option.bind_some] at e <;> try cases e
  rename_i i j
  obtain ⟨h1, h2, rfl⟩ := rangeD_some e
  refine ⟨i, j, by rw [R.int.mp r1, R.int.mp r2], ⟨by omega, by omega, by omega, by omega⟩, q3 _ (drives_range i _)⟩
theorem i_enum (S : Static G nm) (c : In G X N sc k W lb) {elts : List Expr} {kk : Nat} {tpos : Pos} {e : Expr} {m : ME} {p pos : Pos} (hg : glS sc "enumerate" = true) (hx : ("enumerate" : Str) ∈ nm.blts) (h : PE X e (tOf G T W m)) (hp : plainE e = true) :
    PI X (.Tuple elts kk tpos) (.Call (.Name "enumerate" p) [e] [] pos) (iOf G T W (.enum m)) := by
  refine piImp (pi_enumA (gl_of c hg) (by rw [c.mg]; exact S.blts _ hx) (pa_cons h pa_nil (star_of hp _ _)) (star1 hp _)) fun σ H Rr q => ?_
  obtain ⟨z, env, st, rfl, rel, er, q⟩ := q
  refine ⟨z, env, st, rfl, rel, er, (Post.bind (by simpa only [evalI] using q)).imp fun dx st1 z1 e1 rel1 q1 v1 r1 => ?_⟩
  obtain ⟨ds, e, q2⟩ := Post.ofO q1 rel1
  cases dx <;> simp only [itemsQ, Option.map_none, Option.map_some] at e <;> try cases e
  · simp only [R] at r1
    obtain ⟨a, vs, rfl, h, rs⟩ := r1
    refine ⟨a, vs, rfl, .inr ⟨by rw [c.K]; exact sqT_of (Keep.refl _) h, by rw [c.K]; exact q2 _ (drives_enumT h rs)⟩⟩
  · simp only [R] at r1
    obtain ⟨a, vs, rfl, h, rs⟩ := r1
    exact ⟨a, vs, rfl, .inl ⟨by rw [c.K]; exact SqL.of h.2, by rw [c.K]; exact q2 _ (drives_enum h rs)⟩⟩
theorem i_zip (S : Static G nm) (c : In G X N sc k W lb) {elts : List Expr} {kk : Nat} {tpos : Pos} {a b : Expr} {ma mb : ME} {p pos : Pos} (hg : glS sc "zip" = true) (hx : ("zip" : Str) ∈ nm.blts) (ha : PE X a (tOf G T W ma)) (hb : PE X b (tOf G T W mb)) (hp : plainE a = true) (hp2 : plainE b = true) :
    PI X (.Tuple elts kk tpos) (.Call (.Name "zip" p) [a, b] [] pos) (iOf G T W (.zip ma mb)) := by
  refine piImp (pi_zip (gl_of c hg) (by rw [c.mg]; exact S.blts _ hx) (pa_cons ha (pa_cons hb pa_nil (star_of hp2 _ _)) (star_of hp _ _)) (star_of hp _ _) (backTo_any _ _ (by simp [plains, hp2]))) fun σ H Rr q => ?_
  obtain ⟨z, env, st, rfl, rel, er, q⟩ := q
  refine ⟨z, env, st, rfl, rel, er, (Post.bind (by simpa only [evalI] using q)).imp fun dx st1 z1 e1 rel1 q1 v1 r1 => ?_⟩
  refine ⟨z1, env, st1, rfl, rel1, er.ext e1 rel.wf, (Post.bind q1).imp fun dy st2 z2 e2 rel2 q2 v2 r2 => ?_⟩
  obtain ⟨ds, e, q3⟩ := Post.ofO q2 rel2
  cases dx <;> simp only [itemsL, Option.bind_none, Option.bind_some, Option.map_none, Option.map_some] at e <;> try cases e
  cases dy <;> simp only [itemsL, Option.bind_none, Option.bind_some, Option.map_none, Option.map_some] at e <;> try cases e
  simp only [R] at r1 r2
  obtain ⟨a, vs, rfl, h, rs⟩ := r1
  obtain ⟨b, ws, rfl, h', rs'⟩ := r2
  have k := e2.keep rel1.wf
  have h1 : z2.F a ∧ z2.H a = some (.lst vs) := ⟨k.f a h.1, k.h a _ h.1 h.2⟩
  exact ⟨a, b, vs, ws, rfl, by rw [c.K]; exact SqL.of h1.2, by rw [c.K]; exact SqL.of h'.2, by rw [c.K]; exact q3 _ (drives_zip h1 (rs.ext e2 rel1.wf) h' rs')⟩
end
end Fw

set_option Elab.async false
set_option linter.all false
set_option maxRecDepth 100000
set_option autoImplicit false
set_option maxHeartbeats 1000000
/-! Fw8: list comprehensions; an exception may leave. -/
namespace Fw
open PySem PySem.Spec PyProof.Rows L2

section
variable {X : Cx}
/-- the block's contexts -/
def BlkX (X : Cx) (scope : Scope) (W' : WX) (Xb : Cx) : Prop :=
  ∃ (s : Shared) (H : Hp) (C : Addr) (cl : List (Str × Addr)) (fp : List Addr) (E : Value → Shared → Prop), Xb = (X.blk s H scope (compEnvC scope cl C X.env) fp).wish E ∧ TakesF Xb W'
theorem pts1 {c : Expr} {t : TT} (h : PT X c t) : PTs X [c] t := pts_one h
/-- as HandS's rule of one clause, but what the block lets out is passed on -/
theorem lcF_core {W : WX} {pins : List (Addr × Obj)} {s : Shared} {σ : St} {H : Hp} {Q : VK} {elt tg iter : Expr} {ifs : List Expr} {scope : Scope} {own : List (Str × Nat)} {pos pos' : Pos} {wi : TI} {g : TG} {tt : TT} {te : TE} {use : Option (Value → Sem Unit)} {Qf : Value → Shared → Prop}
    (hc : X.calm = true) (hN : X.N.Nodup) (I : L2.Inv X pins σ H s) (hi : PI X tg iter wi) (ok : BlkOk X.N X.env.scope scope own) (tk : TakesF X W) (hfr : FrOk X)
    (hb : ∀ Xb, BlkX X scope (fun cls d _ H => W cls d σ H) Xb → PG Xb tg g ∧ PTs Xb ifs tt ∧ PE Xb elt te) (hs : ∀ x, foldedSetIterable iter X.env x = pure x)
    (h : tLc wi g tt te (own.map (·.2)) σ H Q)
    (hRR : ∀ D C s' m H', L2.Inv X pins σ H' s' → Q (.ref D) H' → s'.heap.Ns C m → FpOk X pins H' C → compPost (model X.prog X.w) X.A X.xe use Qf (.ref D) C (.ok .next) s') :
    wpAny (model X.prog X.w) X.A (comprehension (.ListComp elt [⟨tg, iter, ifs, 0⟩] scope pos) scope X.env pos' (newList []) false (eval iter X.env) use) Qf X.xe s := by
  have capt : ∀ y ∈ scope.names, y.2 = .free → ∃ c, X.env.cells.lookup y.1 = some c := fun y hy e => (ok.free y hy e).elim (fun q => I.ok.has _ (.inl q)) fun q => I.ok.has _ (.inr q)
  refine wpAny_comprehension_free (use := use) rfl hs (closure_ok capt) ok.kind (fun y hy e => by rw [← e]; exact ok.uniq y hy) ?_
  refine thn (hi.run pins s σ H _ I h) fun xv s1 hx => thn hx fun itv s2 h2 => ?_
  obtain ⟨it, fp, tn, J, H2, rfl, I2, T, st2, f2, q⟩ := h2
  refine wpAny_newObj_type (newEnv_comp ?_) (show 0 ≤ sizeLine by decide)
  obtain ⟨D, hD⟩ : ∃ D, D = s2.heap.objs.size := ⟨_, rfl⟩
  rw [← hD]
  obtain ⟨W0, ⟨m0, w0⟩, turn⟩ := q D (I2.hok.fresh (Nat.le_of_eq hD.symm))
  obtain ⟨s3, hs3⟩ : ∃ s3 : Shared, s3 = { s2 with heap := s2.heap.push { cls := .type "list", data := .seq ([] : List Value).toArray } } := ⟨_, rfl⟩
  obtain ⟨H3, hH3⟩ : ∃ H3, H3 = upd H2 D (.lst []) := ⟨_, rfl⟩
  have grow : ∀ b o, s2.heap.get? b = some o → s3.heap.get? b = some o := fun b o e => by rw [hs3]; exact Heap.get?_push_of_some _ e
  have size3 : s3.heap.objs.size = s2.heap.objs.size + 1 := by rw [hs3]; exact Heap.size_push ..
  have I3 : L2.Inv X pins σ H3 s3 := by
    rw [hH3, hs3]
    refine I2.laid (t' := s2.toks) (fun b o e => Heap.get?_push_of_some _ e) (Nat.le_of_eq hD.symm) ⟨Nat.zero_le _, [], 0, .nil, ?_⟩
    rw [hD]
    exact Heap.get?_push_size _ rfl
  rw [← hs3]
  have f3 : ∀ b ∈ fp, FpOk X pins H3 b ∧ b < s3.heap.objs.size := fun b hb => by
    obtain ⟨o, e, _⟩ := T.obj _ _ st2 b hb
    have lt := Heap.lt_size e
    refine ⟨⟨?_, (f2 b hb).2⟩, by rw [size3]; exact Nat.lt_succ_of_lt lt⟩
    rw [hH3, upd_ne (by rw [hD]; exact Nat.ne_of_lt lt)]
    exact (f2 b hb).1
  have I4 := block_start I3 ok hN f3
  obtain ⟨ce, hce⟩ : ∃ ce, ce = compEnvC scope (cellsFrom (s3.heap.objs.size + 1) scope.names (cloFrom X.env.cells scope.names [])) s3.heap.objs.size X.env := ⟨_, rfl⟩
  have cL : ce.locals = s3.heap.objs.size := by rw [hce]; rfl
  obtain ⟨s4, hs4⟩ : ∃ s4 : Shared, s4 = { s3 with heap := pushCells (s3.heap.push { cls := .type "dict", data := .dict #[] }) scope.names } := ⟨_, rfl⟩
  show codeAny _ _ (.compStart (.ListComp elt [⟨tg, iter, ifs, 0⟩] scope pos) 0 (.ref it) (.ref D) (compEnvC scope (cellsFrom (s3.heap.objs.size + 1) scope.names (cloFrom X.env.cells scope.names [])) s3.heap.objs.size X.env)) (compPost (model X.prog X.w) X.A X.xe use Qf (.ref D) s3.heap.objs.size) { s3 with heap := pushCells (s3.heap.push { cls := .type "dict", data := .dict #[] }) scope.names }
  rw [← hce, ← hs4, ← cL]
  rw [← hce, ← hs4] at I4
  have I4' := I4.wish (blkE X use Qf (.ref D) ce)
  -- the block's context
  obtain ⟨e0, o0, L, f1, f2', f3'⟩ := hfr
  have tb : TakesF ((X.blk s3 H3 scope ce fp).wish (blkE X use Qf (.ref D) ce)) (fun cls d _ H => W cls d σ H) :=
    blk_takes tk I3 (fun b hb => (f3 b hb).1) (by rw [cL]; exact Nat.le_refl _) f1 f2' (by rw [hce]; exact f3')
  obtain ⟨pg, pt, pe⟩ := hb _ ⟨s3, H3, s3.heap.objs.size, _, fp, _, by rw [hce], tb⟩
  have hXe : ((X.blk s3 H3 scope ce fp).wish (blkE X use Qf (.ref D) ce)).xe = notedBy (model X.prog X.w) X.A ce fun e s' => compPost (model X.prog X.w) X.A X.xe use Qf (.ref D) ce.locals (.error e) s' := rfl
  have st4 : tn 0 s4.heap := T.keep _ _ _ (T.keep _ _ _ st2 fun b _ o e => grow b o e) fun b _ o e => by rw [hs4]; exact pushCells_keeps _ _ _ _ (Heap.get?_push_of_some _ e)
  obtain ⟨Xb, hXb⟩ : ∃ Xb, Xb = (X.blk s3 H3 scope ce fp).wish (blkE X use Qf (.ref D) ce) := ⟨_, rfl⟩
  have n4 : ∀ b ∈ fp, H3 b = none := fun b hb => (f3 b hb).1.1
  rw [← hH3] at w0
  have stat : ∀ {σ' : St} {H' : Hp} {s' : Shared}, L2.Inv ((X.blk s3 H3 scope ce fp).wish (blkE X use Qf (.ref D) ce)) [] σ' H' s' → (∀ b ∈ fp, H' b = none) → ∀ b ∈ fp, FpOk ((X.blk s3 H3 scope ce fp).wish (blkE X use Qf (.ref D) ce)) [] H' b := fun {σ' H' s'} I' hn b hb =>
    ⟨hn b hb, (I'.ok.exf b hb).1, I'.ok.exfs b hb, .inl hb, fun x c e => (I'.ok.exf b hb).2 x c e, fun p hp => absurd (show p ∈ ([] : List (Addr × Obj)) ++ [] from hp) (by simp)⟩
  have loop : codeAny (model X.prog X.w) X.A (.compLoop (.ListComp elt [⟨tg, iter, ifs, 0⟩] scope pos) 0 (.ref it) (.ref D) ce) (compPost (model X.prog X.w) X.A X.xe use Qf (.ref D) ce.locals) s4 := by
    refine compLoop_any (fun n s' => ∃ i H', L2.Inv ((X.blk s3 H3 scope ce fp).wish (blkE X use Qf (.ref D) ce)) [] (wipe σ (own.map (·.2))) H' s' ∧ tn i s'.heap ∧ (∀ b ∈ fp, H' b = none) ∧ W0 i n H') ?_ m0 ⟨0, H3, I4', st4, n4, w0⟩
    rintro n s5 ⟨i, H5, I5, st5, n5, w5⟩
    rcases turn i n H5 w5 with ⟨stop, qq⟩ | ⟨go, Nx, hNx, step⟩
    · refine thn (T.done ((X.blk s3 H3 scope ce fp).wish (blkE X use Qf (.ref D) ce)) rfl rfl rfl hc i [] s5 _ H5 _ I5 (stat I5 n5) st5 stop) fun r s6 ⟨hr, I6⟩ => ?_
      subst hr
      have I7 : L2.Inv X pins σ H5 s6 := I3.call' (ch := fp) I6.os I6.base I6.hok I6.bare fun b hb => ⟨(f3 b hb).1.2.2.2.1, (f3 b hb).1.2.1, (f3 b hb).1.2.2.2.2.1, (f3 b hb).1.2.2.2.2.2⟩
      have nC : H5 ce.locals = none := I6.free
      obtain ⟨m, hn, _⟩ := I6.loc
      exact hRR D ce.locals s6 m H5 I7 qq hn (I3.fpOk (by rw [cL]; exact Nat.le_refl _) nC)
    · refine thn (T.item ((X.blk s3 H3 scope ce fp).wish (blkE X use Qf (.ref D) ce)) rfl rfl rfl hc i [] s5 _ H5 _ I5 (stat I5 n5) st5 go) fun r s6 ⟨u, hr, h6⟩ => ?_
      subst hr
      refine thn h6 fun _ s7 ⟨x, H7, I7, r7, y7, st7, n7⟩ => ?_
      have I7' := I7.pinned (stat I7 n7) (T.obj _ _ st7)
      refine thn (pg.run _ s7 _ H7 x u _ I7' r7 (step x H7 y7)) fun _ s8 ⟨σ8, H8, I8, hw8, q8⟩ => ?_
      refine thn (pt.run _ s8 σ8 H8 _ I8 q8) fun b s9 ⟨H9, I9, q9⟩ => ?_
      have fin : ∀ {s' : Shared} {H' : Hp}, L2.Inv ((X.blk s3 H3 scope ce fp).wish (blkE X use Qf (.ref D) ce)) ([] ++ pinsAt fp s7.heap) σ8 H' s' → Nx H' → ∃ m, m < n ∧ ∃ i H', L2.Inv ((X.blk s3 H3 scope ce fp).wish (blkE X use Qf (.ref D) ce)) [] (wipe σ (own.map (·.2))) H' s' ∧ tn i s'.heap ∧ (∀ b ∈ fp, H' b = none) ∧ W0 i m H' := fun {s' H'} I' nx => by
        obtain ⟨m', hm, w'⟩ := hNx H' nx
        have pin' : ∀ b ∈ fp, ∀ o, s7.heap.get? b = some o → s'.heap.get? b = some o ∧ H' b = none := fun b hb o e =>
          ⟨(I'.pin (b, o) (List.mem_append_right _ (List.mem_append_right _ (mem_pinsAt hb e)))).1, (I'.pin (b, o) (List.mem_append_right _ (List.mem_append_right _ (mem_pinsAt hb e)))).2.1⟩
        refine ⟨m', hm, i + 1, H', (I'.unpinned (pins := [])).weak (by rw [← hw8, wipe_length]) (fun j v e => ?_), T.keep _ _ _ st7 fun b hb o e => (pin' b hb o e).1, fun b hb => ?_, w'⟩
        · rw [← hw8] at e; exact (wipe_some e).1
        · obtain ⟨o, e, _⟩ := T.obj _ _ st7 b hb
          exact (pin' b hb o e).2
      cases b with
      | false =>
        simp only [Bool.false_eq_true, if_false] at q9 ⊢
        exact fin I9 q9
      | true =>
        simp only [if_true] at q9 ⊢
        refine thn (pe.run _ s9 σ8 H9 _ I9 q9) fun z s10 ⟨yv, H10, I10, r10, acc, hD10, hz10, nx⟩ => ?_
        exact app_ok (X := (X.blk s3 H3 scope ce fp).wish (blkE X use Qf (.ref D) ce)) I10 hD10 hz10 r10 fun s11 I11 => fin I11 nx
  exact codeAny_compStart_list loop (T.self X.A 0 _ _ _ st4 loop)
end

theorem Out.bind_assoc {α β γ : Type} (o : Out α) (f : α → Store → Out β) (g : β → Store → Out γ) : (o.bind f).bind g = o.bind fun a st => (f a st).bind g := by cases o <;> rfl
/-- a clause's tests -/
def ttOf (G : Gd) (T : List FT) (W : WX) : MEs → TT
  | .nil => tYes
  | .cons e .nil => tTof G T W e
  | .cons _ (.cons _ _) => fun _ _ _ => False
section
variable {G : Gd} {nm : Nm} {X : Cx} {N : List Str} {sc : Scope} {k : Nat} {W : WX} {lb : Bool} {T : List FT}
theorem tt_run {W' : WX} {cs : MEs} {z0 z : Z} {env : Env} {st : Store} {σ σ' : St} {α : Type} {f : Bool → Store → Out α} {kk : α → Store → Z → Prop} {Qb : Bool → Hp → Prop} (hW : ∀ cls d H, W' cls d σ' H ↔ W cls d σ H) (rel : Rel G z st) (er : EnvR G z env σ') (e0 : Ext z0 z)
    (q : Post G z0 σ W ((evalA1 G.pg T cs env st).bind f) kk) (h : ∀ b st' z', Ext z z' → Rel G z' st' → Post G z0 σ W (f b st') kk → Qb b z'.H) : ttOf G T W' cs σ' z.H Qb := by
  cases cs with
  | nil =>
    simp only [evalA1, Out.bind_ok] at q
    exact h true st z (Ext.refl z) rel q
  | cons e r =>
    cases r with
    | cons _ _ => simp only [evalA1, Out.bind_bad] at q; exact q.elim
    | nil =>
      simp only [evalA1, Out.bind_assoc] at q
      refine ⟨z, env, st, rfl, rel, er, ?_⟩
      have q1 := Post.bind0 q
      cases ho : evalE G.pg T e env st with
      | bad => rw [ho] at q1; exact q1.elim
      | exc x st1 =>
        rw [ho] at q1
        exact fun z' cls dd e' r' x' => (hW _ _ _).mpr (q1 z' cls dd (e0.trans e') r' x')
      | ok d st1 =>
        rw [ho] at q1
        intro z' e' rel'
        have q2 := q1 z' (e0.trans e') rel'
        cases d <;> simp only [asB, Out.ofO, Out.bind_bad, Out.bind_ok] at q2 <;> try exact q2.elim
        exact ⟨_, rfl, h _ st1 z' e' rel' q2⟩
theorem Post.w {W' : WX} {z : Z} {σ σ' : St} {α : Type} {o : Out α} {kk : α → Store → Z → Prop} (hW : ∀ cls d H, W' cls d σ' H ↔ W cls d σ H) (q : Post G z σ W o kk) : Post G z σ' W' o kk := by
  cases o with
  | ok a st => exact q
  | bad => exact q
  | exc e st => exact fun z' cls dd e' r' x' => (hW _ _ _).mpr (q z' cls dd e' r' x')
theorem comp_run {W' : WX} {t : Tg} {elt : ME} {it : MI} {cs : MEs} {z : Z} {env : Env} {st : Store} {σ : St} {Q : VK} (hW : ∀ cls d σ' H, W' cls d σ' H ↔ W cls d σ H) (rel : Rel G z st) (er : EnvR G z env σ)
    (q : Post G z σ W (evalE G.pg T (.comp t elt it cs) env st) fun d _ z' => ∀ v, R G z' d v → Q v z'.H) :
    tLc (iOf G T W it) (gOf G.K t) (ttOf G T W' cs) (tOf G T W' elt) (tgVs t) σ z.H Q := by
  obtain ⟨F, hF, q⟩ : ∃ F : D → Store → Out (Option D), (∀ x st, F x st = match bindTg t x env with
        | some env => (evalA1 G.pg T cs env st).bind fun b st => if b then (evalE G.pg T elt env st).bind fun d st => .ok (some d) st else .ok none st
        | none => .bad) ∧ Post G z σ W ((evalI G.pg T it env st).bind fun xs st => if xs.length ≤ big then (compGo F xs st).bind fun ds st => .ok (.lst ds) st else .bad) fun d _ z' => ∀ v, R G z' d v → Q v z'.H := ⟨_, fun _ _ => rfl, by simp only [evalE] at q; exact q⟩
  refine ⟨z, env, st, rfl, rel, er, (Post.bind q).imp fun xs st1 z1 e1 rel1 q1 J dr D hD => ?_⟩
  have er1 := er.ext e1 rel.wf
  split at q1
  rotate_left
  · exact q1.elim
  rename_i hbig
  refine ⟨fun i m H => ∃ z2 st2 ds acc, m = xs.length - i ∧ i ≤ xs.length ∧ z2.H = H ∧ Ext z1 z2 ∧ Rel G z2 st2 ∧ Alone z2 D ∧ z2.H D = some (.lst acc) ∧ Rs G z2 ds acc ∧ acc.length ≤ i ∧
    Post G z1 σ W ((compGo F (xs.drop i) st2).bind fun ds' st => .ok (.lst (ds ++ ds')) st) fun d _ z' => ∀ v, R G z' d v → Q v z'.H, ⟨xs.length, z1.put D (.lst []), st1, [], [], by simp, Nat.zero_le _, rfl, (Ext.refl z1).put hD, rel1.put0 hD,
      Alone.new rel1 hD rfl, upd_same, Rs.nil.mpr rfl, Nat.le_refl _, by simpa using q1⟩, ?_⟩
  rintro i m H ⟨z2, st2, ds, acc, rfl, hi, rfl, e2, rel2, al, hH, rs, hacc, p⟩
  by_cases hlt : i < xs.length
  · refine .inr ⟨dr.go i z2 (e2.keep rel1.wf) hlt, fun H' => ∃ m', m' < xs.length - i ∧ ∃ z2 st2 ds acc, m' = xs.length - (i + 1) ∧ i + 1 ≤ xs.length ∧ z2.H = H' ∧ Ext z1 z2 ∧ Rel G z2 st2 ∧ Alone z2 D ∧ z2.H D = some (.lst acc) ∧ Rs G z2 ds acc ∧ acc.length ≤ i + 1 ∧
    Post G z1 σ W ((compGo F (xs.drop (i + 1)) st2).bind fun ds' st => .ok (.lst (ds ++ ds')) st) fun d _ z' => ∀ v, R G z' d v → Q v z'.H, fun H' h => h, fun x H' hy => ?_⟩
    obtain ⟨z3, rfl, e3, rel3, r3⟩ := dr.yld i xs[i] z2 st2 x H' (e2.keep rel1.wf) rel2 (List.getElem?_eq_getElem hlt) hy
    rw [List.drop_eq_getElem_cons hlt] at p
    unfold compGo at p
    rw [Out.bind_assoc, hF] at p
    have er3 := (er1.ext e2 rel1.wf).ext e3 rel2.wf
    cases hbt : bindTg t xs[i] env with
    | none => rw [hbt] at p; exact p.elim
    | some env' =>
      rw [hbt] at p
      simp only [] at p
      rw [Out.bind_assoc] at p
      refine gOf_run hbt r3 (er3.wiped (tgVs t)) fun σ' e' w => ⟨by rw [w _ fun _ h => h, wipe_wipe], ?_⟩
      refine tt_run (fun cls d H => hW cls d σ' H) rel3 e' (e2.trans e3) p fun b st4 z4 e4 rel4 p4 => ?_
      have al4 := (al.ext e3).1.ext e4
      have hH4 := al4.2 _ ((al.ext e3).2 _ hH)
      have rs4 := (rs.ext e3 rel2.wf).ext e4 rel3.wf
      cases b with
      | false =>
        simp only [Bool.false_eq_true, if_false, Out.bind_ok] at p4 ⊢
        refine ⟨_, by omega, z4, st4, ds, acc, rfl, hlt, rfl, (e2.trans e3).trans e4, rel4, al4.1, hH4, rs4, by omega, ?_⟩
        rw [Out.bind_assoc] at p4
        exact p4
      | true =>
        simp only [if_true, Out.bind_assoc] at p4 ⊢
        refine ⟨z4, env', st4, rfl, rel4, e'.ext e4 rel3.wf, ((Post.w (fun cls d H => hW cls d σ' H) (Post.bind0 p4)).later ((e2.trans e3).trans e4)).imp fun d st5 z5 e5 rel5 p5 v5 r5 => ?_⟩
        have al5 := al4.1.ext e5
        refine ⟨acc, al5.2 _ hH4, by rw [← big_eq]; omega, _, by omega, z5.put D (.lst (acc ++ [v5])), st5, ds ++ [d], acc ++ [v5], rfl, hlt, rfl, (((e2.trans e3).trans e4).trans e5).put hD, rel5.put al5.1, al5.1.put rfl, upd_same, ?_, by simp; omega, ?_⟩
        · exact Rs.keep (Keep.put al5.1.nf) _ _ ((rs4.ext e5 rel4.wf).app (Rs.mk _ _ r5 (Rs.nil.mpr rfl)))
        · simp only [Out.bind_ok] at p5
          simp only [List.append_assoc, List.singleton_append]
          exact p5
  · have ei : i = xs.length := by omega
    subst ei
    refine .inl ⟨dr.stop z2 (e2.keep rel1.wf), ?_⟩
    rw [List.drop_length] at p
    simp only [compGo, Out.bind_ok, List.append_nil] at p
    refine p (z2.fix D) (e2.fix hD) (rel2.fix al) _ ?_
    simp only [R]
    exact ⟨D, acc, rfl, ⟨.inr rfl, hH⟩, Rs.keep (Keep.fix z2 D) _ _ rs⟩
end
end Fw

set_option Elab.async false
set_option linter.all false
set_option maxRecDepth 100000
set_option autoImplicit false
set_option maxHeartbeats 1000000
/-! Fw9: further built-ins; targets and blocks checked; the comprehension as an expression. -/
namespace Fw
open PySem PySem.Spec PyProof.Rows L2
section
variable {G : Gd} {nm : Nm} {X : Cx} {N : List Str} {sc : Scope} {k : Nat} {W : WX} {lb : Bool} {T : List FT}

/-! ### dicts made -/
theorem pairs_R {z : Z} (hK : X.K = G.K) : ∀ {ds : List D} {kvs : List (Txt × D)} {vs : List V}, pairsOf ds = some kvs → Rs G z ds vs →
    ∃ (ps : List Addr) (ws : List (Key × V)), vs = ps.map V.ref ∧ Paired (fun p kv => SqT X.K z.H p [kV kv.1, kv.2]) ps ws ∧ RK G z kvs ws
  | [], kvs, vs, e, h => by
    simp only [pairsOf, Option.some.injEq] at e
    subst e
    rw [Rs.nil.mp h]
    exact ⟨[], [], rfl, .nil, by simp only [RK]⟩
  | d :: r, kvs, vs, e, h => by
    unfold pairsOf at e
    split at e
    · cases ‹_ :: _ = []›
    · rename_i kk d' r' e0
      cases e0
      obtain ⟨kr, er, rfl⟩ := Option.map_eq_some_iff.mp e
      simp only [Rs] at h
      obtain ⟨v, vr, rfl, hv, hr⟩ := h
      obtain ⟨ps, ws, rfl, hp, hk⟩ := pairs_R hK er hr
      simp only [R] at hv
      obtain ⟨a, xs, rfl, ha, hxs⟩ := hv
      obtain ⟨x1, x2, rfl, h1, h2⟩ := hxs.two
      obtain ⟨rfl, ok⟩ := R.str.mp h1
      refine ⟨a :: ps, (kOf kk, x2) :: ws, rfl, .cons ?_ hp, ?_⟩
      · rw [hK]
        rcases ha with ⟨_, ha⟩ | ha
        · exact SqT.of ha
        · exact .inr ha
      · simp only [RK]
        exact ⟨x2, ws, rfl, ok, h2, hk⟩
    · cases e
theorem RK.kOfs {z : Z} : ∀ {kvs : List (Txt × D)} {ws : List (Key × V)}, RK G z kvs ws → ws.map (·.1) = (kvs.map (·.1)).map kOf
  | [], ws, h => by
    simp only [RK] at h
    rw [h]; rfl
  | (x, d) :: r, ws, h => by
    simp only [RK] at h
    obtain ⟨v, w, rfl, _, _, h⟩ := h
    simp only [List.map_cons]
    rw [RK.kOfs h]
theorem R.newD {z : Z} {st : Store} {kvs : List (Txt × D)} {ws : List (Key × V)} (rel : Rel G z st) (rr : RK G z kvs ws) {p : Addr} (np : z.H p = none) (od : Obj) : R G (z.new p (.frz od (.dK ws))) (.dic kvs) (.ref p) := by
  simp only [R]
  exact ⟨p, _, rfl, ⟨z.new_F p _, od, z.new_at p _⟩, RK.keep ((Ext.new np).keep rel.wf) _ _ rr⟩
/-- a call whose outcome is never written again -/
theorem call_frz {X : Cx} {f : Value} {pins : List (Addr × Obj)} {s : Shared} {σ : L2.St} {us : List Value} {Q : VK} (h : wpAny (model X.prog X.w) X.A (call f us) (EP X pins σ fun v H1 => ∃ d u, v = .ref d ∧ H1 d = some u ∧ Mut (some u) ∧ ∀ od, Q v (upd H1 d (.frz od u))) X.xe s) : wpAny (model X.prog X.w) X.A (call f us) (EP X pins σ Q) X.xe s := by
  refine thn h fun v s1 ⟨x, H1, I1, r, d, u, e1, hd, mu, q1⟩ => ?_
  subst e1
  obtain ⟨od, I2⟩ := I1.lock hd mu
  exact ⟨_, _, I2, r, q1 od⟩
theorem b_dictPairs (o : On G X) : CallR X (.type "dict") (rBl G bDictPairs) := by
  refine CallR.mk' fun pins s σ z st vs us Q ds d I r rel rs e q => ?_
  unfold bDictPairs at e
  split at e
  · rename_i xs
    obtain ⟨v, rfl, h⟩ := rs.one
    obtain ⟨kvs, e1, e⟩ := Option.bind_eq_some_iff.mp e
    split at e <;> cases e
    rename_i nd
    simp only [R] at h
    obtain ⟨a, ys, rfl, ⟨_, ha⟩, hys⟩ := h
    obtain ⟨ps, ws, rfl, hp, hk⟩ := pairs_R o.K e1 hys
    refine call_frz (call_dictP o.calm pins s σ z.H _ us _ I r ⟨a, ps, ws, rfl, SqL.of ha, hp, fun p np => ⟨p, _, rfl, upd_same, trivial, fun od => ?_⟩⟩)
    rw [merge_nil (by rw [hk.kOfs]; exact nodup_kOf nd), upd_upd]
    exact q (z.new p (.frz od (.dK ws))) _ (Ext.new np) (rel.new np (by simp)) (R.newD rel hk np od)
  · cases e
theorem b_dictCopy (o : On G X) : CallR X (.type "dict") (rBl G bDictCopy) := by
  refine CallR.mk' fun pins s σ z st vs us Q ds d I r rel rs e q => ?_
  unfold bDictCopy at e
  split at e
  · rename_i kvs
    cases e
    obtain ⟨v, rfl, h⟩ := rs.one
    simp only [R] at h
    obtain ⟨a, ws, rfl, ⟨_, od, ha⟩, hk⟩ := h
    refine call_frz (call_dictD pins s σ z.H _ us _ I r ⟨a, ws, rfl, .inr ⟨od, ha⟩, fun p np => ⟨p, _, rfl, upd_same, trivial, fun od => ?_⟩⟩)
    rw [upd_upd]
    exact q (z.new p (.frz od (.dK ws))) _ (Ext.new np) (rel.new np (by simp)) (R.newD rel hk np od)
  · cases e
theorem e_lenO (S : Static G nm) (c : In G X N sc k W lb) {i : Nat} {x y : Str} {p p2 pos : Pos} (hy : y = "len") (hg : glS sc y = true) (hx : y ∈ nm.blts) (h1 : N[i]? = some x) (h2 : visS sc x = true) (h3 : okN x = true) :
    PE X (.Call (.Name y p) [.Name x p2] [] pos) (tOf G T W (.lenO i)) := by
  subst hy
  have hv : PE X (.Name x p2) (tVar i) := pe_var (by rw [c.hN]; exact h1) (by rw [c.hsc]; exact visS_ok h2) (okN_dbg h3) (okN_cd h3)
  refine peImp (pe_callB call_len (gl_of c hg) (by rw [c.mg]; exact S.blts _ hx) boot_len (pa_cons hv pa_nil rfl) (by decide) (by decide) rfl rfl) fun σ H Q q => ?_
  obtain ⟨z, env, st, rfl, rel, er, q⟩ := q
  simp only [evalE] at q
  cases he : env[i]? with
  | none => rw [he] at q; exact q.elim
  | some s =>
    rw [he] at q
    cases s <;> try exact q.elim
    rename_i ds
    obtain ⟨a, vs, hσ, hH, rs, nf, ni⟩ := er.at_ i _ he
    have q1 := Post.ok q rel _ (R.int.mpr rfl)
    rw [← rs.len] at q1
    exact ⟨_, hσ, .ref a, vs.length, rfl, .inl ⟨vs, SqL.of hH, rfl⟩, q1⟩

/-! ### targets, blocks -/
def locS (sc : Scope) (x : Str) : Bool := match sc.names.lookup x with
  | some .local | some .cell => true
  | _ => false
theorem locS_ok {sc : Scope} {x : Str} (h : locS sc x = true) : sc.names.lookup x = some .local ∨ sc.names.lookup x = some .cell := by
  unfold locS at h
  split at h
  · exact .inl (by assumption)
  · exact .inr (by assumption)
  · cases h
def chkNs (N : List Str) (sc : Scope) : List Nat → List Expr → Bool
  | [], [] => true
  | i :: is, .Name x _ :: es => decide (N[i]? = some x) && locS sc x && chkNs N sc is es
  | _, _ => false
def chkTg (N : List Str) (sc : Scope) : Tg → Expr → Bool
  | .one i, .Name x _ => decide (N[i]? = some x) && locS sc x
  | .many is, .Tuple es _ _ => chkNs N sc is es
  | _, _ => false
theorem chkNs_each (env : PySem.Env) {sc : Scope} : ∀ {is : List Nat} {es : List Expr}, chkNs N sc is es = true → (assignEach es env).length = is.length ∧ (assignEach es env).findIdx? (·.1) = none
  | [], [], _ => ⟨rfl, rfl⟩
  | i :: is, .Name x p :: es, h => by
    simp only [chkNs, Bool.and_eq_true] at h
    obtain ⟨h1, h2⟩ := chkNs_each env h.2
    refine ⟨?_, ?_⟩
    · show (assignEach es env).length + 1 = _
      rw [h1]; rfl
    · show List.findIdx? (·.1) ((false, assign (.Name x p) env) :: assignEach es env) = none
      rw [List.findIdx?_cons, h2]
      rfl
  | [], _ :: _, h => by simp [chkNs] at h
  | i :: is, [], h => by simp [chkNs] at h
theorem pgs_of (hN : X.N.Nodup) {sc : Scope} (hl : ∀ x, locS sc x = true → Loc X.env.scope x ∧ (X.fn x = true ∨ X.env.scope.names.lookup x = some .local)) : ∀ {is : List Nat} {es : List Expr}, chkNs X.N sc is es = true → PGs X es (gNames is)
  | [], [], _ => pgs_nil
  | i :: is, .Name x p :: es, h => by
    simp only [chkNs, Bool.and_eq_true, decide_eq_true_eq] at h
    obtain ⟨a, b⟩ := hl x h.1.2
    exact pgs_cons (pg_name hN h.1.1 a b) (pgs_of hN hl h.2) rfl
  | [], _ :: _, h => by simp [chkNs] at h
  | i :: is, [], h => by simp [chkNs] at h
theorem pg_of (hc : X.calm = true) (hN : X.N.Nodup) {sc : Scope} (hl : ∀ x, locS sc x = true → Loc X.env.scope x ∧ (X.fn x = true ∨ X.env.scope.names.lookup x = some .local)) {t : Tg} {tg : Expr} (h : chkTg X.N sc t tg = true) : PG X tg (gOf X.K t) := by
  unfold chkTg at h
  split at h
  · simp only [Bool.and_eq_true, decide_eq_true_eq] at h
    obtain ⟨a, b⟩ := hl _ h.2
    exact pg_name hN h.1 a b
  · obtain ⟨h1, h2⟩ := chkNs_each X.env h
    exact pg_tup hc (pgs_of hN hl h) h1 h2
  · cases h
def ownOf (N : List Str) (t : Tg) : List (Str × Nat) := (tgVs t).map fun i => ((N[i]?).getD "", i)
theorem ownOf_vs (N : List Str) (t : Tg) : (ownOf N t).map (·.2) = tgVs t := by
  unfold ownOf
  rw [List.map_map]
  exact List.map_id _
def blkC (N : List Str) (sc scope : Scope) (t : Tg) : Bool :=
  decide (scope.kind = .function) && (scope.names.all fun y => decide (scope.names.lookup y.1 = some y.2)) && (tgVs t).all (fun i => (N[i]?).isSome) &&
    (scope.names.all fun y => decide (y.2 ≠ .free) || decide (sc.names.lookup y.1 = some .cell) || decide (sc.names.lookup y.1 = some .free)) &&
    (scope.names.all fun y => (decide (y.2 ≠ .local) && decide (y.2 ≠ .cell)) || ((ownOf N t).any fun p => decide (p.1 = y.1)) || !(N.any fun x => decide (x = y.1)))
theorem blk_of {N : List Str} {sc scope : Scope} {t : Tg} (h : blkC N sc scope t = true) : BlkOk N sc scope (ownOf N t) := by
  simp only [blkC, Bool.and_eq_true, decide_eq_true_eq, List.all_eq_true, Bool.or_eq_true, Bool.not_eq_true'] at h
  obtain ⟨⟨⟨⟨h1, h2⟩, h3⟩, h4⟩, h5⟩ := h
  refine ⟨h1, h2, fun p hp => ?_, fun y hy e => ?_, fun y hy e => ?_⟩
  · obtain ⟨i, hi, rfl⟩ := List.mem_map.mp hp
    obtain ⟨x, hx⟩ := Option.isSome_iff_exists.mp (h3 i hi)
    simp [hx]
  · rcases h4 y hy with (q | q) | q
    · exact absurd e q
    · exact .inl q
    · exact .inr q
  · rcases h5 y hy with (q | q) | q
    · rcases e with e | e
      · exact absurd e q.1
      · exact absurd e q.2
    · obtain ⟨p, hp, q⟩ := List.any_eq_true.mp q
      exact .inl (List.mem_map.mpr ⟨p, hp, by simpa using q⟩)
    · refine .inr fun hm => ?_
      have : (N.any fun x => decide (x = y.1)) = true := List.any_eq_true.mpr ⟨y.1, hm, by simp⟩
      rw [q] at this; cases this
theorem fold_of {e : Expr} (h : plainE e = true) (env : PySem.Env) (x : Value) : foldedSetIterable e env x = pure x := by
  cases e <;> first | rfl | cases h
/-- the context of a block is a context of ours -/
theorem In.blk (c : In G X N sc k W lb) (ho : lb = true → hasCell sc = true) {scope : Scope} {W' : WX} {Xb : Cx} (h : BlkX X scope W' Xb) : In G Xb N (relS scope sc) k W' lb := by
  obtain ⟨s, H, C, cl, fp, E, rfl, tk⟩ := h
  refine ⟨⟨c.P, c.w, c.K, c.mg, c.base, c.calm, c.room⟩, c.hN, c.nd, ?_, c.rm, c.fr, tk, fun hl _ => c.lm hl (ho hl)⟩
  show relabel scope X.env = relS scope sc
  rw [← c.hsc]
  rfl
theorem blk_tg (c : In G X N sc k W lb) (ho : lb = true → hasCell sc = true) {scope : Scope} {W' : WX} {Xb : Cx} (h : BlkX X scope W' Xb) {t : Tg} {tg : Expr} (ht : chkTg N scope t tg = true) : PG Xb tg (gOf G.K t) := by
  have cb := c.blk ho h
  rw [← cb.K]
  obtain ⟨s, H, C, cl, fp, E, rfl, tk⟩ := h
  refine pg_of cb.calm (by rw [cb.hN]; exact cb.nd) (sc := scope) (fun x hx => ?_) (by rw [cb.hN]; exact ht)
  rcases locS_ok hx with q | q
  · have q' : (relabel scope X.env).names.lookup x = some .local := lookup_relabel_local q
    exact ⟨.inl q', .inr q'⟩
  · have q' : (relS scope X.env.scope).names.lookup x = some .cell := lookup_relS_keep (by simp) q
    exact ⟨.inr q', .inl (by show (scope.names.lookup x == some NameKind.cell) = true; rw [q]; rfl)⟩
/-- {} -/
theorem e_dict0 {pos : Pos} : PE X (.Dict [] [] pos) (tOf G T W (.dict [] .nil)) := by
  refine peImp (pe_frz pe_dnewK) fun σ H Q q => ?_
  obtain ⟨z, env, st, rfl, rel, er, q⟩ := q
  simp only [evalE, evalEs, Out.bind] at q
  intro p np
  rw [if_pos ⟨rfl, by decide, by simp⟩] at q
  refine ⟨p, _, rfl, upd_same, trivial, fun od => ?_⟩
  rw [upd_upd]
  exact q _ (Ext.new np) (rel.new (o := .frz od (.dK [])) np (by simp)) _ (R.newD rel (kvs := []) (by simp only [RK]) np od)
/-- [elt for target in iter ..] -/
theorem e_comp (c : In G X N sc k W lb) (ho : lb = true → hasCell sc = true) {t : Tg} {elt : ME} {it : MI} {cs : MEs} {e tg iter : Expr} {ifs : List Expr} {scope : Scope} {pos : Pos} (hb : blkC N sc scope t = true) (ht : chkTg N scope t tg = true) (hi : PI X tg iter (iOf G T W it)) (hp : plainE iter = true)
    (h : ∀ Xb W', In G Xb N (relS scope sc) k W' lb → PTs Xb ifs (ttOf G T W' cs) ∧ PE Xb e (tOf G T W' elt)) : PE X (.ListComp e [⟨tg, iter, ifs, 0⟩] scope pos) (tOf G T W (.comp t elt it cs)) := by
  refine ⟨fun pins s σ H Q I q => ?_⟩
  obtain ⟨z, env, st, rfl, rel, er, q⟩ := q
  rw [eval_ListComp]
  refine lcF_core (W := W) c.calm (by rw [c.hN]; exact c.nd) I hi (by rw [c.hN, c.hsc]; exact blk_of hb) c.tk c.fr (fun Xb hX => ?_) (fun x => fold_of hp _ x)
    (by rw [ownOf_vs]; exact comp_run (W' := fun cls d _ H => W cls d σ H) (fun _ _ _ _ => Iff.rfl) rel er q) fun D C s' m H' I' q hn f => ⟨m, hn, fun h'' sb => ?_⟩
  · have cb := c.blk ho hX
    obtain ⟨h1, h2⟩ := h Xb _ cb
    exact ⟨blk_tg c ho hX ht, h1, h2⟩
  · obtain ⟨f0, f1, f2, f3, f4, f5⟩ := f
    exact ⟨.ref D, H', I'.turned (t' := s'.toks) (fun b o hb e => (sb.2 b hb).trans e) f0 f1 f3 f4 f5, rfl, q⟩
end
end Fw

set_option Elab.async false
set_option linter.all false
set_option maxRecDepth 100000
set_option autoImplicit false
set_option maxHeartbeats 1000000
/-! Fw91: methods of built-in things. -/
namespace Fw
open PySem PySem.Spec PyProof.Rows L2
section
variable {G : Gd} {nm : Nm} {X : Cx} {N : List Str} {sc : Scope} {k : Nat} {W : WX} {lb : Bool} {T : List FT}
theorem few2 {cpos : Pos} {e f : Expr} {env : PySem.Env} (hp : plainE e = true) (hq : plainE f = true) : ((backTo cpos (starEach [e, f] env)).all (fun x => !x.1) && (backToKw cpos (keywordEach [] env)).all (fun x => x.1.isSome) && decide ([e, f].length + ([] : List Keyword).length + (if ([] : List Keyword).isEmpty then 0 else 1) < 30)) = true := by
  rw [star_of hp, star_of hq]
  rfl
theorem trees2 {cpos : Pos} {e f : Expr} {env : PySem.Env} (hp : plainE e = true) (hq : plainE f = true) : backTo cpos (starEach [e, f] env) = [(false, eval e env), (false, eval f env)] := by
  rw [star_of hp, star_of hq]
  rfl
/-- d.get(y, x) -/
theorem e_get (c : In G X N sc k W lb) {o e f : Expr} {y : Str} {mo me mf : ME} {apos cpos : Pos} (hy : y = "get") (ho : PE X o (tOf G T W mo)) (he : PE X e (tOf G T W me)) (hf : PE X f (tOf G T W mf)) (hn : notCall0 o = true) (hp : plainE e = true) (hq : plainE f = true) (hline : (apos.endLine == cpos.line) = true) :
    PE X (.Call (.Attribute o y apos) [e, f] [] cpos) (tOf G T W (.bm .get mo (.cons me (.cons mf .nil)))) := by
  subst hy
  refine ⟨fun pins s σ H Q I q => ?_⟩
  obtain ⟨z, env, st, rfl, rel, er, q⟩ := q
  refine wpAny_Call_method (abase_of hn _ _ _) (few2 hp hq) hline PySem.F.plainAttrs_dict PySem.F.slot_dict_get PySem.F.type_dict_get (thn (ho.run pins s σ z.H (fun x H1 => ∃ z1 st1 dx, z1.H = H1 ∧ Ext z z1 ∧ Rel G z1 st1 ∧ R G z1 dx x ∧ bmOk .get dx = true ∧ Post G z1 σ W ((evalEs G.pg T (.cons me (.cons mf .nil)) env st1).bind fun ds st => Out.ofO st (bmD .get dx ds)) fun d _ z' => ∀ v, R G z' d v → Q v z'.H) I
    ⟨z, env, st, rfl, rel, er, (Post.bind (by simpa only [evalE] using q)).imp fun dx st1 z1 e1 r1 q1 v1 rv => ?_⟩) fun u s1 ⟨x, H1, I1, rx, z1, st1, dx, eH, e1, r1, rdx, hb, q1⟩ => ?_)
  · split at q1
    · exact ⟨z1, st1, dx, rfl, e1, r1, rv, by assumption, q1⟩
    · exact q1.elim
  subst eH
  have er1 := er.ext e1 rel.wf
  -- the two arguments, then the call
  have rest : ∀ (a : Addr), x = .ref a → (∀ (z3 : Z) (st3 : Store) (s3 : Shared) (t : Txt) (dv : D) (yv zv : V) (iv fv : Value) (pins' : List (Addr × Obj)), Ext z1 z3 → Rel G z3 st3 → L2.Inv X pins σ z3.H s3 → R G z3 dx x → yv = .str (sOf t) → RelV yv iv → RelV zv fv → R G z3 dv zv →
      (∀ v d, bmD .get dx [.str t, dv] = some d → R G z3 d v → Q v z3.H) → wpAny (model X.prog X.w) X.A (call (.builtin "dict.get") [.ref a, iv, fv]) (EP X pins σ Q) X.xe s3) →
      wpAny (model X.prog X.w) X.A (callWith cpos (.builtin "dict.get") [u] (backTo cpos (starEach [e, f] X.env)) (backToKw cpos (keywordEach [] X.env))) (EP X pins σ Q) X.xe s1 := by
    intro a hx fin
    subst hx
    obtain rfl : u = Value.ref a := rx
    rw [trees2 hp hq]
    refine Calls.callWith_builtin rfl (Calls.evalArgs_plain (Calls.spliced_cons (thn (he.run pins s1 σ z1.H (fun yv H2 => ∃ z2 st2 dy, z2.H = H2 ∧ Ext z1 z2 ∧ Rel G z2 st2 ∧ R G z2 dy yv ∧ Post G z2 σ W ((evalE G.pg T mf env st2).bind fun dz st => Out.ofO st (bmD .get dx [dy, dz])) fun d _ z' => ∀ v, R G z' d v → Q v z'.H) I1
      ⟨z1, env, st1, rfl, r1, er1, ?_⟩) fun iv s2 ⟨yv, H2, I2, ry, z2, st2, dy, eH2, e2, r2, rdy, q2⟩ => ?_)))
    · have q2 : Post G z1 σ W ((evalE G.pg T me env st1).bind fun dy st2 => (evalE G.pg T mf env st2).bind fun dz st => Out.ofO st (bmD .get dx [dy, dz])) fun d _ z' => ∀ v, R G z' d v → Q v z'.H := by
        simp only [evalEs] at q1
        cases ho1 : evalE G.pg T me env st1 with
        | bad => rw [ho1] at q1; exact q1
        | exc a b => rw [ho1] at q1; exact q1
        | ok dy st2 =>
          rw [ho1] at q1
          simp only [Out.bind_ok] at q1 ⊢
          cases ho2 : evalE G.pg T mf env st2 with
          | bad => rw [ho2] at q1; exact q1
          | exc a b => rw [ho2] at q1; exact q1
          | ok dz st3 => rw [ho2] at q1; exact q1
      exact (Post.bind q2).imp fun dy st2 z2 e2 r2 q3 v2 rv2 => ⟨z2, st2, dy, rfl, e2, r2, rv2, q3⟩
    · subst eH2
      refine Calls.spliced_cons (thn (hf.run pins s2 σ z2.H (fun zv H3 => ∃ z3 st3 dz, z3.H = H3 ∧ Ext z2 z3 ∧ Rel G z3 st3 ∧ R G z3 dz zv ∧ ∃ d, bmD .get dx [dy, dz] = some d ∧ ∀ v, R G z3 d v → Q v z3.H) I2
        ⟨z2, env, st2, rfl, r2, er1.ext e2 r1.wf, (Post.bind q2).imp fun dz st3 z3 e3 r3 q3 v3 rv3 => ?_⟩) fun fv s3 ⟨zv, H3, I3, rz, z3, st3, dz, eH3, e3, r3, rdz, d, hd, q3⟩ => Calls.spliced_nil ?_)
      · obtain ⟨d, hd, q4⟩ := Post.ofO q3 r3
        exact ⟨z3, st3, dz, rfl, e3, r3, rv3, d, hd, q4⟩
      · subst eH3
        obtain ⟨t, rfl⟩ : ∃ t, dy = .str t := by
          cases dy <;> first
            | exact ⟨_, rfl⟩
            | (cases dx <;> simp only [bmD] at hd <;> cases hd; done)
        refine fin z3 st3 s3 t dz yv zv iv fv pins (e2.trans e3) r3 I3 ((rdx.ext e2 r1.wf).ext e3 r2.wf) (R.str.mp rdy).1 ry rz rdz fun v d' hd' rv' => ?_
        rw [hd] at hd'; cases hd'
        exact q3 v rv'
  cases dx <;> simp only [bmOk] at hb <;> try cases hb
  · rename_i kvs
    simp only [R] at rdx
    obtain ⟨a, vs, rfl, ⟨_, od, hH⟩, rk⟩ := rdx
    obtain rfl : u = Value.ref a := rx
    obtain ⟨t1, t2, _⟩ := isD_at I1 (.inl ⟨vs, .inr ⟨od, hH⟩⟩ : IsD z1.H a)
    refine ⟨t1, t2, rest a rfl fun z3 st3 s3 t dv yv zv iv fv _ e3 r3 I3 rd3 hy ry rz rdv fin => ?_⟩
    subst hy
    simp only [R] at rd3
    obtain ⟨a', vs', ea, ⟨_, od3, hH3⟩, rk3⟩ := rd3
    cases ea
    have g : DGet z3.H a (kV (kOf t)) (valV vs' (kOf t)) := dget_frz (k := kOf t) hH3
    refine d_get2 (on_units c.toOn) I3 g ry rz fun w' s4 I4 rw' => ⟨_, z3.H, I4, rw', ?_⟩
    have lk := rk3.look t
    cases hl : lookT t kvs with
    | none =>
      rw [hl] at lk
      have lk : valV vs' (kOf t) = none := lk
      rw [lk]
      exact fin zv dv (by simp only [bmD, hl, Option.getD_none]) rdv
    | some d =>
      rw [hl] at lk
      obtain ⟨w, e5, r5⟩ := lk
      rw [e5]
      exact fin w d (by simp only [bmD, hl, Option.getD_some]) r5
  · rename_i kvs
    simp only [R] at rdx
    obtain ⟨a, vs, rfl, kd, rk⟩ := rdx
    obtain rfl : u = Value.ref a := rx
    obtain ⟨es, n, kd1, look⟩ := kd
    have kd' : KDict X.K X.w a es n := by rw [c.K, c.w]; exact kd1
    have ha : s1.heap.get? a = some ⟨.type "dict", none, .dict es n, #[]⟩ := I1.kIn _ _ kd'.at_
    refine ⟨⟨_, ha, rfl⟩, fun b hb => ?_, rest a rfl fun z3 st3 s3 t dv yv zv iv fv _ e3 r3 I3 rd3 hy ry rz rdv fin => ?_⟩
    · cases hb; exact ⟨_, ha, rfl⟩
    subst hy
    obtain ⟨tk, rfl⟩ := (show ∃ t', iv = Value.str (sOf t) t' from ry)
    obtain ⟨r, hr, ro⟩ := look (sOf t)
    have hm := PySem.W.mapOf_K (prog := X.prog) (w := X.w) I3.kIn kd'.at_ kd'.lit
    have hr' : PySem.W.nsIn X.K a (sOf t) = some r := by rw [c.K]; exact hr
    have ff := PySem.W.find_K kd'.at_ hr'
    simp only [R] at rd3
    obtain ⟨a', vs', ea, _, rk3⟩ := rd3
    cases ea
    have lk := rk.look t
    refine call_meetsIn PySem.F.slot_dict_get hm.typeIs PySem.F.entry_dict_get (PySem.F.args_dict_get_3 _ _ _) (meets_dict_get_default (strKind X.prog X.w) a (strKind_is X.prog X.w (sOf t) tk) kd'.low fv) ⟨_, hm, ?_⟩
    rw [ff]
    cases hl : lookT t kvs with
    | none =>
      rw [hl] at lk
      have lk : valV vs (Sum.inr (sOf t)) = none := lk
      rw [lk] at ro
      cases r with
      | some _ => exact ro.elim
      | none => exact ⟨zv, z3.H, I3.tok _, rz, fin zv dv (by simp only [bmD, hl, Option.getD_none]) rdv⟩
    | some d =>
      rw [hl] at lk
      obtain ⟨w, e5, r5⟩ := lk
      have e5 : valV vs (Sum.inr (sOf t)) = some w := e5
      rw [e5] at ro
      cases r with
      | none => exact ro.elim
      | some u0 => exact ⟨w, z3.H, I3.tok _, ro, fin w d (by simp only [bmD, hl, Option.getD_some]) (r5.ext e3 r1.wf)⟩
end
end Fw

set_option Elab.async false
set_option linter.all false
set_option maxRecDepth 100000
set_option autoImplicit false
set_option maxHeartbeats 1000000
/-! Fw92: str(i), list(range(..)), max(xs, default=..), sorted. -/
namespace Fw
open PySem PySem.Spec PyProof.Rows L2
section
variable {G : Gd} {nm : Nm} {X : Cx} {N : List Str} {sc : Scope} {k : Nat} {W : WX} {lb : Bool} {T : List FT}
theorem figs_ok (n : Nat) : okT (figs n) = true := by
  unfold okT figs
  rw [List.all_map, List.all_eq_true]
  intro c _
  simp only [Function.comp, decide_eq_true_eq]
  have := c.valid
  rcases this with h | ⟨_, h⟩
  · exact Nat.lt_trans h (by decide)
  · exact h
theorem showI_ok (i : Int) : okT (showI i) = true := by
  unfold showI
  split
  · have := figs_ok i.natAbs
    unfold okT at this ⊢
    rw [List.all_cons, this]; rfl
  · exact figs_ok _
theorem showI_str (i : Int) : sOf (showI i) = Str.ofString (toString i) := by
  cases i with
  | ofNat m =>
    rw [text_ofNat m]
    have : ¬ (Int.ofNat m < 0) := by simp
    unfold showI
    rw [if_neg this]
    rfl
  | negSucc m =>
    have : Int.negSucc m < 0 := Int.negSucc_lt_zero m
    unfold showI
    rw [if_pos this]
    have e : toString (Int.negSucc m) = "-" ++ toString (Int.ofNat (m + 1)) := rfl
    have h := text_ofNat (m + 1)
    rw [Str.ofString_eq_toList] at h
    rw [e, Str.ofString_eq_toList, String.toList_append, List.map_append]
    have h2 : List.map Char.toNat (toString (Int.ofNat (m + 1))).toList = (Nat.toDigits 10 (m + 1)).map Char.toNat := by
      have := congrArg (fun s : Str => s.cps.toList) h
      simpa using this
    rw [h2]
    rfl
theorem b_str : CallR X (.type "str") (rBl G bStr) := by
  refine CallR.mk' fun pins s σ z st vs us Q ds d I r rel rs e q => ?_
  unfold bStr at e
  split at e <;> try cases e
  split at e
  · rename_i i hi
    cases e
    obtain ⟨v, rfl, h⟩ := rs.one
    rw [R.int] at h
    subst h
    refine call_str_int pins s σ z.H _ us Q I r ⟨_, rfl, ?_, q z _ (Ext.refl z) rel (R.str.mpr ⟨(showI_str i).symm ▸ rfl, showI_ok i⟩)⟩
    by_cases h0 : i.natAbs = 0
    · rw [h0]; decide
    · exact Nat.lt_trans ((Nat.log2_lt h0).mpr hi) (by decide)
  · cases e
theorem upto_eq : ∀ (n : Nat) (lo : Int), upto lo n = (List.range n).map fun i => lo + ((i : Nat) : Int)
  | 0, _ => rfl
  | n + 1, lo => by
    rw [upto, upto_eq n, List.range_succ_eq_map, List.map_cons, List.map_map]
    congr 1
    · simp
    · apply List.map_congr_left
      intro i _
      simp only [Function.comp]
      omega
theorem ints_rs (z : Z) : ∀ ns : List Int, Rs G z (ns.map .int) (ns.map .int)
  | [] => Rs.nil.mpr rfl
  | n :: r => Rs.mk _ _ (R.int.mpr rfl) (ints_rs z r)
theorem rgV_rs (z : Z) (lo hi : Int) : Rs G z ((upto lo (hi - lo).toNat).map .int) (rgV lo hi) := by
  have : rgV lo hi = (upto lo (hi - lo).toNat).map .int := by
    unfold rgV
    rw [upto_eq, List.map_map]
    rfl
  rw [this]
  exact ints_rs z _
theorem rangeD_big {lo hi : Int} {ds : List D} (h : rangeD lo hi = some ds) : (hi - lo).toNat ≤ 2 ^ 24 := by
  unfold rangeD at h
  split at h
  · rename_i c
    exact c.2.2
  · cases h
theorem rg_fin {z : Z} {st : Store} {i j : Int} {σ : St} {Q : VK} {W : WX} (rel : Rel G z st) (q : Post G z σ W (Out.ofO st (bListRange [.int i, .int j])) fun d _ z' => ∀ v, R G z' d v → Q v z'.H) :
    RgOk i j ∧ ∀ q, z.H q = none → Q (.ref q) (upd z.H q (.lst (rgV i j))) := by
  unfold bListRange at q
  simp only at q
  cases e : rangeD i j with
  | none => rw [e] at q; exact q.elim
  | some ds =>
    rw [e] at q
    have hb := rangeD_big e
    obtain ⟨h1, h2, rfl⟩ := rangeD_some e
    refine ⟨⟨by omega, by omega, by omega, by omega, hb⟩, fun p np => ?_⟩
    exact Post.at q (Ext.new np) (rel.new np (by simp)) (.ref p) (R.newL rel (rgV_rs z i j) np)
theorem e_listRg2 (S : Static G nm) (c : In G X N sc k W lb) {a b : Expr} {ma mb : ME} {p p2 pos pos2 : Pos} (hg : glS sc "list" = true) (hx : ("list" : Str) ∈ nm.blts) (hg2 : glS sc "range" = true) (hx2 : ("range" : Str) ∈ nm.blts) (ha : PE X a (tOf G T W ma)) (hb : PE X b (tOf G T W mb)) (hp : plainE a = true) (hq : plainE b = true) :
    PE X (.Call (.Name "list" p) [.Call (.Name "range" p2) [a, b] [] pos2] [] pos) (tOf G T W (.blt .listRange (.cons ma (.cons mb .nil)))) := by
  refine peImp (pe_listRg c.calm (gl_of c hg) (by rw [c.mg]; exact S.blts _ hx) (prg_2 (gl_of c hg2) (by rw [c.mg]; exact S.blts _ hx2) ha hb (star_of hp _ _) (star_of hq _ _) (backTo_any _ _ (by simp [plains, hq])))) fun σ H Q q => ?_
  obtain ⟨z, env, st, rfl, rel, er, q⟩ := q
  have q' : Post G z σ W ((evalE G.pg T ma env st).bind fun dx st => (evalE G.pg T mb env st).bind fun dy st => Out.ofO st (bListRange [dx, dy])) fun d _ z' => ∀ v, R G z' d v → Q v z'.H := by
    simp only [evalE, evalEs] at q
    cases ho : evalE G.pg T ma env st with
    | bad => rw [ho] at q; exact q
    | exc a b => rw [ho] at q; exact q
    | ok dy st2 =>
      rw [ho] at q
      simp only [Out.bind_ok] at q ⊢
      cases ho2 : evalE G.pg T mb env st2 with
      | bad => rw [ho2] at q; exact q
      | exc a b => rw [ho2] at q; exact q
      | ok dz st3 => rw [ho2] at q; exact q
  refine ⟨z, env, st, rfl, rel, er, (Post.bind q').imp fun dx st1 z1 e1 rel1 q1 v1 r1 => ?_⟩
  refine ⟨z1, env, st1, rfl, rel1, er.ext e1 rel.wf, (Post.bind q1).imp fun dy st2 z2 e2 rel2 q2 v2 r2 => ?_⟩
  obtain ⟨d, e, _⟩ := Post.ofO q2 rel2
  cases dx <;> try (simp only [bListRange, reduceCtorEq] at e; done)
  cases dy <;> try (simp only [bListRange, reduceCtorEq] at e; done)
  exact ⟨_, _, R.int.mp r1, R.int.mp r2, rg_fin rel2 q2⟩
theorem e_listRg1 (S : Static G nm) (c : In G X N sc k W lb) {b : Expr} {mb : ME} {p p2 pos pos2 : Pos} (hg : glS sc "list" = true) (hx : ("list" : Str) ∈ nm.blts) (hg2 : glS sc "range" = true) (hx2 : ("range" : Str) ∈ nm.blts) (hb : PE X b (tOf G T W mb)) (hq : plainE b = true) :
    PE X (.Call (.Name "list" p) [.Call (.Name "range" p2) [b] [] pos2] [] pos) (tOf G T W (.blt .listRange (.cons (.lit (.int 0)) (.cons mb .nil)))) := by
  refine peImp (pe_listRg c.calm (gl_of c hg) (by rw [c.mg]; exact S.blts _ hx) (prg_1 (gl_of c hg2) (by rw [c.mg]; exact S.blts _ hx2) hb (star_of hq _ _))) fun σ H Q q => ?_
  obtain ⟨z, env, st, rfl, rel, er, q⟩ := q
  have q' : Post G z σ W ((evalE G.pg T mb env st).bind fun dy st => Out.ofO st (bListRange [.int 0, dy])) fun d _ z' => ∀ v, R G z' d v → Q v z'.H := by
    simp only [evalE, evalEs, Out.bind_ok] at q
    cases ho2 : evalE G.pg T mb env st with
    | bad => rw [ho2] at q; exact q
    | exc a b => rw [ho2] at q; exact q
    | ok dz st3 => rw [ho2] at q; exact q
  refine ⟨z, env, st, rfl, rel, er, (Post.bind q').imp fun dy st2 z2 e2 rel2 q2 v2 r2 => ?_⟩
  obtain ⟨d, e, _⟩ := Post.ofO q2 rel2
  cases dy <;> try (simp only [bListRange, reduceCtorEq] at e; done)
  exact ⟨_, R.int.mp r2, rg_fin rel2 q2⟩
theorem insI_perm (i : Int) : ∀ l : List Int, (insI i l).Perm (i :: l)
  | [] => .refl _
  | j :: r => by
    unfold insI
    split
    · exact .refl _
    · exact ((insI_perm i r).cons j).trans (.swap ..)
theorem sortI_perm : ∀ l : List Int, (sortI l).Perm l
  | [] => .refl _
  | i :: r => (insI_perm i _).trans ((sortI_perm r).cons i)
theorem insI_srt (i : Int) : ∀ {l : List Int}, l.Pairwise (· ≤ ·) → (insI i l).Pairwise (· ≤ ·)
  | [], _ => by unfold insI; simp
  | j :: r, h => by
    unfold insI
    rw [List.pairwise_cons] at h
    split
    · rename_i c
      refine List.pairwise_cons.mpr ⟨fun x hx => ?_, List.pairwise_cons.mpr h⟩
      rcases List.mem_cons.mp hx with rfl | hx
      · exact c
      · exact Int.le_trans c (h.1 x hx)
    · rename_i c
      refine List.pairwise_cons.mpr ⟨fun x hx => ?_, insI_srt i h.2⟩
      rcases List.mem_cons.mp ((insI_perm i r).mem_iff.mp hx) with rfl | hx
      · omega
      · exact h.1 x hx
theorem sortI_srt : ∀ l : List Int, (sortI l).Pairwise (· ≤ ·)
  | [] => .nil
  | i :: r => insI_srt i (sortI_srt r)
theorem srt_uniq {a b : List Int} (p : a.Perm b) (ha : a.Pairwise (· ≤ ·)) (hb : b.Pairwise (· ≤ ·)) : a = b :=
  List.Perm.eq_of_pairwise (fun _ _ _ _ h1 h2 => Int.le_antisymm h1 h2) ha hb p
theorem dedupI_mem : ∀ (l : List Int) (x : Int), x ∈ dedupI l ↔ x ∈ l
  | [], x => Iff.rfl
  | i :: r, x => by
    unfold dedupI
    split
    · rename_i c
      rw [dedupI_mem r x, List.mem_cons]
      have := List.contains_iff_mem.mp c
      constructor
      · exact .inr
      · rintro (rfl | h)
        · exact this
        · exact h
    · rw [List.mem_cons, List.mem_cons, dedupI_mem r x]
theorem dedupI_nodup : ∀ l : List Int, (dedupI l).Nodup
  | [] => .nil
  | i :: r => by
    unfold dedupI
    split
    · exact dedupI_nodup r
    · rename_i c
      refine List.nodup_cons.mpr ⟨fun h => ?_, dedupI_nodup r⟩
      exact c (List.contains_iff_mem.mpr ((dedupI_mem r i).mp h))
theorem b_sorted (o : On G X) : CallR X (.builtin "sorted") (rBl G bSorted) := by
  refine CallR.mk' fun pins s σ z st vs us Q ds d I r rel rs e q => ?_
  unfold bSorted at e
  split at e <;> try cases e
  obtain ⟨v, rfl, h⟩ := rs.one
  obtain ⟨ns, e1, e2⟩ := Option.bind_eq_some_iff.mp e
  split at e2
  · rename_i h64
    cases e2
    obtain ⟨a, rfl, hq⟩ := h.ints o e1
    refine cr_sorted pins s σ z.H _ us Q I r ⟨a, ns, rfl, hq, h64, fun ns' p p1 p2 np => ?_⟩
    rw [srt_uniq (p1.trans (sortI_perm ns).symm) p2 (sortI_srt ns)]
    exact q (z.new p _) _ (Ext.new np) (rel.new np (by simp)) (R.newL rel (ints_rs z _) np)
  · cases e2
end
end Fw

set_option Elab.async false
set_option linter.all false
set_option maxRecDepth 100000
set_option autoImplicit false
set_option maxHeartbeats 1000000
/-! Fw93: a lambda with one parameter, called. -/
namespace Fw
open PySem PySem.Spec PyProof.Rows L2

/-- the context of a lambda's body -/
def lamX (X : Cx) (A : Around) (outer : List PySem.Env) (s : Shared) (H : Hp) (E : XK) (scope : Scope) (f c' : Addr) : Cx :=
  { LamX.lamCx X A outer s H E scope f c' with
    xe := fun e s' => wpAny (model X.prog X.w) (A.deeper (LamX.lamEnv X scope s.heap.objs.size f c')) (leaving (LamX.lamEnv X scope s.heap.objs.size f c') e) (fun _ s'' => L2N.CX X.prog X.w outer H s E e s'') (fun e' s'' => L2N.CX X.prog X.w outer H s E e' s'') s' }
/-- at most one parameter x, no other name of its own -/
structure LamS1 (sc scope : Scope) (x : Option Str) : Prop where
  kd : scope.kind = .function
  noCo : scope.isCoroutine = false
  noGen : scope.isGenerator = false
  loc : ∀ y ∈ scope.names, y.2 = .local → some y.1 = x
  noCell : ∀ y ∈ scope.names, y.2 ≠ .cell
  par : ∀ y, x = some y → scope.names.lookup y = some .local
  up : ∀ y ∈ scope.names, y.2 = .free → sc.names.lookup y.1 = some .cell ∨ sc.names.lookup y.1 = some .free
def lamS1B (sc scope : Scope) (x : Option Str) : Bool :=
  decide (scope.kind = .function) && !scope.isCoroutine && !scope.isGenerator && (match x with | some y => decide (scope.names.lookup y = some .local) | none => true) &&
    scope.names.all fun y => (!decide (y.2 = .local) || decide (some y.1 = x)) && !decide (y.2 = .cell) && (!decide (y.2 = .free) || (decide (sc.names.lookup y.1 = some .cell) || decide (sc.names.lookup y.1 = some .free)))
theorem lamS1_by {sc scope : Scope} {x : Option Str} (h : lamS1B sc scope x = true) : LamS1 sc scope x := by
  simp only [lamS1B, Bool.and_eq_true, Bool.or_eq_true, Bool.not_eq_true', decide_eq_true_eq, decide_eq_false_iff_not, List.all_eq_true] at h
  obtain ⟨⟨⟨⟨h1, h2⟩, h3⟩, hp⟩, h4⟩ := h
  refine ⟨h1, h2, h3, fun y hy e => ?_, fun y hy => (h4 y hy).1.2, fun y e => by subst e; simpa using hp, fun y hy e => ?_⟩
  · rcases (h4 y hy).1.1 with q | q
    · exact absurd e q
    · exact q
  · rcases (h4 y hy).2 with q | q
    · exact absurd e q
    · exact q
section
variable {X : Cx} {pins : List (Addr × Obj)} {σ : L2.St} {H HZ : Hp} {s s1 : Shared} {scope : Scope} {x : Option Str}
theorem LamS1.caps (L : LamS1 X.env.scope scope x) (ok : X.Ok) (y : Str × NameKind) (hy : y ∈ scope.names) (e : y.2 = .free) : ∃ c, X.env.cells.lookup y.1 = some c :=
  (L.up y hy e).elim (fun k => ok.has _ (.inl k)) fun k => ok.has _ (.inr k)
/-- the lambda's own cells are the maker's -/
theorem clo_sub (hfree : ∀ y ∈ scope.names, y.2 = .free → ∃ c, X.env.cells.lookup y.1 = some c) {y : Str} {c : Addr} (e : (cloFrom X.env.cells scope.names []).lookup y = some c) : X.env.cells.lookup y = some c := by
  rcases cloFrom_mem (PySem.mem_of_lookup e) with hm | ⟨h1, h2⟩
  · exact absurd hm (by simp)
  · obtain ⟨d, hd⟩ := hfree (y, .free) h1 rfl
    rw [h2, show X.env.cells.lookup y = some d from hd]
    rfl
theorem l1_start {A : Around} {outer : List PySem.Env} {E : XK} {f c' : Addr} {h₁ : Heap} {tk : Nat} {σ' : L2.St} {bs : List (Str × Value)} (I : L2.Inv X pins σ H s) (L : LamS1 X.env.scope scope x)
    (hσ : ∀ (j : Nat) (y : Str) (w : V), X.N[j]? = some y → σ'[j]? = some (some w) → (some y = x ∧ ∃ u, RelV w u ∧ bs.reverse.lookup y = some u) ∨ (some y ≠ x ∧ σ[j]? = some (some w))) (hl : σ'.length = X.N.length)
    (e0 : Env0 X.prog X.w X.K X.mg X.base A outer s1 HZ) (hd : A.handled = none) (un : Un (frs X.stack) [] H HZ s.heap s1.heap) (hns : h₁.Ns s1.heap.objs.size fun y => bs.reverse.lookup y)
    (kp : ∀ b o, s1.heap.get? b = some o → h₁.get? b = some o) : L2.Inv (lamX X A outer s1 HZ E scope f c') [] σ' HZ { s1 with heap := h₁, toks := tk } := by
  have hfree := L.caps I.ok
  have sub : ∀ {y : Str} {c : Addr}, (cloFrom X.env.cells scope.names []).lookup y = some c → X.env.cells.lookup y = some c := fun {y c} e => clo_sub hfree e
  have capt : ∀ {y : Str}, scope.names.lookup y = some .free → ∃ c, (cloFrom X.env.cells scope.names []).lookup y = some c := fun {y} hl =>
    mem_lookup (cloFrom_has (cells := X.env.cells) (acc := []) (show (y, NameKind.free) ∈ scope.names from PySem.mem_of_lookup hl))
  have keepC : ∀ {c : Addr} {w : Option Value}, H c = none → s.heap.IsCell c w → h₁.IsCell c w := fun {c w} n z => by
    obtain ⟨o, ho, hd⟩ := z
    obtain ⟨sl, q⟩ := un.any ho n (by simp)
    exact ⟨_, kp _ _ q, hd⟩
  have none_ : ∀ b : Addr, b ∉ (lamX X A outer s1 HZ E scope f c').ex := fun b z => (List.not_mem_nil (show b ∈ ([] : List Addr) from z)).elim
  have ok : (lamX X A outer s1 HZ E scope f c').Ok := {
    mod := e0.mod
    kind := L.kd
    glob := rfl
    blt := rfl
    above := Nat.le_refl _
    inj := fun y z c e1 e2 => I.ok.inj y z c (sub e1) (sub e2)
    has := fun y hy => by
      rcases (show scope.names.lookup y = some .cell ∨ scope.names.lookup y = some .free from hy) with q | q
      · exact absurd rfl (L.noCell _ (PySem.mem_of_lookup q))
      · exact capt q
    cab := fun y c z _ => by
      have z : false = true := z
      cases z
    hd := fun _ => hd
    frames := Around.frames_deeper e0.frames
    stk := .inr ⟨rfl, rfl⟩
    exf := fun b z => (none_ b z).elim
    bs := e0.bs
    bsz := e0.bsz
    noex := fun b _ _ => none_ b
    exfs := fun b z => (none_ b z).elim
    funs := e0.funs
    frf := e0.frf }
  refine { ok := ok, os := rfl, bare := e0.bare, base := Un.kept kp, loc := ⟨_, hns, fun j y w e1 e2 e3 => ?_⟩, cell := fun y c e => ?_, free := e0.hok.fresh (Nat.le_refl _), freeC := fun y c e => ?_, pin := fun q hq => ?_, hok := e0.hok.kept kp, len := ?_ }
  · have e1 : X.N[j]? = some y := e1
    rcases hσ j y w e1 e2 with ⟨ex, u, rv, hb⟩ | ⟨nx, e2⟩
    · exact ⟨u, rv, .inl ⟨L.par y ex.symm, hb⟩⟩
    · rcases (show Vis scope y from e3) with q | q | q
      · exact absurd (L.loc _ (PySem.mem_of_lookup q) rfl) nx
      · exact absurd rfl (L.noCell _ (PySem.mem_of_lookup q))
      · obtain ⟨m, hn, hl⟩ := I.loc
        have up := L.up _ (PySem.mem_of_lookup q) rfl
        obtain ⟨w', r, lk⟩ := hl j y w e1 e2 (up.elim (fun k => .inr (.inl k)) fun k => .inr (.inr k))
        obtain ⟨c2, h2⟩ := capt q
        have c1 := sub h2
        refine ⟨w', r, .inr ⟨.inr q, c2, h2, ?_⟩⟩
        rcases lk with ⟨k', _⟩ | ⟨_, c3, e', z⟩
        · have k' : X.env.scope.names.lookup y = some .local := k'
          rcases up with k2 | k2 <;> (rw [show X.env.scope.names.lookup y = _ from k2] at k'; cases k')
        · rw [c1] at e'
          cases e'
          exact keepC (I.freeC y _ c1) z
  · obtain ⟨w', z⟩ := I.cell y c (sub e)
    exact ⟨w', keepC (I.freeC y c (sub e)) z⟩
  · obtain ⟨w, o, ho, _⟩ := I.cell y c (sub e)
    exact un.free c o ho (I.freeC y c (sub e)) (by simp)
  · have hq : q ∈ ([] : List (Addr × Obj)) ++ [] := hq
    simp at hq
  · exact hl
theorem one_slot {xp : Str} {i : Nat} {v : V} {u : Value} (hN : X.N.Nodup) (hi : X.N[i]? = some xp) (rv : RelV v u) : ∀ (j : Nat) (y : Str) (w : V), X.N[j]? = some y → (σ.set i (some v))[j]? = some (some w) →
    (some y = some xp ∧ ∃ u', RelV w u' ∧ [(xp, u)].reverse.lookup y = some u') ∨ (some y ≠ some xp ∧ σ[j]? = some (some w)) := by
  intro j y w e1 e2
  by_cases hj : j = i
  · subst hj
    rw [hi] at e1; cases e1
    obtain ⟨_, e2⟩ := List.getElem?_eq_some_iff.mp e2
    rw [List.getElem_set_self] at e2
    cases e2
    exact .inl ⟨rfl, u, rv, by simp [List.lookup_cons]⟩
  · rw [List.getElem?_set_ne (fun q => hj q.symm)] at e2
    refine .inr ⟨fun q => ?_, e2⟩
    cases q
    obtain ⟨_, b1⟩ := List.getElem?_eq_some_iff.mp e1
    obtain ⟨_, b2⟩ := List.getElem?_eq_some_iff.mp hi
    exact hj ((List.getElem_inj hN).mp (b1.trans b2.symm))
/-- deed(arg), in the def that got the lambda -/
theorem act1 {CXg : CXT} {Eg : XK} {Ng : List Str} {qg : Str} {sg : Scope} {g f c' : Addr} {cdg pm ctv : Value} {params : Arguments} {body e : Expr} {k i ia : Nat} {a : Str} {pn : List (Addr × Obj)} {xe : Value → Shared → Prop} {W : WX} {t : XK → TE} {te : TE} {p1 p2 : Pos}
    (I : L2.Inv X pins σ H s) {xp : Str} (L : LamS1 X.env.scope scope (some xp)) (hN : X.N.Nodup) (hi : X.N[i]? = some xp)
    (hf : s.heap.get? f = some (PySem.W.kla_obj "<lambda>" (X.env.qual ++ "<lambda>") params body scope (cloFrom X.env.cells scope.names []) pm c' ctv)) (hfn : H f = none) (hfr : f ∉ frs X.stack)
    (hbind : ∀ u : Value, bindArgs (PySem.W.kla_fn "<lambda>" (X.env.qual ++ "<lambda>") params body scope (cloFrom X.env.cells scope.names []) pm (.ref c') ctv) ⟨[u], []⟩ = pure [(xp, u)])
    (tk : L2N.Takes ((cxOf CXg X.prog X.w X.K X.mg X.base Ng qg sg g cdg X.A X.stack s H Eg).tr pn xe) W) (hr : Room (k + 1) (X.A.deeper (envOfC qg sg s.heap.objs.size g cdg)))
    (hbody : ∀ (A : Around) (outer : List PySem.Env) (s : Shared) (H : Hp) (E : XK), Room k (A.deeper (LamX.lamEnv X scope s.heap.objs.size f c')) → PE (lamX X A outer s H E scope f c') body (t E))
    (hNa : Ng[ia]? = some a) (hv : Vis sg a) (ha : okN a = true) (he : PE ((cxOf CXg X.prog X.w X.K X.mg X.base Ng qg sg g cdg X.A X.stack s H Eg).tr pn xe) e te) (hp : plainE e = true) :
    PE ((cxOf CXg X.prog X.w X.K X.mg X.base Ng qg sg g cdg X.A X.stack s H Eg).tr pn xe) (.Call (.Name a p1) [e] [] p2)
      (fun σZ HZ Q => σZ[ia]? = some (some (.ref f)) ∧ te σZ HZ fun v H1 => H1 c' = some (LamX.CodeO c' (X.env.qual ++ "<lambda>")) ∧ t (WE W σZ) (σ.set i (some v)) H1 Q) := by
  refine ⟨fun pinsZ sZ σZ HZ Q IZ h => ?_⟩
  obtain ⟨hs, ht⟩ := h
  refine wpAny_Call_Name_kw (thn ((pe_var (pos := p1) (i := ia) hNa hv (okN_dbg ha) (okN_cd ha)).run pinsZ sZ σZ HZ (fun v H1 => v = .ref f ∧ H1 = HZ) IZ ⟨.ref f, hs, rfl, rfl⟩) fun u s1 hu => ?_)
  obtain ⟨v, H1, I1, r1, rfl, rfl⟩ := hu
  obtain rfl : u = Value.ref f := r1
  have here : ∀ {s' : Shared} {H' : Hp} {σ' : L2.St}, L2.Inv ((cxOf CXg X.prog X.w X.K X.mg X.base Ng qg sg g cdg X.A X.stack s H Eg).tr pn xe) pinsZ σ' H' s' →
      s'.heap.get? f = some (PySem.W.kla_obj "<lambda>" (X.env.qual ++ "<lambda>") params body scope (cloFrom X.env.cells scope.names []) pm c' ctv) := fun {s' H' σ'} J =>
    J.base.keep f _ hf hfn hfr fun z => (List.not_mem_nil (show f ∈ ([] : List Addr) from z)).elim
  refine PySem.W.callWith_F (first := []) ⟨_, _, _, _, here I1⟩ ?_ (star_of hp _ _) rfl
  have hx : PassesAt (L2N.CX X.prog X.w) ((cxOf CXg X.prog X.w X.K X.mg X.base Ng qg sg g cdg X.A X.stack s H Eg).tr pn xe) σZ (WE W σZ) := L2N.passAt tk σZ
  refine thn ((pa_cons he pa_nil (star_of hp _ _)).run p2 pinsZ s1 σZ _ (fun vs H2 => match vs with
    | [v] => H2 c' = some (LamX.CodeO c' (X.env.qual ++ "<lambda>")) ∧ t (WE W σZ) (σ.set i (some v)) H2 Q
    | _ => False) I1 ht) fun us s2 hus => ?_
  obtain ⟨vs, H2, I2, r2, q2⟩ := hus
  cases r2 with
  | nil => exact q2.elim
  | cons rv r2 =>
    cases r2 with
    | cons _ _ => exact q2.elim
    | nil =>
      rename_i v u
      obtain ⟨hc, hq⟩ := q2
      refine ⟨⟨_, _, _, _, here I2⟩, ?_⟩
      have un : Un (frs X.stack) [] H H2 s.heap s2.heap := I2.base
      obtain ⟨⟨oc, ws, tq, hoc, hdc, hvc⟩, _, _⟩ := I2.hok c' _ hc
      refine wpAny_call (codeAny_mono (R := CR (L2N.CX X.prog X.w) (envOfC qg sg s.heap.objs.size g cdg :: X.stack) X.prog X.w H2 s2 Q (WE W σZ)) ?_ fun r s' hq => ?_)
      · refine PySem.W.kla_callFunE hr.depth (here I2) rfl L.noCo L.noGen rfl ⟨c', oc, ws, tq, rfl, hoc, hdc, hvc⟩ ?_
        show wpAny _ _ (bindArgs _ ⟨[u], []⟩) _ _ _
        rw [hbind u]
        refine wpAny_pure (wpAny_newFunctionEnv L.noCell (fun y hy => ?_) (fun h₁ hns hsb => ⟨I2.nolimit.fresh _ hsb, ?_⟩) L.kd)
        · have hy : y = (xp, u) := by simpa using hy
          subst hy
          exact L.par _ rfl
        · have kp : ∀ b o, s2.heap.get? b = some o → h₁.get? b = some o := fun b o e => hsb.extBut b o (Nat.ne_of_lt (Heap.lt_size e)) (Heap.get?_push_of_some _ e)
          refine PySem.W.kla_codeExpr (wpAny_mono ((hbody _ _ s2 H2 (WE W σZ) (hr.deeper _)).run [] _ _ H2 Q (l1_start (tk := s2.toks + 1) (bs := [(xp, u)]) I L (one_slot hN hi rv) (by rw [List.length_set]; exact I.len) I2.env0 hr.hd un hns kp) hq) (fun w s3 hw => ?_) fun _ _ hw => hw)
          obtain ⟨w', H', J', rw', q'⟩ := hw
          exact ⟨w', H', J'.os, J'.bare, J'.base, J'.hok, rw', q'⟩
      · cases r with
        | error e => exact hx pinsZ _ s2 e s' I2 hq
        | ok fl =>
          cases fl with
          | ret w => exact I2.after hq
          | next => exact hq.elim
          | brk => exact hq.elim
          | cont => exact hq.elim
/-- deed(), likewise -/
theorem act0 {CXg : CXT} {Eg : XK} {Ng : List Str} {qg : Str} {sg : Scope} {g f c' : Addr} {cdg pm ctv : Value} {params : Arguments} {body : Expr} {k ia : Nat} {a : Str} {pn : List (Addr × Obj)} {xe : Value → Shared → Prop} {W : WX} {t : XK → TE} {p1 p2 : Pos}
    (I : L2.Inv X pins σ H s) (L : LamS1 X.env.scope scope none)
    (hf : s.heap.get? f = some (PySem.W.kla_obj "<lambda>" (X.env.qual ++ "<lambda>") params body scope (cloFrom X.env.cells scope.names []) pm c' ctv)) (hfn : H f = none) (hfr : f ∉ frs X.stack)
    (hbind : bindArgs (PySem.W.kla_fn "<lambda>" (X.env.qual ++ "<lambda>") params body scope (cloFrom X.env.cells scope.names []) pm (.ref c') ctv) ⟨[], []⟩ = pure [])
    (tk : L2N.Takes ((cxOf CXg X.prog X.w X.K X.mg X.base Ng qg sg g cdg X.A X.stack s H Eg).tr pn xe) W) (hr : Room (k + 1) (X.A.deeper (envOfC qg sg s.heap.objs.size g cdg)))
    (hbody : ∀ (A : Around) (outer : List PySem.Env) (s : Shared) (H : Hp) (E : XK), Room k (A.deeper (LamX.lamEnv X scope s.heap.objs.size f c')) → PE (lamX X A outer s H E scope f c') body (t E))
    (hNa : Ng[ia]? = some a) (hv : Vis sg a) (ha : okN a = true) :
    PE ((cxOf CXg X.prog X.w X.K X.mg X.base Ng qg sg g cdg X.A X.stack s H Eg).tr pn xe) (.Call (.Name a p1) [] [] p2)
      (fun σZ HZ Q => σZ[ia]? = some (some (.ref f)) ∧ HZ c' = some (LamX.CodeO c' (X.env.qual ++ "<lambda>")) ∧ t (WE W σZ) σ HZ Q) := by
  refine ⟨fun pinsZ sZ σZ HZ Q IZ h => ?_⟩
  obtain ⟨hs, hc, hq⟩ := h
  refine wpAny_Call_Name_kw (thn ((pe_var (pos := p1) (i := ia) hNa hv (okN_dbg ha) (okN_cd ha)).run pinsZ sZ σZ HZ (fun v H1 => v = .ref f ∧ H1 = HZ) IZ ⟨.ref f, hs, rfl, rfl⟩) fun u s1 hu => ?_)
  obtain ⟨v, H1, I1, r1, rfl, rfl⟩ := hu
  obtain rfl : u = Value.ref f := r1
  have here : s1.heap.get? f = some (PySem.W.kla_obj "<lambda>" (X.env.qual ++ "<lambda>") params body scope (cloFrom X.env.cells scope.names []) pm c' ctv) :=
    I1.base.keep f _ hf hfn hfr fun z => (List.not_mem_nil (show f ∈ ([] : List Addr) from z)).elim
  have hx : PassesAt (L2N.CX X.prog X.w) ((cxOf CXg X.prog X.w X.K X.mg X.base Ng qg sg g cdg X.A X.stack s H Eg).tr pn xe) σZ (WE W σZ) := L2N.passAt tk σZ
  refine PySem.W.callWith_F0 ⟨_, _, _, _, here⟩ ?_
  have un : Un (frs X.stack) [] H H1 s.heap s1.heap := I1.base
  obtain ⟨⟨oc, ws, tq, hoc, hdc, hvc⟩, _, _⟩ := I1.hok c' _ hc
  refine wpAny_call (codeAny_mono (R := CR (L2N.CX X.prog X.w) (envOfC qg sg s.heap.objs.size g cdg :: X.stack) X.prog X.w H1 s1 Q (WE W σZ)) ?_ fun r s' hq => ?_)
  · refine PySem.W.kla_callFunE hr.depth here rfl L.noCo L.noGen rfl ⟨c', oc, ws, tq, rfl, hoc, hdc, hvc⟩ ?_
    show wpAny _ _ (bindArgs _ ⟨[], []⟩) _ _ _
    rw [hbind]
    refine wpAny_pure (wpAny_newFunctionEnv L.noCell (fun y hy => absurd hy (by simp)) (fun h₁ hns hsb => ⟨I1.nolimit.fresh _ hsb, ?_⟩) L.kd)
    have kp : ∀ b o, s1.heap.get? b = some o → h₁.get? b = some o := fun b o e => hsb.extBut b o (Nat.ne_of_lt (Heap.lt_size e)) (Heap.get?_push_of_some _ e)
    refine PySem.W.kla_codeExpr (wpAny_mono ((hbody _ _ s1 H1 (WE W σZ) (hr.deeper _)).run [] _ _ H1 Q (l1_start (tk := s1.toks + 0) (bs := []) I L (fun j y w _ e2 => .inr ⟨by simp, e2⟩) I.len I1.env0 hr.hd un hns kp) hq) (fun w s3 hw => ?_) fun _ _ hw => hw)
    obtain ⟨w', H', J', rw', q'⟩ := hw
    exact ⟨w', H', J'.os, J'.bare, J'.base, J'.hok, rw', q'⟩
  · cases r with
    | error e => exact hx pinsZ _ s1 e s' I1 hq
    | ok fl =>
      cases fl with
      | ret w => exact I1.after hq
      | next => exact hq.elim
      | brk => exact hq.elim
      | cont => exact hq.elim
end
end Fw

set_option Elab.async false
set_option linter.all false
set_option maxRecDepth 100000
set_option autoImplicit false
set_option maxHeartbeats 1000000
/-! Fw94: caught(lambda said: ..). -/
namespace Fw
open PySem PySem.Spec PyProof.Rows L2

/-- all but the cells from n on stays -/
structure Cut (n : Nat) (z z' : Z) : Prop where
  f : ∀ a, z.F a → z'.F a
  h : ∀ a o, z.F a → z.H a = some o → z'.H a = some o
  c : ∀ (i : Nat) (a : Addr), i < n → z.io[i]? = some a → z'.io[i]? = some a
mutual
theorem R.cut {G : Gd} {n : Nat} {z z' : Z} (k : Cut n z z') : ∀ (d : D) (v : V), below n d = true → R G z d v → R G z' d v
  | .non, v, _, h => by simpa only [R] using h
  | .bl b, v, _, h => by simpa only [R] using h
  | .int i, v, _, h => by simpa only [R] using h
  | .str s, v, _, h => by simpa only [R] using h
  | .tup ds, v, b, h => by
    simp only [below] at b
    simp only [R] at h ⊢
    obtain ⟨a, vs, e, q, r⟩ := h
    exact ⟨a, vs, e, q.imp (fun ⟨f, h⟩ => ⟨k.f a f, k.h a _ f h⟩) id, Rs.cut k ds vs b r⟩
  | .lst ds, v, b, h => by
    simp only [below] at b
    simp only [R] at h ⊢
    obtain ⟨a, vs, e, ⟨f, q⟩, r⟩ := h
    exact ⟨a, vs, e, ⟨k.f a f, k.h a _ f q⟩, Rs.cut k ds vs b r⟩
  | .dic kvs, v, b, h => by
    simp only [below] at b
    simp only [R] at h ⊢
    obtain ⟨a, vs, e, ⟨f, o, q⟩, r⟩ := h
    exact ⟨a, vs, e, ⟨k.f a f, o, k.h a _ f q⟩, RK.cut k kvs vs b r⟩
  | .gdic kvs, v, b, h => by
    simp only [below] at b
    simp only [R] at h ⊢
    obtain ⟨a, vs, e, q, r⟩ := h
    exact ⟨a, vs, e, q, RK.cut k kvs vs b r⟩
  | .obj c ds, v, b, h => by
    simp only [below] at b
    simp only [R] at h ⊢
    obtain ⟨a, dx, vs, kl, e, f, hk, q, hl, r⟩ := h
    exact ⟨a, dx, vs, kl, e, k.f a f, hk, k.h a _ f q, hl, Rs.cut k ds vs b r⟩
  | .cell i, v, b, h => by
    simp only [below, decide_eq_true_eq] at b
    simp only [R] at h ⊢
    obtain ⟨a, q, e⟩ := h
    exact ⟨a, k.c i a b q, e⟩
  | .scr ns, v, _, h => by
    simp only [R] at h ⊢
    obtain ⟨a, e, q⟩ := h
    refine ⟨a, e, q.imp (fun ⟨f, h⟩ => ⟨k.f a f, ?_⟩) id⟩
    rcases h with h | ⟨o, h⟩
    · exact .inl (k.h a _ f h)
    · exact .inr ⟨o, k.h a _ f h⟩
theorem Rs.cut {G : Gd} {n : Nat} {z z' : Z} (k : Cut n z z') : ∀ (ds : List D) (vs : List V), belows n ds = true → Rs G z ds vs → Rs G z' ds vs
  | [], vs, _, h => by simpa only [Rs] using h
  | d :: ds, vs, b, h => by
    simp only [belows, Bool.and_eq_true] at b
    simp only [Rs] at h ⊢
    obtain ⟨v, r, e, h1, h2⟩ := h
    exact ⟨v, r, e, R.cut k d v b.1 h1, Rs.cut k ds r b.2 h2⟩
theorem RK.cut {G : Gd} {n : Nat} {z z' : Z} (k : Cut n z z') : ∀ (ds : List (Txt × D)) (vs : List (Key × V)), belowK n ds = true → RK G z ds vs → RK G z' ds vs
  | [], vs, _, h => by simpa only [RK] using h
  | (x, d) :: ds, vs, b, h => by
    simp only [belowK, Bool.and_eq_true] at b
    simp only [RK] at h ⊢
    obtain ⟨v, r, e, h0, h1, h2⟩ := h
    exact ⟨v, r, e, h0, R.cut k d v b.1 h1, RK.cut k ds r b.2 h2⟩
end
/-- the cells made since are given up, the first of them stands as a list from now on -/
theorem close_at {G : Gd} {z z3 : Z} {st st' : Store} {d : D} {ds : List D} {v : V} {p : Addr} (e : Ext z z3) (rel : Rel G z st) (rel3 : Rel G z3 st') (hs : st'[st.length]? = some (.lst ds)) (hp : z3.io[st.length]? = some p)
    (b1 : below st.length d = true) (b2 : belows st.length ds = true) (b3 : (st'.take st.length).all (belowC st.length) = true) (r : R G z3 d v) :
    ∃ z4 : Z, z4.H = z3.H ∧ Ext z z4 ∧ Rel G z4 (st'.take st.length) ∧ R G z4 d v ∧ R G z4 (.lst ds) (.ref p) := by
  obtain ⟨m, em, fm⟩ := e.c
  have hn := rel.len
  have lt : st.length < z3.io.length := (List.getElem?_eq_some_iff.mp hp).1
  have io : ∀ i, i < st.length → z3.io[i]? = z.io[i]? := fun i hi => by rw [em, List.getElem?_append_left (by omega)]
  have hm : p ∈ m := by
    rw [em, List.getElem?_append_right (by omega)] at hp
    exact List.mem_of_getElem? hp
  have pin : p ∈ z3.io := List.mem_of_getElem? hp
  have pni : p ∉ z.io := fun q => by
    have nd := rel3.wf.nd
    rw [em] at nd
    exact (List.nodup_append.mp nd).2.2 p q p hm rfl
  obtain ⟨p', hp', vs, hH, rs⟩ := rel3.at_ _ _ hs
  rw [hp] at hp'; cases hp'
  have k : Cut st.length z3 ⟨z3.H, fun a => z3.F a ∨ a = p, z.io⟩ := ⟨fun a f => .inl f, fun a o _ h => h, fun i a hi h => by rw [io i hi] at h; exact h⟩
  refine ⟨⟨z3.H, fun a => z3.F a ∨ a = p, z.io⟩, rfl, ⟨fun a f => .inl (e.f a f), e.h, ⟨[], by simp, by simp⟩, fun a f => ?_, e.gr⟩, ⟨⟨fun a ha f => ?_, rel.wf.nd, fun a f => ?_⟩, rel3.tab, ?_, fun i c hc => ?_⟩, R.cut k d v b1 r, ?_⟩
  · rcases f with f | f
    · exact e.nf a f
    · rw [f]; exact .inr (fm p hm)
  · rcases f with f | f
    · exact rel3.wf.cf a (by rw [em]; exact List.mem_append_left _ ha) f
    · exact pni (by rw [← f]; exact ha)
  · rcases f with f | f
    · exact rel3.wf.ft a f
    · rw [f]; exact ⟨_, hH, by simp⟩
  · have := rel3.len
    show z.io.length = _
    rw [List.length_take]; omega
  · have hi : i < st.length := by
      have := (List.getElem?_eq_some_iff.mp hc).1
      rw [List.length_take] at this; omega
    have hb : belowC st.length c = true := List.all_eq_true.mp b3 c (List.mem_of_getElem? hc)
    rw [List.getElem?_take_of_lt hi] at hc
    obtain ⟨a, ha, q⟩ := rel3.at_ i c hc
    refine ⟨a, by rw [io i hi] at ha; exact ha, ?_⟩
    cases c with
    | lst es =>
      obtain ⟨ws, h1, h2⟩ := q
      exact ⟨ws, h1, Rs.cut k _ _ (by simpa [belowC] using hb) h2⟩
    | obj cl es =>
      obtain ⟨dx, ws, kl, h0, h1, hl, h2⟩ := q
      exact ⟨dx, ws, kl, h0, h1, hl, Rs.cut k _ _ (by simpa [belowC] using hb) h2⟩
  · simp only [R]
    exact ⟨p, vs, rfl, ⟨.inr rfl, hH⟩, Rs.cut k _ _ b2 rs⟩
/-- the triple that caught tells -/
theorem close_tup {G : Gd} {z z3 : Z} {st st' st2 : Store} {tag : Txt} {d x : D} {v : V} {p q : Addr} (e : Ext z z3) (rel : Rel G z st) (rel3 : Rel G z3 st') (hp : z3.io[st.length]? = some p) (ht : okT tag = true) (r : R G z3 d v)
    (h : closeC st.length tag d st' = .ok x st2) (np : z3.H q = none) : ∃ z5 : Z, z5.H = upd z3.H q (.tup [.str (sOf tag), v, .ref p]) ∧ Ext z z5 ∧ Rel G z5 st2 ∧ R G z5 x (.ref q) := by
  unfold closeC at h
  split at h
  · rename_i ds hs
    split at h
    · rename_i hb
      simp only [Bool.and_eq_true] at hb
      cases h
      obtain ⟨z4, e4, x4, r4, rd, rl⟩ := close_at e rel rel3 hs hp hb.1.1 hb.1.2 hb.2 r
      have np4 : z4.H q = none := by rw [e4]; exact np
      refine ⟨z4.new q (.tup [.str (sOf tag), v, .ref p]), by rw [← e4]; rfl, x4.trans (Ext.new np4), r4.new np4 (by simp), ?_⟩
      exact R.newT r4 (Rs.mk _ _ (R.str.mpr ⟨rfl, ht⟩) (Rs.mk _ _ rd (Rs.mk _ _ rl (Rs.nil.mpr rfl)))) np4
    · cases h
  · cases h
end Fw

set_option Elab.async false
set_option linter.all false
set_option maxRecDepth 100000
set_option autoImplicit false
set_option maxHeartbeats 1000000
/-! Fw95: caught(lambda said: ..), the call. -/
namespace Fw
open PySem PySem.Spec PyProof.Rows L2

/-- the text of caught -/
def caughtB (st : Stmt) : Bool := match C8.fnBody st with
  | [.Assign [.Name x1 _] (.List [] _) _, .Try [.Return (some (.Tuple [.Constant (.str t1) _ _, .Call (.Name a1 _) [.Name x2 _] [] _, .Name x3 _] _ _)) _]
      [.ExceptHandler (some (.Name c1 _)) (some n1) [.Return (some (.Tuple [.Constant (.str t2) _ _, .Attribute (.Name n2 _) w1 _, .Name x4 _] _ _)) _] _] [] [] _] =>
    decide (x1 = "said") && decide (x2 = "said") && decide (x3 = "said") && decide (x4 = "said") && decide (a1 = "deed") && decide (t1 = "good") && decide (t2 = "fault") && decide (c1 = "Fault") && decide (n1 = "e") && decide (n2 = "e") && decide (w1 = "word") &&
      C8.scC ["deed", "said", "e"] ["deed"] (C8.fnScope st) && decide ((C8.fnScope st).names.lookup ("said" : Str) = some .local) && decide ((C8.fnScope st).names.lookup ("e" : Str) = some .local) && visS (C8.fnScope st) "deed" && glS (C8.fnScope st) "Fault"
  | _ => false
/-- what the machine's top has for it -/
structure CaughtOk (G : Gd) : Prop where
  ex : ∃ (g : Addr) (fd : FuncData) (st : Stmt), G.mg "caught" = some (.ref g) ∧ PySem.W.keepIn G.K (.ref g) = true ∧ C8.Fun G.K "caught" "caught" st g fd ∧ L2.Binds G.K fd ["deed"] [] ∧ caughtB st = true
  nm : G.mg "Fault" = some (.ref (G.eA G.pg.fault))
  em : PySem.W.exmOne G.K (.ref (G.eA G.pg.fault)) (.ref (G.eA G.pg.fault)) = some true
  xf : XfC G.K (G.eA G.pg.fault)
  nw : PySem.W.findIn G.K (.ref (G.eA G.pg.fault)) "word" = some none
def arg1B (params : Arguments) (x : Str) : Bool := match params with
  | ⟨[], [⟨a, none, _⟩], none, [], [], none, []⟩ => decide (a = x)
  | _ => false
section
variable {G : Gd} {X : Cx} {N : List Str} {sc : Scope} {W : WX} {lb : Bool} {k : Nat}
/-- the lambda's context is one of ours -/
theorem lamIn (c : In G X N sc (k + 2) W lb) {scope : Scope} (hk : scope.kind = .function) (hc : hasCell scope = false) {A : Around} {outer : List PySem.Env} {s : Shared} {H : Hp} {E : XK} {f c' : Addr} (hr : Room k (A.deeper (LamX.lamEnv X scope s.heap.objs.size f c'))) :
    In G (lamX X A outer s H E scope f c') N scope k (fun cls d _ H => E cls d H) lb where
  P := c.P
  w := c.w
  K := c.K
  mg := c.mg
  base := c.base
  calm := rfl
  room := ⟨k, hr⟩
  hN := c.hN
  nd := c.nd
  hsc := rfl
  rm := hr
  fr := ⟨_, outer, s.heap.objs.size, rfl, rfl, rfl⟩
  tk := takesF_of (E₁ := fun e' s'' => L2N.CX X.prog X.w outer H s E e' s'') rfl rfl rfl rfl
  lm := fun _ q => by rw [hc] at q; cases q
theorem takesN0 {X : Cx} : L2N.Takes X (fun _ _ _ _ => False) := fun _ _ h => by
  obtain ⟨_, _, _, _, _, _, _, _, _, _, _, _, _, _, _, _, z⟩ := h
  exact z.elim
/-- behind the making of a lambda -/
theorem Rel.lam {z : Z} {st : Store} (rel : Rel G z st) {H1 : Hp} (eN : LamX.ExtN z.H H1) (T1 : LamX.Tabs G.tb H1) : Ext z ⟨H1, z.F, z.io⟩ ∧ Rel G ⟨H1, z.F, z.io⟩ st := by
  have keep : ∀ a o, z.H a = some o → (∀ ps, o ≠ .tbl ps) → H1 a = some o := fun a o h n => eN a o h n
  have k : Keep z ⟨H1, z.F, z.io⟩ := ⟨fun _ f => f, fun a o f h => by
    obtain ⟨o', h', n⟩ := rel.wf.ft a f
    rw [h] at h'; cases h'
    exact keep a o h n, fun _ _ h => h⟩
  refine ⟨⟨fun _ f => f, fun a o h _ n => keep a o h n, ⟨[], by simp, by simp⟩, fun _ f => .inl f, fun a fr u h => ?_⟩, ⟨⟨rel.wf.cf, rel.wf.nd, fun a f => ?_⟩, ⟨T1⟩, rel.len, fun i c hc => ?_⟩⟩
  · by_cases t : ∃ ps, u = .tbl ps
    · exact t
    · exact fr u (keep a u h fun ps e => t ⟨ps, e⟩)
  · obtain ⟨o, h, n⟩ := rel.wf.ft a f
    exact ⟨o, keep a o h n, n⟩
  · obtain ⟨a, ha, q⟩ := rel.at_ i c hc
    refine ⟨a, ha, ?_⟩
    cases c with
    | lst es =>
      obtain ⟨ws, h1, h2⟩ := q
      exact ⟨ws, keep a _ h1 (by simp), Rs.keep k _ _ h2⟩
    | obj cl es =>
      obtain ⟨dx, ws, kl, h0, h1, hl, h2⟩ := q
      exact ⟨dx, ws, kl, h0, keep a _ h1 (by simp), hl, Rs.keep k _ _ h2⟩
theorem e_caught (S : CaughtOk G) (c : In G X N sc (k + 2) W lb) (hl : LamOk G X) {i : Nat} {scope : Scope} {params : Arguments} {body : Expr} {m : ME} {x : Str} {p lpos pos : Pos} (hx : x = "caught") (hg : glS sc x = true)
    (hB : lamS1B sc scope (some "said") = true) (hc : hasCell scope = false) (hy : N[i]? = some ("said" : Str)) (hpar : arg1B params "said" = true) (hbody : ∀ (X' : Cx) (W' : WX), In G X' N scope k W' lb → PE X' body (tOf G (tabs G.pg k) W' m)) :
    PE X (.Call (.Name x p) [.Lambda params body scope lpos] [] pos) (tOf G (tabs G.pg (k + 2)) W (.caught i m)) := by
  subst hx
  obtain ⟨g, fd, st, hm, hk, F, hb, hC⟩ := S.ex
  obtain ⟨oc, od, dV, kV, doc, pm, an, cdv, ct, osl, rfl, lk, hcd⟩ := F.ex
  obtain ⟨cc, P, TB, hcode, hmT, hu⟩ := hl
  have L : LamS1 X.env.scope scope (some "said") := by rw [c.hsc]; exact lamS1_by hB
  unfold caughtB at hC
  split at hC <;> try cases hC
  rename_i x1 q1 q2 q3 t1 j1 q4 a1 q5 x2 q6 q7 x3 q8 j2 q9 q10 c1 q11 n1 t2 j3 q12 n2 q13 w1 q14 x4 q15 j4 q16 q17 q18 q19 heq
  simp only [Bool.and_eq_true, decide_eq_true_eq] at hC
  obtain ⟨⟨⟨⟨⟨⟨⟨⟨⟨⟨⟨⟨⟨⟨⟨rfl, rfl⟩, rfl⟩, rfl⟩, rfl⟩, rfl⟩, rfl⟩, rfl⟩, rfl⟩, rfl⟩, rfl⟩, hsc⟩, hl1⟩, hl2⟩, hv0⟩, hgF⟩ := hC
  have Sg := C8.fnScope_by hsc
  have hCS : X.mg "Fault" = some (.ref (G.eA G.pg.fault)) := by rw [c.mg]; exact S.nm
  refine ⟨fun pins s σ H Q I q => ?_⟩
  obtain ⟨z, env, stt, rfl, rel, er, q⟩ := q
  have hdef : defaultsOf params X.env = ([], []) := by
    unfold arg1B at hpar
    split at hpar
    · rfl
    · cases hpar
  have hbind : ∀ (ql : Str) (cl : List (Str × Addr)) (pm cv ctv u : Value), bindArgs (PySem.W.kla_fn "<lambda>" ql params body scope cl pm cv ctv) ⟨[u], []⟩ = pure [(("said" : Str), u)] := by
    unfold arg1B at hpar
    split at hpar
    · rename_i a ap
      have : a = "said" := of_decide_eq_true hpar
      subst this
      exact fun _ _ _ _ _ _ => rfl
    · cases hpar
  refine wpAny_Call_Name_kw (ld_glob I (gl_of c hg) (by rw [c.mg]; exact hm) ?_ (by decide))
  refine PySem.W.callWith_K (h₀ := X.base) I.ok.mod.kin (by rw [c.K]; exact hk) ?_ (by rfl) (by rfl)
  refine Calls.spliced_cons (LamX.lam_make2 I TB hcode hmT hu rel.tab.at_ hdef (L.caps I.ok) fun f c' pm' ctv H1 s' I1 eN T1 hf hfn hfr hco => ?_)
  refine Calls.spliced_nil ⟨I1.kIn, ?_⟩
  obtain ⟨ex1, rel1⟩ := Rel.lam rel eN T1
  obtain ⟨z1, hz1⟩ : ∃ z1 : Z, z1 = ⟨H1, z.F, z.io⟩ := ⟨_, rfl⟩
  rw [← hz1] at ex1 rel1
  have hH1 : z1.H = H1 := by rw [hz1]
  have er1 := er.ext ex1 rel.wf
  -- the call of caught
  have rc : codeAny (model X.prog X.w) X.A (.call (.ref g) ⟨[.ref f], []⟩) (CR C8.CX0 X.stack X.prog X.w H1 s' Q C8.E0) s' := by
    refine LamX.run_ofS (N := ["deed", "said", "e"]) (ps := ["deed"]) (us := [.ref f]) (vs := [.ref f]) (by rw [c.K]; exact lk) (by rw [c.K]; exact hcd) Sg c.rm I1.env0 (hb s' [.ref f] (by rw [← c.K]; exact I1.kIn) rfl) (.cons rfl .nil) rfl fun hr' => ?_
    rw [heq]
    refine ⟨_, (pss_cons (ps_set (i := 1) (X := (cxOf C8.CX0 X.prog X.w X.K X.mg X.base ["deed", "said", "e"] "caught" (C8.fnScope st) g cdv X.A X.stack s' H1 C8.E0).nox) Sg.nd rfl (.inl hl1) (pe_lst pa_nil) rfl)
      (pss_one (L2N.ps_try_as (i := 2) (Wout := fun _ _ _ _ => False) (c := .ref (G.eA G.pg.fault)) rfl rfl Sg.nd rfl hl2 ⟨glS_ok hgF, by decide, .inl hCS⟩ takesN0
        (fun Wt pn xe tk _ => pss_one (ps_ret (pe_tup (pa_cons pe_str (pa_cons (act1 (CXg := C8.CX0) (Eg := C8.E0) (Ng := ["deed", "said", "e"]) (ia := 0) (k := k) (t := fun E => tOf G (tabs G.pg k) (fun cls d _ H => E cls d H) m) I1 L (by rw [c.hN]; exact c.nd) (by rw [c.hN]; exact hy) hf hfn hfr (hbind _ _ _ _ _) tk hr'
            (fun A outer s2 H2 E hr2 => hbody _ _ (lamIn c L.kd hc hr2)) rfl (visS_ok hv0) (by decide) (pe_var (i := 1) rfl (.inl hl1) (by decide) (by decide)) rfl) (pa_cons (pe_var (i := 1) rfl (.inl hl1) (by decide) (by decide)) pa_nil))))))
        (fun a oe cls d pn hz hfl => pss_one (ps_ret (pe_tup (pa_cons pe_str (pa_cons (pe_xf (by rw [c.K]; exact S.xf) (by rw [c.K]; exact S.nw) hz.zc hfl (pe_var (i := 2) rfl (.inl hl2) (by decide) (by decide))) (pa_cons (pe_var (i := 1) rfl (.inl hl1) (by decide) (by decide)) pa_nil))))))))).nox, ?_⟩
    refine ⟨Nat.zero_le _, fun pp np => ?_⟩
    subst hH1
    have np1 : z1.H pp = none := np
    have npz : Free z.H pp := ex1.gr pp (Free.none np1)
    have al : Alone (z1.put pp (.lst [])) pp := Alone.new rel1 np1 rfl
    have ex2 : Ext z1 ((z1.put pp (.lst [])).cell pp) := ((Ext.refl z1).put np1).cell np1
    have rel2 : Rel G ((z1.put pp (.lst [])).cell pp) (stt ++ [.lst []]) := (rel1.put0 np1).cell al ⟨[], upd_same, Rs.nil.mpr rfl⟩
    have hio : ((z1.put pp (.lst [])).cell pp).io[stt.length]? = some pp := by
      show (z1.io ++ [pp])[stt.length]? = some pp
      rw [← rel1.len]
      simp
    have er2 : EnvR G ((z1.put pp (.lst [])).cell pp) (env.set i (.val (.cell stt.length))) (σ.set i (some (.ref pp))) := (((er1.ext ex2 rel1.wf).open_ [i]).set (by simp only [R]; exact ⟨pp, hio, rfl⟩)).done
    simp only [evalE, tabs] at q
    refine ⟨rfl, .ref pp, rfl, ?_, (z1.put pp (.lst [])).cell pp, _, _, rfl, rel2, er2, ?_⟩
    · exact ex2.h c' _ hco (fun hm => by
        obtain ⟨j, hj, e⟩ := List.getElem_of_mem hm
        have hl : j < stt.length := by rw [← rel1.len]; exact hj
        obtain ⟨a, ha, q⟩ := rel1.at_ j stt[j] (List.getElem?_eq_getElem hl)
        rw [List.getElem?_eq_getElem hj, e] at ha
        cases ha
        cases hc : stt[j] <;> rw [hc] at q
        · obtain ⟨_, q, _⟩ := q; rw [hco] at q; unfold LamX.CodeO at q; cases q
        · obtain ⟨_, _, _, _, q, _⟩ := q; rw [hco] at q; unfold LamX.CodeO at q; cases q) LamX.codeO_ne
    · have tag : ∀ {tg : Txt} {d x : D} {st' st2 : Store} {z3 : Z} {v : V} {qq : Addr}, okT tg = true → closeC stt.length tg d st' = .ok x st2 → Ext ((z1.put pp (.lst [])).cell pp) z3 → Rel G z3 st' → R G z3 d v → z3.H qq = none →
          ∃ z5 : Z, z5.H = upd z3.H qq (.tup [.str (sOf tg), v, .ref pp]) ∧ Ext z z5 ∧ Rel G z5 st2 ∧ R G z5 x (.ref qq) := fun {tg d x st' st2 z3 v qq} ok hcl e3 rel3 rv nq => by
        obtain ⟨mm, em, _⟩ := e3.c
        refine close_tup ((ex1.trans ex2).trans e3) rel rel3 ?_ ok rv hcl nq
        rw [em, List.getElem?_append_left (List.getElem?_eq_some_iff.mp hio).1]
        exact hio
      cases ho : evalE G.pg (tabs G.pg k) m (env.set i (.val (.cell stt.length))) (stt ++ [.lst []]) with
      | bad => rw [ho] at q; exact q.elim
      | ok d st' =>
        rw [ho] at q
        have q : Post G z σ W (closeC stt.length t_good d st') fun d _ z' => ∀ v, R G z' d v → Q v z'.H := q
        intro z3 e3 rel3 v rv
        refine ⟨.ref pp, rfl, show 3 ≤ sizeLine by decide, fun qq nq => ?_⟩
        cases hcl : closeC stt.length t_good d st' with
        | bad => rw [hcl] at q; exact q.elim
        | exc _ _ => unfold closeC at hcl; split at hcl <;> (try split at hcl) <;> cases hcl
        | ok x st2 =>
          rw [hcl] at q
          obtain ⟨z5, e5, x5, r5, rx⟩ := tag (by decide) hcl e3 rel3 rv nq
          have := q z5 x5 r5 _ rx
          rw [e5] at this
          exact this
      | exc xe st' =>
        rw [ho] at q
        intro z3 cls dd e3 rel3 xr
        obtain ⟨xc, xw⟩ := xr
        cases hw : xe.w with
        | none => simp only [hw] at q; exact q.elim
        | some w =>
          simp only [hw] at q xw
          obtain ⟨d, v, hdd, hH, rv⟩ := xw
          split at q
          rotate_left
          · exact q.elim
          rename_i hfl
          rw [hfl] at xc
          refine ⟨true, by rw [c.K, xc]; exact S.em, fun _ a na => ?_, fun h => by cases h⟩
          refine ⟨.ref a, rfl, rfl, xc, d, _, v, hdd, hH, rfl, .ref pp, rfl, show 3 ≤ sizeLine by decide, fun qq nq => ?_⟩
          cases hcl : closeC stt.length t_fault w st' with
          | bad => rw [hcl] at q; exact q.elim
          | exc _ _ => unfold closeC at hcl; split at hcl <;> (try split at hcl) <;> cases hcl
          | ok x st2 =>
            rw [hcl] at q
            obtain ⟨z5, e5, x5, r5, rx⟩ := tag (by decide) hcl e3 rel3 rv nq
            have := q z5 x5 r5 _ rx
            rw [e5] at this
            exact this
  refine wpAny_call (codeAny_mono rc fun r s2 hq => ?_)
  cases r with
  | error e => exact (show False from hq).elim
  | ok fl =>
    cases fl with
    | ret u => exact I1.after hq
    | next => exact hq.elim
    | brk => exact hq.elim
    | cont => exact hq.elim
end
end Fw

set_option Elab.async false
set_option linter.all false
set_option maxRecDepth 100000
set_option autoImplicit false
set_option maxHeartbeats 1000000
/-! Fw96: _law_told(lambda: ..). -/
namespace Fw
open PySem PySem.Spec PyProof.Rows L2

/-- _law_word, called in the handler -/
def WordOk (G : Gd) (fw : Addr) : Prop := ∀ (A : Around) (outer : List PySem.Env) (s : Shared) (Q : VK) (p : Addr × Obj) (z : Z) (st : Store) (e : Exc) (cls : Value) (dd : Option Addr) (d : D),
  L2H.RoomH 1 A → L2H.Hot1 A p → L2H.PinOk outer z.H s p → Env0 G.P G.w G.K G.mg G.base A outer s z.H → L2N.Zn cls dd p.2 → (∃ vs, p.2.data = .fields vs) → Rel G z st → ExcR G z e cls dd → toldD G.pg e = some d →
  (∀ z' v, Ext z z' → Rel G z' st → R G z' d v → Q v z'.H) → codeAny (model G.P G.w) A (.call (.ref fw) ⟨[.ref p.1], []⟩) (CR C8.CX0 outer G.P G.w z.H s Q C8.E0) s
/-- the text of _law_told -/
def toldB (st : Stmt) : Bool := match C8.fnBody st with
  | [.Try [.Return (some (.Call (.Name a1 _) [] [] _)) _] [.ExceptHandler (some (.Name c1 _)) (some n1) [.Return (some (.Call (.Name w1 _) [.Name n2 _] [] _)) _] _] [] [] _] =>
    decide (a1 = "_law_deed") && decide (c1 = "FuseError") && decide (n1 = "_law_e") && decide (w1 = "_law_word") && decide (n2 = "_law_e") && C8.scC ["_law_deed", "_law_e"] ["_law_deed"] (C8.fnScope st) && decide ((C8.fnScope st).names.lookup ("_law_e" : Str) = some .local) &&
      visS (C8.fnScope st) "_law_deed" && glS (C8.fnScope st) "FuseError" && glS (C8.fnScope st) "_law_word"
  | _ => false
structure ToldOk (G : Gd) : Prop where
  ex : ∃ (g : Addr) (fd : FuncData) (st : Stmt), G.mg "_law_told" = some (.ref g) ∧ PySem.W.keepIn G.K (.ref g) = true ∧ C8.Fun G.K "_law_told" "_law_told" st g fd ∧ L2.Binds G.K fd ["_law_deed"] [] ∧ toldB st = true
  em : ∃ CS : Addr, G.mg "FuseError" = some (.ref CS) ∧ ∀ (c : Nat) (kx : MExc), G.pg.excs[c]? = some kx → PySem.W.exmOne G.K (.ref (G.eA c)) (.ref CS) = some true
  word : ∃ fw : Addr, G.mg "_law_word" = some (.ref fw) ∧ PySem.W.keepIn G.K (.ref fw) = true ∧ WordOk G fw
def arg0B (params : Arguments) : Bool := match params with
  | ⟨[], [], none, [], [], none, []⟩ => true
  | _ => false
section
variable {G : Gd} {X : Cx} {N : List Str} {sc : Scope} {W : WX} {lb : Bool} {k : Nat}
theorem pe_word {Z : Cx} (o : On G Z) {sg : Scope} (hsc : Z.env.scope = sc) {a fw : Addr} {oe : Obj} {cls : Value} {dd : Option Addr} {pn : List (Addr × Obj)} {p1 p2 p3 : Pos} (hz : L2N.Zn cls dd oe) (hf : ∃ vs, oe.data = .fields vs) (hr : L2H.RoomH 1 Z.A)
    (hN : Z.N[1]? = some ("_law_e" : Str)) (hv : Vis sc "_law_e") (hg : glS sc "_law_word" = true) (hm : G.mg "_law_word" = some (.ref fw)) (hk : PySem.W.keepIn G.K (.ref fw) = true) (hw : WordOk G fw) :
    PE (Z.suite a ((a, oe) :: pn)) (.Call (.Name "_law_word" p1) [.Name "_law_e" p2] [] p3)
      (fun σ H Q => ∃ z st e d, σ[1]? = some (some (.ref a)) ∧ z.H = H ∧ Rel G z st ∧ ExcR G z e cls dd ∧ toldD G.pg e = some d ∧ ∀ z' v, Ext z z' → Rel G z' st → R G z' d v → Q v z'.H) := by
  refine ⟨fun pins s σ H Q I h => ?_⟩
  obtain ⟨z, st, e, d, hσ, rfl, rel, xr, td, h⟩ := h
  have gl : Gl (Z.suite a ((a, oe) :: pn)) "_law_word" := by
    show Z.env.scope.names.lookup _ = _
    rw [hsc]; exact glS_ok hg
  refine wpAny_Call_Name_kw (ld_glob I gl (by show Z.mg _ = _; rw [o.mg]; exact hm) ?_ (by decide))
  refine PySem.W.callWith_K (h₀ := Z.base) I.ok.mod.kin (by show PySem.W.keepIn Z.K _ = _; rw [o.K]; exact hk) (thn ((pa_cons (pe_var (X := Z.suite a ((a, oe) :: pn)) (i := 1) hN (by show Vis Z.env.scope _; rw [hsc]; exact hv) (by decide) (by decide)) pa_nil).run p3 pins s σ z.H (fun vs H1 => vs = [.ref a] ∧ H1 = z.H) I ⟨.ref a, hσ, rfl, rfl⟩) fun us s1 hus => ?_) (by rfl) (by rfl)
  obtain ⟨vs, H1, I1, r1, rfl, rfl⟩ := hus
  obtain rfl := r1.ref1
  refine ⟨I1.kIn, ?_⟩
  have P1 := I1.pin (a, oe) (List.mem_append_left _ List.mem_cons_self)
  obtain ⟨ws, hd⟩ := hf
  have pin : L2H.PinOk Z.stack z.H s1 (a, oe) := ⟨P1.1, P1.2.1, fun hm => (List.mem_cons.mp (I1.stkSub a hm)).elim P1.2.2.1 P1.2.2.2.1, P1.2.2.2.2⟩
  have e0 : Env0 G.P G.w G.K G.mg G.base (Z.A.mark (some (.ref a))) Z.stack s1 z.H := by
    have := I1.env0
    rw [← o.P, ← o.w, ← o.K, ← o.mg, ← o.base]
    exact this
  have run := hw (Z.A.mark (some (.ref a))) Z.stack s1 Q (a, oe) z st e cls dd d ⟨hr.dp, hr.un⟩ ⟨rfl, ws, hd, hz.2.2 ws hd⟩ pin e0 hz ⟨ws, hd⟩ rel xr td h
  rw [← o.P, ← o.w] at run
  refine wpAny_call (codeAny_mono run fun r s2 hq => ?_)
  cases r with
  | error e => exact (show False from hq).elim
  | ok fl =>
    cases fl with
    | ret u => exact I1.after hq
    | next => exact hq.elim
    | brk => exact hq.elim
    | cont => exact hq.elim
theorem e_told (S : ToldOk G) (c : In G X N sc (k + 2) W lb) (hl : LamOk G X) {scope : Scope} {params : Arguments} {body : Expr} {m : ME} {x : Str} {p lpos pos : Pos} (hx : x = "_law_told") (hg : glS sc x = true)
    (hB : lamS1B sc scope none = true) (hc : hasCell scope = false) (hpar : arg0B params = true) (hbody : ∀ (X' : Cx) (W' : WX), In G X' N scope k W' lb → PE X' body (tOf G (tabs G.pg k) W' m)) :
    PE X (.Call (.Name x p) [.Lambda params body scope lpos] [] pos) (tOf G (tabs G.pg (k + 2)) W (.told m)) := by
  subst hx
  obtain ⟨g, fd, st, hm, hk, F, hb, hC⟩ := S.ex
  obtain ⟨oc, od, dV, kV, doc, pm, an, cdv, ct, osl, rfl, lk, hcd⟩ := F.ex
  obtain ⟨cc, P, TB, hcode, hmT, hu⟩ := hl
  obtain ⟨CS, hCS, hem⟩ := S.em
  obtain ⟨fw, hfw, kfw, hword⟩ := S.word
  have L : LamS1 X.env.scope scope none := by rw [c.hsc]; exact lamS1_by hB
  unfold toldB at hC
  split at hC <;> try cases hC
  rename_i a1 q1 q2 q3 c1 q4 n1 w1 q5 n2 q6 q7 q8 q9 q10 heq
  simp only [Bool.and_eq_true, decide_eq_true_eq] at hC
  obtain ⟨⟨⟨⟨⟨⟨⟨⟨⟨rfl, rfl⟩, rfl⟩, rfl⟩, rfl⟩, hsc⟩, hl2⟩, hv0⟩, hgF⟩, hgW⟩ := hC
  have Sg := C8.fnScope_by hsc
  refine ⟨fun pins s σ H Q I q => ?_⟩
  obtain ⟨z, env, stt, rfl, rel, er, q⟩ := q
  have hdef : defaultsOf params X.env = ([], []) := by
    unfold arg0B at hpar
    split at hpar
    · rfl
    · cases hpar
  have hbind : ∀ (ql : Str) (cl : List (Str × Addr)) (pm cv ctv : Value), bindArgs (PySem.W.kla_fn "<lambda>" ql params body scope cl pm cv ctv) ⟨[], []⟩ = pure [] := by
    unfold arg0B at hpar
    split at hpar
    · exact fun _ _ _ _ _ => rfl
    · cases hpar
  refine wpAny_Call_Name_kw (ld_glob I (gl_of c hg) (by rw [c.mg]; exact hm) ?_ (by decide))
  refine PySem.W.callWith_K (h₀ := X.base) I.ok.mod.kin (by rw [c.K]; exact hk) ?_ (by rfl) (by rfl)
  refine Calls.spliced_cons (LamX.lam_make2 I TB hcode hmT hu rel.tab.at_ hdef (L.caps I.ok) fun f c' pm' ctv H1 s' I1 eN T1 hf hfn hfr hco => ?_)
  refine Calls.spliced_nil ⟨I1.kIn, ?_⟩
  obtain ⟨ex1, rel1⟩ := Rel.lam rel eN T1
  obtain ⟨z1, hz1⟩ : ∃ z1 : Z, z1 = ⟨H1, z.F, z.io⟩ := ⟨_, rfl⟩
  rw [← hz1] at ex1 rel1
  have hH1 : z1.H = H1 := by rw [hz1]
  have er1 := er.ext ex1 rel.wf
  have rc : codeAny (model X.prog X.w) X.A (.call (.ref g) ⟨[.ref f], []⟩) (CR C8.CX0 X.stack X.prog X.w H1 s' Q C8.E0) s' := by
    refine LamX.run_ofS (N := ["_law_deed", "_law_e"]) (ps := ["_law_deed"]) (us := [.ref f]) (vs := [.ref f]) (by rw [c.K]; exact lk) (by rw [c.K]; exact hcd) Sg c.rm I1.env0 (hb s' [.ref f] (by rw [← c.K]; exact I1.kIn) rfl) (.cons rfl .nil) rfl fun hr' => ?_
    rw [heq]
    have on : On G (cxOf C8.CX0 X.prog X.w X.K X.mg X.base ["_law_deed", "_law_e"] "_law_told" (C8.fnScope st) g cdv X.A X.stack s' H1 C8.E0) := ⟨c.P, c.w, c.K, c.mg, c.base, rfl, ⟨_, hr'⟩⟩
    refine ⟨_, (pss_one (L2N.ps_try_as (X := (cxOf C8.CX0 X.prog X.w X.K X.mg X.base ["_law_deed", "_law_e"] "_law_told" (C8.fnScope st) g cdv X.A X.stack s' H1 C8.E0).nox) (i := 1) (Wout := fun _ _ _ _ => False) (c := .ref CS) rfl rfl Sg.nd rfl hl2 ⟨glS_ok hgF, by decide, .inl (by show X.mg _ = _; rw [c.mg]; exact hCS)⟩ takesN0
        (fun Wt pn xe tk _ => pss_one (ps_ret (act0 (CXg := C8.CX0) (Eg := C8.E0) (Ng := ["_law_deed", "_law_e"]) (ia := 0) (k := k) (t := fun E => tOf G (tabs G.pg k) (fun cls d _ H => E cls d H) m) I1 L hf hfn hfr (hbind _ _ _ _ _) tk hr'
            (fun A outer s2 H2 E hr2 => hbody _ _ (lamIn c L.kd hc hr2)) rfl (visS_ok hv0) (by decide))))
        (fun a oe cls d pn hz hfl => pss_one (ps_ret (pe_word (Z := (cxOf C8.CX0 X.prog X.w X.K X.mg X.base ["_law_deed", "_law_e"] "_law_told" (C8.fnScope st) g cdv X.A X.stack s' H1 C8.E0).nox) (sg := C8.fnScope st) ⟨on.P, on.w, on.K, on.mg, on.base, on.calm, on.room⟩ rfl hz hfl (L2H.RoomH.mono (L2H.roomH_of hr') (by omega)) rfl (.inl hl2) hgW hfw kfw hword))))).nox, ?_⟩
    subst hH1
    simp only [evalE, tabs] at q
    refine ⟨rfl, hco, z1, env, stt, rfl, rel1, er1, ?_⟩
    cases ho : evalE G.pg (tabs G.pg k) m env stt with
    | bad => rw [ho] at q; exact q.elim
    | ok d st' =>
      rw [ho] at q
      intro z3 e3 rel3 v rv
      exact q z3 (ex1.trans e3) rel3 v rv
    | exc xe st' =>
      rw [ho] at q
      intro z3 cls dd e3 rel3 xr
      have q : Post G z σ W (Out.ofO st' (toldD G.pg xe)) fun d _ z' => ∀ v, R G z' d v → Q v z'.H := q
      cases hd : toldD G.pg xe with
      | none => rw [hd] at q; exact q.elim
      | some d =>
        rw [hd] at q
        have hkx : ∃ kx, G.pg.excs[xe.c]? = some kx := by
          unfold toldD at hd
          split at hd
          · exact ⟨_, by assumption⟩
          · cases hd
        obtain ⟨kx, hkx⟩ := hkx
        refine ⟨true, by show PySem.W.exmOne X.K cls _ = _; rw [c.K, xr.1]; exact hem _ kx hkx, fun _ a na => ?_, fun h => by cases h⟩
        exact ⟨z3, st', xe, d, rfl, rfl, rel3, xr, hd, fun z' v e' r' rv => q z' ((ex1.trans e3).trans e') r' v rv⟩
  refine wpAny_call (codeAny_mono rc fun r s2 hq => ?_)
  cases r with
  | error e => exact (show False from hq).elim
  | ok fl =>
    cases fl with
    | ret u => exact I1.after hq
    | next => exact hq.elim
    | brk => exact hq.elim
    | cont => exact hq.elim
end
end Fw

set_option Elab.async false
set_option linter.all false
set_option maxRecDepth 100000
set_option autoImplicit false
set_option maxHeartbeats 2000000
/-! Fw97: lists walked while an exception is handled. -/
namespace Fw
open PySem PySem.Spec PyProof.Rows L2 HotX
section
variable {prog : Program} {w : World} {A : Around} {E : Value → Shared → Prop} {s : Shared}
theorem list_end_hot {it l x1 : Addr} {i : Nat} {items : Array Value} {Q : Option Value → Shared → Prop} (hot : HotAt A x1 s.heap) (hit : s.heap.IsListIter it l i) (hl : s.heap.IsList l items) (hx : items[i]? = none) (hne : x1 ≠ it)
    (hQ : ∀ h', Heap.ExtBut it s.heap h' → Q none { s with heap := h' }) : wpAny (model prog w) A (pyNext (.ref it)) Q E s := by
  obtain ⟨o, ho, hc, hd⟩ := id hit
  obtain ⟨ol, hol, _, nl, hdl⟩ := hl
  obtain ⟨hh, o1, vs1, h1, d1, c1⟩ := hot
  unfold pyNext
  refine wpAny_bind (wpAny_attempt (wpAny_callSpecial?_slot (name := Str.ofString "__next__") hit.typeIs slot_listiter_next (wpAny_call_entry slot_listiter_next hit.typeIs entry_listiter_next ?_ (args_listiter_next _))))
  show wpAny _ _ (field (.ref it) 0 >>= _) _ _ s
  refine wpAny_bind (wpAny_field ho hd (x := .ref l) rfl ?_)
  show wpAny _ _ (if (Value.ref l == Value.none) = true then _ else _) _ _ s
  rw [if_neg (show ¬ ((Value.ref l == Value.none) = true) from Bool.false_ne_true)]
  show wpAny _ _ (field (.ref it) 1 >>= _) _ _ s
  refine wpAny_bind (wpAny_field ho hd (x := .int i 0) rfl ?_)
  show wpAny _ _ (seqItems? (.ref l) >>= _) _ _ s
  refine wpAny_bind (wpAny_seqItems hol hdl ?_)
  simp only [Int.toNat_natCast, hx]
  refine wpAny_bind (wpAny_rule (wpAny_bind (wpAny_setField ho hd (by simp) ?_)))
  show wpAny _ _ (newExc (.type "StopIteration") [] >>= _) _ _ _
  refine wpAny_bind ?_
  simp only [newExc, newTuple]
  refine wpAny_bind (wpAny_newObj_type ?_ (by size_fits))
  refine wpAny_bind (m := firstArgMember _ _) (wpAny_of_eq (a := Value.none) (by first | rfl | (simp only [firstArgMember]; rfl)) ?_)
  refine wpAny_newObj_type ?_ (by size_fits)
  have h1' : (s.heap.update it (Obj.mapFields (·.setIfInBounds 0 Value.none))).get? x1 = some o1 := by rw [Heap.get?_update_other _ _ (Ne.symm hne)]; exact h1
  refine raiseNew_hot ⟨hh, o1, vs1, Heap.get?_push_of_some _ (Heap.get?_push_of_some _ h1'), d1, c1⟩ (Nat.ne_of_lt (Heap.lt_size (Heap.get?_push_of_some _ h1'))) (Heap.get?_push_size _ rfl) rfl (by first | (simp; done) | (simp; omega)) ?_
  refine wpAny_bind (wpAny_isInstance (T := "StopIteration") (b := true) ⟨_, Heap.get?_update_self _ (Heap.get?_push_size _ rfl) rfl, rfl⟩ isSubtype_stop ?_)
  refine wpAny_pure (hQ _ fun b ob nb e => ?_)
  have e1 : (s.heap.update it (Obj.mapFields (·.setIfInBounds 0 Value.none))).get? b = some ob := by rw [Heap.get?_update_other _ _ (Ne.symm nb)]; exact e
  have e2 := Heap.get?_push_of_some (h := s.heap.update it (Obj.mapFields (·.setIfInBounds 0 Value.none))) { cls := .type "tuple", data := .seq #[] } e1
  rw [Heap.get?_update_other _ _ (Nat.ne_of_gt (Heap.lt_size e2))]
  exact Heap.get?_push_of_some _ e2
theorem walks_hot (I ax x1 : Addr) (hI : ax ≠ I) (hx : x1 ≠ I) (items : Array Value) (o1 : Obj) (vs1 : Array Value) (hh : A.handled = some (.ref x1)) (d1 : o1.data = .fields vs1) (c1 : vs1[2]? = some .none) :
    Walks prog w A I [I, ax, x1] [I] items.size (fun i v => items[i]? = some v) (fun i h => h.IsListIter I ax i ∧ h.IsList ax items ∧ h.get? x1 = some o1) where
  sub := fun b hb => by simp at hb; simp [hb]
  frame := fun _ _ _ st hk => ⟨st.1.at fun o e => hk I (by simp) o e, st.2.1.at fun o e => hk ax (by simp) o e, hk x1 (by simp) _ st.2.2⟩
  item := fun i s Q E hi st hQ => by
    refine wpAny_pyNext_list_item st.1 st.2.1 (x := items[i]) (by simp [hi]) fun h' hit' hs' => ?_
    exact hQ _ h' s.toks (by simp [hi]) ⟨hit', st.2.1.extBut hs'.extBut hI, hs'.extBut _ _ hx st.2.2⟩ fun b o hb e => hs'.extBut b o (fun h => hb (by simp [h])) e
  done := fun s Q E st hQ => list_end_hot ⟨hh, o1, vs1, st.2.2, d1, c1⟩ st.1 st.2.1 (by simp) hx fun h' he' => hQ h' s.toks fun b o hb e => he' b o (fun h => hb (by simp [h])) e
  self := fun _ _ _ _ st hQ => wpAny_pyIter_listiter st.1 hQ
theorem sum_hot {l x1 : Addr} {its : List Value} {ns : List Int} {Q : Value → Shared → Prop} (hot : HotAt A x1 s.heap) (hl : s.heap.IsList l its.toArray) (hi : IntsAre its ns)
    (h : ∀ h' tk t', (∀ b o, s.heap.get? b = some o → h'.get? b = some o) → Q (.int ns.sum t') { s with heap := h', toks := tk }) : wpAny (model prog w) A (call (.builtin "sum") [.ref l]) Q E s := by
  obtain ⟨xs, e⟩ := hi.allInts.items
  have hn : numsOf (intItems xs).toList = ns := by rw [← e]; exact hi.numsOf
  rw [nums_intItems] at hn
  rw [e] at hl
  obtain ⟨hh, o1, vs1, h1, d1, c1⟩ := hot
  refine call_sum_walkG (iter_intList hl fun s₂ e st hfp hlI => ?_)
  subst e
  have hx : x1 ≠ s.heap.objs.size := Nat.ne_of_lt (Heap.lt_size h1)
  refine ⟨_, _, _, _, _, _, numAt xs, rfl, walks_hot (A := A.in1) _ l x1 hlI hx (intItems xs) o1 vs1 hh d1 c1, ⟨st.1, st.2, Heap.get?_push_of_some _ h1⟩, fun b hb => ?_, (fun _ _ => intItems_at), fun h' tk t' hk => ?_⟩
  · rcases List.mem_cons.mp hb with rfl | hb
    · exact hfp _ (by simp)
    · rcases List.mem_cons.mp hb with rfl | hb
      · exact hfp _ (by simp)
      · rw [List.mem_singleton.mp hb]; exact Heap.lt_size (Heap.get?_push_of_some _ h1)
  · have := h h' tk t' (old_kept hk)
    rw [preSum_eq, List.take_of_length_le (by simp [intItems])]
    simpa [hn] using this
end
/-- sum(xs), while an exception is handled -/
theorem cr_sumH {X : Cx} (hc : L2H.HotC X) : CallR X (.builtin "sum") (rSum X.K) := by
  intro pins s σ H vs us Q I r h
  obtain ⟨a, ns, rfl, hs, q⟩ := h
  obtain ⟨its, rv, hl, _⟩ := I.list hs
  rw [Vals.ref1 r]
  obtain ⟨x1, hot⟩ := hc.at I
  exact sum_hot hot hl.isList rv.ints fun h' tk t' hk => ⟨.int _, H, I.kept hk, ⟨_, rfl⟩, q⟩
section
variable {X : Cx}
/-- [elt for x in iter], iter a list, elt tells a value of each item alone -/
def tLcH (te : TE) (C : V → Prop) (g : V → V) : TE := fun σ H Q => te σ H fun v H1 => ∃ a xs, v = .ref a ∧ H1 a = some (.lst xs) ∧ xs.length ≤ 1000 ∧ (∀ x ∈ xs, C x) ∧ ∀ D, H1 D = none → Q (.ref D) (upd H1 D (.lst (xs.map g)))
theorem pe_lcH {i : Nat} {x : Str} {px : Pos} {iter elt : Expr} {scope : Scope} {own : List (Str × Nat)} {pos : Pos} {te : TE} {C0 : V → Prop} {g : V → V} (hc : L2H.HotC X) (hN : X.N.Nodup) (ok : BlkOk X.N X.env.scope scope own) (hown : own.map (·.2) = [i]) (hi : X.N[i]? = some x) (hloc : scope.names.lookup x = some .local)
    (he : PE X iter te) (hel : ∀ (s : Shared) (H : Hp) (C : Addr) (cl : List (Str × Addr)) (fp : List Addr), PE (X.blk s H scope (compEnvC scope cl C X.env) fp) elt (fun σ H Q => ∃ v, σ[i]? = some (some v) ∧ C0 v ∧ Q (g v) H)) (hs : ∀ x, foldedSetIterable iter X.env x = pure x) :
    PE X (.ListComp elt [⟨.Name x px, iter, [], 0⟩] scope pos) (tLcH te C0 g) := by
  refine ⟨fun pins s σ H Q I h => ?_⟩
  rw [eval_ListComp]
  obtain ⟨pe, hot1, hpe⟩ := hc
  have capt : ∀ y ∈ scope.names, y.2 = .free → ∃ c, X.env.cells.lookup y.1 = some c := fun y hy e => (ok.free y hy e).elim (fun q => I.ok.has _ (.inl q)) fun q => I.ok.has _ (.inr q)
  refine wpAny_comprehension_free rfl hs (closure_ok capt) ok.kind (fun y hy e => by rw [ok.uniq y hy, e]) ?_
  refine thn (he.run pins s σ H _ I h) fun xv s1 hx => ?_
  obtain ⟨v, H1, I1, rv, a, xs, rfl, ha, hlen, hC, q⟩ := hx
  obtain rfl : xv = Value.ref a := rv
  obtain ⟨its, rvs, pl, _⟩ := I1.list (SqL.of ha)
  refine wpAny_pyIter_list pl.isList ?_
  obtain ⟨it, hit⟩ : ∃ it, it = s1.heap.objs.size := ⟨_, rfl⟩
  rw [← hit]
  obtain ⟨s2, hs2⟩ : ∃ s2 : Shared, s2 = { s1 with heap := s1.heap.push { cls := .type "list_iterator", data := .fields #[.ref a, .int 0 0] } } := ⟨_, rfl⟩
  rw [← hs2]
  have I2 : L2.Inv X pins σ H1 s2 := by rw [hs2]; exact I1.kept (t' := s1.toks) fun b o e => Heap.get?_push_of_some _ e
  have st2 : s2.heap.IsListIter it a 0 := by rw [hs2, hit]; exact ⟨_, Heap.get?_push_size _ rfl, rfl, rfl⟩
  have f2 : FpOk X pins H1 it := by rw [hit]; exact I1.fpOk (Nat.le_refl _) (I1.hok.fresh (Nat.le_refl _))
  refine wpAny_newObj_type (newEnv_comp ?_) (show 0 ≤ sizeLine by decide)
  obtain ⟨D, hD⟩ : ∃ D, D = s2.heap.objs.size := ⟨_, rfl⟩
  rw [← hD]
  have nD : H1 D = none := I2.hok.fresh (Nat.le_of_eq hD.symm)
  obtain ⟨s3, hs3⟩ : ∃ s3 : Shared, s3 = { s2 with heap := s2.heap.push { cls := .type "list", data := .seq ([] : List Value).toArray } } := ⟨_, rfl⟩
  have grow : ∀ b o, s2.heap.get? b = some o → s3.heap.get? b = some o := fun b o e => by rw [hs3]; exact Heap.get?_push_of_some _ e
  have size3 : s3.heap.objs.size = s2.heap.objs.size + 1 := by rw [hs3]; exact Heap.size_push ..
  have I3 : L2.Inv X pins σ (upd H1 D (.lst [])) s3 := by
    rw [hs3]
    refine I2.laid (t' := s2.toks) (fun b o e => Heap.get?_push_of_some _ e) (Nat.le_of_eq hD.symm) ⟨Nat.zero_le _, [], 0, .nil, ?_⟩
    rw [hD]
    exact Heap.get?_push_size _ rfl
  rw [← hs3]
  have lt2 : it < s2.heap.objs.size := by obtain ⟨o, e, _⟩ := st2; exact Heap.lt_size e
  have neD : it ≠ D := by rw [hD]; exact Nat.ne_of_lt lt2
  have f3 : FpOk X pins (upd H1 D (.lst [])) it := ⟨by rw [upd_ne neD]; exact f2.1, f2.2⟩
  have f3' : ∀ b ∈ [it], FpOk X pins (upd H1 D (.lst [])) b ∧ b < s3.heap.objs.size := fun b hb => by
    rw [List.mem_singleton.mp hb]
    exact ⟨f3, by rw [size3]; exact Nat.lt_succ_of_lt lt2⟩
  have I4 := block_start I3 ok hN f3'
  obtain ⟨ce, hce⟩ : ∃ ce, ce = compEnvC scope (cellsFrom (s3.heap.objs.size + 1) scope.names (cloFrom X.env.cells scope.names [])) s3.heap.objs.size X.env := ⟨_, rfl⟩
  have cL : ce.locals = s3.heap.objs.size := by rw [hce]; rfl
  obtain ⟨s4, hs4⟩ : ∃ s4 : Shared, s4 = { s3 with heap := pushCells (s3.heap.push { cls := .type "dict", data := .dict #[] }) scope.names } := ⟨_, rfl⟩
  have pel := hel s3 (upd H1 D (.lst [])) s3.heap.objs.size (cellsFrom (s3.heap.objs.size + 1) scope.names (cloFrom X.env.cells scope.names [])) [it]
  show codeAny _ _ (.compStart (.ListComp elt [⟨.Name x px, iter, [], 0⟩] scope pos) 0 (.ref it) (.ref D) (compEnvC scope (cellsFrom (s3.heap.objs.size + 1) scope.names (cloFrom X.env.cells scope.names [])) s3.heap.objs.size X.env))
    (compPost (model X.prog X.w) X.A X.xe none (EP X pins σ Q) (.ref D) s3.heap.objs.size) { s3 with heap := pushCells (s3.heap.push { cls := .type "dict", data := .dict #[] }) scope.names }
  rw [← hce, ← hs4, ← cL]
  rw [← hce, ← hs4] at I4
  rw [← hce] at pel
  obtain ⟨Xb, hXb⟩ : ∃ Xb, Xb = X.blk s3 (upd H1 D (.lst [])) scope ce [it] := ⟨_, rfl⟩
  have st4 : s4.heap.IsListIter it a 0 := st2.at fun o e => by rw [hs4]; exact pushCells_keeps _ _ _ _ (Heap.get?_push_of_some _ (grow _ _ e))
  have stat : ∀ {σ' : L2.St} {H' : Hp} {s' : Shared}, L2.Inv (X.blk s3 (upd H1 D (.lst [])) scope ce [it]) [] σ' H' s' → H' it = none → FpOk (X.blk s3 (upd H1 D (.lst [])) scope ce [it]) [] H' it := fun {σ' H' s'} I' hn =>
    ⟨hn, (I'.ok.exf it (by simp)).1, I'.ok.exfs it (by simp), .inl (by simp), fun y c e => (I'.ok.exf it (by simp)).2 y c e, fun p hp => absurd (show p ∈ ([] : List (Addr × Obj)) ++ [] from hp) (by simp)⟩
  have P3 := I3.pin pe (List.mem_append_left _ hpe)
  have hotB : ∀ {σ' : L2.St} {H' : Hp} {s' : Shared}, L2.Inv (X.blk s3 (upd H1 D (.lst [])) scope ce [it]) [] σ' H' s' → HotAt X.A pe.1 s'.heap := fun {σ' H' s'} I' => by
    obtain ⟨hh, ws, d1, c1⟩ := hot1
    refine ⟨hh, pe.2, ws, I'.base.keep pe.1 pe.2 P3.1 P3.2.1 (fun hm => (List.mem_cons.mp (I3.stkSub pe.1 hm)).elim P3.2.2.1 P3.2.2.2.1) (fun hm => ?_), d1, c1⟩
    have e : pe.1 = it := List.mem_singleton.mp (show pe.1 ∈ [it] from hm)
    have P1 := I1.pin pe (List.mem_append_left _ hpe)
    have := Heap.lt_size P1.1
    rw [e, hit] at this
    exact Nat.lt_irrefl _ this
  have neI : pe.1 ≠ it := fun e => by
    have P1 := I1.pin pe (List.mem_append_left _ hpe)
    have := Heap.lt_size P1.1
    rw [e, hit] at this
    exact Nat.lt_irrefl _ this
  have kind : X.env.scope.kind = .function := I.ok.kind
  have pg : PG (X.blk s3 (upd H1 D (.lst [])) scope ce [it]) (.Name x px) (gName i) := by
    refine pg_name hN hi (.inl ?_) (.inr ?_) <;> (show ce.scope.names.lookup x = some .local; rw [hce]; exact lookup_relabel_local hloc)
  have aD : ∀ ys, (upd H1 D (.lst ys)) a = some (.lst xs) := fun ys => by rw [upd_ne (ne_of_none ha nD)]; exact ha
  have loop : codeAny (model X.prog X.w) X.A (.compLoop (.ListComp elt [⟨.Name x px, iter, [], 0⟩] scope pos) 0 (.ref it) (.ref D) ce) (compPost (model X.prog X.w) X.A X.xe none (EP X pins σ Q) (.ref D) ce.locals) s4 := by
    refine compLoop_any (fun n s' => ∃ j, n = xs.length - j ∧ j ≤ xs.length ∧ L2.Inv (X.blk s3 (upd H1 D (.lst [])) scope ce [it]) [] (wipe σ (own.map (·.2))) (upd H1 D (.lst ((xs.take j).map g))) s' ∧ s'.heap.IsListIter it a j) ?_ xs.length ⟨0, by omega, Nat.zero_le _, by simpa using I4, st4⟩
    rintro n s5 ⟨j, rfl, hj, I5, st5⟩
    have nit : (upd H1 D (.lst ((xs.take j).map g))) it = none := by rw [upd_ne neD]; exact f2.1
    obtain ⟨its5, rv5, pl5, _⟩ := I5.list (SqL.of (aD _))
    by_cases hlt : j < xs.length
    · obtain ⟨u, hu, ru⟩ := rv5.get (i := j) (List.getElem?_eq_getElem hlt)
      obtain ⟨f0, f1, f2', f3', f4, f5⟩ := stat I5 nit
      refine wpAny_pyNext_list_item st5 pl5.isList (x := u) (by simpa using hu) fun h' st' sb => ?_
      have I6 : L2.Inv (X.blk s3 (upd H1 D (.lst [])) scope ce [it]) [] (wipe σ (own.map (·.2))) (upd H1 D (.lst ((xs.take j).map g))) { s5 with heap := h' } := I5.turned (t' := s5.toks) (fun b o hb e => (sb.2 b hb).trans e) f0 f1 f3' f4 f5
      obtain ⟨o, e, cc, dd⟩ := id st'
      refine go_of (s := { s5 with heap := h' }) e cc dd (by decide) ?_
      have I6' := I6.pinned (fp := [it]) (fun b hb => by rw [List.mem_singleton.mp hb]; exact stat I6 nit) (fun b hb => by rw [List.mem_singleton.mp hb]; exact ⟨o, e, fun v z => by rw [dd] at z; cases z⟩)
      refine thnF (pg.run _ _ _ _ xs[j] u (fun σ8 H8 => σ8 = (wipe σ (own.map (·.2))).set i (some xs[j]) ∧ H8 = upd H1 D (.lst ((xs.take j).map g))) I6' ru ⟨rfl, rfl⟩) fun _ s8 h8 => ?_
      obtain ⟨σ8, H8, I8, rfl, rfl⟩ := h8
      show wpAny _ _ (pure true) _ _ _
      refine wpAny_pure ?_
      simp only [if_true]
      have hl8 : i < (wipe σ (own.map (·.2))).length := by
        rw [wipe_length, I.len]; exact (List.getElem?_eq_some_iff.mp hi).1
      refine thnF (pel.run _ s8 _ _ (fun v H => v = g xs[j] ∧ H = upd H1 D (.lst ((xs.take j).map g))) I8 ⟨xs[j], by rw [List.getElem?_set_self hl8], hC _ (List.getElem_mem hlt), rfl, rfl⟩) fun z s10 h10 => ?_
      obtain ⟨yv, H10, I10, r10, rfl, rfl⟩ := h10
      refine app_ok (X := X.blk s3 (upd H1 D (.lst [])) scope ce [it]) I10 upd_same (by rw [List.length_map, List.length_take]; exact Nat.lt_of_le_of_lt (Nat.min_le_right _ _) (Nat.lt_of_le_of_lt hlen (by decide))) r10 fun s11 I11 => ?_
      refine ⟨xs.length - (j + 1), by omega, j + 1, rfl, hlt, ?_, ?_⟩
      · have e2 : (xs.take (j + 1)).map g = (xs.take j).map g ++ [g xs[j]] := by rw [List.take_add_one, List.map_append, List.getElem?_eq_getElem hlt]; rfl
        have e3 : upd (upd H1 D (.lst ((xs.take j).map g))) D (.lst ((xs.take j).map g ++ [g xs[j]])) = upd H1 D (.lst ((xs.take (j + 1)).map g)) := by
          rw [e2]
          funext b
          by_cases hb : b = D
          · subst hb; rw [upd_same, upd_same]
          · rw [upd_ne hb, upd_ne hb, upd_ne hb]
        rw [e3] at I11
        refine (I11.unpinned (pins := [])).weak (by rw [List.length_set]) (fun j' v e => ?_)
        rw [hown] at e ⊢
        by_cases hji : j' = i
        · subst hji
          exfalso
          have : (wipe σ [j'])[j']? = some none := by
            show ((wipe σ []).set j' none)[j']? = _
            rw [List.getElem?_set_self]
            rw [hown] at hl8
            simpa [wipe] using hl8
          rw [this] at e; cases e
        · rw [List.getElem?_set_ne (fun q => hji q.symm)]
          exact e
      · have := I11.pin (it, o) (List.mem_append_right _ (List.mem_append_right _ (mem_pinsAt (by simp) e)))
        exact ⟨o, this.1, cc, dd⟩
    · have ej : j = xs.length := by omega
      subst ej
      obtain ⟨f0, f1, f2', f3', f4, f5⟩ := stat I5 nit
      refine list_end_hot (hotB I5) st5 pl5.isList (by have := rv5.length; simp; omega) neI fun h' eb => ?_
      have I6 : L2.Inv (X.blk s3 (upd H1 D (.lst [])) scope ce [it]) [] (wipe σ (own.map (·.2))) (upd H1 D (.lst ((xs.take xs.length).map g))) { s5 with heap := h' } := I5.turned (t' := s5.toks) (fun b o hb e => eb b o hb e) f0 f1 f3' f4 f5
      have I7 : L2.Inv X pins σ (upd H1 D (.lst ((xs.take xs.length).map g))) { s5 with heap := h' } := I3.call' (ch := [it]) I6.os I6.base I6.hok I6.bare fun b hb => by
        rw [List.mem_singleton.mp hb]
        exact ⟨f3.2.2.2.1, f3.2.1, f3.2.2.2.2.1, f3.2.2.2.2.2⟩
      have nC : (upd H1 D (.lst ((xs.take xs.length).map g))) ce.locals = none := I6.free
      obtain ⟨m, hn, _⟩ := I6.loc
      obtain ⟨g0, g1, g2, g3, g4, g5⟩ := I3.fpOk (H' := upd H1 D (.lst ((xs.take xs.length).map g))) (b := ce.locals) (by rw [cL]; exact Nat.le_refl _) nC
      refine ⟨m, hn, fun h'' sb => ?_⟩
      refine ⟨.ref D, _, I7.turned (t' := s5.toks) (fun b o hb e => (sb.2 b hb).trans e) g0 g1 g3 g4 g5, rfl, ?_⟩
      rw [List.take_length]
      exact q D nD
  exact codeAny_compStart_list loop (wpAny_pyIter_listiter st4 loop)
end
end Fw

set_option Elab.async false
set_option linter.all false
set_option maxRecDepth 100000
set_option autoImplicit false
set_option maxHeartbeats 1000000
/-! Fw98: sep.join(texts). -/
namespace Fw
open PySem PySem.Spec PyProof.Rows L2
section
variable {G : Gd} {nm : Nm} {X : Cx} {N : List Str} {sc : Scope} {k : Nat} {W : WX} {lb : Bool} {T : List FT}
theorem join_sOf (sep : Txt) : ∀ ts : List Txt, Str.join (sOf sep) (ts.map sOf) = sOf (joinT sep ts)
  | [] => rfl
  | [x] => rfl
  | x :: y :: r => by
    have ih := join_sOf sep (y :: r)
    show sOf x ++ sOf sep ++ Str.join (sOf sep) ((y :: r).map sOf) = _
    rw [ih, sOf_app, sOf_app]
    rfl
theorem join_ok {sep : Txt} (hs : okT sep = true) : ∀ ts : List Txt, (∀ t ∈ ts, okT t = true) → okT (joinT sep ts) = true
  | [], _ => rfl
  | [x], h => h x List.mem_cons_self
  | x :: y :: r, h => okT_app (okT_app (h x List.mem_cons_self) hs) (join_ok hs (y :: r) fun t ht => h t (List.mem_cons_of_mem _ ht))
theorem rs_ts {z : Z} : ∀ {ds : List D} {ts : List Txt} {vs : List V}, asTs ds = some ts → Rs G z ds vs → vs = (ts.map sOf).map V.str ∧ ∀ t ∈ ts, okT t = true
  | [], ts, vs, h, q => by
    cases h
    rw [Rs.nil.mp q]
    exact ⟨rfl, fun t ht => by cases ht⟩
  | d :: r, ts, vs, h, q => by
    cases d <;> simp only [asTs] at h <;> try cases h
    rename_i t
    obtain ⟨us, h1, rfl⟩ := Option.map_eq_some_iff.mp h
    simp only [Rs] at q
    obtain ⟨v, ws, rfl, q1, q2⟩ := q
    obtain ⟨e, f⟩ := rs_ts h1 q2
    obtain ⟨e1, f1⟩ := R.str.mp q1
    subst e e1
    refine ⟨rfl, fun u hu => ?_⟩
    rcases List.mem_cons.mp hu with rfl | hu
    · exact f1
    · exact f u hu
theorem e_join (c : In G X N sc k W lb) {o e : Expr} {y : Str} {mo me : ME} {apos cpos : Pos} (hy : y = "join") (ho : PE X o (tOf G T W mo)) (he : PE X e (tOf G T W me)) (hn : notCall0 o = true) (hp : plainE e = true) (hline : (apos.endLine == cpos.line) = true) :
    PE X (.Call (.Attribute o y apos) [e] [] cpos) (tOf G T W (.bm .join mo (.cons me .nil))) := by
  subst hy
  refine peImp (pe_join ho he (hs := by rw [star_of hp]; rfl) (hbase := abase_of hn _ _ _) (hline := hline)) fun σ H Q q => ?_
  obtain ⟨z, env, st, rfl, rel, er, q⟩ := q
  refine ⟨z, env, st, rfl, rel, er, (Post.bind (by simpa only [evalE] using q)).imp fun dx st1 z1 e1 rel1 q1 v1 r1 => ?_⟩
  split at q1
  rotate_left
  · exact q1.elim
  rename_i hb
  obtain ⟨sep, rfl⟩ : ∃ s, dx = .str s := by
    cases dx <;> simp only [bmOk] at hb <;> first | exact ⟨_, rfl⟩ | cases hb
  refine ⟨⟨_, (R.str.mp r1).1⟩, z1, env, st1, rfl, rel1, er.ext e1 rel.wf, ?_⟩
  have q2 : Post G z1 σ W ((evalE G.pg T me env st1).bind fun dy st2 => Out.ofO st2 (bmD .join (.str sep) [dy])) fun d _ z' => ∀ v, R G z' d v → Q v z'.H := by
    simp only [evalEs] at q1
    cases ho1 : evalE G.pg T me env st1 with
    | bad => rw [ho1] at q1; exact q1
    | exc a b => rw [ho1] at q1; exact q1
    | ok dy st2 => rw [ho1] at q1; exact q1
  refine (Post.bind q2).imp fun dy st2 z2 e2 rel2 q3 v2 r2 => ?_
  obtain ⟨d, hd, q4⟩ := Post.ofO q3 rel2
  cases dy <;> simp only [bmD] at hd <;> try cases hd
  rename_i ds
  obtain ⟨ts, h1, h2⟩ := Option.bind_eq_some_iff.mp hd
  split at h2 <;> cases h2
  rename_i hz
  simp only [R] at r2
  obtain ⟨a, vs, rfl, ⟨_, hq⟩, qs⟩ := r2
  obtain ⟨rfl, ok⟩ := rs_ts h1 qs
  refine ⟨sOf sep, a, ts.map sOf, (R.str.mp r1).1, rfl, .inl (by rw [c.K]; exact SqL.of hq), ?_, q4 _ (R.str.mpr ⟨?_, join_ok (R.str.mp r1).2 ts ok⟩)⟩
  · have hm : (ts.map sOf).map (·.length) = ts.map List.length := by
      rw [List.map_map]
      refine List.map_congr_left fun t _ => ?_
      simp [sOf, Str.length]
    have hl : (sOf sep).length = sep.length := by simp [sOf, Str.length]
    rw [hm, hl, List.length_map]
    exact hz
  · show V.str (Builtin.Str.glued (sOf sep) (ts.map sOf)) = _
    rw [StrLaws.glued_eq_join, join_sOf]
end
end Fw

set_option Elab.async false
set_option linter.all false
set_option maxRecDepth 100000
set_option autoImplicit false
set_option maxHeartbeats 4000000
/-! Fw10: the checker of expressions: a tree of the program against a tree of ours. -/
namespace Fw
open PySem PySem.Spec PyProof.Rows L2

structure Ck where
  nm : Nm
  pg : Pg
  N : List Str
  /-- it may make lambdas -/
  lam : Bool
/-- a global name that no scope hides -/
def ckG (sc : Scope) (x : Str) : Bool := glS sc x && okN x
def ckB (C : Ck) (sc : Scope) (x : Str) : Bool := glS sc x && okN x && (C.nm.blts.any fun y => decide (y = x))
def ckV (C : Ck) (sc : Scope) (i : Nat) (x : Str) : Bool := decide (C.N[i]? = some x) && visS sc x && okN x
def noIni (C : Ck) (f : Nat) : Bool := ((C.pg.defs[f]?).bind (·.ini)).isNone
def litC : D → Const → Bool
  | .non, .none => true
  | .bl a, .bool b => a == b
  | .int a, .int b => decide (a = b)
  | .str t, .str s => decide (sOf t = s) && okT t
  | _, _ => false
/-- built-in functions of one name and plain arguments: is it a type, its name -/
def bltN : Blt → Option (Bool × String)
  | .len => some (false, "len")
  | .abs => some (false, "abs")
  | .min2 => some (false, "min")
  | .max2 => some (false, "max")
  | .int1 => some (true, "int")
  | .str1 => some (true, "str")
  | .list1 => some (true, "list")
  | .tuple1 => some (true, "tuple")
  | .sum1 => some (false, "sum")
  | .all1 => some (false, "all")
  | .any1 => some (false, "any")
  | .min1 => some (false, "min")
  | .max1 => some (false, "max")
  | .sorted1 => some (false, "sorted")
  | .dictCopy => some (true, "dict")
  | .dictPairs => some (true, "dict")
  | _ => none

def isZ : ME → Bool
  | .lit (.int 0) => true
  | _ => false
theorem isZ_ok {m : ME} (h : isZ m = true) : m = .lit (.int 0) := by
  unfold isZ at h
  split at h
  · rfl
  · cases h
mutual
/-- t: it stands as a test -/
def chk (C : Ck) : ME → Bool → Scope → Expr → Bool
  | .var i, _, sc, e => match e with
    | .Name x _ => ckV C sc i x
    | _ => false
  | .lit d, _, _, e => match e with
    | .Constant c _ _ => litC d c
    | _ => false
  | .glob g, _, sc, e => match e with
    | .Name x _ => decide (C.nm.globs[g]? = some x) && ckG sc x
    | _ => false
  | .bin op a b, t, sc, e => match e with
    | .BinOp x o y _ => !t && decide (o = opOf op) && chk C a false sc x && chk C b false sc y
    | _ => false
  | .neg a, t, sc, e => match e with
    | .UnaryOp .USub x _ => !t && chk C a false sc x
    | _ => false
  | .not a, t, sc, e => match e with
    | .UnaryOp .Not x _ => chk C a t sc x
    | _ => false
  | .cmp op a b, _, sc, e => match e with
    | .Compare x [o] [y] _ => decide (o = cmpOf op) && chk C a false sc x && chk C b false sc y && plainE y
    | _ => false
  | .chain a r, _, sc, e => match e with
    | .Compare x ops es _ => (match r with | .more _ _ _ => true | .last _ _ => false) && chk C a false sc x && chkC C r sc ops es
    | _ => false
  | .and es, t, sc, e => match e with
    | .BoolOp .And xs _ => chkB C es t sc xs
    | _ => false
  | .or es, t, sc, e => match e with
    | .BoolOp .Or xs _ => chkB C es t sc xs
    | _ => false
  | .ite c a b, t, sc, e => match e with
    | .IfExp x y z _ => chk C c true sc x && chk C a t sc y && chk C b t sc z
    | _ => false
  | .ix a b, _, sc, e => match e with
    | .Subscript x y _ => chk C a false sc x && chk C b false sc y && plainE y
    | _ => false
  | .ixO i b, _, sc, e => match e with
    | .Subscript (.Name x _) y _ => ckV C sc i x && chk C b false sc y && plainE y
    | _ => false
  | .lenO i, _, sc, e => match e with
    | .Call (.Name y _) [.Name x _] [] _ => decide (y = "len") && ckB C sc y && ckV C sc i x
    | _ => false
  | .slFrom a lo, t, sc, e => match e with
    | .Subscript x (.Slice (some l) none none _) _ => chk C a false sc x && chk C lo false sc l
    | _ => false
  | .slTo a hi, t, sc, e => match e with
    | .Subscript x (.Slice none (some h) none _) _ => chk C a false sc x && chk C hi false sc h
    | _ => false
  | .slBoth a lo hi, t, sc, e => match e with
    | .Subscript x (.Slice (some l) (some h) none _) _ => chk C a false sc x && chk C lo false sc l && chk C hi false sc h
    | _ => false
  | .tup es, t, sc, e => match e with
    | .Tuple xs _ _ => !t && chkEs C es sc xs
    | _ => false
  | .lst es, t, sc, e => match e with
    | .List xs _ => !t && chkEs C es sc xs
    | _ => false
  | .dict ks es, t, sc, e => match e with
    | .Dict keys vals _ => !t && chkK C es ks sc keys vals && decide (keys.length ≤ 15)
    | _ => false
  | .fld a f, _, sc, e => match e with
    | .Attribute x g _ => decide (g = sOf f) && chk C a false sc x && notCall0 x
    | _ => false
  | .call f es, _, sc, e => match e with
    | .Call (.Name x _) xs [] _ => decide (C.nm.fns[f]? = some x) && decide (x ≠ "") && ckG sc x && noIni C f && chkEs C es sc xs
    | _ => false
  | .meth a m es, _, sc, e => match e with
    | .Call (.Attribute x g apos) xs [] pos => decide (g = sOf m) && chk C a false sc x && notCall0 x && chkEs C es sc xs && decide (xs.length < 30) && (apos.endLine == pos.line)
    | _ => false
  | .make c es, _, sc, e => match e with
    | .Call (.Name x _) xs [] _ => decide (C.nm.cls[c]? = some x) && ckG sc x && (C.pg.cls[c]?).isSome && chkEs C es sc xs
    | _ => false
  | .blt (.isinst ty) es, _, sc, e => match e with
    | .Call (.Name x _) [a, .Name y _] [] _ => decide (x = "isinstance") && ckB C sc x && decide (y = Str.ofString (tyN ty)) && ckB C sc y && chkEs C es sc [a]
    | _ => false
  | .blt .listRange (.cons a (.cons b .nil)), _, sc, e => match e with
    | .Call (.Name x _) [.Call (.Name y _) [p, q] [] _] [] _ => decide (x = "list") && ckB C sc x && decide (y = "range") && ckB C sc y && chk C a false sc p && plainE p && chk C b false sc q && plainE q
    | .Call (.Name x _) [.Call (.Name y _) [q] [] _] [] _ => isZ a && decide (x = "list") && ckB C sc x && decide (y = "range") && ckB C sc y && chk C b false sc q && plainE q
    | _ => false
  | .blt b es, _, sc, e => match e with
    | .Call (.Name x _) (y :: ys) [] _ => (match bltN b with | some (_, n) => decide (x = Str.ofString n) | none => false) && ckB C sc x && chkEs C es sc (y :: ys)
    | _ => false
  | .bm .get a (.cons y (.cons z .nil)), _, sc, e => match e with
    | .Call (.Attribute o g apos) [p, q] [] cpos => decide (g = "get") && chk C a false sc o && notCall0 o && plainE p && plainE q && chk C y false sc p && chk C z false sc q && (apos.endLine == cpos.line)
    | _ => false
  | .bm .join a (.cons y .nil), _, sc, e => match e with
    | .Call (.Attribute o g apos) [p] [] cpos => decide (g = "join") && chk C a false sc o && notCall0 o && plainE p && chk C y false sc p && (apos.endLine == cpos.line)
    | _ => false
  | .bm _ _ _, _, _, _ => false
  | .comp tt elt it cs, t, sc, e => match e with
    | .ListComp x [⟨tg, iter, ifs, a⟩] scope _ => !t && (!C.lam || hasCell sc) && decide (a = 0) && blkC C.N sc scope tt && chkTg C.N scope tt tg && chkI C it sc tg iter && plainE iter && chkCs C cs (relS scope sc) ifs && chk C elt false (relS scope sc) x
    | _ => false
  | .told m, _, sc, e => match e with
    | .Call (.Name x _) [.Lambda params body scope _] [] _ => C.lam && hasCell sc && C.nm.told && decide (x = "_law_told") && ckG sc x && lamS1B sc scope none && !hasCell scope && arg0B params && chk C m false scope body
    | _ => false
  | .caught i m, _, sc, e => match e with
    | .Call (.Name x _) [.Lambda params body scope _] [] _ => C.lam && hasCell sc && C.nm.caught && decide (x = "caught") && ckG sc x && lamS1B sc scope (some "said") && !hasCell scope && decide (C.N[i]? = some ("said" : Str)) && arg1B params "said" && chk C m false scope body
    | _ => false
def chkEs (C : Ck) : MEs → Scope → List Expr → Bool
  | .nil, _, es => match es with
    | [] => true
    | _ => false
  | .cons m ms, sc, es => match es with
    | e :: es => chk C m false sc e && plainE e && chkEs C ms sc es
    | [] => false
def chkB (C : Ck) : MEs → Bool → Scope → List Expr → Bool
  | .nil, _, _, _ => false
  | .cons m .nil, t, sc, es => match es with
    | [e] => chk C m t sc e
    | _ => false
  | .cons m (.cons m' ms), t, sc, es => match es with
    | e :: e' :: es => chk C m t sc e && chkB C (.cons m' ms) t sc (e' :: es)
    | _ => false
def chkK (C : Ck) : MEs → List Txt → Scope → List (Option Expr) → List Expr → Bool
  | .nil, ks, _, keys, vals => match ks, keys, vals with
    | [], [], [] => true
    | _, _, _ => false
  | .cons m ms, ks, sc, keys, vals => match ks, keys, vals with
    | k :: ks, some (.Constant (.str s) _ _) :: keys, v :: vals => decide (s = sOf k) && okT k && chk C m false sc v && chkK C ms ks sc keys vals
    | _, _, _ => false
def chkCs (C : Ck) : MEs → Scope → List Expr → Bool
  | .nil, _, es => match es with
    | [] => true
    | _ => false
  | .cons m .nil, sc, es => match es with
    | [e] => chk C m true sc e
    | _ => false
  | .cons _ (.cons _ _), _, _ => false
def chkC (C : Ck) : MC → Scope → List CmpOp → List Expr → Bool
  | .last op m, sc, ops, es => match ops, es with
    | [o], [e] => decide (o = cmpOf op) && chk C m false sc e && plainE e
    | _, _ => false
  | .more op m r, sc, ops, es => match ops, es with
    | o :: ops, e :: es => decide (o = cmpOf op) && chk C m false sc e && plainE e && chkC C r sc ops es
    | _, _ => false
def chkI (C : Ck) : MI → Scope → Expr → Expr → Bool
  | .val m, sc, _, e => chk C m false sc e
  | .range1 m, sc, _, e => match e with
    | .Call (.Name x _) [y] [] _ => decide (x = "range") && ckB C sc x && chk C m false sc y && plainE y
    | _ => false
  | .range2 a b, sc, _, e => match e with
    | .Call (.Name x _) [y, z] [] _ => decide (x = "range") && ckB C sc x && chk C a false sc y && plainE y && chk C b false sc z && plainE z
    | _ => false
  | .enum m, sc, tg, e => match tg, e with
    | .Tuple _ _ _, .Call (.Name x _) [y] [] _ => decide (x = "enumerate") && ckB C sc x && chk C m false sc y && plainE y
    | _, _ => false
  | .zip a b, sc, tg, e => match tg, e with
    | .Tuple _ _ _, .Call (.Name x _) [y, z] [] _ => decide (x = "zip") && ckB C sc x && chk C a false sc y && plainE y && chk C b false sc z && plainE z
    | _, _ => false
end

theorem ckG_ok {sc : Scope} {x : Str} (h : ckG sc x = true) : glS sc x = true ∧ okN x = true := by
  simpa only [ckG, Bool.and_eq_true] using h
theorem ckB_ok {C : Ck} {sc : Scope} {x : Str} (h : ckB C sc x = true) : glS sc x = true ∧ okN x = true ∧ x ∈ C.nm.blts := by
  simp only [ckB, Bool.and_eq_true] at h
  obtain ⟨y, hy, e⟩ := List.any_eq_true.mp h.2
  have : y = x := by simpa using e
  exact ⟨h.1.1, h.1.2, by rw [← this]; exact hy⟩
theorem ckV_ok {C : Ck} {sc : Scope} {i : Nat} {x : Str} (h : ckV C sc i x = true) : C.N[i]? = some x ∧ visS sc x = true ∧ okN x = true := by
  simp only [ckV, Bool.and_eq_true, decide_eq_true_eq] at h
  exact ⟨h.1.1, h.1.2, h.2⟩

section
variable {G : Gd} {C : Ck}
/-- what the machine's top has for _law_told, caught -/
structure Lams (G : Gd) (nm : Nm) : Prop where
  told : nm.told = true → ToldOk G
  caught : nm.caught = true → CaughtOk G
  refl : nm.tryC = true → ∀ c kx, G.pg.excs[c]? = some kx → PySem.W.exmOne G.K (.ref (G.eA c)) (.ref (G.eA c)) = some true
theorem sim_blt {k : Nat} {X : Cx} {sc : Scope} {W : WX} (S : Static G C.nm) (c : In G X C.N sc k W C.lam) {T : List FT} {b : Blt} {ty : Bool} {n : String} {y : Expr} {ys : List Expr} {es : MEs} {p pos : Pos} (hb : bltN b = some (ty, n)) (h1 : glS sc (Str.ofString n) = true) (h2 : okN (Str.ofString n) = true) (h3 : Str.ofString n ∈ C.nm.blts)
    (ha : PA X (y :: ys) (tAof G T W es)) (hp : plains (y :: ys) = true) : PE X (.Call (.Name (Str.ofString n) p) (y :: ys) [] pos) (tOf G T W (.blt b es)) := by
  cases b <;> simp only [bltN, Option.some.injEq, Prod.mk.injEq, reduceCtorEq] at hb <;> (obtain ⟨rfl, rfl⟩ := hb)
  · exact e_bltB S c (b_len c.toOn) h1 h3 boot_len h2 ha hp
  · exact e_bltB S c b_abs h1 h3 (by decide +kernel) h2 ha hp
  · exact e_bltB S c (b_min2 c.toOn) h1 h3 boot_min h2 ha hp
  · exact e_bltB S c (b_max2 c.toOn) h1 h3 boot_max h2 ha hp
  · exact e_bltT S c b_int1 h1 h3 (by decide +kernel) h2 ha hp
  · exact e_bltT S c b_str h1 h3 (by decide +kernel) h2 ha hp
  · exact e_bltT S c (b_list c.toOn) h1 h3 (by decide +kernel) h2 ha hp
  · exact e_bltT S c (b_tuple c.toOn) h1 h3 (by decide +kernel) h2 ha hp
  · exact e_bltB S c (b_sum c.toOn) h1 h3 boot_sum h2 ha hp
  · exact e_bltB S c (b_all c.toOn) h1 h3 (by decide +kernel) h2 ha hp
  · exact e_bltB S c (b_any c.toOn) h1 h3 (by decide +kernel) h2 ha hp
  · exact e_bltB S c (b_min c.toOn) h1 h3 boot_min h2 ha hp
  · exact e_bltB S c (b_max c.toOn) h1 h3 boot_max h2 ha hp
  · exact e_bltB S c (b_sorted c.toOn) h1 h3 (by decide +kernel) h2 ha hp
  · exact e_bltT S c (b_dictCopy c.toOn) h1 h3 (by decide +kernel) h2 ha hp
  · exact e_bltT S c (b_dictPairs c.toOn) h1 h3 (by decide +kernel) h2 ha hp
theorem sim_lit {X : Cx} {W : WX} {T : List FT} {d : D} {cst : Const} {j : Nat} {p : Pos} (h : litC d cst = true) : PE X (.Constant cst j p) (tOf G T W (.lit d)) := by
  unfold litC at h
  split at h
  · exact e_const pe_non fun z => R.non.mpr rfl
  · rw [eq_of_beq h]; exact e_const pe_bl fun z => R.bl.mpr rfl
  · rw [of_decide_eq_true h]; exact e_const pe_int fun z => R.int.mpr rfl
  · simp only [Bool.and_eq_true, decide_eq_true_eq] at h
    obtain ⟨rfl, h⟩ := h
    exact e_const pe_str fun z => R.str.mpr ⟨rfl, h⟩
  · cases h
/-- what a check gives -/
def Sim (G : Gd) (T : List FT) (X : Cx) (W : WX) (t : Bool) (m : ME) (e : Expr) : Prop := PE X e (tOf G T W m) ∧ (t = true → PT X e (tTof G T W m))
theorem Sim.val {T : List FT} {X : Cx} {W : WX} {t : Bool} {m : ME} {e : Expr} (h : PE X e (tOf G T W m)) (he : ∀ whole, isTrue e X.env whole = (do let v ← whole; standAt e.pos; holding [v] (truthy v))) : Sim G T X W t m e := ⟨h, fun _ => t_val h he⟩
theorem Sim.no {T : List FT} {X : Cx} {W : WX} {t : Bool} {m : ME} {e : Expr} (h : PE X e (tOf G T W m)) (ht : (!t) = true) : Sim G T X W t m e := ⟨h, fun q => by rw [q] at ht; cases ht⟩

mutual
theorem sim {k : Nat} (S : Static G C.nm) (SL : Lams G C.nm) (hpg : C.pg = G.pg) (L : ∀ j, j ≤ k → FnsOk G j) {X : Cx} {sc : Scope} {W : WX} (c : In G X C.N sc k W C.lam) : ∀ (m : ME) {t : Bool} {e : Expr}, chk C m t sc e = true → Sim G (tabs G.pg k) X W t m e
  | .var i, t, e, h => by
    unfold chk at h; split at h <;> try cases h
    obtain ⟨h1, h2, h3⟩ := ckV_ok h
    exact .val (e_var c h1 h2 h3) fun _ => rfl
  | .lit d, t, e, h => by
    unfold chk at h; split at h <;> try cases h
    exact .val (sim_lit h) fun _ => rfl
  | .glob g, t, e, h => by
    unfold chk at h; split at h <;> try cases h
    simp only [Bool.and_eq_true, decide_eq_true_eq] at h
    obtain ⟨h2, h3⟩ := ckG_ok h.2
    exact .val (e_glob c h2 h3 (S.globs g _ h.1)) fun _ => rfl
  | .bin op a b, t, e, h => by
    unfold chk at h; split at h <;> try cases h
    simp only [Bool.and_eq_true, decide_eq_true_eq] at h
    obtain ⟨⟨⟨h0, rfl⟩, h1⟩, h2⟩ := h
    exact .no (e_bin c (sim S SL hpg L c a h1).1 (sim S SL hpg L c b h2).1) h0
  | .neg a, t, e, h => by
    unfold chk at h; split at h <;> try cases h
    simp only [Bool.and_eq_true] at h
    exact .no (e_neg (sim S SL hpg L c a h.2).1) h.1
  | .not a, t, e, h => by
    unfold chk at h; split at h <;> try cases h
    obtain ⟨h1, h2⟩ := sim S SL hpg L c a h
    exact ⟨e_not h1, fun q => t_not (h2 q)⟩
  | .cmp op a b, t, e, h => by
    unfold chk at h; split at h <;> try cases h
    simp only [Bool.and_eq_true, decide_eq_true_eq] at h
    obtain ⟨⟨⟨rfl, h1⟩, h2⟩, h3⟩ := h
    exact ⟨e_cmp c (sim S SL hpg L c a h1).1 (sim S SL hpg L c b h2).1 h3, fun _ => t_cmp c (sim S SL hpg L c a h1).1 (sim S SL hpg L c b h2).1 h3⟩
  | .chain a r, t, e, h => by
    unfold chk at h; split at h <;> try cases h
    simp only [Bool.and_eq_true] at h
    obtain ⟨⟨h0, h1⟩, h2⟩ := h
    have h3 := simC S SL hpg L c r h2
    cases r with
    | last _ _ => cases h0
    | more op m r => exact ⟨e_chain c.toOn (sim S SL hpg L c a h1).1 h3, fun _ => t_chain c.toOn (sim S SL hpg L c a h1).1 h3⟩
  | .and es, t, e, h => by
    unfold chk at h; split at h <;> try cases h
    obtain ⟨⟨h1, h2⟩, _⟩ := simB S SL hpg L c es h
    exact ⟨peImp h1 fun σ H Q q => by simpa only [tOf, tAnds, evalE] using q, fun q => ptImp (h2 q).pt fun σ H Q q => by simpa only [tTof, tAndsT, evalE] using q⟩
  | .or es, t, e, h => by
    unfold chk at h; split at h <;> try cases h
    obtain ⟨_, h1, h2⟩ := simB S SL hpg L c es h
    exact ⟨peImp h1 fun σ H Q q => by simpa only [tOf, tOrs, evalE] using q, fun q => ptImp (h2 q).pt fun σ H Q q => by simpa only [tTof, tOrsT, evalE] using q⟩
  | .ite cc a b, t, e, h => by
    unfold chk at h; split at h <;> try cases h
    simp only [Bool.and_eq_true] at h
    obtain ⟨⟨h1, h2⟩, h3⟩ := h
    have a1 := (sim S SL hpg L c cc h1).2 rfl
    have a2 := sim S SL hpg L c a h2
    have a3 := sim S SL hpg L c b h3
    exact ⟨e_ite a1 a2.1 a3.1, fun q => t_ite a1 (a2.2 q) (a3.2 q)⟩
  | .ix a b, t, e, h => by
    unfold chk at h; split at h <;> try cases h
    simp only [Bool.and_eq_true] at h
    exact .val (e_ix c (sim S SL hpg L c a h.1.1).1 (sim S SL hpg L c b h.1.2).1 h.2) fun _ => rfl
  | .ixO i b, t, e, h => by
    unfold chk at h; split at h <;> try cases h
    simp only [Bool.and_eq_true] at h
    obtain ⟨h1, h2, h3⟩ := ckV_ok h.1.1
    exact .val (e_ixO c h1 h2 h3 (sim S SL hpg L c b h.1.2).1 h.2) fun _ => rfl
  | .lenO i, t, e, h => by
    unfold chk at h; split at h <;> try cases h
    simp only [Bool.and_eq_true, decide_eq_true_eq] at h
    obtain ⟨⟨h0, h1⟩, h2⟩ := h
    obtain ⟨a1, a2, a3⟩ := ckB_ok h1
    obtain ⟨b1, b2, b3⟩ := ckV_ok h2
    exact .val (e_lenO S c h0 a1 a3 b1 b2 b3) fun _ => rfl
  | .slFrom a lo, t, e, h => by
    unfold chk at h; split at h <;> try cases h
    simp only [Bool.and_eq_true] at h
    exact .val (e_slFrom c (sim S SL hpg L c a h.1).1 (sim S SL hpg L c lo h.2).1) fun _ => rfl
  | .slTo a hi, t, e, h => by
    unfold chk at h; split at h <;> try cases h
    simp only [Bool.and_eq_true] at h
    exact .val (e_slTo c (sim S SL hpg L c a h.1).1 (sim S SL hpg L c hi h.2).1) fun _ => rfl
  | .slBoth a lo hi, t, e, h => by
    unfold chk at h; split at h <;> try cases h
    simp only [Bool.and_eq_true] at h
    exact .val (e_slBoth c (sim S SL hpg L c a h.1.1).1 (sim S SL hpg L c lo h.1.2).1 (sim S SL hpg L c hi h.2).1) fun _ => rfl
  | .tup es, t, e, h => by
    unfold chk at h; split at h <;> try cases h
    simp only [Bool.and_eq_true] at h
    exact .no (e_tup (simEs S SL hpg L c es h.2).1) h.1
  | .lst es, t, e, h => by
    unfold chk at h; split at h <;> try cases h
    simp only [Bool.and_eq_true] at h
    exact .no (e_lst (simEs S SL hpg L c es h.2).1) h.1
  | .dict ks es, t, e, h => by
    unfold chk at h; split at h <;> try cases h
    simp only [Bool.and_eq_true, decide_eq_true_eq] at h
    obtain ⟨⟨h0, h1⟩, h3⟩ := h
    obtain ⟨p, q1, q2, q3, q4⟩ := simK S SL hpg L c es h1
    by_cases h2 : ‹List (Option Expr)› = []
    · subst h2
      cases ‹List Expr› with
      | cons _ _ => simp at q2
      | nil =>
        cases es with
        | cons _ _ =>
          unfold chkK at h1
          split at h1
          · rename_i e1 _; cases e1
          · cases h1
        | nil =>
          unfold chkK at h1
          split at h1
          · exact .no e_dict0 h0
          · cases h1
    · exact .no (e_dict p q1 q2 h2 h3 q3 q4) h0
  | .fld a f, t, e, h => by
    unfold chk at h; split at h <;> try cases h
    simp only [Bool.and_eq_true, decide_eq_true_eq] at h
    obtain ⟨⟨rfl, h1⟩, h2⟩ := h
    exact .val (e_fld S c (sim S SL hpg L c a h1).1 h2) fun _ => rfl
  | .call f es, t, e, h => by
    unfold chk at h; split at h <;> try cases h
    simp only [Bool.and_eq_true, decide_eq_true_eq] at h
    obtain ⟨⟨⟨⟨h1, h2⟩, h3⟩, h4⟩, h5⟩ := h
    obtain ⟨a1, a2⟩ := ckG_ok h3
    obtain ⟨b1, b2, b3⟩ := simEs S SL hpg L c es h5
    exact .val (e_call S c (L k (Nat.le_refl _)) h1 h2 a1 a2 (by unfold noIni at h4; rw [hpg] at h4; exact Option.isNone_iff_eq_none.mp h4) b1 b2 b3) fun _ => rfl
  | .meth a m es, t, e, h => by
    unfold chk at h; split at h <;> try cases h
    simp only [Bool.and_eq_true, decide_eq_true_eq] at h
    obtain ⟨⟨⟨⟨⟨rfl, h1⟩, h2⟩, h3⟩, h4⟩, h5⟩ := h
    obtain ⟨b1, b2, b3⟩ := simEs S SL hpg L c es h3
    exact .val (e_meth S c (L k (Nat.le_refl _)) (sim S SL hpg L c a h1).1 h2 b1 b2 b3 h4 h5) fun _ => rfl
  | .make cl es, t, e, h => by
    unfold chk at h; split at h <;> try cases h
    simp only [Bool.and_eq_true, decide_eq_true_eq] at h
    obtain ⟨⟨⟨h1, h2⟩, h3⟩, h4⟩ := h
    obtain ⟨a1, a2⟩ := ckG_ok h2
    obtain ⟨b1, b2, b3⟩ := simEs S SL hpg L c es h4
    rw [hpg] at h3
    cases k with
    | zero => exact .val (peImp peNever fun σ H Q q => by
        obtain ⟨z, env, st, rfl, rel, er, q⟩ := q
        simp only [evalE, tabs] at q
        exact q.elim) fun _ => rfl
    | succ k' => exact .val (e_make S c (L k' (Nat.le_succ _)) h1 a1 a2 h3 b1 b2 b3) fun _ => rfl
  | .blt b es, t, e, h => by
    by_cases hb : ∃ ty, b = .isinst ty
    · obtain ⟨ty, rfl⟩ := hb
      unfold chk at h; split at h <;> try cases h
      simp only [Bool.and_eq_true, decide_eq_true_eq] at h
      obtain ⟨⟨⟨⟨rfl, h1⟩, rfl⟩, h2⟩, h3⟩ := h
      obtain ⟨a1, a2, a3⟩ := ckB_ok h1
      obtain ⟨c1, c2, c3⟩ := ckB_ok h2
      cases es with
      | nil => unfold chkEs at h3; cases h3
      | cons m r =>
        unfold chkEs at h3
        simp only [Bool.and_eq_true] at h3
        cases r with
        | cons _ _ => have h4 := h3.2; unfold chkEs at h4; cases h4
        | nil =>
          refine .val (e_isinst S c a1 a3 boot_isinstance a2 c1 c3 ?_ c2 (sim S SL hpg L c m h3.1.1).1 h3.1.2) fun _ => rfl
          cases ty <;> decide +kernel
    by_cases hl : ∃ a d, b = .listRange ∧ es = .cons a (.cons d .nil)
    · obtain ⟨a, d, rfl, rfl⟩ := hl
      unfold chk at h
      split at h
      · simp only [Bool.and_eq_true, decide_eq_true_eq] at h
        obtain ⟨⟨⟨⟨⟨⟨⟨rfl, h1⟩, rfl⟩, h2⟩, h3⟩, h4⟩, h5⟩, h6⟩ := h
        obtain ⟨a1, a2, a3⟩ := ckB_ok h1
        obtain ⟨c1, c2, c3⟩ := ckB_ok h2
        exact .val (e_listRg2 S c a1 a3 c1 c3 (sim S SL hpg L c a h3).1 (sim S SL hpg L c d h5).1 h4 h6) fun _ => rfl
      · simp only [Bool.and_eq_true, decide_eq_true_eq] at h
        obtain ⟨⟨⟨⟨⟨⟨h0, rfl⟩, h1⟩, rfl⟩, h2⟩, h5⟩, h6⟩ := h
        rw [isZ_ok h0]
        obtain ⟨a1, a2, a3⟩ := ckB_ok h1
        obtain ⟨c1, c2, c3⟩ := ckB_ok h2
        exact .val (e_listRg1 S c a1 a3 c1 c3 (sim S SL hpg L c d h5).1 h6) fun _ => rfl
      · cases h
    · have h' : ∃ x p y ys pos, e = .Call (.Name x p) (y :: ys) [] pos ∧ ((match bltN b with | some (_, n) => decide (x = Str.ofString n) | none => false) && ckB C sc x && chkEs C es sc (y :: ys)) = true := by
        cases b <;> first
          | exact absurd ⟨_, rfl⟩ hb
          | (cases es with
             | nil => unfold chk at h; split at h <;> first | (cases h; done) | exact ⟨_, _, _, _, _, rfl, h⟩
             | cons a r => cases r with
               | nil => unfold chk at h; split at h <;> first | (cases h; done) | exact ⟨_, _, _, _, _, rfl, h⟩
               | cons d r => cases r with
                 | nil => first | exact absurd ⟨_, _, rfl, rfl⟩ hl | (unfold chk at h; split at h <;> first | (cases h; done) | exact ⟨_, _, _, _, _, rfl, h⟩)
                 | cons d r => unfold chk at h; split at h <;> first | (cases h; done) | exact ⟨_, _, _, _, _, rfl, h⟩)
          | (unfold chk at h; split at h <;> first | (cases h; done) | exact ⟨_, _, _, _, _, rfl, h⟩)
      obtain ⟨x, p, y, ys, pos, rfl, hq⟩ := h'
      rw [Bool.and_eq_true, Bool.and_eq_true] at hq
      obtain ⟨⟨h0, h1⟩, h2⟩ := hq
      obtain ⟨b1, b2, b3⟩ := simEs S SL hpg L c es h2
      obtain ⟨a1, a2, a3⟩ := ckB_ok h1
      cases hn : bltN b with
      | none => rw [hn] at h0; cases h0
      | some q =>
        obtain ⟨ty, n⟩ := q
        rw [hn] at h0
        have h0 : x = Str.ofString n := by simpa using h0
        subst h0
        exact .val (sim_blt S c hn a1 a2 a3 b1 b2) fun _ => rfl
  | .bm m a es, t, e, h => by
    cases m with
    | get =>
      cases es with
      | nil => unfold chk at h; cases h
      | cons y r =>
        cases r with
        | nil => unfold chk at h; cases h
        | cons z r =>
          cases r with
          | cons _ _ => unfold chk at h; cases h
          | nil =>
            unfold chk at h; split at h <;> try cases h
            simp only [Bool.and_eq_true, decide_eq_true_eq] at h
            obtain ⟨⟨⟨⟨⟨⟨⟨h0, h1⟩, h2⟩, h3⟩, h4⟩, h5⟩, h6⟩, h7⟩ := h
            exact .val (e_get c h0 (sim S SL hpg L c a h1).1 (sim S SL hpg L c y h5).1 (sim S SL hpg L c z h6).1 h2 h3 h4 h7) fun _ => rfl
    | index => unfold chk at h; cases h
    | join =>
      cases es with
      | nil => unfold chk at h; cases h
      | cons y r =>
        cases r with
        | cons z r => cases r <;> (unfold chk at h; cases h)
        | nil =>
          unfold chk at h; split at h <;> try cases h
          simp only [Bool.and_eq_true, decide_eq_true_eq] at h
          obtain ⟨⟨⟨⟨⟨h0, h1⟩, h2⟩, h3⟩, h4⟩, h5⟩ := h
          exact .val (e_join c h0 (sim S SL hpg L c a h1).1 (sim S SL hpg L c y h4).1 h2 h3 h5) fun _ => rfl
    | replace => unfold chk at h; cases h
  | .comp tt elt it cs, t, e, h => by
    unfold chk at h; split at h <;> try cases h
    simp only [Bool.and_eq_true, decide_eq_true_eq] at h
    obtain ⟨⟨⟨⟨⟨⟨⟨⟨h0, hl⟩, rfl⟩, h1⟩, h2⟩, h3⟩, h4⟩, h5⟩, h6⟩ := h
    exact .no (e_comp c (fun q => by rw [q] at hl; simpa using hl) h1 h2 (simI S SL hpg L c it h3) h4 fun Xb W' cb => ⟨simCs S SL hpg L cb cs h5, (sim S SL hpg L cb elt h6).1⟩) h0
  | .told m, t, e, h => by
    unfold chk at h; split at h <;> try cases h
    simp only [Bool.and_eq_true, decide_eq_true_eq, Bool.not_eq_true'] at h
    obtain ⟨⟨⟨⟨⟨⟨⟨⟨h1, h2⟩, h3⟩, h4⟩, h5⟩, h6⟩, h7⟩, h8⟩, h9⟩ := h
    refine .val ?_ fun _ => rfl
    by_cases hk : 2 ≤ k
    rotate_left
    · refine peImp peNever fun σ H Q q => ?_
      obtain ⟨z, env, st, _, _, _, q⟩ := q
      have hk : k = 0 ∨ k = 1 := by omega
      rcases hk with rfl | rfl <;> (simp only [evalE, tabs] at q; exact q.elim)
    obtain ⟨k, rfl⟩ : ∃ j, k = j + 2 := ⟨k - 2, by omega⟩
    exact e_told (SL.told h3) c (c.lm h1 h2) h4 (ckG_ok h5).1 h6 h7 h8 fun X' W' c' => (sim S SL hpg (fun j hj => L j (by omega)) c' m h9).1
  | .caught i m, t, e, h => by
    unfold chk at h; split at h <;> try cases h
    simp only [Bool.and_eq_true, decide_eq_true_eq, Bool.not_eq_true'] at h
    obtain ⟨⟨⟨⟨⟨⟨⟨⟨⟨h1, h2⟩, h3⟩, h4⟩, h5⟩, h6⟩, h7⟩, hi⟩, h8⟩, h9⟩ := h
    refine .val ?_ fun _ => rfl
    by_cases hk : 2 ≤ k
    rotate_left
    · refine peImp peNever fun σ H Q q => ?_
      obtain ⟨z, env, st, _, _, _, q⟩ := q
      have hk : k = 0 ∨ k = 1 := by omega
      rcases hk with rfl | rfl <;> (simp only [evalE, tabs] at q; exact q.elim)
    obtain ⟨k, rfl⟩ : ∃ j, k = j + 2 := ⟨k - 2, by omega⟩
    exact e_caught (SL.caught h3) c (c.lm h1 h2) h4 (ckG_ok h5).1 h6 h7 hi h8 fun X' W' c' => (sim S SL hpg (fun j hj => L j (by omega)) c' m h9).1
theorem simEs {k : Nat} (S : Static G C.nm) (SL : Lams G C.nm) (hpg : C.pg = G.pg) (L : ∀ j, j ≤ k → FnsOk G j) {X : Cx} {sc : Scope} {W : WX} (c : In G X C.N sc k W C.lam) : ∀ (ms : MEs) {es : List Expr}, chkEs C ms sc es = true → PA X es (tAof G (tabs G.pg k) W ms) ∧ plains es = true ∧ mesLen ms = es.length
  | .nil, es, h => by
    unfold chkEs at h; split at h <;> try cases h
    exact ⟨a_nil, rfl, rfl⟩
  | .cons m ms, es, h => by
    unfold chkEs at h; split at h <;> try cases h
    simp only [Bool.and_eq_true] at h
    obtain ⟨h1, h2, h3⟩ := simEs S SL hpg L c ms h.2
    exact ⟨a_cons (sim S SL hpg L c m h.1.1).1 h1 h.1.2, by simp only [plains, Bool.and_eq_true]; exact ⟨h.1.2, h2⟩, by simp [mesLen, h3]⟩
theorem simB {k : Nat} (S : Static G C.nm) (SL : Lams G C.nm) (hpg : C.pg = G.pg) (L : ∀ j, j ≤ k → FnsOk G j) {X : Cx} {sc : Scope} {W : WX} (c : In G X C.N sc k W C.lam) : ∀ (ms : MEs) {t : Bool} {es : List Expr} {pos : Pos}, chkB C ms t sc es = true →
    (PE X (.BoolOp .And es pos) (tAnds G (tabs G.pg k) W ms) ∧ (t = true → PW X (.BoolOp .And es pos) (tAndsT G (tabs G.pg k) W ms))) ∧ PE X (.BoolOp .Or es pos) (tOrs G (tabs G.pg k) W ms) ∧ (t = true → PW X (.BoolOp .Or es pos) (tOrsT G (tabs G.pg k) W ms))
  | .nil, t, es, pos, h => by unfold chkB at h; cases h
  | .cons m .nil, t, es, pos, h => by
    unfold chkB at h; split at h <;> try cases h
    obtain ⟨h1, h2⟩ := sim S SL hpg L c m h
    exact ⟨⟨and_1 h1, fun q => andT_1 (h2 q)⟩, or_1 h1, fun q => orT_1 (h2 q)⟩
  | .cons m (.cons m' ms), t, es, pos, h => by
    unfold chkB at h; split at h <;> try cases h
    simp only [Bool.and_eq_true] at h
    obtain ⟨h1, h2⟩ := sim S SL hpg L c m h.1
    obtain ⟨⟨a1, a2⟩, a3, a4⟩ := simB S SL hpg L c (.cons m' ms) (pos := pos) h.2
    exact ⟨⟨and_2 h1 a1, fun q => andT_2 (h2 q) (a2 q)⟩, or_2 h1 a3, fun q => orT_2 (h2 q) (a4 q)⟩
theorem simK {k : Nat} (S : Static G C.nm) (SL : Lams G C.nm) (hpg : C.pg = G.pg) (L : ∀ j, j ≤ k → FnsOk G j) {X : Cx} {sc : Scope} {W : WX} (c : In G X C.N sc k W C.lam) : ∀ (ms : MEs) {ks : List Txt} {keys : List (Option Expr)} {vals : List Expr} {pos : Pos}, chkK C ms ks sc keys vals = true →
    PPs X pos keys vals (pairTs G (tabs G.pg k) W ks ms) ∧ keys.all (·.isSome) = true ∧ keys.length = vals.length ∧ mesLen ms = ks.length ∧ ks.all okT = true
  | .nil, ks, keys, vals, pos, h => by
    unfold chkK at h; split at h <;> try cases h
    exact ⟨pps_nil, rfl, rfl, rfl, rfl⟩
  | .cons m ms, ks, keys, vals, pos, h => by
    unfold chkK at h; split at h <;> try cases h
    simp only [Bool.and_eq_true, decide_eq_true_eq] at h
    obtain ⟨⟨⟨rfl, h1⟩, h2⟩, h3⟩ := h
    obtain ⟨a1, a2, a3, a4, a5⟩ := simK S SL hpg L c ms (pos := pos) h3
    exact ⟨pps_cons pe_str (sim S SL hpg L c m h2).1 a1, by simpa using a2, by simp [a3], by simp [mesLen, a4], by simp only [List.all_cons, h1, a5]; rfl⟩
theorem simCs {k : Nat} (S : Static G C.nm) (SL : Lams G C.nm) (hpg : C.pg = G.pg) (L : ∀ j, j ≤ k → FnsOk G j) {X : Cx} {sc : Scope} {W : WX} (c : In G X C.N sc k W C.lam) : ∀ (ms : MEs) {es : List Expr}, chkCs C ms sc es = true → PTs X es (ttOf G (tabs G.pg k) W ms)
  | .nil, es, h => by
    unfold chkCs at h; split at h <;> try cases h
    exact pts_nil
  | .cons m .nil, es, h => by
    unfold chkCs at h; split at h <;> try cases h
    exact pts_one ((sim S SL hpg L c m h).2 rfl)
  | .cons _ (.cons _ _), es, h => by unfold chkCs at h; cases h
theorem simC {k : Nat} (S : Static G C.nm) (SL : Lams G C.nm) (hpg : C.pg = G.pg) (L : ∀ j, j ≤ k → FnsOk G j) {X : Cx} {sc : Scope} {W : WX} (c : In G X C.N sc k W C.lam) : ∀ (r : MC) {ops : List CmpOp} {es : List Expr}, chkC C r sc ops es = true → ChOk G (tabs G.pg k) W X r ops es
  | .last op m, ops, es, h => by
    unfold chkC at h; split at h <;> try cases h
    simp only [Bool.and_eq_true, decide_eq_true_eq] at h
    obtain ⟨⟨rfl, h1⟩, h2⟩ := h
    exact .last (sim S SL hpg L c m h1).1 h2
  | .more op m r, ops, es, h => by
    unfold chkC at h; split at h <;> try cases h
    simp only [Bool.and_eq_true, decide_eq_true_eq] at h
    obtain ⟨⟨⟨rfl, h1⟩, h2⟩, h3⟩ := h
    exact .more (sim S SL hpg L c m h1).1 h2 (simC S SL hpg L c r h3)
theorem simI {k : Nat} (S : Static G C.nm) (SL : Lams G C.nm) (hpg : C.pg = G.pg) (L : ∀ j, j ≤ k → FnsOk G j) {X : Cx} {sc : Scope} {W : WX} (c : In G X C.N sc k W C.lam) : ∀ (it : MI) {tg e : Expr}, chkI C it sc tg e = true → PI X tg e (iOf G (tabs G.pg k) W it)
  | .val m, tg, e, h => by
    unfold chkI at h
    exact i_val c (sim S SL hpg L c m h).1
  | .range1 m, tg, e, h => by
    unfold chkI at h; split at h <;> try cases h
    simp only [Bool.and_eq_true, decide_eq_true_eq] at h
    obtain ⟨⟨⟨rfl, h1⟩, h2⟩, h3⟩ := h
    obtain ⟨a1, a2, a3⟩ := ckB_ok h1
    exact i_range1 S c a1 a3 (sim S SL hpg L c m h2).1 h3
  | .range2 a b, tg, e, h => by
    unfold chkI at h; split at h <;> try cases h
    simp only [Bool.and_eq_true, decide_eq_true_eq] at h
    obtain ⟨⟨⟨⟨⟨rfl, h1⟩, h2⟩, h3⟩, h4⟩, h5⟩ := h
    obtain ⟨a1, a2, a3⟩ := ckB_ok h1
    exact i_range2 S c a1 a3 (sim S SL hpg L c a h2).1 (sim S SL hpg L c b h4).1 h3 h5
  | .enum m, tg, e, h => by
    unfold chkI at h; split at h <;> try cases h
    simp only [Bool.and_eq_true, decide_eq_true_eq] at h
    obtain ⟨⟨⟨rfl, h1⟩, h2⟩, h3⟩ := h
    obtain ⟨a1, a2, a3⟩ := ckB_ok h1
    exact i_enum S c a1 a3 (sim S SL hpg L c m h2).1 h3
  | .zip a b, tg, e, h => by
    unfold chkI at h; split at h <;> try cases h
    simp only [Bool.and_eq_true, decide_eq_true_eq] at h
    obtain ⟨⟨⟨⟨⟨rfl, h1⟩, h2⟩, h3⟩, h4⟩, h5⟩ := h
    obtain ⟨a1, a2, a3⟩ := ckB_ok h1
    exact i_zip S c a1 a3 (sim S SL hpg L c a h2).1 (sim S SL hpg L c b h4).1 h3 h5
end
end
end Fw

set_option Elab.async false
set_option linter.all false
set_option maxRecDepth 100000
set_option autoImplicit false
set_option maxHeartbeats 1000000
/-! Fw11: what is wanted behind a statement; the frame's own objects. -/
namespace Fw
open PySem PySem.Spec PyProof.Rows L2

/-- where a def began; where its self stands -/
structure Bs where
  z : Z
  x : Addr
/-- the frame's own objects are new; self stands where it stood -/
structure Inn (b : Bs) (vs : List Nat) (env : Env) (σ : St) : Prop where
  new : ∀ (i : Nat) (s : Slot) (a : Addr), i ∉ vs → env[i]? = some s → s.alone = true → σ[i]? = some (some (.ref a)) → Free b.z.H a
  self : ∀ (i : Nat) (c : Nat) (fs : List (Txt × D)), i ∉ vs → env[i]? = some (.self c fs) → σ[i]? = some (some (.ref b.x))
theorem set_look {α : Type} {l : List α} {i j : Nat} {a s : α} (h : (l.set i a)[j]? = some s) : (j = i ∧ s = a) ∨ (j ≠ i ∧ l[j]? = some s) := by
  by_cases c : i = j
  · subst c
    rw [List.getElem?_set_self] at h
    · exact .inl ⟨rfl, by cases h; rfl⟩
    · have := (List.getElem?_eq_some_iff.mp h).1
      rwa [List.length_set] at this
  · rw [List.getElem?_set_ne c] at h
    exact .inr ⟨fun e => c e.symm, h⟩
theorem Inn.set {b : Bs} (i : Nat) (vs : List Nat) (env : Env) (σ : St) (d : D) (v : V) (h : Inn b (i :: vs) env σ) : Inn b vs (env.set i (.val d)) (σ.set i (some v)) := by
  have ni : ∀ {j : Nat}, j ≠ i → j ∉ vs → j ∉ i :: vs := fun {j} a b => by simp only [List.mem_cons, not_or]; exact ⟨a, b⟩
  refine ⟨fun j s a n e al q => ?_, fun j c fs n e => ?_⟩
  · rcases set_look e with ⟨_, rfl⟩ | ⟨hj, e⟩
    · cases al
    · rw [List.getElem?_set_ne (fun q => hj q.symm)] at q
      exact h.new j s a (ni hj n) e al q
  · rcases set_look e with ⟨_, e⟩ | ⟨hj, e⟩
    · cases e
    · rw [List.getElem?_set_ne (fun q => hj q.symm)]
      exact h.self j c fs (ni hj n) e
theorem Inn.open_ {b : Bs} {env : Env} {σ : St} (h : Inn b [] env σ) (vs : List Nat) : Inn b vs env σ := ⟨fun i s a _ => h.new i s a (by simp), fun i c fs _ => h.self i c fs (by simp)⟩
theorem Keep.trans {z1 z2 z3 : Z} (a : Keep z1 z2) (b : Keep z2 z3) : Keep z1 z3 := ⟨fun x h => b.f x (a.f x h), fun x o f h => b.h x o (a.f x f) (a.h x o f h), fun i x h => b.c i x (a.c i x h)⟩

/-- what is wanted behind a statement, from the state z on -/
def PostS (G : Gd) (b : Bs) (z : Z) (o : SO) (W : WX) (D : Ends) : Prop :=
  match o with
  | .next env st => ∀ z' σ, Ext b.z z' → Keep z z' → Rel G z' st → EnvR G z' env σ → Inn b [] env σ → D.nx σ z'.H
  | .cont env st => ∀ z' σ, Ext b.z z' → Keep z z' → Rel G z' st → EnvR G z' env σ → Inn b [] env σ → D.ct σ z'.H
  | .ret d st => ∀ z' v, Ext b.z z' → Rel G z' st → R G z' d v → D.rt v z'.H
  | .exc e st => ∀ z' cls dd σ, Ext b.z z' → Rel G z' st → ExcR G z' e cls dd → W cls dd σ z'.H
  | .bad => False
section
variable {G : Gd} {b : Bs} {z z' : Z} {W : WX} {D : Ends}
theorem PostS.later {o : SO} (h : PostS G b z o W D) (k : Keep z z') : PostS G b z' o W D := by
  cases o with
  | next env st => exact fun z2 σ e k2 r er nn => h z2 σ e (k.trans k2) r er nn
  | cont env st => exact fun z2 σ e k2 r er nn => h z2 σ e (k.trans k2) r er nn
  | ret d st => exact h
  | exc e st => exact h
  | bad => exact h
/-- an expression first -/
theorem PostS.so {α : Type} {o : Out α} {f : α → Store → SO} {σ : St} (h : PostS G b z (o.so f) W D) (e0 : Ext b.z z) (w : Wf z) : Post G z σ W o fun a st z' => PostS G b z' (f a st) W D := by
  cases o with
  | ok a st => exact fun z' e r => PostS.later h (e.keep w)
  | exc e st => exact fun z' cls dd e r x => h z' cls dd σ (e0.trans e) r x
  | bad => exact h
theorem PostS.next {env : Env} {st : Store} {σ : St} (h : PostS G b z (.next env st) W D) (e : Ext b.z z) (r : Rel G z st) (er : EnvR G z env σ) (nn : Inn b [] env σ) : D.nx σ z.H := h z σ e (Keep.refl z) r er nn
theorem PostS.nextO {o : Option Env} {st : Store} (h : PostS G b z (nextO st o) W D) : ∃ env, o = some env ∧ PostS G b z (.next env st) W D := by
  cases o with
  | some env => exact ⟨env, rfl, h⟩
  | none => exact h.elim
end
/-- where a statement starts -/
structure At (G : Gd) (b : Bs) (z : Z) (env : Env) (st : Store) (σ : St) : Prop where
  ex : Ext b.z z
  rel : Rel G z st
  er : EnvR G z env σ
  inn : Inn b [] env σ
def stOf (G : Gd) (T : List FT) (W : WX) (m : MS) : TS := fun D σ H => ∃ b z env st, z.H = H ∧ At G b z env st σ ∧ PostS G b z (execS G.pg T m env st) W D
def sstOf (G : Gd) (T : List FT) (W : WX) (m : MSs) : TS := fun D σ H => ∃ b z env st, z.H = H ∧ At G b z env st σ ∧ PostS G b z (execSs G.pg T m env st) W D
theorem At.step {G : Gd} {b : Bs} {z z' : Z} {env : Env} {st st' : Store} {σ : St} (h : At G b z env st σ) (e : Ext z z') (r : Rel G z' st') : At G b z' env st' σ := ⟨h.ex.trans e, r, h.er.ext e h.rel.wf, h.inn⟩
theorem psImp {X : Cx} {s : Stmt} {t t' : TS} (h : PS X s t) (f : ∀ D σ H, t' D σ H → t D σ H) : PS X s t' := ⟨fun pins s σ H D I q => h.run pins s σ H D I (f D σ H q)⟩
theorem pssImp {X : Cx} {s : List Stmt} {t t' : TS} (h : PSs X s t) (f : ∀ D σ H, t' D σ H → t D σ H) : PSs X s t' := ⟨fun pins s σ H D I q => h.run pins s σ H D I (f D σ H q)⟩

/-! ### own objects -/
/-- a slot's object written -/
theorem EnvR.putO {G : Gd} {z : Z} {env : Env} {σ : St} {i : Nat} {a : Addr} {o : HO} {s s' : Slot} (er : EnvR G z env σ) (hi : env[i]? = some s) (al : s.alone = true) (hσ : σ[i]? = some (some (.ref a))) (nf : ¬ z.F a) (ni : a ∉ z.io) (al' : s'.alone = true)
    (h : SlotAt G (z.put a o) σ[i]? s') : EnvR G (z.put a o) (env.set i s') σ := by
  have k : Keep z (z.put a o) := Keep.put nf
  have get : ∀ b, b ≠ a → (z.put a o).H b = z.H b := fun b n => upd_ne n
  refine ⟨by rw [List.length_set]; exact er.len, fun j t e => ?_, fun j l t u c e1 e2 a1 a2 q1 q2 => ?_⟩
  · rcases set_look e with ⟨rfl, rfl⟩ | ⟨hj, e⟩
    · exact h
    · have q := er.at_ j t e
      cases t with
      | un => trivial
      | val d =>
        obtain ⟨v, q1, r⟩ := q
        exact ⟨v, q1, R.keep k _ _ r⟩
      | own ds =>
        obtain ⟨c, vs, q1, q2, r, f, m⟩ := q
        have ne : c ≠ a := fun e' => hj (er.apart j i _ _ a e hi rfl al (by rw [q1, e']) hσ)
        exact ⟨c, vs, q1, by rw [get c ne]; exact q2, Rs.keep k _ _ r, f, m⟩
      | ownD kvs =>
        obtain ⟨c, vs, q1, q2, r, f, m⟩ := q
        have ne : c ≠ a := fun e' => hj (er.apart j i _ _ a e hi rfl al (by rw [q1, e']) hσ)
        exact ⟨c, vs, q1, by rw [get c ne]; exact q2, RK.keep k _ _ r, f, m⟩
      | self cl fs =>
        obtain ⟨c, dx, vs, kl, q1, hk, q2, hl, r, f, m⟩ := q
        have ne : c ≠ a := fun e' => hj (er.apart j i _ _ a e hi rfl al (by rw [q1, e']) hσ)
        exact ⟨c, dx, vs, kl, q1, hk, by rw [get c ne]; exact q2, hl, Rs.keep k _ _ r, f, m⟩
  · have hl : ∀ {j : Nat} {t : Slot}, (env.set i s')[j]? = some t → t.alone = true → ∃ t', env[j]? = some t' ∧ t'.alone = true := fun {j t} e a1 => by
      rcases set_look e with ⟨rfl, rfl⟩ | ⟨_, e⟩
      · exact ⟨s, hi, al⟩
      · exact ⟨t, e, a1⟩
    obtain ⟨t', e1', b1⟩ := hl e1 a1
    obtain ⟨u', e2', b2⟩ := hl e2 a2
    exact er.apart j l t' u' c e1' e2' b1 b2 q1 q2
theorem Inn.putO {b : Bs} {env : Env} {σ : St} {i : Nat} {s s' : Slot} (h : Inn b [] env σ) (hi : env[i]? = some s) (al : s.alone = true) (hs : ∀ c fs, s' = .self c fs → ∃ fs0, s = .self c fs0) : Inn b [] (env.set i s') σ := by
  refine ⟨fun j t a n e a1 q => ?_, fun j c fs n e => ?_⟩
  · rcases set_look e with ⟨rfl, rfl⟩ | ⟨_, e⟩
    · exact h.new j s a n hi al q
    · exact h.new j t a n e a1 q
  · rcases set_look e with ⟨rfl, e3⟩ | ⟨_, e⟩
    · obtain ⟨fs0, e'⟩ := hs c fs e3.symm
      subst e'
      exact h.self j c fs0 n hi
    · exact h.self j c fs n e
/-- a new own object in a slot -/
theorem EnvR.newE {G : Gd} {z z' : Z} {env : Env} {σ : St} {st : Store} {i : Nat} {p : Addr} {s' : Slot} (er : EnvR G z env σ) (rel : Rel G z st) (np : z.H p = none) (e0 : Ext z z') (h : SlotAt G z' (some (some (.ref p))) s') (hi : i < env.length) : EnvR G z' (env.set i s') (σ.set i (some (.ref p))) := by
  have er' := er.ext e0 rel.wf
  have old : ∀ {j : Nat} {t : Slot}, env[j]? = some t → t.alone = true → σ[j]? = some (some (.ref p)) → False := fun {j t} e al q => by
    have w := er.at_ j t e
    cases t with
    | un => cases al
    | val d => cases al
    | own ds => obtain ⟨c, vs, q1, q2, _⟩ := w; rw [q1] at q; cases q; rw [np] at q2; cases q2
    | ownD ds => obtain ⟨c, vs, q1, q2, _⟩ := w; rw [q1] at q; cases q; rw [np] at q2; cases q2
    | self cl fs => obtain ⟨c, dx, vs, kl, q1, _, q2, _⟩ := w; rw [q1] at q; cases q; rw [np] at q2; cases q2
  have hl : i < σ.length := by rw [← er.len]; exact hi
  refine ⟨by rw [List.length_set, List.length_set]; exact er.len, fun j t e => ?_, fun j l t u c e1 e2 a1 a2 q1 q2 => ?_⟩
  · rcases set_look e with ⟨rfl, rfl⟩ | ⟨hj, e⟩
    · rw [List.getElem?_set_self hl]; exact h
    · rw [List.getElem?_set_ne (fun q => hj q.symm)]; exact er'.at_ j t e
  · rcases set_look e1 with ⟨rfl, rfl⟩ | ⟨h1, f1⟩
    · rw [List.getElem?_set_self hl] at q1
      cases q1
      rcases set_look e2 with ⟨rfl, _⟩ | ⟨h2, f2⟩
      · rfl
      · rw [List.getElem?_set_ne (fun q => h2 q.symm)] at q2
        exact (old f2 a2 q2).elim
    · rw [List.getElem?_set_ne (fun q => h1 q.symm)] at q1
      rcases set_look e2 with ⟨rfl, _⟩ | ⟨h2, f2⟩
      · rw [List.getElem?_set_self hl] at q2
        cases q2
        exact (old f1 a1 q1).elim
      · rw [List.getElem?_set_ne (fun q => h2 q.symm)] at q2
        exact er.apart j l t u c f1 f2 a1 a2 q1 q2
theorem EnvR.newO {G : Gd} {z : Z} {env : Env} {σ : St} {st : Store} {i : Nat} {p : Addr} {o : HO} {s' : Slot} (er : EnvR G z env σ) (rel : Rel G z st) (np : z.H p = none) (h : SlotAt G (z.put p o) (some (some (.ref p))) s') (hi : i < env.length) : EnvR G (z.put p o) (env.set i s') (σ.set i (some (.ref p))) :=
  er.newE rel np ((Ext.refl z).put (o := o) np) h hi
theorem Inn.newO {b : Bs} {env : Env} {σ : St} {i : Nat} {p : Addr} {s' : Slot} (h : Inn b [] env σ) (np : Free b.z.H p) (hi : i < σ.length) (hs : ∀ c fs, s' ≠ .self c fs) : Inn b [] (env.set i s') (σ.set i (some (.ref p))) := by
  refine ⟨fun j t a n e a1 q => ?_, fun j c fs n e => ?_⟩
  · rcases set_look e with ⟨rfl, rfl⟩ | ⟨hj, e⟩
    · rw [List.getElem?_set_self hi] at q; cases q; exact np
    · rw [List.getElem?_set_ne (fun q => hj q.symm)] at q
      exact h.new j t a n e a1 q
  · rcases set_look e with ⟨rfl, e3⟩ | ⟨hj, e⟩
    · exact absurd e3.symm (hs c fs)
    · rw [List.getElem?_set_ne (fun q => hj q.symm)]
      exact h.self j c fs n e
/-- own lists and dicts, never to be changed again -/
def Z.fixes (z : Z) (env : Env) (σ : St) : Z := ⟨z.H, fun a => z.F a ∨ ∃ (i : Nat) (s : Slot), env[i]? = some s ∧ s.alone = true ∧ (∃ ds, s = Slot.own ds) ∧ σ[i]? = some (some (V.ref a)), z.io⟩
theorem fixes_at {G : Gd} {z : Z} {env : Env} {σ : St} (er : EnvR G z env σ) {i : Nat} {s : Slot} {a : Addr} (e : env[i]? = some s) (al : s.alone = true) (q : σ[i]? = some (some (.ref a))) : (∃ o, z.H a = some o ∧ ∀ ps, o ≠ .tbl ps) ∧ ¬ z.F a ∧ a ∉ z.io := by
  have w := er.at_ i s e
  cases s with
  | un => cases al
  | val d => cases al
  | own ds => obtain ⟨c, vs, q1, q2, _, f, m⟩ := w; rw [q1] at q; cases q; exact ⟨⟨_, q2, by simp⟩, f, m⟩
  | ownD ds => obtain ⟨c, vs, q1, q2, _, f, m⟩ := w; rw [q1] at q; cases q; exact ⟨⟨_, q2, by simp⟩, f, m⟩
  | self cl fs => obtain ⟨c, dx, vs, kl, q1, _, q2, _, _, f, m⟩ := w; rw [q1] at q; cases q; exact ⟨⟨_, q2, by simp⟩, f, m⟩
theorem At.freeze {G : Gd} {b : Bs} {z : Z} {env : Env} {st : Store} {σ : St} (h : At G b z env st σ) : Ext b.z (z.fixes env σ) ∧ Rel G (z.fixes env σ) st ∧ EnvR G (z.fixes env σ) (env.map freezeS) σ := by
  have k : Keep z (z.fixes env σ) := ⟨fun _ f => .inl f, fun _ _ _ e => e, fun _ _ e => e⟩
  refine ⟨⟨fun a f => .inl (h.ex.f a f), h.ex.h, h.ex.c, fun a f => ?_, h.ex.gr⟩, ⟨⟨fun a hm f => ?_, h.rel.wf.nd, fun a f => ?_⟩, h.rel.tab, h.rel.len, fun i c hc => ?_⟩, ⟨by rw [List.length_map]; exact h.er.len, fun i s e => ?_, fun i j s t a e1 e2 a1 a2 q1 q2 => ?_⟩⟩
  · rcases f with f | ⟨i, s, e, al, _, q⟩
    · exact h.ex.nf a f
    · exact .inr (h.inn.new i s a (by simp) e al q)
  · rcases f with f | ⟨i, s, e, al, _, q⟩
    · exact h.rel.wf.cf a hm f
    · exact (fixes_at h.er e al q).2.2 hm
  · rcases f with f | ⟨i, s, e, al, _, q⟩
    · exact h.rel.wf.ft a f
    · exact (fixes_at h.er e al q).1
  · obtain ⟨a, q, kk⟩ := h.rel.at_ i c hc
    exact ⟨a, q, CellAt.keep k (fun _ e => e) kk⟩
  · rw [List.getElem?_map] at e
    obtain ⟨t, e1, e2⟩ := Option.map_eq_some_iff.mp e
    have w := h.er.at_ i t e1
    cases t with
    | un => subst e2; trivial
    | val d =>
      subst e2
      obtain ⟨v, q, r⟩ := w
      exact ⟨v, q, R.keep k _ _ r⟩
    | own ds =>
      subst e2
      obtain ⟨a, vs, q1, q2, r, f, m⟩ := w
      refine ⟨.ref a, q1, ?_⟩
      simp only [R]
      exact ⟨a, vs, rfl, ⟨.inr ⟨i, _, e1, rfl, ⟨_, rfl⟩, q1⟩, q2⟩, Rs.keep k _ _ r⟩
    | ownD kvs =>
      subst e2
      obtain ⟨a, vs, q1, q2, r, f, m⟩ := w
      refine ⟨a, vs, q1, q2, RK.keep k _ _ r, fun f' => ?_, m⟩
      rcases f' with f' | ⟨j, t, e3, al, ns, q3⟩
      · exact f f'
      · have := h.er.apart i j _ t a e1 e3 rfl al q1 q3
        subst this
        rw [e1] at e3
        cases e3
        obtain ⟨_, z⟩ := ns
        cases z
    | self c fs =>
      subst e2
      obtain ⟨a, dx, vs, kl, q1, hk, q2, hl, r, f, m⟩ := w
      refine ⟨a, dx, vs, kl, q1, hk, q2, hl, Rs.keep k _ _ r, fun f' => ?_, m⟩
      rcases f' with f' | ⟨j, t, e3, al, ns, q3⟩
      · exact f f'
      · have := h.er.apart i j _ t a e1 e3 rfl al q1 q3
        subst this
        rw [e1] at e3
        cases e3
        obtain ⟨_, z⟩ := ns
        cases z
  · rw [List.getElem?_map] at e1 e2
    obtain ⟨s', f1, f2⟩ := Option.map_eq_some_iff.mp e1
    obtain ⟨t', g1, g2⟩ := Option.map_eq_some_iff.mp e2
    have al : ∀ {x y : Slot}, freezeS x = y → y.alone = true → x.alone = true := fun {x y} e h => by
      cases x <;> simp only [freezeS] at e <;> subst e <;> first | exact h | (cases h; done) | rfl
    exact h.er.apart i j s' t' a f1 g1 (al f2 a1) (al g2 a2) q1 q2
end Fw

set_option Elab.async false
set_option linter.all false
set_option maxRecDepth 100000
set_option autoImplicit false
set_option maxHeartbeats 1000000
/-! Fw12: statements: each form. -/
namespace Fw
open PySem PySem.Spec PyProof.Rows L2

structure InS (G : Gd) (X : Cx) (N : List Str) (sc : Scope) (k : Nat) (W : WX) (lb : Bool) : Prop extends In G X N sc k W lb where
  hfn : ∀ x, X.fn x = true
  stk : X.stack = X.env :: X.outer
  fre : X.env.frame = some X.env.locals
  own : PassesOwn (model X.prog X.w) X.A X.env X.xe
  kd : sc.kind = .function
def isComp : Expr → Bool
  | .ListComp _ _ _ _ | .SetComp _ _ _ _ | .DictComp _ _ _ _ _ => true
  | _ => false
theorem sw_plain {e : Expr} (h : isComp e = false) (t : Option Expr) (l : Nat) (env : PySem.Env) : swapsWith e t l env = pure false := by
  cases e <;> first | rfl | cases h
def swapC (sc scope : Scope) (x : Str) (a b : Nat) : Bool := decide (sc.names.lookup x = some .local) && (a == b) && !(scope.names.any fun (n, k) => n == x && (k == .local || k == .cell))
theorem sw_false {elt : Expr} {gs : List Comprehension} {scope : Scope} {pos py : Pos} {y : Str} {l : Nat} {env : PySem.Env} (hk : env.scope.kind = .function) (h : swapC env.scope scope y py.line pos.line = false) : swapsWith (.ListComp elt gs scope pos) (some (.Name y py)) l env = pure false := by
  have hb : env.blockKind = .function := by unfold Env.blockKind; rw [hk]; rfl
  unfold swapsWith
  simp only [hb, Expr.pos]
  have e : (env.kindOf y == some NameKind.local) = decide (env.scope.names.lookup y = some .local) := by
    show (env.scope.names.lookup y == some NameKind.local) = _
    rw [Bool.eq_iff_iff]; simp
  unfold swapC at h
  rw [e]
  simp only [beq_self_eq_true, Bool.true_and]
  rw [h]
section
variable {G : Gd} {nm : Nm} {X : Cx} {N : List Str} {sc : Scope} {k : Nat} {W : WX} {lb : Bool} {T : List FT}
theorem InS.loc (c : InS G X N sc k W lb) : ∀ x, locS sc x = true → Loc X.env.scope x ∧ (X.fn x = true ∨ X.env.scope.names.lookup x = some .local) := fun x h => by
  rw [c.hsc]
  exact ⟨locS_ok h, .inl (c.hfn x)⟩
theorem s_expr {e : Expr} {m : ME} {pos : Pos} (h : PE X e (tOf G T W m)) (hc : isComp e = false) : PS X (.Expr e pos) (stOf G T W (.expr m)) := by
  refine psImp (ps_expr h (sw_plain hc _ _ _)) fun D σ H q => ?_
  obtain ⟨b, z, env, st, rfl, a, q⟩ := q
  simp only [execS] at q
  exact ⟨z, env, st, rfl, a.rel, a.er, (PostS.so q a.ex a.rel.wf).imp fun d st' z' e r p v rv => p.next (a.step e r).ex r (a.step e r).er a.inn⟩
theorem set_run {t : Tg} {m : ME} {D : Ends} {σ : St} {H : Hp} (q : stOf G T W (.set t m) D σ H) : tAsg (tOf G T W m) (gOf G.K t) D σ H := by
  obtain ⟨b, z, env, st, rfl, a, q⟩ := q
  simp only [execS] at q
  refine ⟨z, env, st, rfl, a.rel, a.er, (PostS.so q a.ex a.rel.wf).imp fun d st' z' e r p v rv => ?_⟩
  obtain ⟨env', hb, p'⟩ := p.nextO
  have a' := a.step e r
  exact gOf_runP (Inn b) Inn.set hb rv (a'.er.open_ _) (a'.inn.open_ _) fun σ' er' nn' _ => p' z' σ' a'.ex (Keep.refl _) r er' nn'
/-- two names, the first one not plainly local: stored one by one -/
def cellP (sc : Scope) : Expr → Expr → Bool
  | .Tuple [.Name x _, .Name _ _] _ _, .Tuple [a, b] _ _ => !decide (sc.names.lookup x = some .local) || [a, b].all (foldedForSure 8)
  | _, _ => false
theorem cellP_stores {tg e : Expr} {env : PySem.Env} (h : cellP env.scope tg e = true) : swappedStores [tg] e env = pure none := by
  unfold cellP at h
  split at h
  · rename_i x px y py kt pt a b k2 pt2
    rw [Bool.or_eq_true] at h
    rcases h with h | hf
    · have h1 : ¬ List.lookup x env.scope.names = some NameKind.local := by simpa using h
      have hx : (env.kindOf x == some NameKind.local) = false := beq_eq_false_iff_ne.mpr h1
      unfold swappedStores
      show (if _ then _ else _) = _
      split
      · rfl
      · show (if _ then _ else _) = _
        split
        · rfl
        · show (if _ then _ else _) = _
          rw [if_pos]
          simp only [Bool.or_eq_true, bne_iff_ne]
          left
          simp only [List.filterMap_cons, List.filterMap_nil, hx, Bool.false_and, Bool.false_eq_true, if_false]
          split <;> simp
    · unfold swappedStores
      show (if _ then _ else _) = _
      split
      · rfl
      · show (if _ then _ else _) = _
        split
        · rfl
        · show (if _ then _ else _) = _
          split
          · rfl
          · first | rfl | exact if_pos hf
  · cases h
theorem s_set (c : InS G X N sc k W lb) {t : Tg} {tg e : Expr} {m : ME} {pos : Pos} (ht : chkTg N sc t tg = true) (h : PE X e (tOf G T W m)) (hc : isComp e = false) (htp : (∃ i, t = .one i) ∨ (∀ es kk p, e ≠ .Tuple es kk p) ∨ cellP sc tg e = true) : PS X (.Assign [tg] e pos) (stOf G T W (.set t m)) := by
  have pg := pg_of c.calm (by rw [c.hN]; exact c.nd) c.loc (t := t) (tg := tg) (by rw [c.hN]; exact ht)
  rw [c.K] at pg
  refine psImp (ps_asg h pg ?_ ?_ ?_) fun D σ H q => set_run q
  · show swapsWith e (some tg) pos.line X.env = pure false
    exact sw_plain hc _ _ _
  · unfold chkTg at ht
    split at ht
    · rfl
    · rcases htp with ⟨i, q⟩ | q | q
      · cases q
      · cases e <;> first | rfl | exact absurd rfl (q _ _ _)
      · exact cellP_stores (by rw [c.hsc]; exact q)
    · cases ht
  · unfold chkTg at ht
    split at ht
    · rfl
    · rfl
    · cases ht
/-- x = [..] -/
theorem s_setComp (c : InS G X N sc k W lb) (ho : lb = true → hasCell sc = true) {i : Nat} {y : Str} {py : Pos} {t : Tg} {elt : ME} {it : MI} {cs : MEs} {e tg iter : Expr} {ifs : List Expr} {scope : Scope} {pos spos : Pos} (hy : N[i]? = some y) (hl : locS sc y = true)
    (hb : blkC N sc scope t = true) (ht : chkTg N scope t tg = true) (hi : PI X tg iter (iOf G T W it)) (hp : plainE iter = true)
    (h : ∀ Xb W', In G Xb N (relS scope sc) k W' lb → PTs Xb ifs (ttOf G T W' cs) ∧ PE Xb e (tOf G T W' elt)) :
    PS X (.Assign [.Name y py] (.ListComp e [⟨tg, iter, ifs, 0⟩] scope pos) spos) (stOf G T W (.set (.one i) (.comp t elt it cs))) := by
  have hN : X.N.Nodup := by rw [c.hN]; exact c.nd
  have hk : X.env.scope.kind = .function := by rw [c.hsc]; exact c.kd
  cases hsw : swapC sc scope y py.line pos.line with
  | false =>
    refine psImp (ps_set hN (by rw [c.hN]; exact hy) (c.loc y hl).1 (e_comp c.toIn ho hb ht hi hp h) (sw_false hk (by rw [c.hsc]; exact hsw)) (c.loc y hl).2) fun D σ H q => set_run q
  | true =>
    simp only [swapC, Bool.and_eq_true, decide_eq_true_eq, Bool.not_eq_true'] at hsw
    obtain ⟨⟨s1, s2⟩, s3⟩ := hsw
    have hyl : X.env.scope.names.lookup y = some .local := by rw [c.hsc]; exact s1
    refine psImp (t := tAsg (tOf G T W (.comp t elt it cs)) (gName i)) ⟨fun pins s σ H D I h0 => ?_⟩ fun D σ H q => set_run q
    rw [exec_Assign_Name_used _ _ _ _ (sw_true hk hyl s2 s3)]
    refine wpAny_bind (wpAny_standAt (wpAny_bind ?_))
    show wpAny _ X.A (do let _ ← comprehension (.ListComp e [⟨tg, iter, ifs, 0⟩] scope pos) scope X.env (firstIterPos [⟨tg, iter, ifs, 0⟩] pos) (newList []) false (eval iter X.env) (some (assign (.Name y py) X.env))) _ _ s
    obtain ⟨z, env, st, rfl, rel, er, q⟩ := h0
    have q : Post G z σ W (evalE G.pg T (.comp t elt it cs) env st) fun d _ z' => ∀ v, R G z' d v → (fun x H1 => gName i x σ H1 D.nx) v z'.H := q
    refine wpAny_bind (thn (lcF_core (W := W) (Qf := fun _ s' => SP X pins D .next s') c.calm hN I hi (by rw [c.hN, c.hsc]; exact blk_of hb) c.tk c.fr (fun Xb hX => ?_) (fun x => fold_of hp _ x)
      (by rw [ownOf_vs]; exact comp_run (W' := fun cls d _ H => W cls d σ H) (fun _ _ _ _ => Iff.rfl) rel er q) fun L C s' m H' I' q' hn f => ?_) fun _ s' hq => wpAny_pure (wpAny_pure hq))
    · obtain ⟨h1, h2⟩ := h Xb _ (c.toIn.blk ho hX)
      exact ⟨blk_tg c.toIn ho hX ht, h1, h2⟩
    · show wpAny _ _ (assign (.Name y py) X.env (.ref L)) _ _ _
      refine wpAny_assign_Name (store_ok2 (v := V.ref L) I' hN (by rw [c.hN]; exact hy) (.inl hyl) rfl (fun s2 I2 ⟨a, sb, ha⟩ => ?_) (.inr hyl))
      obtain ⟨f0, f1, f2, f3, f4, f5⟩ := f
      have haC : C ≠ a := by
        rcases ha with z | z
        · rw [z]; exact f1
        · exact fun e => f4 y a z e.symm
      refine ⟨m, hn.sameBut sb haC, fun h3 sb3 => ?_⟩
      exact ⟨_, H', I2.turned (t' := s2.toks) (fun b o hb e => (sb3.2 b hb).trans e) f0 f1 f3 f4 f5, q'⟩
/-- a, b = e, f: stored from the right -/
def par2C (sc : Scope) (x y : Str) (px py : Nat) (a b : Expr) : Bool :=
  decide (sc.names.lookup x = some .local) && decide (sc.names.lookup y = some .local) && (py == px) && plainE a && plainE b && !(foldedForSure 8 a && foldedForSure 8 b) && !(constantsAlone 8 a && constantsAlone 8 b) && !decide (x = y)
theorem par2_stores {x y : Str} {px py pt pt2 : Pos} {kt k2 : Nat} {a b : Expr} {env : PySem.Env} (hk : env.scope.kind = .function) (h : par2C env.scope x y px.line py.line a b = true) :
    swappedStores [.Tuple [.Name x px, .Name y py] kt pt] (.Tuple [a, b] k2 pt2) env = pure (some [x, y]) := by
  simp only [par2C, Bool.and_eq_true, decide_eq_true_eq, Bool.not_eq_true', decide_eq_false_iff_not] at h
  obtain ⟨⟨⟨⟨⟨⟨⟨h1, h2⟩, h3⟩, h4⟩, h5⟩, h6⟩, h7⟩, h8⟩ := h
  have hb : env.blockKind = .function := by unfold Env.blockKind; rw [hk]; rfl
  have k1 : env.kindOf x = some NameKind.local := h1
  have k2 : env.kindOf y = some NameKind.local := h2
  have k3 : py.line = px.line := by simpa using h3
  have hxy : (x == y) = false := by simpa using h8
  have hyx : (y == x) = false := by simpa using fun e => h8 e.symm
  have nm : ([Expr.Name x px, Expr.Name y py].filterMap fun
    | .Name id pos => if env.kindOf id == some .local && pos.line == (Option.map (fun x => x.pos.line) [Expr.Name x px, Expr.Name y py].head?).getD 0 then some id else none
    | _ => none) = [x, y] := by simp [Expr.pos, k1, k2, k3, List.filterMap_cons]
  have c1 : ([a, b].all (foldedForSure 8)) = false := by simpa [List.all_cons] using h6
  have c2 : ([a, b].all (constantsAlone 8)) = false := by simpa [List.all_cons] using h7
  have dd : ([x, y].eraseDups.length != [x, y].length) = false := by simp [List.eraseDups, List.eraseDupsBy, List.eraseDupsBy.loop, hxy, hyx]
  unfold swappedStores
  simp only [hb]
  refine (if_neg (by simp)).trans ?_
  refine (if_neg ?_).trans ?_
  · rw [List.any_cons, List.any_cons, List.any_nil, Bool.or_false, Bool.or_eq_true]
    rintro (q | q)
    · cases a <;> first | (cases q; done) | (cases h4; done)
    · cases b <;> first | (cases q; done) | (cases h5; done)
  generalize hn : List.filterMap _ [Expr.Name x px, Expr.Name y py] = names
  have hn' : names = [x, y] := hn.symm.trans nm
  subst hn'
  rw [if_neg (by rw [dd]; simp), if_neg (by rw [c1]; decide), if_neg (by rw [c2]; decide)]
theorem s_par2 (c : InS G X N sc k W lb) {i j : Nat} {x y : Str} {a b : Expr} {ma mb : ME} {px py pt pt2 pos : Pos} {kt k2 : Nat} (hi : N[i]? = some x) (hj : N[j]? = some y) (hC : par2C sc x y px.line py.line a b = true) (ha : PE X a (tOf G T W ma)) (hb : PE X b (tOf G T W mb)) :
    PS X (.Assign [.Tuple [.Name x px, .Name y py] kt pt] (.Tuple [a, b] k2 pt2) pos) (stOf G T W (.par2 i j ma mb)) := by
  have hC' := hC
  simp only [par2C, Bool.and_eq_true, decide_eq_true_eq, Bool.not_eq_true', decide_eq_false_iff_not] at hC'
  obtain ⟨⟨⟨⟨⟨⟨⟨h1, h2⟩, h3⟩, h4⟩, h5⟩, h6⟩, h7⟩, h8⟩ := hC'
  have hij : i ≠ j := fun e => by rw [e, hj] at hi; exact h8 (Option.some.inj hi).symm
  refine psImp (ps_par c.calm (by rw [c.hN]; exact c.nd) (by rw [c.hN]; exact hi) (by rw [c.hN]; exact hj) hij (by rw [c.hsc]; exact h1) (by rw [c.hsc]; exact h2) (pa_cons ha (pa_cons hb pa_nil (star_of h5 _ _)) (star_of h4 _ _))
    (par2_stores (by rw [c.hsc]; exact c.kd) (by rw [c.hsc]; exact hC))) fun D σ H q => ?_
  obtain ⟨b, z, env, st, rfl, at0, q⟩ := q
  simp only [execS] at q
  refine ⟨z, env, st, rfl, at0.rel, at0.er, (PostS.so q at0.ex at0.rel.wf).imp fun d1 st1 z1 e1 r1 p1 v1 rv1 => ?_⟩
  have a1 := at0.step e1 r1
  refine ⟨z1, env, st1, rfl, r1, a1.er, (PostS.so p1 a1.ex r1.wf).imp fun d2 st2 z2 e2 r2 p2 v2 rv2 => ⟨v1, v2, rfl, ?_⟩⟩
  have a2 := a1.step e2 r2
  split at p2
  · rename_i hc
    have er : EnvR G z2 ((env.set i (.val d1)).set j (.val d2)) ((σ.set i (some v1)).set j (some v2)) := ((EnvX.set (vs := []) ((a2.er.open_ [i, j]).set (rv1.ext e2 r1.wf)) rv2)).done
    exact p2 z2 _ a2.ex (Keep.refl _) r2 er (Inn.set _ _ _ _ _ _ (Inn.set _ _ _ _ _ _ (a2.inn.open_ [i, j])))
  · exact p2.elim
/-- x = [a, ..], a list that the frame alone holds -/
theorem s_own (c : InS G X N sc k W lb) {i : Nat} {x : Str} {es : List Expr} {ms : MEs} {px lp pos : Pos} (hi : N[i]? = some x) (hl : locS sc x = true) (h : PA X es (tAof G T W ms)) : PS X (.Assign [.Name x px] (.List es lp) pos) (stOf G T W (.own i ms)) := by
  refine psImp (ps_set (by rw [c.hN]; exact c.nd) (by rw [c.hN]; exact hi) (c.loc x hl).1 (pe_lst h) (sw_plain rfl _ _ _) (c.loc x hl).2) fun D σ H q => ?_
  obtain ⟨b, z, env, st, rfl, a, q⟩ := q
  simp only [execS] at q
  refine ⟨z, env, st, rfl, a.rel, a.er, (PostS.so q a.ex a.rel.wf).imp fun ds st1 z1 e1 r1 p1 vs rs => ?_⟩
  have a1 := a.step e1 r1
  split at p1
  · rename_i hc
    refine ⟨by rw [rs.len, ← big_eq]; exact hc.1, fun p np => ?_⟩
    have np0 : Free b.z.H p := a1.ex.gr p (Free.none np)
    refine p1 (z1.put p (.lst vs)) _ (a1.ex.putF np0) (Keep.put (r1.notF np)) (r1.put0 np) (a1.er.newO r1 np ?_ hc.2) (a1.inn.newO np0 (by rw [← a1.er.len]; exact hc.2) (by simp))
    exact ⟨p, vs, rfl, upd_same, Rs.keep (Keep.put (r1.notF np)) _ _ rs, r1.notF np, r1.notIn np⟩
  · exact p1.elim
theorem own_at {b : Bs} {z : Z} {env : Env} {st : Store} {σ : St} {i : Nat} {ds : List D} (a : At G b z env st σ) (e : env[i]? = some (.own ds)) : ∃ p vs, σ[i]? = some (some (.ref p)) ∧ z.H p = some (.lst vs) ∧ Rs G z ds vs ∧ ¬ z.F p ∧ p ∉ z.io ∧ Free b.z.H p := by
  obtain ⟨p, vs, q1, q2, r, f, m⟩ := a.er.at_ i _ e
  exact ⟨p, vs, q1, q2, r, f, m, a.inn.new i _ p (by simp) e rfl q1⟩
theorem few1 {cpos : Pos} {e : Expr} {env : PySem.Env} (hp : plainE e = true) : ((backTo cpos (starEach [e] env)).all (fun x => !x.1) && (backToKw cpos (keywordEach [] env)).all (fun x => x.1.isSome) && decide ([e].length + ([] : List Keyword).length + (if ([] : List Keyword).isEmpty then 0 else 1) < 30)) = true := by
  rw [star_of hp]
  rfl
theorem s_app (c : InS G X N sc k W lb) {i : Nat} {x y : Str} {e : Expr} {m : ME} {px apos cpos pos : Pos} (hy : y = "append") (hi : N[i]? = some x) (h2 : visS sc x = true) (h3 : okN x = true) (h : PE X e (tOf G T W m)) (hp : plainE e = true) (hline : (apos.endLine == cpos.line) = true) :
    PS X (.Expr (.Call (.Attribute (.Name x px) y apos) [e] [] cpos) pos) (stOf G T W (.app i m)) := by
  subst hy
  refine psImp (ps_expr (pe_bm PySem.F.plainAttrs_list PySem.F.slot_list_append PySem.F.type_list_append mt_append (pe_var (i := i) (by rw [c.hN]; exact hi) (by rw [c.hsc]; exact visS_ok h2) (okN_dbg h3) (okN_cd h3)) (pa_cons h pa_nil (star_of hp _ _)) rfl (few1 hp) hline (star_of hp _ _) rfl) rfl) fun D σ H q => ?_
  obtain ⟨b, z, env, st, rfl, a, q⟩ := q
  simp only [execS] at q
  split at q
  · rename_i ds he
    obtain ⟨p, vs, e1, e2, rs, nf, ni, np⟩ := own_at a he
    refine ⟨.ref p, e1, .inl ⟨rfl, vs, SqL.of e2⟩, z, env, st, rfl, a.rel, a.er, (PostS.so q a.ex a.rel.wf).imp fun d st1 z1 x1 r1 p1 v rv => ?_⟩
    have a1 := a.step x1 r1
    have al : Alone z p := ⟨⟨_, e2, rfl⟩, nf, ni⟩
    have al1 := al.ext x1
    split at p1
    · rename_i hc
      refine ⟨p, vs, v, rfl, rfl, al1.2 _ e2, by rw [rs.len, ← big_eq]; exact hc, ?_⟩
      refine p1 (z1.put p (.lst (vs ++ [v]))) σ (a1.ex.putF np) (Keep.put al1.1.nf) (r1.put al1.1) (a1.er.putO he rfl e1 al1.1.nf al1.1.ni rfl ?_) (a1.inn.putO he rfl (by simp))
      exact ⟨p, vs ++ [v], e1, upd_same, Rs.keep (Keep.put al1.1.nf) _ _ ((rs.ext x1 a.rel.wf).app (Rs.mk _ _ rv (Rs.nil.mpr rfl))), al1.1.nf, al1.1.ni⟩
    · exact p1.elim
  · exact q.elim
theorem s_ext (c : InS G X N sc k W lb) {i : Nat} {x y : Str} {e : Expr} {m : ME} {px apos cpos pos : Pos} (hy : y = "extend") (hi : N[i]? = some x) (h2 : visS sc x = true) (h3 : okN x = true) (h : PE X e (tOf G T W m)) (hp : plainE e = true) (hline : (apos.endLine == cpos.line) = true) :
    PS X (.Expr (.Call (.Attribute (.Name x px) y apos) [e] [] cpos) pos) (stOf G T W (.ext i m)) := by
  subst hy
  refine psImp (ps_expr (pe_bm PySem.F.plainAttrs_list PySem.F.slot_list_extend PySem.F.type_list_extend mt_extend (pe_var (i := i) (by rw [c.hN]; exact hi) (by rw [c.hsc]; exact visS_ok h2) (okN_dbg h3) (okN_cd h3)) (pa_cons h pa_nil (star_of hp _ _)) rfl (few1 hp) hline (star_of hp _ _) rfl) rfl) fun D σ H q => ?_
  obtain ⟨b, z, env, st, rfl, a, q⟩ := q
  simp only [execS] at q
  split at q
  · rename_i ds he
    obtain ⟨p, vs, e1, e2, rs, nf, ni, np⟩ := own_at a he
    refine ⟨.ref p, e1, .inl ⟨rfl, vs, SqL.of e2⟩, z, env, st, rfl, a.rel, a.er, (PostS.so q a.ex a.rel.wf).imp fun d st1 z1 x1 r1 p1 v rv => ?_⟩
    have a1 := a.step x1 r1
    have al : Alone z p := ⟨⟨_, e2, rfl⟩, nf, ni⟩
    have al1 := al.ext x1
    cases d <;> simp only [] at p1 <;> try exact p1.elim
    rename_i es
    simp only [R] at rv
    obtain ⟨w, ws, rfl, ⟨hw, hH⟩, rw'⟩ := rv
    split at p1
    · rename_i hc
      refine ⟨p, w, vs, ws, rfl, rfl, al1.2 _ e2, hH, by rw [rs.len, rw'.len, ← big_eq]; exact hc, ?_⟩
      refine p1 (z1.put p (.lst (vs ++ ws))) σ (a1.ex.putF np) (Keep.put al1.1.nf) (r1.put al1.1) (a1.er.putO he rfl e1 al1.1.nf al1.1.ni rfl ?_) (a1.inn.putO he rfl (by simp))
      exact ⟨p, vs ++ ws, e1, upd_same, Rs.keep (Keep.put al1.1.nf) _ _ ((rs.ext x1 a.rel.wf).app rw'), al1.1.nf, al1.1.ni⟩
    · exact p1.elim
  · exact q.elim
theorem s_if {cc : Expr} {ba bb : List Stmt} {m : ME} {ma mb : MSs} {pos : Pos} (hc : PT X cc (tTof G T W m)) (ha : PSs X ba (sstOf G T W ma)) (hb : PSs X bb (sstOf G T W mb)) : PS X (.If cc ba bb pos) (stOf G T W (.if_ m ma mb)) := by
  refine psImp (ps_if hc ha hb) fun D σ H q => ?_
  obtain ⟨b, z, env, st, rfl, a, q⟩ := q
  simp only [execS] at q
  refine ⟨z, env, st, rfl, a.rel, a.er, (PostS.so q a.ex a.rel.wf).imp fun d st1 z1 x1 r1 p1 => ?_⟩
  have a1 := a.step x1 r1
  cases d <;> try exact p1.elim
  rename_i t
  refine ⟨t, rfl, ?_⟩
  cases t with
  | true => simp only [if_true]; exact ⟨b, z1, env, st1, rfl, a1, p1⟩
  | false => simp only [Bool.false_eq_true, if_false]; exact ⟨b, z1, env, st1, rfl, a1, p1⟩
theorem s_ret {e : Expr} {m : ME} {pos : Pos} (h : PE X e (tOf G T W m)) : PS X (.Return (some e) pos) (stOf G T W (.ret m)) := by
  refine psImp (ps_ret h) fun D σ H q => ?_
  obtain ⟨b, z, env, st, rfl, a, q⟩ := q
  simp only [execS] at q
  obtain ⟨f1, f2, f3⟩ := a.freeze
  refine ⟨z.fixes env σ, env.map freezeS, st, rfl, f2, f3, ?_⟩
  cases ho : evalE G.pg T m (env.map freezeS) st with
  | ok d st1 =>
    rw [ho] at q
    exact fun z' e' r' v rv => q z' v (f1.trans e') r' rv
  | exc x st1 =>
    rw [ho] at q
    exact fun z' cls dd e' r' xr => q z' cls dd σ (f1.trans e') r' xr
  | bad => rw [ho] at q; exact q.elim
theorem s_retN {pos : Pos} : PS X (.Return none pos) (stOf G T W (.ret (.lit .non))) := by
  refine psImp ps_retN fun D σ H q => ?_
  obtain ⟨b, z, env, st, rfl, a, q⟩ := q
  simp only [execS, evalE, Out.so_ok] at q
  exact q z .non a.ex a.rel (R.non.mpr rfl)
theorem s_cont {pos : Pos} : PS X (.Continue pos) (stOf G T W .cont) := by
  refine psImp ps_continue fun D σ H q => ?_
  obtain ⟨b, z, env, st, rfl, a, q⟩ := q
  simp only [execS] at q
  exact q z σ a.ex (Keep.refl _) a.rel a.er a.inn
theorem s_pass {pos : Pos} : PS X (.Pass pos) (stOf G T W .pass) := by
  refine psImp ps_pass fun D σ H q => ?_
  obtain ⟨b, z, env, st, rfl, a, q⟩ := q
  simp only [execS] at q
  exact q z σ a.ex (Keep.refl _) a.rel a.er a.inn
theorem ss_nil : PSs X [] (sstOf G T W .nil) := by
  refine pssImp pss_nil fun D σ H q => ?_
  obtain ⟨b, z, env, st, rfl, a, q⟩ := q
  simp only [execSs] at q
  exact q z σ a.ex (Keep.refl _) a.rel a.er a.inn
theorem ss_cons {s : Stmt} {r : List Stmt} {m : MS} {ms : MSs} (h1 : PS X s (stOf G T W m)) (h2 : PSs X r (sstOf G T W ms)) : PSs X (s :: r) (sstOf G T W (.cons m ms)) := by
  refine pssImp (pss_cons h1 h2) fun D σ H q => ?_
  obtain ⟨b, z, env, st, rfl, a, q⟩ := q
  refine ⟨b, z, env, st, rfl, a, ?_⟩
  unfold execSs at q
  cases ho : execS G.pg T m env st with
  | next env' st' =>
    rw [ho] at q
    exact fun z' σ' e' k' r' er' nn' => ⟨b, z', env', st', rfl, ⟨e', r', er', nn'⟩, PostS.later q k'⟩
  | cont env' st' => rw [ho] at q; exact q
  | ret d st' => rw [ho] at q; exact q
  | exc e st' => rw [ho] at q; exact q
  | bad => rw [ho] at q; exact q
end
end Fw

set_option Elab.async false
set_option linter.all false
set_option maxRecDepth 100000
set_option autoImplicit false
set_option maxHeartbeats 1000000
/-! Fw120: C(e, ..) of an exception's class with an own __init__: the new object's context is None. -/
namespace Fw
open PySem PySem.Spec PyProof.Rows L2
theorem pmk_oexN {X : Cx} {CX : CXT} {x : Str} {e : Expr} {es : List Expr} {ta : TA} {p pos : Pos} {C fI : Addr} {k : Nat} {fd : FuncData} {ps : List Str} {sp : Sp}
    (T : OexC X.K C) (iC : PySem.W.findIn X.K (.ref C) "__init__" = some (some (.ref fI))) (tI : PySem.W.typeIn X.K (.ref fI) = some (.type "function")) (F1 : FnOk X.prog X.w X.K X.mg X.base CX k fI fd ps sp) (hr : Room (k + 1) X.A)
    (hb : L2.Binds X.K fd ps []) (hx : Passes CX X (fun _ _ _ => False)) (hg : Gl X x) (hm : X.mg x = some (.ref C)) (ha : PA X (e :: es) ta) (hdb : (x == ("__debug__" : Str)) = false)
    (he : starEach (e :: es) X.env = (false, eval e X.env) :: starEach es X.env) (hpl : (backTo pos (starEach es X.env)).any (·.1) = false) : L2N.PMk X (.Call (.Name x p) (e :: es) [] pos) (tMkO C sp [] ta) := by
  intro pins s σ H Q I h
  obtain ⟨_, _, _, _, bm, _, _, _, _, _, _, _, _, _, _, hC, hbm⟩ := T.cls
  refine wpAny_Call_Name_kw (ld_glob I hg hm ?_ hdb)
  refine PySem.W.callWith_K (h₀ := X.base) I.ok.mod.kin T.kC (thn (ha.run pos pins s σ H _ I h) fun us s1 hus => ?_) he hpl
  obtain ⟨vs, H1, I1, r1, hz, q1⟩ := hus
  refine ⟨I1.kIn, ?_⟩
  show wpAny _ _ (call (.ref C) us) _ _ _
  obtain ⟨hp, gn, dr, tk, os⟩ := s1
  obtain ⟨n, hn⟩ : ∃ n, n = hp.objs.size := ⟨_, rfl⟩
  obtain ⟨hq, hhq⟩ : ∃ hq : Heap, hq = (hp.push (PySem.W.kdv_tup us)).push (PySem.HandSPX.excO C n) := ⟨_, rfl⟩
  have size : n ≤ n + 1 := Nat.le_succ n
  have none1 : H1 (n + 1) = none := I1.hok.fresh (by show hp.objs.size ≤ n + 1; omega)
  have want := q1 (n + 1) none1
  rw [List.append_nil] at want
  have keep : ∀ b o, hp.get? b = some o → hq.get? b = some o := fun b o g => by rw [hhq]; exact Heap.get?_push_of_some _ (Heap.get?_push_of_some _ g)
  have get : hq.get? (n + 1) = some (PySem.HandSPX.excO C n) := by rw [hhq, hn]; heap_get
  have I2 : L2.Inv X pins σ (upd H1 (n + 1) (exo (n + 1) C none)) ⟨hq, gn, dr, tk, os⟩ := I1.laid (t' := tk) (a := n + 1) (o := exo (n + 1) C none) (h' := hq) keep (by show hp.objs.size ≤ n + 1; omega) (exo_ok get)
  have r2 : Vals (V.ref (n + 1) :: vs) (Value.ref (n + 1) :: us) := .cons rfl r1
  have len : (Value.ref (n + 1) :: us ++ []).length = ps.length := by
    rw [List.append_nil, ← r2.length]; exact F1.len _ _ _ _ want
  have few : us.length ≤ sizeLine := by rw [← Paired.length r1, sizeLine_eq]; omega
  have bnd := hb _ (Value.ref (n + 1) :: us) I2.kIn len
  rw [List.append_nil] at bnd
  have made := F1.run _ X.stack _ _ ⟨Value.ref (n + 1) :: us, []⟩ (Value.ref (n + 1) :: us) _ _ (fun _ _ _ => False) (hr.make C us []) (I2.env0.make C us []) bnd r2 want
  subst hn hhq
  refine wpAny_call (PySem.HandSPX.call_own F.excBase_ValueError (fun Y => PySem.HandSPX.refsVE_contains Y bm hbm) (I1.kIn _ _ hC) (PySem.W.looks_findIn I1.kIn iC) (fun self => PySem.W.bind_fn I1.kIn self tI) few (codeAny_mono made fun r s' hr' => ?_))
  cases r with
  | error er => exact hx pins σ _ _ er s' I2 hr'
  | ok fl =>
    cases fl with
    | next => exact hr'.elim
    | brk => exact hr'.elim
    | cont => exact hr'.elim
    | ret u =>
      obtain ⟨v, H2, os2, bare2, un2, hok2, rv, rfl, d, fs, ea, ed, hd1, q2⟩ := hr'
      obtain ⟨h2, g2, d2, t2, os'⟩ := s'
      obtain ⟨t0, Gh, J, kG, ge, hoe, na⟩ := mk_end0 (d2 := d2) (t2 := t2) I1 size keep un2 hok2 os2 bare2 ea ed hd1
      refine ⟨rv, _, _, _, ⟨Gh, g2, d2, t2, os'⟩, _, .ref C, some d, rfl, J, kG, ge, hoe, ⟨rfl, rfl, fun ws hw => ?_⟩, rfl, rfl, na, rfl, bare2, raises_own T.exC T.tyC, q2⟩
      cases hw
      rfl
end Fw

set_option Elab.async false
set_option linter.all false
set_option maxRecDepth 100000
set_option autoImplicit false
set_option maxHeartbeats 1000000
/-! Fw121: raise. -/
namespace Fw
open PySem PySem.Spec PyProof.Rows L2
section
variable {G : Gd} {nm : Nm} {X : Cx} {N : List Str} {sc : Scope} {k : Nat} {W : WX} {lb : Bool}
theorem s_raise0 (S : Static G nm) (c : InS G X N sc k W lb) {cl : Nat} {kx : MExc} {x m : Str} {t : Txt} {j : Nat} {p p2 pos' pos : Pos} (hk : G.pg.excs[cl]? = some kx) (hw : kx.word = false) (hx : nm.excs[cl]? = some x) (hg : glS sc x = true) (hn : okN x = true) :
    PS X (.Raise (some (.Call (.Name x p) [.Constant (.str m) j p2] [] pos')) none pos) (stOf G (tabs G.pg k) W (.raise cl (.cons (.lit (.str t)) .nil))) := by
  obtain ⟨h1, h2, h3, h4, h5⟩ := S.exc0 cl kx x hk hx
  refine psImp (L2N.ps_raise c.calm c.tk.toE (L2N.pmk_own (C := G.eA cl) PySem.F.excBase_ValueError (by rw [c.K]; exact h5 hw) (by rw [c.mg]; exact h1) (by rw [c.K]; exact h2) (raises_own (by rw [c.K]; exact h3) (by rw [c.K]; exact h4)) (gl_of c.toIn hg) (okN_dbg hn))) fun D σ H q => ?_
  obtain ⟨b, z, env, st, rfl, a, q⟩ := q
  simp only [execS] at q
  split at q
  · simp only [evalEs, evalE, Out.bind_ok, Out.so_ok, hk, hw, Bool.false_eq_true, if_false] at q
    exact q z _ none σ a.ex a.rel ⟨rfl, rfl⟩
  · exact q.elim
theorem s_raiseW (S : Static G nm) (c : InS G X N sc k W lb) {cl : Nat} {kx : MExc} {x : Str} {e : Expr} {m : ME} {p pos' pos : Pos} (hk : G.pg.excs[cl]? = some kx) (hw : kx.word = true) (hx : nm.excs[cl]? = some x) (hg : glS sc x = true) (hn : okN x = true)
    (he : PE X e (tOf G (tabs G.pg k) W m)) (hp : plainE e = true) : PS X (.Raise (some (.Call (.Name x p) [e] [] pos')) none pos) (stOf G (tabs G.pg k) W (.raise cl (.cons m .nil))) := by
  obtain ⟨h1, h2, h3, h4, _⟩ := S.exc0 cl kx x hk hx
  obtain ⟨T0, fI, fd, ps, f1, f2, f3, f4⟩ := S.excW cl kx hk hw
  by_cases h2k : 2 ≤ k
  rotate_left
  · refine psImp ps_never fun D σ H q => ?_
    obtain ⟨b, z, env, st, rfl, a, q⟩ := q
    match k, h2k with
    | 0, _ => simp only [execS, tabs] at q; exact q.elim
    | 1, _ => simp only [execS, tabs] at q; exact q.elim
    | k + 2, h => exact absurd (by omega) h
  have F := fn_cast c.toIn f4
  refine psImp (L2N.ps_raise c.calm c.tk.toE (pmk_oexN (C := G.eA cl) (fI := fI) (by rw [c.K]; exact T0) (by rw [c.K]; exact f1) (by rw [c.K]; exact f2) F (c.rm.mono h2k) (by rw [c.K]; exact f3) passN (gl_of c.toIn hg) (by rw [c.mg]; exact h1) (a_cons he a_nil hp) (okN_dbg hn) (star_of hp _ _) rfl)) fun D σ H q => ?_
  obtain ⟨b, z, env, st, rfl, a, q⟩ := q
  simp only [execS] at q
  split at q
  · refine ⟨z, env, st, rfl, a.rel, a.er, (PostS.so q a.ex a.rel.wf).imp fun ds st1 z1 e1 r1 p1 vs rs => ?_⟩
    have a1 := a.step e1 r1
    simp only [hk] at p1
    cases ds with
    | nil => exact p1.elim
    | cons d r =>
      cases r with
      | cons _ _ => exact p1.elim
      | nil =>
        simp only [hw, if_true] at p1
        obtain ⟨v, rfl, rv⟩ := rs.one
        refine ⟨by show 1 ≤ 1000; decide, fun x0 hx0 => ⟨x0, v, rfl, upd_same, fun d0 hd0 hne => ⟨rfl, d0, [(("word" : Str), v)], upd_same, ?_, ?_, ?_⟩⟩⟩
        · rw [upd_ne hne, upd_same]
        · rw [upd_ne hne] at hd0
          exact hd0
        · rw [upd_ne hne] at hd0
          have eH : upd (del (upd (upd (upd z1.H x0 (exo x0 (G.eA cl) none)) d0 (exd d0 [(("word" : Str), v)])) x0 (exo x0 (G.eA cl) (some d0))) x0) d0 (.xd [(("word" : Str), v)]) = (z1.new d0 (.xd [(("word" : Str), v)])).H := by
            funext b0
            show _ = upd z1.H d0 _ b0
            by_cases q1 : b0 = d0
            · subst q1; rw [upd_same, upd_same]
            · rw [upd_ne q1, upd_ne q1]
              by_cases q2 : b0 = x0
              · subst q2; rw [del_same, hx0]
              · rw [del_ne q2, upd_ne q2, upd_ne q1, upd_ne q2]
          rw [eH]
          have ex : Ext z1 (z1.new d0 (.xd [(("word" : Str), v)])) := Ext.new hd0
          exact p1 _ _ _ σ (a1.ex.trans ex) (r1.new hd0 (by simp)) ⟨rfl, d0, v, rfl, z1.new_at d0 _, rv.ext ex r1.wf⟩
  · exact q.elim
end
end Fw

set_option Elab.async false
set_option linter.all false
set_option maxRecDepth 100000
set_option autoImplicit false
set_option maxHeartbeats 1000000
/-! Fw122: cells: a list that more than one frame may know. -/
namespace Fw
open PySem PySem.Spec PyProof.Rows L2
section
variable {G : Gd} {nm : Nm} {X : Cx} {N : List Str} {sc : Scope} {k : Nat} {W : WX} {lb : Bool} {T : List FT}
/-- a cell written -/
theorem Ext.cput {z0 z : Z} (e : Ext z0 z) {a : Addr} {o : HO} (ha : a ∈ z.io) (no : ∀ ps, o ≠ .tbl ps) : Ext z0 (z.put a o) := by
  obtain ⟨m, em, nm⟩ := e.c
  refine ⟨e.f, fun b u q n t => ?_, e.c, e.nf, fun b q => ?_⟩
  · have ne : b ≠ a := fun h => by
      subst h
      rw [em] at ha
      rcases List.mem_append.mp ha with h | h
      · exact n h
      · obtain ⟨ps, z⟩ := nm b h u q
        exact t ps z
    show upd z.H a o b = some u
    rw [upd_ne ne]
    exact e.h b u q n t
  · by_cases c : b = a
    · subst c
      obtain ⟨ps, z⟩ := q o upd_same
      exact absurd z (no ps)
    · exact e.gr b fun u e' => q u (by show upd z.H a o b = some u; rw [upd_ne c]; exact e')
theorem EnvR.cput {z : Z} {env : Env} {σ : St} {a : Addr} {o : HO} (er : EnvR G z env σ) (w : Wf z) (ha : a ∈ z.io) : EnvR G (z.put a o) env σ := by
  have nf := w.cf a ha
  have k : Keep z (z.put a o) := Keep.put nf
  have get : ∀ b, b ∉ z.io → (z.put a o).H b = z.H b := fun b n => upd_ne fun e => n (by rw [e]; exact ha)
  refine ⟨er.len, fun i s e => ?_, er.apart⟩
  have q := er.at_ i s e
  cases s with
  | un => trivial
  | val d =>
    obtain ⟨v, q1, r⟩ := q
    exact ⟨v, q1, R.keep k _ _ r⟩
  | own ds =>
    obtain ⟨c, vs, q1, q2, r, f, m⟩ := q
    exact ⟨c, vs, q1, by rw [get c m]; exact q2, Rs.keep k _ _ r, f, m⟩
  | ownD kvs =>
    obtain ⟨c, vs, q1, q2, r, f, m⟩ := q
    exact ⟨c, vs, q1, by rw [get c m]; exact q2, RK.keep k _ _ r, f, m⟩
  | self cl fs =>
    obtain ⟨c, dx, vs, kl, q1, hk, q2, hl, r, f, m⟩ := q
    exact ⟨c, dx, vs, kl, q1, hk, by rw [get c m]; exact q2, hl, Rs.keep k _ _ r, f, m⟩
theorem Rel.cput {z : Z} {st : Store} (r : Rel G z st) {a : Addr} {o : HO} {j : Nat} {cl : Cell} (ha : z.io[j]? = some a) (hp : ∀ u, z.H a = some u → plainO u = true) (no : ∀ ps, o ≠ .tbl ps) (h : CellAt G (z.put a o) a cl) : Rel G (z.put a o) (st.set j cl) := by
  have hm : a ∈ z.io := List.mem_of_getElem? ha
  have nf := r.wf.cf a hm
  have k : Keep z (z.put a o) := Keep.put nf
  refine ⟨⟨r.wf.cf, r.wf.nd, fun b f => ?_⟩, r.tab.upd hp no, by rw [List.length_set]; exact r.len, fun i c hc => ?_⟩
  · obtain ⟨u, e, t⟩ := r.wf.ft b f
    exact ⟨u, by show upd z.H a o b = some u; rw [upd_ne fun q => nf (by rw [← q]; exact f)]; exact e, t⟩
  · rcases set_look hc with ⟨rfl, rfl⟩ | ⟨hi, hc⟩
    · exact ⟨a, ha, h⟩
    · obtain ⟨b, hb, q⟩ := r.at_ i c hc
      have ne : b ≠ a := fun e => by
        subst e
        obtain ⟨i1, e1⟩ := List.getElem?_eq_some_iff.mp ha
        obtain ⟨i2, e2⟩ := List.getElem?_eq_some_iff.mp hb
        exact hi ((List.getElem_inj r.wf.nd).mp (e2.trans e1.symm))
      exact ⟨b, hb, CellAt.keep k (fun u e => by show upd z.H a o b = some u; rw [upd_ne ne]; exact e) q⟩
theorem s_newCell (c : InS G X N sc k W lb) {i : Nat} {x : Str} {px lp pos : Pos} (hi : N[i]? = some x) (hl : locS sc x = true) : PS X (.Assign [.Name x px] (.List [] lp) pos) (stOf G T W (.newCell i)) := by
  refine psImp (ps_set (by rw [c.hN]; exact c.nd) (by rw [c.hN]; exact hi) (c.loc x hl).1 (pe_lst pa_nil) (sw_plain rfl _ _ _) (c.loc x hl).2) fun D σ H q => ?_
  obtain ⟨b, z, env, st, rfl, a, q⟩ := q
  simp only [execS] at q
  split at q
  · rename_i hlt
    refine ⟨Nat.zero_le _, fun p np => ?_⟩
    have np0 : Free b.z.H p := a.ex.gr p (Free.none np)
    have al : Alone (z.put p (.lst [])) p := Alone.new a.rel np rfl
    have e1 : Ext z ((z.put p (.lst [])).cell p) := ((Ext.refl z).put np).cell np
    have rel' : Rel G ((z.put p (.lst [])).cell p) (st ++ [.lst []]) := (a.rel.put0 np).cell al ⟨[], upd_same, Rs.nil.mpr rfl⟩
    have er1 := a.er.ext e1 a.rel.wf
    refine q _ _ (a.ex.trans e1) (e1.keep a.rel.wf) rel' ((er1.open_ [i]).set ?_).done (Inn.set _ _ _ _ _ _ (a.inn.open_ [i]))
    simp only [R]
    refine ⟨p, ?_, rfl⟩
    show (z.io ++ [p])[st.length]? = some p
    rw [← a.rel.len]
    simp
  · exact q.elim
theorem s_appC (c : InS G X N sc k W lb) {i : Nat} {x y : Str} {e : Expr} {m : ME} {px apos cpos pos : Pos} (hy : y = "append") (hi : N[i]? = some x) (h2 : visS sc x = true) (h3 : okN x = true) (h : PE X e (tOf G T W m)) (hp : plainE e = true) (hline : (apos.endLine == cpos.line) = true) :
    PS X (.Expr (.Call (.Attribute (.Name x px) y apos) [e] [] cpos) pos) (stOf G T W (.appC i m)) := by
  subst hy
  refine psImp (ps_expr (pe_bm PySem.F.plainAttrs_list PySem.F.slot_list_append PySem.F.type_list_append mt_append (pe_var (i := i) (by rw [c.hN]; exact hi) (by rw [c.hsc]; exact visS_ok h2) (okN_dbg h3) (okN_cd h3)) (pa_cons h pa_nil (star_of hp _ _)) rfl (few1 hp) hline (star_of hp _ _) rfl) rfl) fun D σ H q => ?_
  obtain ⟨b, z, env, st, rfl, a, q⟩ := q
  simp only [execS] at q
  split at q
  · rename_i j he
    split at q
    rotate_left
    · exact q.elim
    rename_i ds0 hst0
    obtain ⟨v0, hσ, rv0⟩ := a.er.var he
    simp only [R] at rv0
    obtain ⟨p, hp0, rfl⟩ := rv0
    obtain ⟨p', hp', vs0, hH0, _⟩ := a.rel.at_ j _ hst0
    rw [hp0] at hp'; cases hp'
    refine ⟨.ref p, hσ, .inl ⟨rfl, vs0, SqL.of hH0⟩, z, env, st, rfl, a.rel, a.er, (PostS.so q a.ex a.rel.wf).imp fun d st1 z1 x1 r1 p1 v rv => ?_⟩
    have a1 := a.step x1 r1
    have hp1 : z1.io[j]? = some p := (x1.keep a.rel.wf).c j p hp0
    split at p1
    · rename_i ds hst
      obtain ⟨p', hp', vs, hH, rs⟩ := r1.at_ j _ hst
      rw [hp1] at hp'; cases hp'
      split at p1
      · rename_i hc
        have hm : p ∈ z1.io := List.mem_of_getElem? hp1
        have kp : Keep z1 (z1.put p (.lst (vs ++ [v]))) := Keep.put (r1.wf.cf p hm)
        refine ⟨p, vs, v, rfl, rfl, hH, by rw [rs.len, ← big_eq]; exact hc, ?_⟩
        refine p1 (z1.put p (.lst (vs ++ [v]))) σ (a1.ex.cput hm (by simp)) kp (r1.cput hp1 (fun u e => by rw [hH] at e; cases e; rfl) (by simp) ⟨vs ++ [v], upd_same, Rs.keep kp _ _ (rs.app (Rs.mk _ _ rv (Rs.nil.mpr rfl)))⟩) (a1.er.cput r1.wf hm) a1.inn
      · exact p1.elim
    · exact p1.elim
  · exact q.elim
end
end Fw

set_option Elab.async false
set_option linter.all false
set_option maxRecDepth 100000
set_option autoImplicit false
set_option maxHeartbeats 1000000
/-! Fw124: dicts of a frame's own: laid, written, frozen. -/
namespace Fw
open PySem PySem.Spec PyProof.Rows L2
section
variable {G : Gd} {nm : Nm} {X : Cx} {N : List Str} {sc : Scope} {k : Nat} {W : WX} {lb : Bool} {T : List FT}
theorem kOf_iff {a b : Txt} : kOf a = kOf b ↔ a = b := ⟨kOf_inj, fun e => by rw [e]⟩
theorem RK.any {z : Z} {k : Txt} : ∀ {kvs : List (Txt × D)} {ws : List (Key × V)}, RK G z kvs ws → (ws.any fun kv => decide (kv.1 = kOf k)) = kvs.any fun p => decide (p.1 = k)
  | [], ws, h => by simp only [RK] at h; rw [h]; rfl
  | (x, d) :: r, ws, h => by
    simp only [RK] at h
    obtain ⟨v, w, rfl, ok, h1, h2⟩ := h
    simp only [List.any_cons, RK.any h2, kOf_iff]
theorem RK.map {z : Z} {k : Txt} {d : D} {v : V} (r : R G z d v) : ∀ {kvs : List (Txt × D)} {ws : List (Key × V)}, RK G z kvs ws → RK G z (kvs.map fun p => if p.1 = k then (p.1, d) else p) (ws.map fun kv => if kv.1 = kOf k then (kv.1, v) else kv)
  | [], ws, h => by simp only [RK] at h; rw [h]; simp [RK]
  | (x, e) :: l, ws, h => by
    simp only [RK] at h
    obtain ⟨u, w, rfl, ok, h1, h2⟩ := h
    simp only [List.map_cons, kOf_iff]
    by_cases c : x = k
    · simp only [c, if_true, RK]
      exact ⟨v, _, rfl, by rw [← c]; exact ok, r, RK.map r h2⟩
    · simp only [c, if_false, RK]
      exact ⟨u, _, rfl, ok, h1, RK.map r h2⟩
theorem RK.snoc {z : Z} {k : Txt} {d : D} {v : V} (r : R G z d v) (ok : okT k = true) : ∀ {kvs : List (Txt × D)} {ws : List (Key × V)}, RK G z kvs ws → RK G z (kvs ++ [(k, d)]) (ws ++ [(kOf k, v)])
  | [], ws, h => by
    simp only [RK] at h
    rw [h]
    simp only [List.nil_append, RK]
    exact ⟨v, [], rfl, ok, r, rfl⟩
  | (x, e) :: l, ws, h => by
    simp only [RK] at h
    obtain ⟨u, w, rfl, ok1, h1, h2⟩ := h
    simp only [List.cons_append, RK]
    exact ⟨u, _, rfl, ok1, h1, RK.snoc r ok h2⟩
theorem RK.put {z : Z} {k : Txt} {d : D} {v : V} {kvs : List (Txt × D)} {ws : List (Key × V)} (h : RK G z kvs ws) (r : R G z d v) (ok : okT k = true) : RK G z (putT k d kvs) (putK ws (kOf k) v) := by
  unfold putT putK
  rw [h.any]
  split
  · exact h.map r
  · exact h.snoc r ok
/-- x = {..} -/
theorem s_ownD (c : InS G X N sc k W lb) {i : Nat} {x : Str} {ks : List Txt} {ms : MEs} {keys : List (Option Expr)} {es : List Expr} {px pos pos2 : Pos} (hi : N[i]? = some x) (hl : locS sc x = true) (h : PPs X pos keys es (pairTs G T W ks ms)) (hs : keys.all (·.isSome) = true) (hlen : keys.length = es.length) (hn : keys ≠ []) (h15 : keys.length ≤ 15)
    (hm : mesLen ms = ks.length) (ok : ks.all okT = true) : PS X (.Assign [.Name x px] (.Dict keys es pos) pos2) (stOf G T W (.ownD i ks ms)) := by
  refine psImp (ps_set (by rw [c.hN]; exact c.nd) (by rw [c.hN]; exact hi) (c.loc x hl).1 (pe_disp h hs hlen hn h15) (sw_plain rfl _ _ _) (c.loc x hl).2) fun D σ H q => ?_
  obtain ⟨b, z, env, st, rfl, a, q⟩ := q
  simp only [execS] at q
  intro p np
  have q' := PostS.so (σ := σ) q a.ex a.rel.wf
  have e0 : Ext z (z.put p (.dK [])) := (Ext.refl z).put np
  have rel0 := a.rel.put0 (o := .dK []) np
  have al0 : Alone (z.put p (.dK [])) p := Alone.new a.rel np rfl
  refine pairs_run hm ⟨z.put p (.dK []), env, st, rfl, rel0, a.er.ext e0 a.rel.wf, (Post.later q' e0).imp fun ds st2 z2 e2 rel2 p2 vs rs => ?_⟩
  obtain ⟨al2, hp⟩ := al0.ext e2
  refine ⟨hp _ upd_same, (ks.map kOf).zip vs, (zip_kV (z := z)).symm, ?_⟩
  split at p2
  · rename_i cc
    obtain ⟨c1, c2, c3, c4⟩ := cc
    have hv : vs.length = ks.length := by rw [rs.len, c1]
    have hk : (((ks.map kOf).zip vs).map (·.1)) = ks.map kOf := zip_keys (by rw [hv, List.length_map])
    refine ⟨by rw [List.length_zip, List.length_map, hv]; omega, ?_⟩
    rw [merge_nil (by rw [hk]; exact nodup_kOf c3)]
    have fp : Free b.z.H p := a.ex.gr p (Free.none np)
    have a2 := a.step (e0.trans e2) rel2
    have er2 : EnvR G (z2.put p (.dK ((ks.map kOf).zip vs))) (env.set i (.ownD (ks.zip ds))) (σ.set i (some (.ref p))) :=
      a.er.newE a.rel np ((e0.trans e2).put np) ⟨p, _, rfl, upd_same, RK.keep (Keep.put al2.nf) _ _ (zip_RK ok rs c1), al2.nf, al2.ni⟩ c4
    refine p2 (z2.put p (.dK ((ks.map kOf).zip vs))) _ (a2.ex.putF fp) (Keep.put al2.nf) (rel2.put al2) er2 (a2.inn.newO fp (by rw [← a2.er.len]; exact c4) (by simp))
  · exact p2.elim
/-- x = {} -/
theorem s_ownD0 (c : InS G X N sc k W lb) {i : Nat} {x : Str} {px pos pos2 : Pos} (hi : N[i]? = some x) (hl : locS sc x = true) : PS X (.Assign [.Name x px] (.Dict [] [] pos) pos2) (stOf G T W (.ownD i [] .nil)) := by
  refine psImp (ps_set (by rw [c.hN]; exact c.nd) (by rw [c.hN]; exact hi) (c.loc x hl).1 pe_dnewK (sw_plain rfl _ _ _) (c.loc x hl).2) fun D σ H q => ?_
  obtain ⟨b, z, env, st, rfl, a, q⟩ := q
  simp only [execS, evalEs, Out.so] at q
  intro p np
  split at q
  · rename_i cc
    have fp : Free b.z.H p := a.ex.gr p (Free.none np)
    refine q (z.put p (.dK [])) _ (a.ex.putF fp) (Keep.put (a.rel.notF np)) (a.rel.put0 np) (a.er.newO a.rel np ?_ cc.2.2.2) (a.inn.newO fp (by rw [← a.er.len]; exact cc.2.2.2) (by simp))
    exact ⟨p, [], rfl, upd_same, by simp [RK], a.rel.notF np, a.rel.notIn np⟩
  · exact q.elim
theorem ownD_at {b : Bs} {z : Z} {env : Env} {st : Store} {σ : St} {i : Nat} {ds : List (Txt × D)} (a : At G b z env st σ) (e : env[i]? = some (.ownD ds)) : ∃ p vs, σ[i]? = some (some (.ref p)) ∧ z.H p = some (.dK vs) ∧ RK G z ds vs ∧ ¬ z.F p ∧ p ∉ z.io ∧ Free b.z.H p := by
  obtain ⟨p, vs, q1, q2, r, f, m⟩ := a.er.at_ i _ e
  exact ⟨p, vs, q1, q2, r, f, m, a.inn.new i _ p (by simp) e rfl q1⟩
/-- x[y] = e -/
theorem s_setD (c : InS G X N sc k W lb) {i : Nat} {x : Str} {e y : Expr} {m mk : ME} {px spos pos : Pos} (hi : N[i]? = some x) (h2 : visS sc x = true) (h3 : okN x = true) (h : PE X e (tOf G T W m)) (hy : PE X y (tOf G T W mk)) (hc : isComp e = false) :
    PS X (.Assign [.Subscript (.Name x px) y spos] e pos) (stOf G T W (.setD i mk m)) := by
  have hv : PE X (.Name x px) (tVar i) := pe_var (by rw [c.hN]; exact hi) (by rw [c.hsc]; exact visS_ok h2) (okN_dbg h3) (okN_cd h3)
  refine psImp (ps_dput (by have := on_units c.toOn; omega) hv hy h (sw_plain hc _ _ _)) fun D σ H q => ?_
  obtain ⟨b, z, env, st, rfl, a, q⟩ := q
  simp only [execS] at q
  split at q
  · rename_i ds he
    obtain ⟨p, vs, e1, e2, rs, nf, ni, np⟩ := ownD_at a he
    have al : Alone z p := ⟨⟨_, e2, rfl⟩, nf, ni⟩
    refine ⟨z, env, st, rfl, a.rel, a.er, (PostS.so q a.ex a.rel.wf).imp fun d st1 z1 x1 r1 p1 v rv => ?_⟩
    have a1 := a.step x1 r1
    refine ⟨.ref p, e1, z1, env, st1, rfl, r1, a1.er, (PostS.so p1 a1.ex r1.wf).imp fun dk st2 z2 x2 r2 p2 vk rk => ?_⟩
    have a2 := a1.step x2 r2
    have al2 := al.ext (x1.trans x2)
    split at p2
    · rename_i t
      split at p2
      · rename_i hlen
        obtain ⟨e3, ok⟩ := R.str.mp rk
        subst e3
        have rs2 : RK G z2 ds vs := RK.keep ((x1.trans x2).keep a.rel.wf) _ _ rs
        refine ⟨p, _, rfl, DPut.k (k := kOf t) (al2.2 _ e2) (by rw [rs2.len, ← big_eq]; exact hlen), ?_⟩
        refine p2 (z2.put p (.dK (putK vs (kOf t) v))) σ (a2.ex.putF np) (Keep.put al2.1.nf) (r2.put al2.1) (a2.er.putO he rfl e1 al2.1.nf al2.1.ni rfl ?_) (a2.inn.putO he rfl (by simp))
        exact ⟨p, _, e1, upd_same, RK.keep (Keep.put al2.1.nf) _ _ (rs2.put (rv.ext x2 r1.wf) ok), al2.1.nf, al2.1.ni⟩
      · exact p2.elim
    · exact p2.elim
  · exact q.elim
theorem set_self {α : Type} {l : List α} {i : Nat} {a : α} (h : l[i]? = some a) : l.set i a = l := by
  obtain ⟨hi, e⟩ := List.getElem?_eq_some_iff.mp h
  rw [← e]; exact List.set_getElem_self hi
/-- an own dict is never written again -/
theorem ss_fix {i : Nat} {ms : MSs} {ss : List Stmt} (h : PSs X ss (sstOf G T W ms)) : PSs X ss (sstOf G T W (.cons (.fixD i) ms)) := by
  refine ⟨fun pins s σ H D I q => ?_⟩
  obtain ⟨b, z, env, st, rfl, a, q⟩ := q
  simp only [execSs, execS] at q
  cases he : env[i]? with
  | none => rw [he] at q; exact q.elim
  | some sl =>
    rw [he] at q
    cases sl with
    | ownD kvs =>
      simp only [] at q
      obtain ⟨p, vs, e1, e2, rk, nf, ni, np⟩ := ownD_at a he
      obtain ⟨od, I1⟩ := I.lock e2 trivial
      have al : Alone z p := ⟨⟨_, e2, rfl⟩, nf, ni⟩
      have al' : Alone (z.put p (.frz od (.dK vs))) p := al.put rfl
      have kp : Keep z ((z.put p (.frz od (.dK vs))).fix p) := (Keep.put nf).trans (Keep.fix _ p)
      have rel' : Rel G ((z.put p (.frz od (.dK vs))).fix p) st := (a.rel.put al).fix al'
      have ex' : Ext b.z ((z.put p (.frz od (.dK vs))).fix p) := (a.ex.putF np).fixF np
      have rd : R G ((z.put p (.frz od (.dK vs))).fix p) (.dic kvs) (.ref p) := by
        simp only [R]
        exact ⟨p, vs, rfl, ⟨.inr rfl, od, upd_same⟩, RK.keep kp _ _ rk⟩
      have ne : ∀ {j : Nat} {s : Slot} {c : Addr}, j ≠ i → env[j]? = some s → s.alone = true → σ[j]? = some (some (.ref c)) → c ≠ p := fun {j s c} hj e hal q hz => by
        rw [hz] at q
        exact hj (a.er.apart j i s _ p e he hal rfl q e1)
      have old : ∀ {c : Addr} {o : HO}, c ≠ p → z.H c = some o → ¬ z.F c → ((z.put p (.frz od (.dK vs))).fix p).H c = some o ∧ ¬ ((z.put p (.frz od (.dK vs))).fix p).F c := fun {c o} n hc nc => by
        refine ⟨?_, fun f => f.elim nc n⟩
        show upd z.H p _ c = some o
        rw [upd_ne n]; exact hc
      have ex : EnvX G ((z.put p (.frz od (.dK vs))).fix p) [i] env σ := by
        refine ⟨a.er.len, fun j s hj e => ?_, fun j l s t c hj hl => a.er.apart j l s t c⟩
        have hj : j ≠ i := by simpa using hj
        have w := a.er.at_ j s e
        cases s with
        | un => trivial
        | val d => obtain ⟨v, q1, r⟩ := w; exact ⟨v, q1, R.keep kp _ _ r⟩
        | own ds =>
          obtain ⟨c, us, q1, q2, r, f, m⟩ := w
          obtain ⟨o1, o2⟩ := old (ne hj e rfl q1) q2 f
          exact ⟨c, us, q1, o1, Rs.keep kp _ _ r, o2, m⟩
        | ownD ds =>
          obtain ⟨c, us, q1, q2, r, f, m⟩ := w
          obtain ⟨o1, o2⟩ := old (ne hj e rfl q1) q2 f
          exact ⟨c, us, q1, o1, RK.keep kp _ _ r, o2, m⟩
        | self cl fs =>
          obtain ⟨c, dx, us, kl, q1, hk, q2, hl, r, f, m⟩ := w
          obtain ⟨o1, o2⟩ := old (ne hj e rfl q1) q2 f
          exact ⟨c, dx, us, kl, q1, hk, o1, hl, Rs.keep kp _ _ r, o2, m⟩
      have er' := (ex.set rd).done
      have in' := Inn.set i [] env σ (.dic kvs) (.ref p) (a.inn.open_ [i])
      rw [set_self e1] at er' in'
      exact h.run pins s σ _ D I1 ⟨b, (z.put p (.frz od (.dK vs))).fix p, env.set i (.val (.dic kvs)), st, rfl, ⟨ex', rel', er', in'⟩, q.later kp⟩
    | un => exact q.elim
    | val d => exact q.elim
    | own ds =>
      simp only [] at q
      obtain ⟨p, vs, e1, e2, rs, nf, ni, np⟩ := own_at a he
      have al : Alone z p := ⟨⟨_, e2, rfl⟩, nf, ni⟩
      have kp : Keep z (z.fix p) := Keep.fix _ p
      have rel' : Rel G (z.fix p) st := a.rel.fix al
      have ex' : Ext b.z (z.fix p) := a.ex.fixF np
      have rd : R G (z.fix p) (.lst ds) (.ref p) := by
        simp only [R]
        exact ⟨p, vs, rfl, ⟨.inr rfl, e2⟩, Rs.keep kp _ _ rs⟩
      have ne : ∀ {j : Nat} {s : Slot} {c : Addr}, j ≠ i → env[j]? = some s → s.alone = true → σ[j]? = some (some (.ref c)) → c ≠ p := fun {j s c} hj e hal q hz => by
        rw [hz] at q
        exact hj (a.er.apart j i s _ p e he hal rfl q e1)
      have old : ∀ {c : Addr} {o : HO}, c ≠ p → z.H c = some o → ¬ z.F c → (z.fix p).H c = some o ∧ ¬ (z.fix p).F c := fun {c o} n hc nc => ⟨hc, fun f => f.elim nc n⟩
      have ex : EnvX G (z.fix p) [i] env σ := by
        refine ⟨a.er.len, fun j s hj e => ?_, fun j l s t c hj hl => a.er.apart j l s t c⟩
        have hj : j ≠ i := by simpa using hj
        have w := a.er.at_ j s e
        cases s with
        | un => trivial
        | val d => obtain ⟨v, q1, r⟩ := w; exact ⟨v, q1, R.keep kp _ _ r⟩
        | own ds =>
          obtain ⟨c, us, q1, q2, r, f, m⟩ := w
          obtain ⟨o1, o2⟩ := old (ne hj e rfl q1) q2 f
          exact ⟨c, us, q1, o1, Rs.keep kp _ _ r, o2, m⟩
        | ownD ds =>
          obtain ⟨c, us, q1, q2, r, f, m⟩ := w
          obtain ⟨o1, o2⟩ := old (ne hj e rfl q1) q2 f
          exact ⟨c, us, q1, o1, RK.keep kp _ _ r, o2, m⟩
        | self cl fs =>
          obtain ⟨c, dx, us, kl, q1, hk, q2, hl, r, f, m⟩ := w
          obtain ⟨o1, o2⟩ := old (ne hj e rfl q1) q2 f
          exact ⟨c, dx, us, kl, q1, hk, o1, hl, Rs.keep kp _ _ r, o2, m⟩
      have er' := (ex.set rd).done
      have in' := Inn.set i [] env σ (.lst ds) (.ref p) (a.inn.open_ [i])
      rw [set_self e1] at er' in'
      exact h.run pins s σ _ D I ⟨b, z.fix p, env.set i (.val (.lst ds)), st, rfl, ⟨ex', rel', er', in'⟩, q.later kp⟩
    | self c d => exact q.elim
end
end Fw

set_option Elab.async false
set_option linter.all false
set_option maxRecDepth 100000
set_option autoImplicit false
set_option maxHeartbeats 1000000
/-! Fw125: try: f(..) except C: x = True / False. -/
namespace Fw
open PySem PySem.Spec PyProof.Rows L2
def allVar : MEs → Bool
  | .nil => true
  | .cons (.var _) r => allVar r
  | .cons _ _ => false
theorem vars_ok {P : Pg} {T : List FT} : ∀ {ms : MEs}, allVar ms = true → ∀ (env : Env) (st : Store) (e : Exc) (st' : Store), evalEs P T ms env st ≠ .exc e st'
  | .nil, _, env, st, e, st', q => by simp [evalEs] at q
  | .cons m r, h, env, st, e, st', q => by
    cases m <;> simp [allVar] at h
    rename_i i
    simp only [evalEs, evalE] at q
    cases hv : varD env i with
    | none => rw [hv] at q; cases q
    | some d =>
      rw [hv] at q
      simp only [Out.ofO_some, Out.bind_ok] at q
      cases ho : evalEs P T r env st with
      | ok ds s => rw [ho] at q; cases q
      | exc e2 s => exact vars_ok h env st e2 s ho
      | bad => rw [ho] at q; cases q
abbrev W0 : WX := fun _ _ _ _ => False
theorem takes0 (X : Cx) : TakesF X W0 := fun u s' x => by
  obtain ⟨a, B, sI, pins, σ, H, cls, d, e, I, nb, up, sky, na, os, ag, w⟩ := x
  exact w.elim
section
variable {G : Gd} {nm : Nm} {X : Cx} {N : List Str} {sc : Scope} {k : Nat} {W : WX} {lb : Bool}
theorem Post.w0 {α : Type} {z : Z} {σ : St} {o : Out α} {kk : α → Store → Z → Prop} (hn : ∀ e st, o ≠ .exc e st) (h : Post G z σ W o kk) : Post G z σ W0 o kk := by
  cases o with
  | ok a st => exact h
  | exc e st => exact absurd rfl (hn e st)
  | bad => exact h
theorem e_callT (S : Static G nm) (o : On G X) (hsc : X.env.scope = sc) (rm : Room k X.A) (pass : ∀ σ, PassesAt (L2N.CX X.prog X.w) X σ (WE W σ)) (L : FnsOk G k) {f : Nat} {x : Str} {e : Expr} {es : List Expr} {ms : MEs} {p pos : Pos} (hf : nm.fns[f]? = some x) (hx : x ≠ "") (hg : glS sc x = true) (hn : okN x = true) (hi : (G.pg.defs[f]?).bind (·.ini) = none)
    (ha : PA X (e :: es) (tAof G (tabs G.pg k) W0 ms)) (hp : plains (e :: es) = true) (hv : allVar ms = true) : PE X (.Call (.Name x p) (e :: es) [] pos) (tOf G (tabs G.pg k) W (.call f ms)) := by
  obtain ⟨hl, hm⟩ := S.fns f x hf hx
  have F : FnOk X.prog X.w X.K X.mg X.base (L2N.CX X.prog X.w) k (G.fA f) (G.fD f) (G.fP f) (spOf G (tabs G.pg k) f) := by
    rw [o.P, o.w, o.K, o.mg, o.base]; exact L f hl
  have hb : Binds X.K (G.fD f) (G.fP f) [] := by rw [o.K]; exact S.bd f hl
  have hk : PySem.W.keepIn X.K (.ref (G.fA f)) = true := by rw [o.K]; exact S.kp f hl
  have hm' : X.mg x = some (.ref (G.fA f)) := by rw [o.mg]; exact hm
  have hsp : ∀ vs H Q E, spFn G (tabs G.pg k) f vs H Q E → spOf G (tabs G.pg k) f vs H Q E := fun vs H Q E q => by unfold spOf; rw [hi]; exact q
  simp only [plains, Bool.and_eq_true] at hp
  refine peImp (pe_callS F rm (by show X.env.scope.names.lookup _ = _; rw [hsc]; exact glS_ok hg) hm' hk hb pass ha (okN_dbg hn) (star_of hp.1 _ _) (backTo_any _ _ hp.2)) fun σ H Q q => ?_
  obtain ⟨z, env, st, rfl, rel, er, q⟩ := q
  refine ⟨z, env, st, rfl, rel, er, (Post.w0 (fun e st' => vars_ok hv env st e st') (Post.bind (by simpa only [evalE] using q))).imp fun ds st1 z1 e1 rel1 q1 vs rs => ?_⟩
  exact hsp _ _ _ _ ⟨z1, st1, ds, rfl, rel1, rs, PostF.of q1⟩
theorem s_tryE (S : Static G nm) (c : InS G X N sc k W lb) (L : FnsOk G k) {f : Nat} {x y cx : Str} {e : Expr} {es : List Expr} {ms : MEs} {cl i j : Nat} {kx : MExc} {bv : Bool} {p1 p2 p3 p4 p5 p6 p7 p8 pos : Pos} (hf : nm.fns[f]? = some x) (hx : x ≠ "") (hg : glS sc x = true) (hn : okN x = true) (hi : (G.pg.defs[f]?).bind (·.ini) = none)
    (ha : ∀ X', In G X' N sc k W0 lb → PA X' (e :: es) (tAof G (tabs G.pg k) W0 ms)) (hp : plains (e :: es) = true) (hv : allVar ms = true)
    (hk : G.pg.excs[cl]? = some kx) (hcx : nm.excs[cl]? = some cx) (hgc : glS sc cx = true) (hnc : okN cx = true) (refl : PySem.W.exmOne G.K (.ref (G.eA cl)) (.ref (G.eA cl)) = some true) (hy : N[i]? = some y) (hl : locS sc y = true) :
    PS X (.Try [.Expr (.Call (.Name x p1) (e :: es) [] p2) p3] [.ExceptHandler (some (.Name cx p4)) none [.Assign [.Name y p5] (.Constant (.bool bv) j p6) p7] p8] [] [] pos) (stOf G (tabs G.pg k) W (.tryE (.call f ms) cl (.cons (.set (.one i) (.lit (.bl bv))) .nil))) := by
  obtain ⟨h1, h2, h3, h4, h5⟩ := S.exc0 cl kx cx hk hcx
  refine psImp (L2N.ps_try_many (X := X) (Wout := W) (tb := fun W' => tDrop (tOf G (tabs G.pg k) W' (.call f ms))) (l := [(.ref (G.eA cl), fun _ _ _ => tAsg (tC (.bl bv)) (gName i))]) c.stk c.fre c.tk.toE
    (fun W' pn xe tk own => pss_one (ps_expr (e_callT (X := X.tr pn xe) S ⟨c.P, c.w, c.K, c.mg, c.base, c.calm, c.room⟩ c.hsc c.rm (fun σ => L2N.passAt tk σ) L hf hx hg hn hi (ha _ { toOn := ⟨c.P, c.w, c.K, c.mg, c.base, c.calm, c.room⟩, hN := c.hN, nd := c.nd, hsc := c.hsc, rm := c.rm, fr := c.fr, tk := takes0 _, lm := c.lm }) hp hv) rfl))
    (.cons ⟨gl_of c.toIn hgc, okN_dbg hnc, .inl (by rw [c.mg]; exact h1)⟩ (fun a oe cls d pn hz hfl => pss_one (ps_set (X := X.suite a ((a, oe) :: pn)) (by show X.N.Nodup; rw [c.hN]; exact c.nd) (by show X.N[i]? = _; rw [c.hN]; exact hy) (c.loc y hl).1 pe_bl rfl (c.loc y hl).2)) .nil)) fun D σ H q => ?_
  obtain ⟨b, z, env, st, rfl, a, q⟩ := q
  simp only [execS] at q
  refine ⟨z, env, st, rfl, a.rel, a.er, ?_⟩
  cases ho : evalE G.pg (tabs G.pg k) (.call f ms) env st with
  | bad => rw [ho] at q; exact q.elim
  | ok d st' =>
    rw [ho] at q
    intro z' e1 r1 v rv
    have a1 := a.step e1 r1
    exact q z' σ a1.ex (e1.keep a.rel.wf) r1 a1.er a1.inn
  | exc xe st' =>
    rw [ho] at q
    intro z' cls dd e1 r1 xr
    simp only [] at q
    split at q
    · rename_i hc
      refine ⟨true, by rw [c.K, xr.1, hc]; exact refl, fun _ a0 na => ?_, fun h => by cases h⟩
      have a1 := a.step e1 r1
      simp only [execSs, execS, evalE, Out.so_ok, bindTg] at q
      by_cases hi2 : i < env.length
      · rw [if_pos hi2] at q
        have q : PostS G b z (.next (env.set i (.val (.bl bv))) st') W D := q
        have er2 := (a1.er.open_ [i]).set (d := .bl bv) (v := .bl bv) (R.bl.mpr rfl)
        exact q z' (σ.set i (some (.bl bv))) a1.ex (e1.keep a.rel.wf) r1 er2.done (Inn.set i [] env σ (.bl bv) (.bl bv) (a1.inn.open_ [i]))
      · rw [if_neg hi2] at q
        exact q.elim
    · exact q.elim
end
end Fw

set_option Elab.async false
set_option linter.all false
set_option maxRecDepth 100000
set_option autoImplicit false
set_option maxHeartbeats 1000000
/-! Fw13: loops; a field of self; the checker of statements. -/
namespace Fw
open PySem PySem.Spec PyProof.Rows L2
section
variable {G : Gd} {nm : Nm} {X : Cx} {N : List Str} {sc : Scope} {k : Nat} {W : WX} {lb : Bool} {T : List FT}
/-- what follows a turn -/
theorem turn_post {b : Bs} {z : Z} {o : SO} {f : Env → Store → SO} {D : Ends} {Nx : St → Hp → Prop}
    (q : PostS G b z (match (generalizing := false) o with | .next env st => f env st | .cont env st => f env st | o => o) W D)
    (h : ∀ env st z' σ, PostS G b z' (f env st) W D → Keep z z' → At G b z' env st σ → Nx σ z'.H) : PostS G b z o W { D with nx := Nx, ct := Nx, bk := D.nx } := by
  cases o with
  | next env st => exact fun z' σ e k r er nn => h env st z' σ (PostS.later q k) k ⟨e, r, er, nn⟩
  | cont env st => exact fun z' σ e k r er nn => h env st z' σ (PostS.later q k) k ⟨e, r, er, nn⟩
  | ret d st => exact q
  | exc e st => exact q
  | bad => exact q
theorem s_for (c : InS G X N sc k W lb) {t : Tg} {it : MI} {mb : MSs} {tg iter : Expr} {body : List Stmt} {pos : Pos} (ht : chkTg N sc t tg = true) (hi : PI X tg iter (iOf G T W it)) (hp : plainE iter = true) (hb : PSs X body (sstOf G T W mb)) : PS X (.For tg iter body [] pos) (stOf G T W (.for_ t it mb)) := by
  have pg := pg_of c.calm (by rw [c.hN]; exact c.nd) c.loc (t := t) (tg := tg) (by rw [c.hN]; exact ht)
  rw [c.K] at pg
  refine psImp (ps_for c.own c.calm hi pg hb (fun x => fold_of hp _ x)) fun D σ H q => ?_
  obtain ⟨b, z, env, st, rfl, a, q⟩ := q
  obtain ⟨F, hF, q⟩ : ∃ F : Fw.D → Env → Store → SO, (∀ x env st, F x env st = match bindTg t x env with | some env => execSs G.pg T mb env st | none => .bad) ∧ PostS G b z ((evalI G.pg T it env st).so fun xs st => forGo F xs env st) W D := ⟨_, fun _ _ _ => rfl, by simp only [execS] at q; exact q⟩
  refine ⟨z, env, st, rfl, a.rel, a.er, (PostS.so q a.ex a.rel.wf).imp fun xs st1 z1 x1 r1 p1 J dr => ?_⟩
  have a1 := a.step x1 r1
  refine ⟨fun i m σ H => ∃ z2 env2 st2, m = xs.length - i ∧ i ≤ xs.length ∧ z2.H = H ∧ Keep z1 z2 ∧ At G b z2 env2 st2 σ ∧ PostS G b z2 (forGo F (xs.drop i) env2 st2) W D, ⟨xs.length, z1, env, st1, by simp, Nat.zero_le _, rfl, Keep.refl _, a1, p1⟩, ?_⟩
  rintro i m σ2 H ⟨z2, env2, st2, rfl, hi', rfl, k2, a2, p2⟩
  by_cases hlt : i < xs.length
  · refine .inr ⟨dr.go i z2 k2 hlt, fun σ' H' => ∃ m', m' < xs.length - i ∧ ∃ z2 env2 st2, m' = xs.length - (i + 1) ∧ i + 1 ≤ xs.length ∧ z2.H = H' ∧ Keep z1 z2 ∧ At G b z2 env2 st2 σ' ∧ PostS G b z2 (forGo F (xs.drop (i + 1)) env2 st2) W D, fun _ _ h => h, fun x H' hy => ?_⟩
    obtain ⟨z3, rfl, e3, r3, rx⟩ := dr.yld i xs[i] z2 st2 x H' k2 a2.rel (List.getElem?_eq_getElem hlt) hy
    have a3 := a2.step e3 r3
    have k3 := e3.keep a2.rel.wf
    rw [List.drop_eq_getElem_cons hlt] at p2
    unfold forGo at p2
    have p3 := PostS.later p2 k3
    cases hbt : bindTg t xs[i] env2 with
    | none =>
      rw [hF, hbt] at p3
      exact p3.elim
    | some env3 =>
      refine gOf_runP (Inn b) Inn.set hbt rx (a3.er.open_ _) (a3.inn.open_ _) fun σ' er' nn' _ => ?_
      have e4 : F xs[i] env2 st2 = execSs G.pg T mb env3 st2 := by rw [hF, hbt]
      rw [e4] at p3
      refine ⟨b, z3, env3, st2, rfl, ⟨a3.ex, r3, er', nn'⟩, ?_⟩
      cases ho : execSs G.pg T mb env3 st2 with
      | next env4 st4 =>
        rw [ho] at p3
        exact fun z' σ4 x4 k4 r4 er4 nn4 => ⟨_, by omega, z', env4, st4, rfl, hlt, rfl, (k2.trans k3).trans k4, ⟨x4, r4, er4, nn4⟩, PostS.later p3 k4⟩
      | cont env4 st4 =>
        rw [ho] at p3
        exact fun z' σ4 x4 k4 r4 er4 nn4 => ⟨_, by omega, z', env4, st4, rfl, hlt, rfl, (k2.trans k3).trans k4, ⟨x4, r4, er4, nn4⟩, PostS.later p3 k4⟩
      | ret d st4 => rw [ho] at p3; exact p3
      | exc e st4 => rw [ho] at p3; exact p3
      | bad => rw [ho] at p3; exact p3
  · have ei : i = xs.length := by omega
    subst ei
    refine .inl ⟨dr.stop z2 k2, ?_⟩
    rw [List.drop_length] at p2
    exact p2 z2 σ2 a2.ex (Keep.refl _) a2.rel a2.er a2.inn
theorem s_while (c : InS G X N sc k W lb) {m : ME} {mb : MSs} {cc : Expr} {body : List Stmt} {pos : Pos} (hc : PT X cc (tTof G T W m)) (hb : PSs X body (sstOf G T W mb)) : PS X (.While cc body [] pos) (stOf G T W (.while_ m mb)) := by
  refine psImp (ps_while c.own hc hb) fun D σ H q => ?_
  obtain ⟨b, z, env, st, rfl, a, q⟩ := q
  simp only [execS] at q
  refine ⟨fun n σ H => ∃ z2 env2 st2, z2.H = H ∧ At G b z2 env2 st2 σ ∧ PostS G b z2 (whileGo (evalE G.pg T m) (execSs G.pg T mb) n env2 st2) W D, ⟨_, z, env, st, rfl, a, q⟩, ?_⟩
  rintro n σ2 H ⟨z2, env2, st2, rfl, a2, p2⟩
  cases n with
  | zero => exact p2.elim
  | succ n =>
    unfold whileGo at p2
    refine ⟨z2, env2, st2, rfl, a2.rel, a2.er, (PostS.so p2 a2.ex a2.rel.wf).imp fun d st3 z3 e3 r3 p3 => ?_⟩
    have a3 := a2.step e3 r3
    cases d <;> try exact p3.elim
    rename_i t
    refine ⟨t, rfl, ?_⟩
    cases t with
    | false =>
      simp only [Bool.false_eq_true, if_false]
      exact p3 z3 σ2 a3.ex (Keep.refl _) r3 a3.er a3.inn
    | true =>
      simp only [if_true]
      refine ⟨fun σ' H' => ∃ m', m' < n + 1 ∧ ∃ z2 env2 st2, z2.H = H' ∧ At G b z2 env2 st2 σ' ∧ PostS G b z2 (whileGo (evalE G.pg T m) (execSs G.pg T mb) m' env2 st2) W D, fun _ _ h => h, b, z3, env2, st3, rfl, a3, ?_⟩
      have p3 : PostS G b z3 (match (execSs G.pg T mb env2 st3) with
        | .next env st => whileGo (evalE G.pg T m) (execSs G.pg T mb) n env st
        | .cont env st => whileGo (evalE G.pg T m) (execSs G.pg T mb) n env st
        | o => o) W D := p3
      cases ho : execSs G.pg T mb env2 st3 with
      | next env4 st4 =>
        rw [ho] at p3
        exact fun z' σ4 x4 k4 r4 er4 nn4 => ⟨n, by omega, z', env4, st4, rfl, ⟨x4, r4, er4, nn4⟩, PostS.later p3 k4⟩
      | cont env4 st4 =>
        rw [ho] at p3
        exact fun z' σ4 x4 k4 r4 er4 nn4 => ⟨n, by omega, z', env4, st4, rfl, ⟨x4, r4, er4, nn4⟩, PostS.later p3 k4⟩
      | ret d st4 => rw [ho] at p3; exact p3
      | exc e st4 => rw [ho] at p3; exact p3
      | bad => rw [ho] at p3; exact p3
theorem putF_new (f : Str) (v : V) : ∀ {fs : List (Str × V)}, fs.lookup f = none → putF f v fs = fs ++ [(f, v)]
  | [], _ => rfl
  | (g, x) :: r, h => by
    rw [List.lookup_cons] at h
    cases c : f == g with
    | true => rw [c] at h; cases h
    | false =>
      rw [c] at h
      have ne : ¬ g = f := fun e => by rw [e] at c; simp at c
      unfold putF
      rw [if_neg ne, putF_new f v h]
      rfl
theorem zip_none {f : Txt} : ∀ {fs : List (Txt × D)} {vs : List V}, fs.lookup f = none → (((fs.map fun p => sOf p.1).zip vs)).lookup (sOf f) = none
  | [], vs, _ => by simp
  | p :: r, [], _ => by simp
  | p :: r, v :: vs, h => by
    rw [List.lookup_cons] at h
    simp only [List.map_cons, List.zip_cons_cons, List.lookup_cons, strBeq]
    cases c : f == p.1 with
    | true => rw [c] at h; cases h
    | false => rw [c] at h; exact zip_none h
theorem s_finit (S : Static G nm) (c : InS G X N sc k W lb) {i : Nat} {x : Str} {f : Txt} {e : Expr} {m : ME} {px ap pos : Pos} (hi : N[i]? = some x) (h2 : visS sc x = true) (h3 : okN x = true) (h : PE X e (tOf G T W m)) (hc : isComp e = false) :
    PS X (.Assign [.Attribute (.Name x px) (sOf f) ap] e pos) (stOf G T W (.finit i f m)) := by
  refine psImp (ps_fld (pe_var (i := i) (by rw [c.hN]; exact hi) (by rw [c.hsc]; exact visS_ok h2) (okN_dbg h3) (okN_cd h3)) h (sw_plain hc _ _ _)) fun D σ H q => ?_
  obtain ⟨b, z, env, st, rfl, a, q⟩ := q
  simp only [execS] at q
  split at q
  · rename_i cl fs he
    refine ⟨z, env, st, rfl, a.rel, a.er, (PostS.so q a.ex a.rel.wf).imp fun d st1 z1 x1 r1 p1 v rv => ?_⟩
    have a1 := a.step x1 r1
    split at p1
    · rename_i hc
      obtain ⟨c1, c2, c3⟩ := hc
      obtain ⟨p, dx, vs, kl, e1, hk, hH, hl, rs, nf, ni⟩ := a1.er.at_ i _ he
      have np : Free b.z.H p := a.inn.new i _ p (by simp) he rfl e1
      have hnone : fs.lookup f = none := by simpa using c2
      obtain ⟨s1, s2, s3, s4⟩ := S.cls cl kl hk
      rw [hk] at c3
      have hf : f ∈ kl.fs := by simpa using c3
      refine ⟨.ref p, e1, p, _, dx, _, rfl, hH, by rw [c.K]; exact s1, by rw [c.K]; exact s2 f hf, by rw [List.length_zip, List.length_map, hl]; omega, ?_⟩
      rw [putF_new (sOf f) v (zip_none hnone)]
      have al : Alone z1 p := ⟨⟨_, hH, rfl⟩, nf, ni⟩
      refine p1 (z1.put p _) σ (a1.ex.putF np) (Keep.put nf) (r1.put al) (a1.er.putO he rfl e1 nf ni rfl ?_) (a1.inn.putO he rfl (fun c' fs' e => by cases e; exact ⟨fs, rfl⟩))
      refine ⟨p, dx, vs ++ [v], kl, e1, hk, ?_, by simp [hl], ?_, nf, ni⟩
      · rw [show (z1.put p _).H p = some _ from upd_same, List.map_append, List.zip_append (by rw [List.length_map, hl])]
        rfl
      · rw [List.map_append]
        exact Rs.keep (Keep.put nf) _ _ (rs.app (Rs.mk _ _ rv (Rs.nil.mpr rfl)))
    · exact p1.elim
  · exact q.elim
end

/-! ### the checker of statements -/
def notTup : Expr → Bool
  | .Tuple _ _ _ => false
  | _ => true
def isFix : MS → Bool
  | .fixD _ => true
  | _ => false
theorem isFix_of {m : MS} (h : isFix m = true) : ∃ i, m = .fixD i := by cases m <;> first | exact ⟨_, rfl⟩ | cases h
mutual
def chkS (C : Ck) (sc : Scope) : MS → Stmt → Bool
  | .expr m, s => match s with
    | .Expr e _ => chk C m false sc e && !isComp e
    | _ => false
  | .set t m, s => match s with
    | .Assign [tg] e _ => chkTg C.N sc t tg && chk C m false sc e && (!isComp e || (match t, tg with | .one _, .Name _ _ => true | _, _ => false)) && ((match t with | .one _ => true | .many _ => false) || (notTup e || cellP sc tg e))
    | _ => false
  | .par2 i j a b, s => match s with
    | .Assign [.Tuple [.Name x px, .Name y py] _ _] (.Tuple [e, f] _ _) _ => decide (C.N[i]? = some x) && decide (C.N[j]? = some y) && par2C sc x y px.line py.line e f && chk C a false sc e && chk C b false sc f
    | _ => false
  | .own i es, s => match s with
    | .Assign [.Name x _] (.List xs _) _ => decide (C.N[i]? = some x) && locS sc x && chkEs C es sc xs
    | _ => false
  | .app i m, s => match s with
    | .Expr (.Call (.Attribute (.Name x _) y apos) [e] [] cpos) _ => decide (y = "append") && ckV C sc i x && chk C m false sc e && plainE e && (apos.endLine == cpos.line)
    | _ => false
  | .ext i m, s => match s with
    | .Expr (.Call (.Attribute (.Name x _) y apos) [e] [] cpos) _ => decide (y = "extend") && ckV C sc i x && chk C m false sc e && plainE e && (apos.endLine == cpos.line)
    | _ => false
  | .finit i f m, s => match s with
    | .Assign [.Attribute (.Name x _) g _] e _ => ckV C sc i x && decide (g = sOf f) && chk C m false sc e && !isComp e
    | _ => false
  | .if_ m a b, s => match s with
    | .If e xs ys _ => chk C m true sc e && chkSs C sc a xs && chkSs C sc b ys
    | _ => false
  | .for_ t it mb, s => match s with
    | .For tg iter body [] _ => chkTg C.N sc t tg && chkI C it sc tg iter && plainE iter && chkSs C sc mb body
    | _ => false
  | .while_ m mb, s => match s with
    | .While e body [] _ => chk C m true sc e && chkSs C sc mb body
    | _ => false
  | .ret m, s => match s with
    | .Return (some e) _ => chk C m false sc e
    | .Return none _ => (match m with | .lit .non => true | _ => false)
    | _ => false
  | .cont, s => match s with
    | .Continue _ => true
    | _ => false
  | .pass, s => match s with
    | .Pass _ => true
    | _ => false
  | .ownD i ks ms, s => match s with
    | .Assign [.Name x _] (.Dict keys es _) _ => decide (C.N[i]? = some x) && locS sc x && chkK C ms ks sc keys es && decide (keys.length ≤ 15)
    | _ => false
  | .fixD _, _ => false
  | .newCell i, s => match s with
    | .Assign [.Name x _] (.List [] _) _ => decide (C.N[i]? = some x) && locS sc x
    | _ => false
  | .setD i mk m, s => match s with
    | .Assign [.Subscript (.Name x _) y _] e _ => ckV C sc i x && chk C mk false sc y && chk C m false sc e && !isComp e
    | _ => false
  | .appC i m, s => match s with
    | .Expr (.Call (.Attribute (.Name x _) y apos) [e] [] cpos) _ => decide (y = "append") && ckV C sc i x && chk C m false sc e && plainE e && (apos.endLine == cpos.line)
    | _ => false
  | .fset _ _ _, _ => false
  | .raise cl es, s => match s with
    | .Raise (some (.Call (.Name x _) [e] [] _)) none _ => decide (C.nm.excs[cl]? = some x) && ckG sc x && (match C.pg.excs[cl]? with
      | some kx => if kx.word then chkEs C es sc [e] else (match es, e with | .cons (.lit (.str _)) .nil, .Constant (.str _) _ _ => true | _, _ => false)
      | none => false)
    | _ => false
  | .tryE m cl h, s => match s with
    | .Try [.Expr (.Call (.Name x _) (e :: es) [] _) _] [.ExceptHandler (some (.Name cx _)) none [.Assign [.Name y _] (.Constant (.bool bv) _ _) _] _] [] [] _ => (match m, h with
      | .call f ms, .cons (.set (.one i) (.lit (.bl b))) .nil => decide (C.nm.fns[f]? = some x) && decide (x ≠ "") && ckG sc x && noIni C f && chkEs C ms sc (e :: es) && allVar ms && decide (C.nm.excs[cl]? = some cx) && ckG sc cx && (C.pg.excs[cl]?).isSome && decide (C.N[i]? = some y) && locS sc y && (b == bv) && C.nm.tryC
      | _, _ => false)
    | _ => false
def chkSs (C : Ck) (sc : Scope) : MSs → List Stmt → Bool
  | .nil, ss => match ss with
    | [] => true
    | _ => false
  | .cons m ms, ss => match isFix m with
    | true => chkSs C sc ms ss
    | false => match ss with
      | s :: ss => chkS C sc m s && chkSs C sc ms ss
      | [] => false
end
section
variable {G : Gd} {C : Ck} {k : Nat}
/-- a comprehension, checked -/
theorem comp_inv (S : Static G C.nm) (SL : Lams G C.nm) (hpg : C.pg = G.pg) (L : ∀ j, j ≤ k → FnsOk G j) {X : Cx} {sc : Scope} {W : WX} (c : InS G X C.N sc k W C.lam) {i : Nat} {y : Str} {py pos : Pos} (hy : C.N[i]? = some y) (hl : locS sc y = true) {m : ME} {e : Expr} (h : chk C m false sc e = true) (hc : isComp e = true) :
    PS X (.Assign [.Name y py] e pos) (stOf G (tabs G.pg k) W (.set (.one i) m)) := by
  have key : ∃ tt elt it cs x tg iter ifs scope p, m = .comp tt elt it cs ∧ e = .ListComp x [⟨tg, iter, ifs, 0⟩] scope p ∧ ((!C.lam || hasCell sc) && blkC C.N sc scope tt && chkTg C.N scope tt tg && chkI C it sc tg iter && plainE iter && chkCs C cs (relS scope sc) ifs && chk C elt false (relS scope sc) x) = true := by
    cases m
    case comp tt elt it cs =>
      unfold chk at h; split at h <;> try cases h
      simp only [Bool.and_eq_true, decide_eq_true_eq, Bool.not_false, true_and] at h
      obtain ⟨⟨⟨⟨⟨⟨⟨hl, rfl⟩, h1⟩, h2⟩, h3⟩, h4⟩, h5⟩, h6⟩ := h
      refine ⟨_, _, _, _, _, _, _, _, _, _, rfl, rfl, ?_⟩
      simp only [Bool.and_eq_true]
      exact ⟨⟨⟨⟨⟨⟨hl, h1⟩, h2⟩, h3⟩, h4⟩, h5⟩, h6⟩
    case bm bk a es =>
      exfalso
      cases bk with
      | get =>
        cases es with
        | nil => unfold chk at h; cases h
        | cons y r =>
          cases r with
          | nil => unfold chk at h; cases h
          | cons z r =>
            cases r with
            | cons _ _ => unfold chk at h; cases h
            | nil =>
              unfold chk at h
              split at h <;> first | (cases h; done) | (cases hc; done)
      | index => unfold chk at h; cases h
      | join =>
        cases es with
        | nil => unfold chk at h; cases h
        | cons y r =>
          cases r with
          | cons z r => cases r <;> (unfold chk at h; cases h)
          | nil =>
            unfold chk at h
            split at h <;> first | (cases h; done) | (cases hc; done)
      | replace => unfold chk at h; cases h
    all_goals first
      | (unfold chk at h; split at h <;> first | (cases h; done) | (cases hc; done))
      | (unfold chk at h; cases h; done)
      | (rename_i bb es; cases bb <;> first
          | (unfold chk at h; split at h <;> first | (cases h; done) | (cases hc; done))
          | (cases es with
             | nil => unfold chk at h; split at h <;> first | (cases h; done) | (cases hc; done)
             | cons a r => cases r with
               | nil => unfold chk at h; split at h <;> first | (cases h; done) | (cases hc; done)
               | cons d r => cases r <;> (unfold chk at h; split at h <;> first | (cases h; done) | (cases hc; done))))
  obtain ⟨tt, elt, it, cs, x, tg, iter, ifs, scope, p, rfl, rfl, hq⟩ := key
  simp only [Bool.and_eq_true] at hq
  obtain ⟨⟨⟨⟨⟨⟨hl', h1⟩, h2⟩, h3⟩, h4⟩, h5⟩, h6⟩ := hq
  exact s_setComp c (fun q => by rw [q] at hl'; simpa using hl') hy hl h1 h2 (simI S SL hpg L c.toIn it h3) h4 fun Xb W' cb => ⟨simCs S SL hpg L cb cs h5, (sim S SL hpg L cb elt h6).1⟩
mutual
theorem simS (S : Static G C.nm) (SL : Lams G C.nm) (hpg : C.pg = G.pg) (L : ∀ j, j ≤ k → FnsOk G j) {X : Cx} {sc : Scope} {W : WX} (c : InS G X C.N sc k W C.lam) : ∀ (m : MS) {s : Stmt}, chkS C sc m s = true → PS X s (stOf G (tabs G.pg k) W m)
  | .expr m, s, h => by
    unfold chkS at h; split at h <;> try cases h
    simp only [Bool.and_eq_true, Bool.not_eq_true'] at h
    exact s_expr (sim S SL hpg L c.toIn m h.1).1 h.2
  | .set t m, s, h => by
    unfold chkS at h; split at h <;> try cases h
    rename_i tg e pos
    simp only [Bool.and_eq_true, Bool.or_eq_true, Bool.not_eq_true'] at h
    obtain ⟨⟨⟨h1, h2⟩, h3⟩, h4⟩ := h
    cases hc : isComp e with
    | false =>
      refine s_set c h1 (sim S SL hpg L c.toIn m h2).1 hc ?_
      cases t with
      | one j => exact .inl ⟨j, rfl⟩
      | many is =>
        rcases h4 with h4 | h4 | h4
        · cases h4
        · exact .inr (.inl fun es kk p e' => by rw [e'] at h4; cases h4)
        · exact .inr (.inr h4)
    | true =>
      rcases h3 with h3 | h3
      · rw [hc] at h3; cases h3
      · split at h3
        · rename_i i x p
          simp only [chkTg, Bool.and_eq_true, decide_eq_true_eq] at h1
          exact comp_inv S SL hpg L c h1.1 h1.2 h2 hc
        · cases h3
  | .par2 i j a b, s, h => by
    unfold chkS at h; split at h <;> try cases h
    simp only [Bool.and_eq_true, decide_eq_true_eq] at h
    obtain ⟨⟨⟨⟨h1, h2⟩, h3⟩, h4⟩, h5⟩ := h
    exact s_par2 c h1 h2 h3 (sim S SL hpg L c.toIn a h4).1 (sim S SL hpg L c.toIn b h5).1
  | .own i es, s, h => by
    unfold chkS at h; split at h <;> try cases h
    simp only [Bool.and_eq_true, decide_eq_true_eq] at h
    exact s_own c h.1.1 h.1.2 (simEs S SL hpg L c.toIn es h.2).1
  | .app i m, s, h => by
    unfold chkS at h; split at h <;> try cases h
    simp only [Bool.and_eq_true, decide_eq_true_eq] at h
    obtain ⟨⟨⟨⟨h0, h1⟩, h2⟩, h3⟩, h4⟩ := h
    obtain ⟨a1, a2, a3⟩ := ckV_ok h1
    exact s_app c h0 a1 a2 a3 (sim S SL hpg L c.toIn m h2).1 h3 h4
  | .ext i m, s, h => by
    unfold chkS at h; split at h <;> try cases h
    simp only [Bool.and_eq_true, decide_eq_true_eq] at h
    obtain ⟨⟨⟨⟨h0, h1⟩, h2⟩, h3⟩, h4⟩ := h
    obtain ⟨a1, a2, a3⟩ := ckV_ok h1
    exact s_ext c h0 a1 a2 a3 (sim S SL hpg L c.toIn m h2).1 h3 h4
  | .finit i f m, s, h => by
    unfold chkS at h; split at h <;> try cases h
    simp only [Bool.and_eq_true, decide_eq_true_eq, Bool.not_eq_true'] at h
    obtain ⟨⟨⟨h1, rfl⟩, h2⟩, h3⟩ := h
    obtain ⟨a1, a2, a3⟩ := ckV_ok h1
    exact s_finit S c a1 a2 a3 (sim S SL hpg L c.toIn m h2).1 h3
  | .if_ m a b, s, h => by
    unfold chkS at h; split at h <;> try cases h
    simp only [Bool.and_eq_true] at h
    exact s_if ((sim S SL hpg L c.toIn m h.1.1).2 rfl) (simSs S SL hpg L c a h.1.2) (simSs S SL hpg L c b h.2)
  | .for_ t it mb, s, h => by
    unfold chkS at h; split at h <;> try cases h
    simp only [Bool.and_eq_true] at h
    obtain ⟨⟨⟨h1, h2⟩, h3⟩, h4⟩ := h
    exact s_for c h1 (simI S SL hpg L c.toIn it h2) h3 (simSs S SL hpg L c mb h4)
  | .while_ m mb, s, h => by
    unfold chkS at h; split at h <;> try cases h
    simp only [Bool.and_eq_true] at h
    exact s_while c ((sim S SL hpg L c.toIn m h.1).2 rfl) (simSs S SL hpg L c mb h.2)
  | .ret m, s, h => by
    unfold chkS at h; split at h <;> try cases h
    · exact s_ret (sim S SL hpg L c.toIn m h).1
    · split at h <;> try cases h
      exact s_retN
  | .cont, s, h => by
    unfold chkS at h; split at h <;> try cases h
    exact s_cont
  | .pass, s, h => by
    unfold chkS at h; split at h <;> try cases h
    exact s_pass
  | .ownD i ks ms, s, h => by
    unfold chkS at h; split at h <;> try cases h
    simp only [Bool.and_eq_true, decide_eq_true_eq] at h
    obtain ⟨⟨⟨h1, hl⟩, hk⟩, h3⟩ := h
    obtain ⟨p, q1, q2, q3, q4⟩ := simK S SL hpg L c.toIn ms hk
    by_cases h2 : ‹List (Option Expr)› = []
    · subst h2
      cases ‹List Expr› with
      | cons _ _ => simp at q2
      | nil =>
        cases ms with
        | cons _ _ =>
          unfold chkK at hk
          split at hk
          · rename_i e1 _; cases e1
          · cases hk
        | nil =>
          unfold chkK at hk
          split at hk
          · exact s_ownD0 c h1 hl
          · cases hk
    · exact s_ownD c h1 hl p q1 q2 h2 h3 q3 q4
  | .fixD _, s, h => by unfold chkS at h; cases h
  | .newCell i, s, h => by
    unfold chkS at h; split at h <;> try cases h
    simp only [Bool.and_eq_true, decide_eq_true_eq] at h
    exact s_newCell c h.1 h.2
  | .setD i mk m, s, h => by
    unfold chkS at h; split at h <;> try cases h
    simp only [Bool.and_eq_true, Bool.not_eq_true'] at h
    obtain ⟨⟨⟨h1, h2⟩, h3⟩, h4⟩ := h
    obtain ⟨a1, a2, a3⟩ := ckV_ok h1
    exact s_setD c a1 a2 a3 (sim S SL hpg L c.toIn m h3).1 (sim S SL hpg L c.toIn mk h2).1 h4
  | .appC i m, s, h => by
    unfold chkS at h; split at h <;> try cases h
    simp only [Bool.and_eq_true, decide_eq_true_eq] at h
    obtain ⟨⟨⟨⟨h0, h1⟩, h2⟩, h3⟩, h4⟩ := h
    obtain ⟨a1, a2, a3⟩ := ckV_ok h1
    exact s_appC c h0 a1 a2 a3 (sim S SL hpg L c.toIn m h2).1 h3 h4
  | .fset _ _ _, s, h => by unfold chkS at h; cases h
  | .raise cl es, s, h => by
    unfold chkS at h; split at h <;> try cases h
    simp only [Bool.and_eq_true, decide_eq_true_eq] at h
    obtain ⟨⟨h1, h2⟩, h3⟩ := h
    obtain ⟨a1, a2⟩ := ckG_ok h2
    rw [hpg] at h3
    cases hk : G.pg.excs[cl]? with
    | none => rw [hk] at h3; cases h3
    | some kx =>
      rw [hk] at h3
      simp only [] at h3
      cases hw : kx.word with
      | true =>
        rw [hw, if_pos rfl] at h3
        cases es with
        | nil => unfold chkEs at h3; cases h3
        | cons m r =>
          unfold chkEs at h3
          simp only [Bool.and_eq_true] at h3
          cases r with
          | cons _ _ => have h4 := h3.2; unfold chkEs at h4; cases h4
          | nil => exact s_raiseW S c hk hw h1 a1 a2 (sim S SL hpg L c.toIn m h3.1.1).1 h3.1.2
      | false =>
        rw [hw, if_neg (by decide)] at h3
        split at h3 <;> try cases h3
        exact s_raise0 S c hk hw h1 a1 a2
  | .tryE m cl hh, s, h => by
    unfold chkS at h; split at h <;> try cases h
    split at h <;> try cases h
    simp only [Bool.and_eq_true, decide_eq_true_eq] at h
    obtain ⟨⟨⟨⟨⟨⟨⟨⟨⟨⟨⟨⟨h1, h2⟩, h3⟩, h4⟩, h5⟩, h6⟩, h7⟩, h8⟩, h9⟩, h10⟩, h11⟩, h12⟩, h13⟩ := h
    obtain ⟨a1, a2⟩ := ckG_ok h3
    obtain ⟨b1, b2⟩ := ckG_ok h8
    obtain ⟨kx, hk⟩ := Option.isSome_iff_exists.mp h9
    rw [hpg] at hk
    rw [eq_of_beq h12]
    exact s_tryE S c (L k (Nat.le_refl _)) h1 h2 a1 a2 (by unfold noIni at h4; rw [hpg] at h4; exact Option.isNone_iff_eq_none.mp h4) (fun X' c' => (simEs S SL hpg L c' _ h5).1) (simEs S SL hpg L c.toIn _ h5).2.1 h6 hk h7 b1 b2 (SL.refl h13 cl kx hk) h10 h11
theorem simSs (S : Static G C.nm) (SL : Lams G C.nm) (hpg : C.pg = G.pg) (L : ∀ j, j ≤ k → FnsOk G j) {X : Cx} {sc : Scope} {W : WX} (c : InS G X C.N sc k W C.lam) : ∀ (ms : MSs) {ss : List Stmt}, chkSs C sc ms ss = true → PSs X ss (sstOf G (tabs G.pg k) W ms)
  | .nil, ss, h => by
    unfold chkSs at h; split at h <;> try cases h
    exact ss_nil
  | .cons m ms, ss, h => by
    unfold chkSs at h
    split at h
    · rename_i hf
      obtain ⟨i, rfl⟩ := isFix_of hf
      exact ss_fix (simSs S SL hpg L c ms h)
    · split at h
      · simp only [Bool.and_eq_true] at h
        exact ss_cons (simS S SL hpg L c m h.1) (simSs S SL hpg L c ms h.2)
      · cases h
end
end
end Fw

set_option Elab.async false
set_option linter.all false
set_option maxRecDepth 100000
set_option autoImplicit false
set_option maxHeartbeats 1000000
/-! Fw14: the defs keep their promises, level by level. -/
namespace Fw
open PySem PySem.Spec PyProof.Rows L2

/-- a def's code object at c, its table -/
def LamAt (G : Gd) (qual : Str) (cd : Value) : Prop := ∃ c P, LamX.TabB G.base G.mg c P ∧ cd = .ref c ∧ (P, (qual ++ ".<locals>.") ++ "<lambda>") ∈ G.tb ∧ ∀ p ∈ G.tb, p.1 = P → p.2 = (qual ++ ".<locals>.") ++ "<lambda>"
/-- a def of the text is the def of ours -/
structure DefOk (G : Gd) (nm : Nm) (f : Nat) : Prop where
  ex : ∃ (d : MDef) (N : List Str) (x qual : Str) (st : Stmt) (lb : Bool), G.pg.defs[f]? = some d ∧ C8.Fun G.K x qual st (G.fA f) (G.fD f) ∧ C8.scC N (G.fP f) (C8.fnScope st) = true ∧ chkSs ⟨nm, G.pg, N, lb⟩ (C8.fnScope st) d.body (C8.fnBody st) = true ∧ (lb = true → LamAt G qual (G.fD f).code) ∧ N.length = d.n ∧ (G.fP f).length = d.np ∧ d.np ≤ d.n

section
variable {G : Gd} {nm : Nm}
theorem start_at {N : List Str} {vs : List V} (hl : vs.length ≤ N.length) (i : Nat) : (L2.start N vs)[i]? = if i < vs.length then (vs[i]?).map some else if i < N.length then some none else none := by
  unfold L2.start
  by_cases h : i < vs.length
  · rw [if_pos h, List.getElem?_append_left (by simpa using h), List.getElem?_map]
  · rw [if_neg h, List.getElem?_append_right (by simpa using h), List.length_map, List.getElem?_replicate]
    by_cases h2 : i < N.length
    · rw [if_pos (by omega), if_pos h2]
    · rw [if_neg (by omega), if_neg h2]
theorem start_len {N : List Str} {vs : List V} (hl : vs.length ≤ N.length) : (L2.start N vs).length = N.length := by
  unfold L2.start
  simp
  omega
theorem startEnv_R {z : Z} {N : List Str} {n : Nat} {ds : List D} {vs : List V} (h : Rs G z ds vs) (hn : N.length = n) (hl : ds.length ≤ n) : EnvR G z (startEnv n ds) (L2.start N vs) := by
  have hvs := h.len
  have at_ : ∀ (i : Nat) (s : Slot), (startEnv n ds)[i]? = some s → (∃ d, ds[i]? = some d ∧ s = Slot.val d) ∨ s = Slot.un := fun i s e => by
    unfold startEnv at e
    by_cases c : i < ds.length
    · rw [List.getElem?_append_left (by simpa using c), List.getElem?_map] at e
      obtain ⟨d, e1, e2⟩ := Option.map_eq_some_iff.mp e
      exact .inl ⟨d, e1, e2.symm⟩
    · rw [List.getElem?_append_right (by simpa using c), List.getElem?_replicate] at e
      split at e <;> cases e
      exact .inr rfl
  refine ⟨?_, fun i s e => ?_, fun i j s t a e1 e2 a1 a2 q1 q2 => ?_⟩
  · rw [start_len (by omega)]
    unfold startEnv
    simp
    omega
  · rcases at_ i s e with ⟨d, e1, rfl⟩ | rfl
    · obtain ⟨v, e2, r⟩ := h.get e1
      refine ⟨v, ?_, r⟩
      rw [start_at (by omega), if_pos (List.getElem?_eq_some_iff.mp e2).1, e2]
      rfl
    · trivial
  · rcases at_ i s e1 with ⟨d, _, rfl⟩ | rfl <;> cases a1
theorem startEnv_inn {b : Bs} {n : Nat} {ds : List D} {σ : St} : Inn b [] (startEnv n ds) σ := by
  have at_ : ∀ (i : Nat) (s : Slot), (startEnv n ds)[i]? = some s → (∃ d, s = Slot.val d) ∨ s = Slot.un := fun i s e => by
    unfold startEnv at e
    by_cases c : i < ds.length
    · rw [List.getElem?_append_left (by simpa using c), List.getElem?_map] at e
      obtain ⟨d, e1, e2⟩ := Option.map_eq_some_iff.mp e
      exact .inl ⟨d, e2.symm⟩
    · rw [List.getElem?_append_right (by simpa using c), List.getElem?_replicate] at e
      split at e <;> cases e
      exact .inr rfl
  refine ⟨fun i s a _ e al _ => ?_, fun i c fs _ e => ?_⟩
  · rcases at_ i s e with ⟨d, rfl⟩ | rfl <;> cases al
  · rcases at_ i _ e with ⟨d, q⟩ | q <;> cases q
/-- the context of a def's body is a context of ours -/
theorem inS_of {N ps : List Str} {qual : Str} {scope : Scope} {f : Addr} {cd : Value} {A : Around} {outer : List PySem.Env} {s : Shared} {H : Hp} {E : XK} {k : Nat} {lb : Bool} (sc : FnScope N ps scope) (rm : Room k (A.deeper (envOfC qual scope s.heap.objs.size f cd))) (hlam : lb = true → LamAt G qual cd) :
    InS G (cxOf (L2N.CX G.P G.w) G.P G.w G.K G.mg G.base N qual scope f cd A outer s H E) N scope k (fun cls d _ H => E cls d H) lb where
  P := rfl
  w := rfl
  K := rfl
  mg := rfl
  base := rfl
  calm := rfl
  room := ⟨k, rm⟩
  hN := rfl
  nd := sc.nd
  hsc := rfl
  rm := rm
  lm := fun h _ => hlam h
  fr := ⟨_, outer, s.heap.objs.size, rfl, rfl, rfl⟩
  tk := takesF_of (E₁ := fun e' s'' => L2N.CX G.P G.w outer H s E e' s'') rfl rfl rfl rfl
  hfn := fun _ => rfl
  stk := rfl
  fre := rfl
  own := passes_of (K := fun e s'' => L2N.CX G.P G.w outer H s E e s'') (E₁ := fun e' s'' => L2N.CX G.P G.w outer H s E e' s'') rfl
  kd := sc.kind
theorem spOf_cases (T : List FT) (f : Nat) : (∃ c, (G.pg.defs[f]?).bind (·.ini) = some c ∧ spOf G T f = spIni G T c f) ∨ ((G.pg.defs[f]?).bind (·.ini) = none ∧ spOf G T f = spFn G T f) := by
  unfold spOf
  cases h : (G.pg.defs[f]?).bind (·.ini) with
  | none => exact .inr ⟨rfl, rfl⟩
  | some c => exact .inl ⟨c, rfl, rfl⟩
theorem fns0 : FnsOk G 0 := by
  intro f hf
  have no : ∀ vs H Q E, ¬ spOf G (tabs G.pg 0) f vs H Q E := fun vs H Q E h => by
    rcases spOf_cases (G := G) (tabs G.pg 0) f with ⟨c, _, e⟩ | ⟨_, e⟩ <;> rw [e] at h
    · obtain ⟨z, st, ds, x, dx, rest, _, _, _, _, _, _, _, q⟩ := h
      exact q
    · obtain ⟨z, st, ds, _, _, _, q⟩ := h
      exact q
  exact ⟨fun vs H Q E h => (no _ _ _ _ h).elim, fun A outer s H args us vs Q E _ _ _ _ h => (no _ _ _ _ h).elim⟩
theorem fns_succ (S : Static G nm) (SL : Lams G nm) (hd : ∀ f, f < G.pg.defs.length → DefOk G nm f) {k : Nat} (L : ∀ j, j ≤ k → FnsOk G j) : FnsOk G (k + 1) := by
  intro f hf
  obtain ⟨d, N, x, qual, stm, lb, hdf, F, hsc, hck, hlam, hN, hP, hnp⟩ := (hd f hf).ex
  obtain ⟨oc, od, dV, kV, doc, pm, an, cdv, ct, osl, efd, lk, hcd⟩ := F.ex
  have sc := C8.fnScope_by hsc
  rw [efd] at lk ⊢
  have hrun : ∀ ds st, callT (tabs G.pg (k + 1)) f ds st = runDef G.pg (tabs G.pg k) f ds st := fun _ _ => rfl
  refine fn_of lk hcd sc (fun vs H Q E h => ?_) fun A outer s H vs Q E hr hsp => ⟨_, simSs (C := ⟨nm, G.pg, N, lb⟩) S SL rfl L (inS_of sc hr fun h => by have q := hlam h; rw [efd] at q; exact q) d.body hck, ?_⟩
  · rcases spOf_cases (G := G) (tabs G.pg (k + 1)) f with ⟨c, hc, e⟩ | ⟨hc, e⟩ <;> rw [e] at h <;> rw [hdf] at hc <;> simp only [Option.bind_some] at hc
    · obtain ⟨z, st, ds, y, dx, rest, rfl, _, _, _, _, _, rs, q⟩ := h
      rw [hrun] at q
      unfold runDef at q
      rw [hdf] at q
      simp only [hc] at q
      split at q
      · rename_i heq
        split at heq
        · rename_i hlen
          rw [List.length_cons, rs.len, hlen, hP]
        · cases heq
      · exact q.elim
    · obtain ⟨z, st, ds, _, _, rs, q⟩ := h
      rw [hrun] at q
      unfold runDef at q
      rw [hdf] at q
      simp only [hc] at q
      split at q
      · rename_i hlen
        rw [rs.len, hlen, hP]
      · exact q.elim
  · rcases spOf_cases (G := G) (tabs G.pg (k + 1)) f with ⟨c, hc, e⟩ | ⟨hc, e⟩ <;> rw [e] at hsp <;> rw [hdf] at hc <;> simp only [Option.bind_some] at hc
    · obtain ⟨z, st, ds, y, dx, rest, rfl, hy, hdx, ne, rfl, rel, rs, q⟩ := hsp
      rw [hrun] at q
      unfold runDef at q
      rw [hdf] at q
      simp only [hc] at q
      split at q
      rotate_left
      · exact q.elim
      rename_i fs st' heq
      split at heq
      rotate_left
      · cases heq
      rename_i hlen
      -- the state at the entry
      have e1 : Ext z (z.put dx (.own y)) := (Ext.refl z).put hdx
      have e2 : Ext z ((z.put dx (.own y)).put y (.ins (G.cA c) dx [])) := e1.put hy
      have nfy : ¬ z.F y := rel.notF hy
      have niy : y ∉ z.io := rel.notIn hy
      have r1 : Rel G (z.put dx (.own y)) st := rel.put0 hdx
      have r2 : Rel G ((z.put dx (.own y)).put y (.ins (G.cA c) dx [])) st := r1.put0 (o := .ins (G.cA c) dx []) (by show upd z.H dx _ y = none; rw [upd_ne (fun e => ne e.symm)]; exact hy)
      have er0 := startEnv_R (N := N.drop 1) (n := d.n - 1) (rs.ext e2 rel.wf) (by rw [List.length_drop, hN]) (by omega)
      have hl1 := rs.len
      cases hb : execSs G.pg (tabs G.pg k) d.body (startIni c d.n ds) st with
      | cont _ _ => rw [hb] at heq; cases heq
      | ret _ _ => rw [hb] at heq; cases heq
      | bad => rw [hb] at heq; cases heq
      | exc _ _ => rw [hb] at heq; cases heq
      | next env' st2 =>
        rw [hb] at heq
        cases env' with
        | nil => cases heq
        | cons s0 er' =>
          cases s0 with
          | un => cases heq
          | val _ => cases heq
          | own _ => cases heq
          | ownD _ => cases heq
          | self c' fs' =>
            simp only [] at heq
            split at heq
            rotate_left
            · cases heq
            rename_i hcc
            cases heq
            obtain ⟨rfl, hfs⟩ := hcc
            obtain ⟨kl, hk⟩ : ∃ kl, G.pg.cls[c']? = some kl := by
              cases hq : G.pg.cls[c']? with
              | none => rw [hq] at hfs; cases hfs
              | some kl => exact ⟨kl, rfl⟩
            rw [hk] at hfs
            have hfs : fs'.map (·.1) = kl.fs := by simpa using hfs
            have hstart : L2.start N (.ref y :: rest) = some (.ref y) :: L2.start (N.drop 1) rest := by
              unfold L2.start
              rw [List.map_cons, List.length_cons, List.length_drop, List.cons_append]
              congr 2
              congr 1
              omega
            have hini : startIni c' d.n ds = .self c' [] :: startEnv (d.n - 1) ds := by
              unfold startIni startEnv
              rfl
            have a0 : At G ⟨z, y⟩ ((z.put dx (.own y)).put y (.ins (G.cA c') dx [])) (startIni c' d.n ds) st (L2.start N (.ref y :: rest)) := by
              refine ⟨e2, r2, ?_, ?_⟩
              · rw [hstart, hini]
                refine ⟨by rw [List.length_cons, List.length_cons, er0.len], fun i s0 e => ?_, fun i j s0 t a q1 q2 a1 a2 p1 p2 => ?_⟩
                · cases i with
                  | zero =>
                    cases e
                    exact ⟨y, dx, [], kl, rfl, hk, upd_same, rfl, Rs.nil.mpr rfl, nfy, niy⟩
                  | succ i => exact er0.at_ i s0 (by simpa using e)
                · have no : ∀ {i : Nat} {s0 : Slot}, (Slot.self c' [] :: startEnv (d.n - 1) ds)[i + 1]? = some s0 → s0.alone = true → False := fun {i s0} q al => by
                    have q : (startEnv (d.n - 1) ds)[i]? = some s0 := by simpa using q
                    unfold startEnv at q
                    by_cases cc : i < ds.length
                    · rw [List.getElem?_append_left (by simpa using cc), List.getElem?_map] at q
                      obtain ⟨d', _, rfl⟩ := Option.map_eq_some_iff.mp q
                      cases al
                    · rw [List.getElem?_append_right (by simpa using cc), List.getElem?_replicate] at q
                      split at q <;> cases q
                      cases al
                  cases i with
                  | zero =>
                    cases j with
                    | zero => rfl
                    | succ j => exact (no q2 a2).elim
                  | succ i => exact (no q1 a1).elim
              · rw [hstart, hini]
                refine ⟨fun i s0 a _ e al q => ?_, fun i c2 fs2 _ e => ?_⟩
                · cases i with
                  | zero => cases q; exact Free.none hy
                  | succ i => exact (startEnv_inn (b := ⟨z, y⟩) (σ := L2.start (N.drop 1) rest)).new i s0 a (by simp) (by simpa using e) al (by simpa using q)
                · cases i with
                  | zero => rfl
                  | succ i => exact (startEnv_inn (b := ⟨z, y⟩) (σ := L2.start (N.drop 1) rest)).self i c2 fs2 (by simp) (by simpa using e)
            refine ⟨⟨z, y⟩, _, _, st, rfl, a0, ?_⟩
            rw [hb]
            intro z' σ' ez kz rz erz innz
            obtain ⟨a, dx', ws, k2, p1, hk2, hH, hl, rw', nf, ni⟩ := erz.at_ 0 _ rfl
            have p2 := innz.self 0 c' fs' (by simp) rfl
            rw [p1] at p2
            cases p2
            rw [hk] at hk2
            cases hk2
            have hmap : (fs'.map fun p => sOf p.1) = kl.fs.map sOf := by rw [← hfs, List.map_map]; rfl
            rw [hmap] at hH
            exact q z' ws kl dx' ez rz ⟨⟨_, hH, rfl⟩, nf, ni⟩ hk hH (by rw [hl, ← hfs, List.length_map]) rw'
    · obtain ⟨z, st, ds, rfl, rel, rs, q⟩ := hsp
      rw [hrun] at q
      unfold runDef at q
      rw [hdf] at q
      simp only [hc] at q
      split at q
      rotate_left
      · exact q.elim
      rename_i hlen
      refine ⟨⟨z, 0⟩, z, startEnv d.n ds, st, rfl, ⟨Ext.refl z, rel, startEnv_R rs hN (by omega), startEnv_inn⟩, ?_⟩
      cases hb : execSs G.pg (tabs G.pg k) d.body (startEnv d.n ds) st with
      | next env' st' => rw [hb] at q; exact fun z' σ' e _ r _ _ => q z' e r _ (R.non.mpr rfl)
      | cont _ _ => rw [hb] at q; exact q.elim
      | ret x st' => rw [hb] at q; exact fun z' v e r rv => q z' e r v rv
      | exc x st' => rw [hb] at q; exact fun z' cls dd _ e r xr => q z' cls dd e r xr
      | bad => rw [hb] at q; exact q.elim
theorem fns_ok (S : Static G nm) (SL : Lams G nm) (hd : ∀ f, f < G.pg.defs.length → DefOk G nm f) : ∀ k, FnsOk G k := by
  intro k
  induction k using Nat.strongRecOn with
  | _ k ih =>
    cases k with
    | zero => exact fns0
    | succ k => exact fns_succ S SL hd fun j hj => ih j (by omega)
end
end Fw

set_option Elab.async false
set_option linter.all false
set_option maxRecDepth 100000
set_option autoImplicit false
set_option maxHeartbeats 1000000
/-! Fw141: the __init__ of an exception with a word. -/
namespace Fw
open PySem PySem.Spec PyProof.Rows L2
theorem x_ini {P : Program} {w : World} {K : PySem.W.Frag} {mg : Str → Option Value} {base : Heap} {C f : Addr} {fd : FuncData} {qual : Str} {st : Stmt} (T : OexC K C) (hw : PySem.W.findIn K (.ref C) "word" = some none) (F : C8.Fun K "__init__" qual st f fd)
    (hb : ∃ pa pb pc pd, C8.fnBody st = [.Assign [.Attribute (.Name "self" pa) "word" pb] (.Name "word" pc) pd]) (hs : C8.scC ["self", "word"] ["self", "word"] (C8.fnScope st) = true)
    (hv1 : visS (C8.fnScope st) "self" = true) (hv2 : visS (C8.fnScope st) "word" = true) :
    FnOk P w K mg base (L2N.CX P w) 1 f fd ["self", "word"] (spX C) := by
  obtain ⟨oc, od, dV, kV, doc, pm, an, cdv, ct, osl, efd, lk, hcd⟩ := F.ex
  obtain ⟨pa, pb, pc, pd, hb⟩ := hb
  have sc := C8.fnScope_by hs
  rw [efd] at lk ⊢
  refine fn_of lk hcd sc (fun vs H Q E h => ?_) fun A outer s H vs Q E hr hsp => ?_
  · obtain ⟨a, v, rfl, _⟩ := h
    rfl
  · obtain ⟨a, v, rfl, hH, q⟩ := hsp
    rw [hb]
    refine ⟨_, pss_cons (ps_ost (pe_var (i := 0) rfl (visS_ok hv1)) (pe_var (i := 1) rfl (visS_ok hv2))) pss_nil, ?_⟩
    refine ⟨v, rfl, .ref a, rfl, a, C, rfl, T, hw, .inl ⟨hH, fun dx hd hne => ?_⟩⟩
    exact q dx hd hne
end Fw

set_option Elab.async false
set_option linter.all false
set_option maxRecDepth 100000
set_option autoImplicit false
set_option maxHeartbeats 1000000
/-! Fw142: a written dict of the module. -/
namespace Fw
open PySem PySem.Spec PyProof.Rows L2
def DEnt : List DictEntry → List (Key × V) → Prop
  | [], [] => True
  | e :: r, kv :: s => (∃ x t, e.key = .str x t ∧ kv.1 = Sum.inr x) ∧ RelV kv.2 e.val ∧ DEnt r s
  | _, _ => False
theorem dent_find {x : Str} : ∀ {l : List DictEntry} {kvs : List (Key × V)}, DEnt l kvs → RelO (valV kvs (Sum.inr x)) ((l.find? (·.key.isStr x)).map (·.val))
  | [], [], _ => trivial
  | e :: r, (k, v) :: s, ⟨⟨y, t, h1, h2⟩, h3, h4⟩ => by
    have ih := dent_find (x := x) h4
    have h2 : k = Sum.inr y := h2
    subst h2
    rw [List.find?_cons]
    by_cases c : y = x
    · subst c
      have : e.key.isStr y = true := by rw [h1]; simp [Value.isStr]
      rw [this]
      have hv : valV ((Sum.inr y, v) :: s) (Sum.inr y) = some v := by simp [valV]
      rw [hv]
      exact h3
    · have : e.key.isStr x = false := by rw [h1]; simp [Value.isStr, c]
      rw [this]
      have hv : valV ((Sum.inr y, v) :: s) (Sum.inr x) = valV s (Sum.inr x) := by simp [valV, c]
      rw [hv]
      exact ih
theorem dent_keys : ∀ {l : List DictEntry} {kvs : List (Key × V)}, DEnt l kvs → l.any (·.refKey) = false
  | [], [], _ => rfl
  | e :: r, (k, v) :: s, ⟨⟨y, t, h1, h2⟩, h3, h4⟩ => by
    rw [List.any_cons, dent_keys h4]
    have : e.refKey = false := by unfold DictEntry.refKey; rw [h1]
    rw [this]; rfl
theorem kdic_of {G : Gd} {d : Addr} {es : Array DictEntry} {n : Nat} {kvs : List (Key × V)} (hk : G.K.lookup d = some ⟨.type "dict", none, .dict es n, #[]⟩) (hl : PySem.W.KeysLit G.w.params es.toList) (hs : (d == sysModules) = false) (h : DEnt es.toList kvs) : KDic G d kvs := by
  refine ⟨es, n, ⟨hk, hl, hs⟩, fun x => ?_⟩
  have r := dent_find (x := x) h
  unfold PySem.W.nsIn
  rw [hk]
  simp only
  cases hf : es.toList.find? (·.key.isStr x) with
  | none =>
    rw [hf] at r
    rw [dent_keys h]
    exact ⟨none, rfl, r⟩
  | some e =>
    rw [hf] at r
    exact ⟨some e.val, rfl, r⟩
theorem RK.nil' {G : Gd} {z : Z} : RK G z [] [] := by simp only [RK]
theorem RK.mk' {G : Gd} {z : Z} {x : Str} {k : Txt} {d : D} {v : V} {ds : List (Txt × D)} {vs : List (Key × V)} (h : sOf k = x) (ok : okT k = true) (r : R G z d v) (rs : RK G z ds vs) : RK G z ((k, d) :: ds) ((Sum.inr x, v) :: vs) := by
  simp only [RK]
  exact ⟨v, vs, by rw [← h]; rfl, ok, r, rs⟩
end Fw

set_option Elab.async false
set_option linter.all false
set_option maxRecDepth 100000
set_option autoImplicit false
set_option maxHeartbeats 2000000
/-! Fw143: _law_word keeps its promise. -/
namespace Fw
open PySem PySem.Spec PyProof.Rows L2 L2H

/-- what isinstance asks of an exception's class -/
structure WExc (K : PySem.W.Frag) (C : Addr) : Prop where
  cl : (PySem.W.clsIn K C).isSome = true
  ga : PySem.W.findIn K (.ref C) "__getattribute__" = some (some (.builtin "BaseException.__getattribute__"))
  gt : PySem.W.findIn K (.ref C) "__getattr__" = some none
  sb : PySem.W.subIn K (.ref C) (.type "BaseException") = some true
  ca : PySem.W.findIn K (.ref C) "__class__" = some (some (.builtin "object.__class__"))
  sp : PySem.W.specialIn K (.builtin "object.__class__") "__get__" = some (some (.builtin "getset_descriptor.__get__"))
  tk : PySem.W.takesIn K (.builtin "object.__class__") = some true
  mr : PySem.W.mroIn K C (.type "object") = some true
theorem WExc.isCls {K : PySem.W.Frag} {D : Addr} (C : WExc K D) : ∃ cd cdv sl dct, K.lookup D = some ⟨dct, cdv, .cls cd, sl⟩ := by
  obtain ⟨cd, h⟩ := Option.isSome_iff_exists.mp C.cl
  unfold PySem.W.clsIn at h
  split at h
  · exact ⟨_, _, _, _, by assumption⟩
  · cases h
theorem kitxW {K : PySem.W.Frag} {x D : Addr} {ox : Obj} {od : Option Obj} (C : WExc K D) : PySem.W.KitX K (.ref x) (.ref D) (fun h => PySem.W.InstAt h x ox D od) where
  ty := fun _ _ _ I => I.type
  it := fun _ _ KI _ => by
    obtain ⟨cd, cdv, sl, dct, ho⟩ := C.isCls
    intro A' Q' E' s' k q
    unfold isType loadHead
    exact wpAny_bind (wpAny_loadPart (k _ _ (KI _ _ ho)) (wpAny_pure q))
  ne := fun h tp dd its n sl KI htp => by
    obtain ⟨cd, cdv, sl', dct, ho⟩ := C.isCls
    refine Bool.eq_false_iff.mpr fun q => ?_
    have e : D = tp := Value.ref.inj (beq_iff_eq.mp q)
    subst e
    have z := (KI _ _ ho).symm.trans htp
    cases z
  ca := fun KI I k => PySem.W.kx_classE KI I C.ga C.gt C.sb (PySem.W.findObj_dataE C.cl C.ca C.sp C.tk) C.mr k
theorem Rel.xd_ni {G : Gd} {z : Z} {st : Store} (r : Rel G z st) {d : Addr} {fs : List (Str × V)} (h : z.H d = some (.xd fs)) : d ∉ z.io := fun hm => by
  obtain ⟨j, hj, e⟩ := List.getElem_of_mem hm
  have hl : j < st.length := by rw [← r.len]; exact hj
  obtain ⟨a, ha, q⟩ := r.at_ j st[j] (List.getElem?_eq_getElem hl)
  rw [List.getElem?_eq_getElem hj, e] at ha
  cases ha
  cases hc : st[j] <;> rw [hc] at q
  · obtain ⟨_, q, _⟩ := q; rw [h] at q; cases q
  · obtain ⟨_, _, _, _, q, _⟩ := q; rw [h] at q; cases q
theorem ExcR.ext {G : Gd} {z z' : Z} {st : Store} {e : Exc} {cls : Value} {dd : Option Addr} (x : ExcR G z e cls dd) (r : Rel G z st) (ex : Ext z z') : ExcR G z' e cls dd := by
  obtain ⟨h1, h2⟩ := x
  refine ⟨h1, ?_⟩
  cases hw : e.w with
  | none => rw [hw] at h2; exact h2
  | some w =>
    rw [hw] at h2
    obtain ⟨d, v, e1, e2, rv⟩ := h2
    exact ⟨d, v, e1, ex.h d _ e2 (r.xd_ni e2) (by simp), rv.ext ex r.wf⟩
section
variable {Z : Cx} {a D : Addr} {oe : Obj} {dd : Option Addr}
/-- isinstance(e, c), e the exception that is handled -/
def rIsH (K : PySem.W.Frag) (D a : Addr) (dd : Option Addr) : List V → Hp → VK → Prop := fun xs H Q => ∃ (c : V) (cv : Value) (b : Bool), xs = [.ref a, c] ∧ (∀ u, RelV c u → u = cv) ∧ PySem.W.kitOne K (.ref D) cv = some b ∧ (dd = none ∨ ∃ d fs, dd = some d ∧ H d = some (.xd fs)) ∧ Q (.bl b) H
theorem call_isH (C : WExc Z.K D) (hp : (a, oe) ∈ Z.pn) (hz : Zc (.ref D) dd oe) (hf : ∃ vs, oe.data = .fields vs) : CallR Z (.builtin "isinstance") (rIsH Z.K D a dd) := by
  intro pins s σ H xs us Q I r h
  obtain ⟨c, cv, b, rfl, hcv, e, hd, q⟩ := h
  cases r with
  | cons rx rr =>
    cases rr with
    | cons rt rr =>
      cases rr
      cases rx
      have ec := hcv _ rt
      subst ec
      obtain ⟨hget, _⟩ := I.pin (a, oe) (List.mem_append_left _ hp)
      obtain ⟨vs, hv⟩ := hf
      have no : PySem.W.notCls oe = true := by unfold PySem.W.notCls; rw [hv] <;> rfl
      have J : ∃ od, PySem.W.InstAt s.heap a oe D od := by
        rcases hd with hd | ⟨d, fs, hd, hH⟩
        · exact ⟨none, hget, hz.1, no, by rw [hz.2, hd]; trivial⟩
        · have hx : ObjOk Z.prog Z.w H s.heap d (.xd fs) := I.hok d _ hH
          obtain ⟨mA, hns, _⟩ := hx
          obtain ⟨od, ho, _⟩ := lookIn_ns hns
          exact ⟨some od, hget, hz.1, no, by rw [hz.2, hd]; exact ho⟩
      obtain ⟨od, J⟩ := J
      exact PySem.W.kia_one (kitxW C) I.kIn J e (fun z => nomatch z) fun tk => ⟨.bl b, H, I.kept (t' := tk) fun _ _ z => z, rfl, q⟩
/-- e.word, likewise -/
theorem pe_wordH {C : Addr} {e : Expr} {te : TE} {pos : Pos} {n : Str} {cls : Value} (T : XfC Z.K C) (hno : PySem.W.findIn Z.K (.ref C) n = some none) (hp : (a, oe) ∈ Z.pn) (hz : Zc cls dd oe) (hf : ∃ vs, oe.data = .fields vs) (he : PE Z e te) (hb : attributeBase e n Z.env (eval e Z.env) = eval e Z.env) :
    PE Z (.Attribute e n pos) (tXf a cls dd C n te) := by
  refine ⟨fun pins s σ H Q I h => attr_of hb (thn (he.run pins s σ H _ I h) fun u s1 hh => ?_)⟩
  obtain ⟨x, H1, I1, rx, rfl, rfl, d, fs, v, rfl, ea, l, q⟩ := hh
  obtain rfl : u = Value.ref a := rx
  obtain ⟨hget, _⟩ := I1.pin (a, oe) (List.mem_append_left _ hp)
  obtain ⟨vs, hv⟩ := hf
  obtain ⟨mA, hns, hr⟩ := (show ObjOk Z.prog Z.w H1 s1.heap d (.xd fs) from I1.hok d _ ea)
  obtain ⟨od, ho, hl⟩ := lookIn_ns hns
  obtain ⟨u, hu, ru⟩ := RelO.some_of (v := v) (o := mA n) (by rw [← l]; exact hr n)
  have J : PySem.W.InstAt s1.heap a oe C (some od) := ⟨hget, hz.1, by unfold PySem.W.notCls; rw [hv] <;> rfl, by rw [hz.2]; exact ho⟩
  exact HandSPX.exc_get I1.kIn J T.ga T.gg T.exC (PySem.W.findObj_own T.hdC hno rfl (by rw [hl, hu])) (handed_of ru) ⟨v, H1, I1.tok _, ru, q⟩
end

/-! ### the text -/
def five : List Str := ["BadLine", "BadStep", "BadTerm", "BadText", "Fault"]
def isEB (nm : Str) : Expr → Bool
  | .Call (.Name x _) [.Name e _, .Name c _] [] _ => decide (x = "isinstance") && decide (e = "_law_e") && decide (c = nm)
  | _ => false
def isEsB : List Expr → List Str → Bool
  | [], [] => true
  | e :: es, n :: ns => isEB n e && isEsB es ns
  | _, _ => false
def strB (nm : Str) : Expr → Bool
  | .Constant (.str s) _ _ => decide (s = nm)
  | _ => false
def strsB : List Expr → List Str → Bool
  | [], [] => true
  | e :: es, n :: ns => strB n e && strsB es ns
  | _, _ => false
def sumB (sc : Scope) : Expr → Bool
  | .Call (.Name s _) [.ListComp (.Call (.Name i _) [.Name v1 _] [] _) [⟨.Name v2 _, .Name l _, [], k⟩] scope _] [] _ =>
    decide (s = "sum") && decide (i = "int") && decide (v1 = "_law_flag") && decide (v2 = "_law_flag") && decide (l = "_law_flags") && decide (k = 0) && blkC ["_law_e", "_law_flags", "_law_flag"] sc scope (.one 2) &&
      decide (scope.names.lookup ("_law_flag" : Str) = some .local) && glS (relS scope sc) "int" && visS (relS scope sc) "_law_flag"
  | _ => false
def condB (sc : Scope) : Expr → Bool
  | .BoolOp .Or [.Compare a [.NotEq] [.Constant (.int n) _ _] _, .UnaryOp .Not b _] _ => sumB sc a && decide (n = 1) && isEB "ValueError" b
  | _ => false
def otherB : List Stmt → Bool
  | [.Return (some (.Tuple es _ _)) _] => strsB es ["refused", "other"]
  | _ => false
def flagB : Expr → Bool
  | .Subscript (.Name l _) (.Constant (.int n) _ _) _ => decide (l = "_law_flags") && decide (n = 4)
  | _ => false
def faultB : List Stmt → Bool
  | [.Return (some (.Tuple [.Constant (.str s) _ _, .Constant (.str f) _ _, .Attribute (.Name e _) w _] _ _)) _] => decide (s = "refused") && decide (f = "Fault") && decide (e = "_law_e") && decide (w = "word")
  | _ => false
def badB : Stmt → Bool
  | .Return (some (.Tuple [.Constant (.str s) _ _, .Subscript (.List es _) (.Call (.Attribute (.Name l _) ix apos) [.Constant (.bool b) _ _] [] cpos) _] _ _)) _ =>
    decide (s = "refused") && strsB es ["BadLine", "BadStep", "BadTerm", "BadText"] && decide (l = "_law_flags") && decide (ix = "index") && b && (apos.endLine == cpos.line)
  | _ => false
def restB (sc : Scope) : List Stmt → List Str → Bool
  | .Assign [.Name x _] (.BinOp (.Name y _) .Add (.List es _) _) _ :: r, ns => decide (x = "_law_flags") && decide (y = "_law_flags") && isEsB es (ns.take es.length) && restB sc r (ns.drop es.length)
  | [.If c1 b1 [] _, .If c2 b2 [] _, r], ns => decide (ns = []) && condB sc c1 && otherB b1 && flagB c2 && faultB b2 && badB r
  | _, _ => false
def wordB (st : Stmt) : Bool := match C8.fnBody st with
  | .Assign [.Name x _] (.List es _) _ :: r => decide (x = "_law_flags") && isEsB es (five.take es.length) && restB (C8.fnScope st) r (five.drop es.length) &&
      C8.scC ["_law_e", "_law_flags", "_law_flag"] ["_law_e"] (C8.fnScope st) && decide ((C8.fnScope st).names.lookup ("_law_flags" : Str) = some .local) && visS (C8.fnScope st) "_law_e" &&
      (five ++ (["isinstance", "sum", "ValueError"] : List Str)).all fun x => glS (C8.fnScope st) x
  | _ => false
/-- the facts of the top -/
structure WordFacts (G : Gd) : Prop where
  ex : ∃ (st : Stmt) (f : Addr) (fd : FuncData), G.mg "_law_word" = some (.ref f) ∧ PySem.W.keepIn G.K (.ref f) = true ∧ C8.Fun G.K "_law_word" "_law_word" st f fd ∧ L2.Binds G.K fd ["_law_e"] [] ∧ wordB st = true
  cls : ∀ (c : Nat) (kx : MExc), G.pg.excs[c]? = some kx → WExc G.K (G.eA c) ∧ PySem.W.kitOne G.K (.ref (G.eA c)) (.type "ValueError") = some true ∧
    ∀ nm ∈ five, ∃ B, G.mg nm = some (.ref B) ∧ PySem.W.kitOne G.K (.ref (G.eA c)) (.ref B) = some (decide (sOf kx.name = nm))
  word : ∀ (c : Nat) (kx : MExc), G.pg.excs[c]? = some kx → kx.word = true → XfC G.K (G.eA c) ∧ PySem.W.findIn G.K (.ref (G.eA c)) "word" = some none
  blt : G.mg "isinstance" = none ∧ G.mg "sum" = none ∧ G.mg "int" = none ∧ G.mg "ValueError" = none

section
variable {G : Gd} {Y : Cx} {a : Addr} {oe : Obj} {dd : Option Addr} {c : Nat} {kx : MExc} {sc : Scope}
def NW : List Str := ["_law_e", "_law_flags", "_law_flag"]
/-- the hot context -/
structure HotIn (G : Gd) (Y : Cx) (sc : Scope) (a : Addr) (oe : Obj) : Prop where
  P : Y.prog = G.P
  w : Y.w = G.w
  K : Y.K = G.K
  mg : Y.mg = G.mg
  base : Y.base = G.base
  N : Y.N = NW
  hsc : Y.env.scope = sc
  hot : HotC Y
  pn : (a, oe) ∈ Y.pn
  fn : ∀ x, Y.fn x = true
  kd : sc.kind = .function
theorem HotIn.gl (h : HotIn G Y sc a oe) {x : Str} (hx : glS sc x = true) : Gl Y x := by
  show Y.env.scope.names.lookup x = _
  rw [h.hsc]; exact glS_ok hx
theorem HotIn.vis (h : HotIn G Y sc a oe) {x : Str} (hx : visS sc x = true) : Vis Y.env.scope x := by rw [h.hsc]; exact visS_ok hx
/-- what is known of the exception's object -/
def XdOk (dd : Option Addr) (H : Hp) : Prop := dd = none ∨ ∃ d fs, dd = some d ∧ H d = some (.xd fs)
theorem pe_isH (W : WordFacts G) (h : HotIn G Y sc a oe) (hk : G.pg.excs[c]? = some kx) (hz : Zc (.ref (G.eA c)) dd oe) (hf : ∃ vs, oe.data = .fields vs) (hv : visS sc "_law_e" = true) (hgi : glS sc "isinstance" = true) {nm : Str} (hnm : nm ∈ five) (hg : glS sc nm = true) {e : Expr} (he : isEB nm e = true) :
    PE Y e (fun σ H Q => σ[0]? = some (some (.ref a)) ∧ XdOk dd H ∧ Q (.bl (decide (sOf kx.name = nm))) H) := by
  obtain ⟨C, _, hB⟩ := W.cls c kx hk
  obtain ⟨B, hm, hkit⟩ := hB nm hnm
  have hn : okN nm = true := by
    simp only [five, List.mem_cons, List.not_mem_nil, or_false] at hnm
    rcases hnm with rfl | rfl | rfl | rfl | rfl <;> decide +kernel
  unfold isEB at he
  split at he <;> try cases he
  simp only [Bool.and_eq_true, decide_eq_true_eq] at he
  obtain ⟨⟨rfl, rfl⟩, rfl⟩ := he
  refine peImp (pe_callB (call_isH (D := G.eA c) (dd := dd) (by rw [h.K]; exact C) h.pn hz hf) (h.gl hgi) (by rw [h.mg]; exact W.blt.1) PyProof.Rows.boot_isinstance
    (pa_cons (pe_var (i := 0) (by rw [h.N]; rfl) (h.vis hv) (by decide) (by decide)) (pa_cons (pe_glob (v := .ref B) (h.gl hg) (by rw [h.mg]; exact hm) rfl (okN_dbg hn)) pa_nil)) (by decide) (by decide)) fun σ H Q q => ?_
  exact ⟨.ref a, q.1, .ref B, .ref B, _, rfl, fun u r => r, by rw [h.K]; exact hkit, q.2.1, q.2.2⟩
theorem pt_isVE (W : WordFacts G) (h : HotIn G Y sc a oe) (hk : G.pg.excs[c]? = some kx) (hz : Zc (.ref (G.eA c)) dd oe) (hf : ∃ vs, oe.data = .fields vs) (hv : visS sc "_law_e" = true) (hgi : glS sc "isinstance" = true) (hg : glS sc "ValueError" = true) {e : Expr} (he : isEB "ValueError" e = true) :
    PT Y e (fun σ H Q => σ[0]? = some (some (.ref a)) ∧ XdOk dd H ∧ Q true H) := by
  obtain ⟨C, hkit, _⟩ := W.cls c kx hk
  unfold isEB at he
  split at he <;> try cases he
  simp only [Bool.and_eq_true, decide_eq_true_eq] at he
  obtain ⟨⟨rfl, rfl⟩, rfl⟩ := he
  refine ptImp (pt_val (pe_callB (call_isH (D := G.eA c) (dd := dd) (by rw [h.K]; exact C) h.pn hz hf) (h.gl hgi) (by rw [h.mg]; exact W.blt.1) PyProof.Rows.boot_isinstance
    (pa_cons (pe_var (i := 0) (by rw [h.N]; rfl) (h.vis hv) (by decide) (by decide)) (pa_cons (pe_bltn (v := .ty "ValueError") (h.gl hg) (by rw [h.mg]; exact W.blt.2.2.2) (by decide +kernel) rfl (by decide) (by decide)) pa_nil)) (by decide) (by decide))) fun σ H Q q => ?_
  exact ⟨.ref a, q.1, .ty "ValueError", .type "ValueError", _, rfl, fun u r => r, by rw [h.K]; exact hkit, q.2.1, true, rfl, q.2.2⟩
theorem pa_isH (W : WordFacts G) (h : HotIn G Y sc a oe) (hk : G.pg.excs[c]? = some kx) (hz : Zc (.ref (G.eA c)) dd oe) (hf : ∃ vs, oe.data = .fields vs) (hv : visS sc "_law_e" = true) (hgi : glS sc "isinstance" = true) (hgs : ∀ nm ∈ five, glS sc nm = true) :
    ∀ (es : List Expr) (nms : List Str), (∀ n ∈ nms, n ∈ five) → isEsB es nms = true → PA Y es (fun σ H Q => σ[0]? = some (some (.ref a)) ∧ XdOk dd H ∧ Q (nms.map fun nm => .bl (decide (sOf kx.name = nm))) H)
  | [], [], _, _ => paImp pa_nil fun σ H Q q => q.2.2
  | e :: es, n :: ns, hn, hb => by
    simp only [isEsB, Bool.and_eq_true] at hb
    have he : plainE e = true := by
      have := hb.1
      unfold isEB at this
      split at this
      · rfl
      · cases this
    refine paImp (pa_cons (pe_isH W h hk hz hf hv hgi (hn n List.mem_cons_self) (hgs n (hn n List.mem_cons_self)) hb.1) (pa_isH W h hk hz hf hv hgi hgs es ns (fun m hm => hn m (List.mem_cons_of_mem _ hm)) hb.2) (star_of he _ _)) fun σ H Q q => ?_
    exact ⟨q.1, q.2.1, q.1, q.2.1, q.2.2⟩
  | [], _ :: _, _, hb => by simp [isEsB] at hb
  | _ :: _, [], _, hb => by simp [isEsB] at hb
theorem pa_strs : ∀ (es : List Expr) (nms : List Str), strsB es nms = true → PA Y es (fun σ H Q => Q (nms.map V.str) H)
  | [], [], _ => paImp pa_nil fun σ H Q q => q
  | e :: es, n :: ns, hb => by
    simp only [strsB, Bool.and_eq_true] at hb
    obtain ⟨h1, h2⟩ := hb
    unfold strB at h1
    split at h1 <;> try cases h1
    obtain rfl := of_decide_eq_true h1
    exact paImp (pa_cons pe_str (pa_strs es ns h2) rfl) fun σ H Q q => q
  | [], _ :: _, hb => by simp [strsB] at hb
  | _ :: _, [], hb => by simp [strsB] at hb
def b2 (b : Bool) : Int := if b then 1 else 0
def gB : V → V
  | .bl b => .int (b2 b)
  | v => v
theorem map_gB (bs : List Bool) : (bs.map V.bl).map gB = (bs.map b2).map V.int := by
  rw [List.map_map, List.map_map]; rfl
theorem pe_sumW (W : WordFacts G) (h : HotIn G Y sc a oe) (hg : glS sc "sum" = true) (hv : visS sc "_law_flags" = true) {e : Expr} (he : sumB sc e = true) :
    PE Y e (fun σ H Q => ∃ (D : Addr) (bs : List Bool), σ[1]? = some (some (.ref D)) ∧ H D = some (.lst (bs.map V.bl)) ∧ bs.length ≤ 1000 ∧ ∀ p, H p = none → Q (.int (bs.map b2).sum) (upd H p (.lst ((bs.map b2).map V.int)))) := by
  unfold sumB at he
  split at he <;> try cases he
  rename_i s0 p1 i0 p2 v1 p3 p4 v2 p5 l0 p6 k scope p7 p8
  simp only [Bool.and_eq_true, decide_eq_true_eq] at he
  obtain ⟨⟨⟨⟨⟨⟨⟨⟨⟨rfl, rfl⟩, rfl⟩, rfl⟩, rfl⟩, rfl⟩, hb⟩, hl⟩, hgi⟩, hvf⟩ := he
  have lc := pe_lcH (X := Y) (i := 2) (px := p5) (pos := p7) (C0 := fun v => ∃ b, v = V.bl b) (g := gB) (own := ownOf NW (.one 2)) h.hot (by rw [h.N]; decide +kernel) (by rw [h.N, h.hsc]; exact blk_of hb) (ownOf_vs NW (.one 2)) (by rw [h.N]; rfl) hl
    (pe_var (X := Y) (pos := p6) (i := 1) (by rw [h.N]; rfl) (h.vis hv) (by decide) (by decide))
    (fun s H C cl fp => peImp (pe_callTy (X := Y.blk s H scope (compEnvC scope cl C Y.env) fp) (p := p2) (pos := p4) call_int1 (by
        show (relabel scope Y.env).names.lookup _ = _
        have : relabel scope Y.env = relS scope sc := by rw [← h.hsc]; rfl
        rw [this]; exact glS_ok hgi) (by show Y.mg _ = _; rw [h.mg]; exact W.blt.2.2.1) (by decide +kernel)
      (pa_cons (pe_var (pos := p3) (i := 2) (by show Y.N[2]? = _; rw [h.N]; rfl) (by
        show Vis (relabel scope Y.env) _
        have : relabel scope Y.env = relS scope sc := by rw [← h.hsc]; rfl
        rw [this]; exact visS_ok hvf) (by decide) (by decide)) pa_nil) (by decide) (by decide)) fun σ H Q q => by
      obtain ⟨v, e1, ⟨b, rfl⟩, q⟩ := q
      exact ⟨.bl b, e1, .inr ⟨b, rfl, q⟩⟩) (fun x => rfl)
  refine peImp (pe_callB (cr_sumH h.hot) (h.gl hg) (by rw [h.mg]; exact W.blt.2.1) boot_sum (pa_cons lc pa_nil) (by decide) (by decide)) fun σ H Q q => ?_
  obtain ⟨D, bs, e1, e2, e3, q⟩ := q
  refine ⟨.ref D, e1, D, bs.map V.bl, rfl, e2, by rw [List.length_map]; exact e3, fun x hx => ?_, fun p np => ?_⟩
  · obtain ⟨b, _, rfl⟩ := List.mem_map.mp hx
    exact ⟨b, rfl⟩
  · rw [map_gB]
    exact ⟨p, bs.map b2, rfl, SqL.of upd_same, q p np⟩
theorem pt_condW (W : WordFacts G) (h : HotIn G Y sc a oe) (hk : G.pg.excs[c]? = some kx) (hz : Zc (.ref (G.eA c)) dd oe) (hf : ∃ vs, oe.data = .fields vs) (hv : visS sc "_law_e" = true) (hv1 : visS sc "_law_flags" = true) (hgi : glS sc "isinstance" = true) (hg : glS sc "ValueError" = true) (hgs : glS sc "sum" = true) {e : Expr} (he : condB sc e = true) :
    PT Y e (fun σ H Q => σ[0]? = some (some (.ref a)) ∧ ∃ (D : Addr) (bs : List Bool), σ[1]? = some (some (.ref D)) ∧ H D = some (.lst (bs.map V.bl)) ∧ bs.length ≤ 1000 ∧ (bs.map b2).sum = 1 ∧ ∀ p, H p = none → XdOk dd (upd H p (.lst ((bs.map b2).map V.int))) ∧ Q false (upd H p (.lst ((bs.map b2).map V.int)))) := by
  unfold condB at he
  split at he <;> try cases he
  simp only [Bool.and_eq_true, decide_eq_true_eq] at he
  obtain ⟨⟨h1, rfl⟩, h2⟩ := he
  refine ptImp (pw_or (pt_cmpR op_ne (pe_sumW W h hgs hv1 h1) pe_int rfl) (pw_or1 (pt_not (pt_isVE W h hk hz hf hv hgi hg h2)))).pt fun σ H Q q => ?_
  obtain ⟨e0, D, bs, e1, e2, e3, e4, q⟩ := q
  refine ⟨D, bs, e1, e2, e3, fun p np => ?_⟩
  obtain ⟨xd, q⟩ := q p np
  refine ⟨rfl, false, by rw [e4]; rfl, ?_⟩
  exact ⟨e0, xd, q⟩
theorem XdOk.upd {H : Hp} {p : Addr} {o : HO} (x : XdOk dd H) (np : H p = none) : XdOk dd (L2.upd H p o) := by
  rcases x with x | ⟨d, fs, e, h⟩
  · exact .inl x
  · exact .inr ⟨d, fs, e, by rw [upd_ne (ne_of_none h np)]; exact h⟩
theorem ExcR.xd {z : Fw.Z} {e : Exc} {cls : Value} (x : ExcR G z e cls dd) : XdOk dd z.H := by
  obtain ⟨_, h⟩ := x
  cases hw : e.w with
  | none => rw [hw] at h; exact .inl h
  | some w =>
    rw [hw] at h
    obtain ⟨d, v, h1, h2, _⟩ := h
    exact .inr ⟨d, _, h1, h2⟩
def ansOf (kx : MExc) : List Bool := five.map fun nm => decide (sOf kx.name = nm)
/-- the three last statements -/
theorem word_last (W : WordFacts G) (h : HotIn G Y sc a oe) (hk : G.pg.excs[c]? = some kx) (hz : Zc (.ref (G.eA c)) dd oe) (hf : ∃ vs, oe.data = .fields vs) (hv : visS sc "_law_e" = true) (hv1 : visS sc "_law_flags" = true) (hgi : glS sc "isinstance" = true) (hg : glS sc "ValueError" = true) (hgs : glS sc "sum" = true)
    {c1 c2 : Expr} {b1 b2 : List Stmt} {r : Stmt} {p1 p2 : Pos} (h1 : condB sc c1 = true) (h2 : otherB b1 = true) (h3 : flagB c2 = true) (h4 : faultB b2 = true) (h5 : badB r = true) {z : Fw.Z} {st : Store} {e : Exc} {d : D} (hec : e.c = c) (hd : toldD G.pg e = some d) :
    PSs Y [.If c1 b1 [] p1, .If c2 b2 [] p2, r] (fun Dn σ H => σ[0]? = some (some (.ref a)) ∧ (∃ D : Addr, σ[1]? = some (some (.ref D)) ∧ H D = some (.lst ((ansOf kx).map V.bl))) ∧ ∃ z' : Fw.Z, z'.H = H ∧ Ext z z' ∧ Rel G z' st ∧ ExcR G z' e (.ref (G.eA c)) dd ∧ ∀ z'' v, Ext z z'' → Rel G z'' st → R G z'' d v → Dn.rt v z''.H) := by
  unfold otherB at h2
  split at h2 <;> try cases h2
  unfold flagB at h3
  split at h3 <;> try cases h3
  unfold faultB at h4
  split at h4 <;> try cases h4
  unfold badB at h5
  split at h5 <;> try cases h5
  simp only [Bool.and_eq_true, decide_eq_true_eq] at h3 h4 h5
  obtain ⟨rfl, rfl⟩ := h3
  obtain ⟨⟨⟨rfl, rfl⟩, rfl⟩, rfl⟩ := h4
  obtain ⟨⟨⟨⟨⟨rfl, hss⟩, rfl⟩, rfl⟩, rfl⟩, hline⟩ := h5
  have key : (kx.word = true ∧ kx.name = t_Fault ∧ ∃ w, e.w = some w ∧ d = .tup [.str t_refused, .str t_Fault, w]) ∨ (kx.word = false ∧ (kx.name = t_BadLine ∨ kx.name = t_BadStep ∨ kx.name = t_BadTerm ∨ kx.name = t_BadText) ∧ e.w = none ∧ d = .tup [.str t_refused, .str kx.name]) := by
    unfold toldD at hd
    rw [hec, hk] at hd
    simp only [] at hd
    split at hd
    · rename_i hc
      simp only [Bool.and_eq_true, List.contains_iff_mem, t_five, List.mem_cons, List.not_mem_nil, or_false, beq_iff_eq] at hc
      obtain ⟨hn, hw⟩ := hc
      split at hd <;> try cases hd
      · rename_i w hkw hew
        rw [hkw] at hw
        have hn' : kx.name = t_Fault := by simpa using hw.symm
        exact .inl ⟨hkw, hn', w, hew, by rw [hn']⟩
      · rename_i hkw hew
        rw [hkw] at hw
        have hn' : kx.name ≠ t_Fault := by simpa using hw.symm
        refine .inr ⟨hkw, ?_, hew, rfl⟩
        rcases hn with q | q | q | q | q
        · exact .inl q
        · exact .inr (.inl q)
        · exact .inr (.inr (.inl q))
        · exact .inr (.inr (.inr q))
        · exact absurd q hn'
    · cases hd
  have pw : ∀ (p q : Pos), ∃ t : TE, PE Y (.Attribute (.Name "_law_e" p) "word" q) t ∧ (kx.word = true → ∀ σ H Q, tXf a (.ref (G.eA c)) dd (G.eA c) "word" (tVar 0) σ H Q → t σ H Q) := fun p q => by
    cases hw : kx.word with
    | false => exact ⟨_, peNever, fun z => by cases z⟩
    | true =>
      obtain ⟨T, hno⟩ := W.word c kx hk hw
      exact ⟨_, pe_wordH (by rw [h.K]; exact T) (by rw [h.K]; exact hno) h.pn hz hf (pe_var (pos := p) (i := 0) (by rw [h.N]; rfl) (h.vis hv) (by decide) (by decide)) rfl, fun _ σ H Q q => q⟩
  obtain ⟨tw, pw1, pw2⟩ := pw _ _
  refine pssImp (pss_cons (ps_if (pt_condW W h hk hz hf hv hv1 hgi hg hgs h1) (pss_one (ps_ret (pe_tup (pa_strs _ _ h2)))) pss_nil)
    (pss_cons (ps_if (pt_val (pe_ix ix_list (pe_var (i := 1) (by rw [h.N]; rfl) (h.vis hv1) (by decide) (by decide)) pe_int (fun _ _ => rfl))) (pss_one (ps_ret (pe_tup (pa_cons pe_str (pa_cons pe_str (pa_cons pw1 pa_nil)))))) pss_nil)
      (pss_one (ps_ret (pe_tup (pa_cons pe_str (pa_cons (pe_ix ix_list (pe_lst (pa_strs _ _ hss)) (pe_bm PySem.F.plainAttrs_list PySem.F.slot_list_index PySem.F.type_list_index mt_index (pe_var (i := 1) (by rw [h.N]; rfl) (h.vis hv1) (by decide) (by decide)) (pa_cons pe_bl pa_nil) rfl rfl hline) (fun _ _ => rfl)) pa_nil))))))) fun Dn σ H q => ?_
  obtain ⟨e0, ⟨D, e1, e2⟩, z', rfl, ex, rel, xr, fin⟩ := q
  have xd0 := xr.xd
  have step : ∀ (p : Addr) (o : HO), z'.H p = none → plainO o = true → Ext z (z'.put p o) ∧ Rel G (z'.put p o) st ∧ ExcR G (z'.put p o) e (.ref (G.eA c)) dd ∧ (z'.put p o).H D = some (.lst ((ansOf kx).map V.bl)) := fun p o np po =>
    ⟨ex.trans ((Ext.refl z').put np), rel.put0 np po, xr.ext rel ((Ext.refl z').put np), by show upd z'.H p o D = _; rw [upd_ne (ne_of_none e2 np)]; exact e2⟩
  rcases key with ⟨kw, kn, w, hw, rfl⟩ | ⟨kw, kn, hw, rfl⟩
  · have ha : ansOf kx = [false, false, false, false, true] := by unfold ansOf; rw [kn]; decide +kernel
    rw [ha] at e2 step
    refine ⟨e0, D, [false, false, false, false, true], e1, e2, by decide, by decide, fun p np => ⟨xd0.upd np, ?_⟩⟩
    obtain ⟨ex1, rel1, xr1, hD⟩ := step p (.lst (([false, false, false, false, true].map Fw.b2).map V.int)) np rfl
    refine (if_neg (by decide)).mpr ?_
    refine ⟨.ref D, e1, D, _, 4, .bl true, rfl, rfl, SqL.of hD, rfl, true, rfl, ?_⟩
    refine (if_pos rfl).mpr ?_
    obtain ⟨xc, xw⟩ := xr1
    rw [hw] at xw
    obtain ⟨d, v, hdd, hH, rv⟩ := xw
    refine pw2 kw _ _ _ ⟨.ref a, e0, rfl, rfl, d, _, v, hdd, hH, rfl, show 3 ≤ sizeLine by decide, fun q nq => ?_⟩
    have nq' : (z'.put p (.lst (([false, false, false, false, true].map Fw.b2).map V.int))).H q = none := nq
    exact fin _ _ (ex1.trans (Ext.new nq')) (rel1.new nq' (by simp)) (R.newT rel1 (Rs.mk _ _ (R.str.mpr ⟨rfl, by decide⟩) (Rs.mk _ _ (R.str.mpr ⟨rfl, by decide⟩) (Rs.mk _ _ rv (Rs.nil.mpr rfl)))) nq')
  · have ex4 : ∃ (j : Nat) (nm : Str) (bs : List Bool), ansOf kx = bs ∧ bs.length = 5 ∧ (bs.map Fw.b2).sum = 1 ∧ bs[4]? = some false ∧ j < 4 ∧ bs[j]? = some true ∧ (∀ m, m < j → bs[m]? = some false) ∧ (["BadLine", "BadStep", "BadTerm", "BadText"] : List Str)[j]? = some nm ∧ sOf kx.name = nm ∧ okT kx.name = true := by
      unfold ansOf
      rcases kn with kn | kn | kn | kn <;> rw [kn]
      · exact ⟨0, "BadLine", [true, false, false, false, false], by decide +kernel, rfl, by decide, rfl, by decide, rfl, fun m hm => absurd hm (by omega), rfl, by decide +kernel, by decide⟩
      · exact ⟨1, "BadStep", [false, true, false, false, false], by decide +kernel, rfl, by decide, rfl, by decide, rfl, fun m hm => by (have : m = 0 := by omega); subst this; rfl, rfl, by decide +kernel, by decide⟩
      · exact ⟨2, "BadTerm", [false, false, true, false, false], by decide +kernel, rfl, by decide, rfl, by decide, rfl, fun m hm => by (have : m = 0 ∨ m = 1 := by omega); rcases this with rfl | rfl <;> rfl, rfl, by decide +kernel, by decide⟩
      · exact ⟨3, "BadText", [false, false, false, true, false], by decide +kernel, rfl, by decide, rfl, by decide, rfl, fun m hm => by (have : m = 0 ∨ m = 1 ∨ m = 2 := by omega); rcases this with rfl | rfl | rfl <;> rfl, rfl, by decide +kernel, by decide⟩
    obtain ⟨j, nm, bs, ha, hl5, hsum, h4, hj4, hj, hm, hnm, hkn, hok⟩ := ex4
    rw [ha] at e2 step
    refine ⟨e0, D, bs, e1, e2, by omega, hsum, fun p np => ⟨xd0.upd np, ?_⟩⟩
    obtain ⟨ex1, rel1, xr1, hD⟩ := step p (.lst ((bs.map Fw.b2).map V.int)) np rfl
    refine (if_neg (by decide)).mpr ?_
    refine ⟨.ref D, e1, D, _, 4, .bl false, rfl, rfl, SqL.of hD, ?_, false, rfl, ?_⟩
    · unfold L2.atI
      rw [List.length_map, hl5]
      show (bs.map V.bl)[4]? = _
      rw [List.getElem?_map, h4]; rfl
    refine (if_neg (by decide)).mpr ?_
    refine ⟨show 4 ≤ sizeLine by decide, fun q nq => ?_⟩
    have nq' : (z'.put p (.lst ((bs.map Fw.b2).map V.int))).H q = none := nq
    have hD2 : (upd (z'.put p (.lst ((bs.map Fw.b2).map V.int))).H q (.lst (List.map V.str (["BadLine", "BadStep", "BadTerm", "BadText"] : List Str)))) D = some (.lst (bs.map V.bl)) := by rw [upd_ne (ne_of_none hD nq')]; exact hD
    refine ⟨.ref D, e1, .inl ⟨rfl, _, SqL.of hD2⟩, D, bs.map V.bl, .bl true, j, .bl true, rfl, rfl, SqL.of hD2, rfl, ?_, ?_, rfl, fun m z1 hmj hz1 => ?_, ?_⟩
    · rw [List.all_eq_true]
      intro x hx
      obtain ⟨b, _, rfl⟩ := List.mem_map.mp hx
      rfl
    · rw [List.getElem?_map, hj]; rfl
    · rw [List.getElem?_map, hm m hmj] at hz1
      cases hz1
      rfl
    · have ex2 : Ext z ((z'.put p (.lst ((bs.map Fw.b2).map V.int))).put q (.lst (List.map V.str (["BadLine", "BadStep", "BadTerm", "BadText"] : List Str)))) := ex1.trans ((Ext.refl _).put nq')
      have rel2 := rel1.put0 (o := .lst (List.map V.str (["BadLine", "BadStep", "BadTerm", "BadText"] : List Str))) nq'
      refine ⟨q, List.map V.str (["BadLine", "BadStep", "BadTerm", "BadText"] : List Str), (j : Nat), .str nm, rfl, rfl, SqL.of upd_same, ?_, show 2 ≤ sizeLine by decide, fun t nt => ?_⟩
      · unfold L2.atI L2.ixN
        have hl4 : (List.map V.str (["BadLine", "BadStep", "BadTerm", "BadText"] : List Str)).length = 4 := rfl
        rw [hl4, if_pos (by omega), if_pos (by omega)]
        simp only [Option.bind_some, Int.toNat_natCast, List.getElem?_map, hnm, Option.map_some]
      · have nt' : ((z'.put p (.lst ((bs.map Fw.b2).map V.int))).put q (.lst (List.map V.str (["BadLine", "BadStep", "BadTerm", "BadText"] : List Str)))).H t = none := nt
        exact fin _ _ (ex2.trans (Ext.new nt')) (rel2.new nt' (by simp)) (R.newT rel2 (Rs.mk _ _ (R.str.mpr ⟨rfl, by decide⟩) (Rs.mk _ _ (R.str.mpr ⟨by rw [hkn], hok⟩) (Rs.nil.mpr rfl))) nt')
/-- the flags, added piece by piece -/
theorem word_rest (W : WordFacts G) (h : HotIn G Y sc a oe) (hk : G.pg.excs[c]? = some kx) (hz : Zc (.ref (G.eA c)) dd oe) (hf : ∃ vs, oe.data = .fields vs) (hv : visS sc "_law_e" = true) (hl1 : sc.names.lookup ("_law_flags" : Str) = some .local) (hgs : ∀ nm ∈ five ++ (["isinstance", "sum", "ValueError"] : List Str), glS sc nm = true)
    {z : Fw.Z} {st : Store} {e : Exc} {d : D} (hec : e.c = c) (hd : toldD G.pg e = some d) :
    ∀ (ss : List Stmt) (done nms : List Str), restB sc ss nms = true → done ++ nms = five →
      PSs Y ss (fun Dn σ H => 2 ≤ σ.length ∧ σ[0]? = some (some (.ref a)) ∧ (∃ D : Addr, σ[1]? = some (some (.ref D)) ∧ H D = some (.lst ((done.map fun nm => decide (sOf kx.name = nm)).map V.bl))) ∧ ∃ z' : Fw.Z, z'.H = H ∧ Ext z z' ∧ Rel G z' st ∧ ExcR G z' e (.ref (G.eA c)) dd ∧ ∀ z'' v, Ext z z'' → Rel G z'' st → R G z'' d v → Dn.rt v z''.H) := by
  have hv1 : visS sc "_law_flags" = true := by unfold visS; rw [hl1]
  have g5 : ∀ nm ∈ five, glS sc nm = true := fun nm hm => hgs nm (List.mem_append_left _ hm)
  intro ss
  induction ss with
  | nil => intro done nms hr; simp [restB] at hr
  | cons s0 r ih =>
    intro done nms hr hdn
    unfold restB at hr
    split at hr
    · rename_i nms ss0 ns0 x p1 y p2 es p3 p4 p5 r' heq
      cases heq
      simp only [Bool.and_eq_true, decide_eq_true_eq] at hr
      obtain ⟨⟨⟨rfl, rfl⟩, hes⟩, hr⟩ := hr
      have mem : ∀ n ∈ nms.take es.length, n ∈ five := fun n hn => by rw [← hdn]; exact List.mem_append_right _ (List.mem_of_mem_take hn)
      have ih' := ih (done ++ nms.take es.length) (nms.drop es.length) hr (by rw [List.append_assoc, List.take_append_drop]; exact hdn)
      refine pssImp (pss_cons (ps_set (i := 1) (by rw [h.N]; decide +kernel) (by rw [h.N]; rfl) (by rw [h.hsc]; exact .inl hl1) (pe_op op_cat (pe_var (i := 1) (by rw [h.N]; rfl) (h.vis hv1) (by decide) (by decide)) (pe_lst (pa_isH W h hk hz hf hv (hgs _ (by decide +kernel)) g5 es _ mem hes))) rfl (.inl (h.fn _))) ih') fun Dn σ H q => ?_
      obtain ⟨hl, e0, ⟨D, e1, e2⟩, z', rfl, ex, rel, xr, fin⟩ := q
      have few : (nms.take es.length).length ≤ 5 := by
        have := congrArg List.length hdn
        rw [List.length_append] at this
        rw [List.length_take]
        have h5 : five.length = 5 := rfl
        omega
      have few2 : done.length ≤ 5 := by
        have := congrArg List.length hdn
        rw [List.length_append] at this
        have h5 : five.length = 5 := rfl
        omega
      refine ⟨.ref D, e1, e0, xr.xd, ?_, fun p np => ?_⟩
      · rw [List.length_map]; exact Nat.le_trans few (by decide)
      have nD : D ≠ p := ne_of_none e2 np
      refine ⟨D, p, _, _, rfl, rfl, by rw [upd_ne nD]; exact e2, upd_same, ?_, fun q nq => ?_⟩
      · rw [List.length_map, List.length_map, List.length_map]; exact Nat.le_trans (Nat.add_le_add few2 few) (by decide)
      have ex1 : Ext z' (z'.put p (.lst ((nms.take es.length).map fun nm => V.bl (decide (sOf kx.name = nm))))) := (Ext.refl z').put np
      have rel1 := rel.put0 (o := .lst ((nms.take es.length).map fun nm => V.bl (decide (sOf kx.name = nm)))) np
      have nq1 : (z'.put p (.lst ((nms.take es.length).map fun nm => V.bl (decide (sOf kx.name = nm))))).H q = none := nq
      have ex2 := (Ext.refl (z'.put p (.lst ((nms.take es.length).map fun nm => V.bl (decide (sOf kx.name = nm)))))).put (o := .lst ((done.map fun nm => decide (sOf kx.name = nm)).map V.bl ++ (nms.take es.length).map fun nm => V.bl (decide (sOf kx.name = nm)))) nq1
      have rel2 := rel1.put0 (o := .lst ((done.map fun nm => decide (sOf kx.name = nm)).map V.bl ++ (nms.take es.length).map fun nm => V.bl (decide (sOf kx.name = nm)))) nq1
      refine ⟨by rw [List.length_set]; exact hl, by rw [List.getElem?_set_ne (by decide)]; exact e0, ⟨q, by rw [List.getElem?_set_self (by omega)], ?_⟩, _, rfl, (ex.trans ex1).trans ex2, rel2, (xr.ext rel ex1).ext rel1 ex2, fin⟩
      refine upd_same.trans ?_
      rw [List.map_append, List.map_append, List.map_map, List.map_map]
      rfl
    · rename_i nms ss0 ns0 c1 b1 p1 c2 b2 p2 r' heq
      cases heq
      simp only [Bool.and_eq_true, decide_eq_true_eq] at hr
      obtain ⟨⟨⟨⟨⟨rfl, h1⟩, h2⟩, h3⟩, h4⟩, h5⟩ := hr
      rw [List.append_nil] at hdn
      refine pssImp (word_last (z := z) (st := st) W h hk hz hf hv hv1 (hgs _ (by decide +kernel)) (hgs _ (by decide +kernel)) (hgs _ (by decide +kernel)) h1 h2 h3 h4 h5 hec hd) fun Dn σ H q => ?_
      rw [hdn] at q
      exact ⟨q.2.1, q.2.2.1, q.2.2.2⟩
    · cases hr
/-- a def called while an exception is handled, its promise told of the very exception -/
theorem run_hot {CX : CXT} {P : Program} {w : World} {K : PySem.W.Frag} {mg : Str → Option Value} {base : Heap} {k : Nat} {f : Addr} {name qual : Str} {params : Arguments} {body : List Stmt} {scope : Scope} {dV kV doc pm cdv ct oc : Value} {an od : Option Addr}
    {osl : Array (Option Value)} {N ps : List Str} (lk : K.lookup f = some ⟨oc, od, .func (PySem.W.fnOf name qual params body scope dV kV doc pm an cdv ct), osl⟩) (hcd : PySem.W.codeIn K cdv qual = true) (S : FnScope N ps scope) {A : Around} {outer : List PySem.Env} {s : Shared} {H : Hp} {args : Args} {us : List Value} {vs : List V} {Q : VK} {E : XK} {p : Addr × Obj}
    (hr : RoomH (k + 1) A) (pin : PinOk outer H s p) (e0 : Env0 P w K mg base A outer s H) (hb : BindsTo s (PySem.W.fnOf name qual params body scope dV kV doc pm an cdv ct) args (ps.zip us)) (r : Vals vs us) (hl : vs.length = ps.length)
    (hbody : ∃ t, PSs (cxH CX P w K mg base N qual scope f cdv A outer s H E p) body t ∧ t { nx := fun _ H' => Q .non H', rt := Q } (L2.start N vs) H) : codeAny (model P w) A (.call (.ref f) args) (CR CX outer P w H s Q E) s := by
  have KX : K.In s.heap := e0.mod.kin.keeps fun b o e => (e0.bs b o e).1
  have lim : s.heap.NoLimit := e0.mod.nolimit.keeps fun b o e => (e0.bs b o e).1
  have kinds : ∀ y ∈ ps.zip us, scope.names.lookup y.1 = some .local ∨ (scope.names.lookup y.1 = some .cell ∧ ((cellsFrom (s.heap.objs.size + 1) scope.names []).lookup y.1).isSome = true) := fun y hy =>
    (S.par y.1 (List.of_mem_zip (show (y.1, y.2) ∈ ps.zip us from hy)).1).imp id fun q => ⟨q, PySem.W.cellsFrom_some _ _ _ (.inl q)⟩
  refine codeAny_call_function hr.depth (KX _ _ lk) rfl S.co S.gen rfl (PySem.W.codeRec_of KX hcd) (hb _ _ _ _ (wpAny_newFunctionEnv_cells S.kind kinds fun env he s1 x => ?_))
  subst he
  obtain ⟨t, ht, hq⟩ := hbody
  refine ⟨lim.keeps x.toInCall.keep, codeAny_func (wpAny_mono (ht.run [] s1 (L2.start N vs) H _ (inv_startH S pin e0 hl r x) hq) (fun fl s' hs => ?_) fun e s' hs => hs)⟩
  cases fl with
  | ret u =>
    obtain ⟨v, σ', H', J, rv, q⟩ := hs
    exact ⟨v, H', J.os, J.bare, J.base, J.hok, rv, q⟩
  | next =>
    obtain ⟨σ', H', J, q⟩ := hs
    exact ⟨V.non, H', J.os, J.bare, J.base, J.hok, rfl, q⟩
  | brk =>
    obtain ⟨_, _, _, q⟩ := hs
    exact q.elim
  | cont =>
    obtain ⟨_, _, _, q⟩ := hs
    exact q.elim
theorem word_ok (W : WordFacts G) : ∃ fw : Addr, G.mg "_law_word" = some (.ref fw) ∧ PySem.W.keepIn G.K (.ref fw) = true ∧ WordOk G fw := by
  obtain ⟨st, f, fd, hm, hk, F, hb, hw⟩ := W.ex
  refine ⟨f, hm, hk, fun A outer s Q p z stt e cls dd d hr hot pin e0 hz hf rel xr hd fin => ?_⟩
  obtain ⟨oc, od, dV, kV, doc, pm, an, cdv, ct, osl, rfl, lk, hcd⟩ := F.ex
  unfold wordB at hw
  split at hw <;> try cases hw
  rename_i x p1 es p2 p3 r heq
  simp only [Bool.and_eq_true, decide_eq_true_eq, List.all_eq_true] at hw
  obtain ⟨⟨⟨⟨⟨⟨rfl, hes⟩, hrest⟩, hsc⟩, hl1⟩, hv⟩, hgs⟩ := hw
  have Sg := C8.fnScope_by hsc
  have hgs : ∀ nm ∈ five ++ (["isinstance", "sum", "ValueError"] : List Str), glS (C8.fnScope st) nm = true := hgs
  obtain ⟨xc, xw⟩ := id xr
  subst xc
  have hkx : ∃ kx, G.pg.excs[e.c]? = some kx := by
    unfold toldD at hd
    split at hd
    · exact ⟨_, by assumption⟩
    · cases hd
  obtain ⟨kx, hkx⟩ := hkx
  have KX : G.K.In s.heap := e0.mod.kin.keeps fun b o e => (e0.bs b o e).1
  refine run_hot (N := NW) (ps := ["_law_e"]) (us := [.ref p.1]) (vs := [.ref p.1]) (p := p) (k := 0) lk hcd Sg hr pin e0 (hb s [.ref p.1] KX rfl) (.cons rfl .nil) rfl ?_
  rw [heq]
  have hi : HotIn G (cxH C8.CX0 G.P G.w G.K G.mg G.base NW "_law_word" (C8.fnScope st) f cdv A outer s z.H C8.E0 p) (C8.fnScope st) p.1 p.2 :=
    ⟨rfl, rfl, rfl, rfl, rfl, rfl, rfl, ⟨p, ⟨hot.1, hot.2⟩, List.mem_singleton.mpr rfl⟩, List.mem_singleton.mpr rfl, fun _ => rfl, Sg.kind⟩
  have zc : Zc (.ref (G.eA e.c)) dd p.2 := hz.zc
  have g5 : ∀ nm ∈ five, glS (C8.fnScope st) nm = true := fun nm hm => hgs nm (List.mem_append_left _ hm)
  have few : (five.take es.length).length ≤ 5 := by
    rw [List.length_take]
    have h5 : five.length = 5 := rfl
    omega
  refine ⟨_, pss_cons (ps_set (i := 1) Sg.nd rfl (.inl hl1) (pe_lst (pa_isH W hi hkx zc hf hv (hgs _ (by decide +kernel)) g5 es _ (fun n hn => List.mem_of_mem_take hn) hes)) rfl (.inl rfl))
    (word_rest (z := z) (st := stt) W hi hkx zc hf hv hl1 hgs rfl hd r (five.take es.length) (five.drop es.length) hrest (List.take_append_drop _ _)), ?_⟩
  refine ⟨rfl, xr.xd, by rw [List.length_map]; exact Nat.le_trans few (by decide), fun q nq => ?_⟩
  refine ⟨show 2 ≤ 3 by decide, rfl, ⟨q, rfl, ?_⟩, z.put q (.lst ((five.take es.length).map fun nm => V.bl (decide (sOf kx.name = nm)))), rfl, (Ext.refl z).put nq, rel.put0 nq, xr.ext rel ((Ext.refl z).put nq), fin⟩
  refine upd_same.trans ?_
  rw [List.map_map]
  rfl
end
end Fw

set_option Elab.async false
set_option linter.all false
set_option maxRecDepth 100000
set_option autoImplicit false
set_option maxHeartbeats 1000000
/-! Fw15: a law's end. -/
namespace Fw
open PySem PySem.Spec PyProof.Rows L2
def AllFrom {α : Type} (P : Nat → α → Prop) : Nat → List α → Prop
  | _, [] => True
  | n, x :: r => P n x ∧ AllFrom P (n + 1) r
theorem allFrom {α : Type} {P : Nat → α → Prop} : ∀ {l : List α} {n : Nat}, AllFrom P n l → ∀ (i : Nat) (x : α), l[i]? = some x → P (n + i) x
  | y :: r, n, h, 0, x, e => by cases e; exact h.1
  | y :: r, n, h, i + 1, x, e => by
    have := allFrom h.2 i x (by simpa using e)
    rw [show n + (i + 1) = n + 1 + i by omega]
    exact this
theorem allAt {α : Type} {P : Nat → α → Prop} {l : List α} (h : AllFrom P 0 l) (i : Nat) (x : α) (e : l[i]? = some x) : P i x := by
  have := allFrom h i x e
  rwa [Nat.zero_add] at this
/-- what a law's script is, for the walk; cs: code objects and their tables -/
def spScr (K : PySem.W.Frag) (cs : List (Addr × Addr)) : Sp := fun vs H Q _ => ∃ (a : Addr) (ns : List Int), vs = [.ref a] ∧ SqL K H a (ns.map V.int) ∧ ns.length ≤ 63 ∧ (∀ p ∈ cs, H p.2 = some (.tbl #[])) ∧ ∀ H', Q (.bl true) H'
theorem scr_of {G : Gd} {k f : Nat} {cs : List (Addr × Addr)} (hi : (G.pg.defs[f]?).bind (·.ini) = none) (htb : ∀ p ∈ G.tb, ∃ c ∈ cs, c.2 = p.1) (hlaw : ∀ ns : List Int, ns.length ≤ 63 → ∃ st, callT (tabs G.pg k) f [.scr ns] [] = .ok (.bl true) st) (vs : List V) (H : Hp) (Q : VK) (E : XK)
    (h : spScr G.K cs vs H Q E) : spOf G (tabs G.pg k) f vs H Q E := by
  obtain ⟨a, ns, rfl, hS, hl, hT, q⟩ := h
  rcases spOf_cases (G := G) (tabs G.pg k) f with ⟨c, hc, _⟩ | ⟨_, es⟩
  · rw [hi] at hc; cases hc
  rw [es]
  obtain ⟨st, e⟩ := hlaw ns hl
  refine ⟨⟨H, fun b => b = a ∧ ∃ o, H a = some o ∧ ∀ ps, o ≠ .tbl ps, []⟩, [], [.scr ns], rfl, ⟨⟨fun b hb => (nomatch hb), List.nodup_nil, fun b hb => ?_⟩, ⟨fun p hp => ?_⟩, rfl, fun i c hc => (by simp at hc)⟩, Rs.mk _ _ ?_ (Rs.nil.mpr rfl), ?_⟩
  · obtain ⟨rfl, hs⟩ := hb
    exact hs
  · obtain ⟨c, hc, e⟩ := htb p hp
    have := hT c hc
    rw [e] at this
    exact LamX.TabS.nil this
  · simp only [R]
    refine ⟨a, rfl, ?_⟩
    rcases hS with z | z
    · refine .inl ⟨⟨rfl, ?_⟩, z⟩
      rcases z with z | ⟨o, z⟩
      · exact ⟨_, z, by simp⟩
      · exact ⟨_, z, by simp⟩
    · exact .inr z
  · unfold PostF
    rw [e]
    exact fun z' _ _ v rv => by rw [R.bl.mp rv]; exact q _
/-- a maker of lambdas: its code object, its table -/
structure TabAt (K : PySem.W.Frag) (h : Heap) (c P : Addr) : Prop where
  code : PySem.W.codeHdIn K c P = true
  none_ : K.lookup P = none
  get : h.get? P = some (PySem.W.tabObj #[])
def TabsAt (K : PySem.W.Frag) (h : Heap) (cs : List (Addr × Addr)) : Prop := AllFrom (fun _ p => TabAt K h p.1 p.2) 0 cs
theorem AllFrom.mem {α : Type} {Q : α → Prop} : ∀ {l : List α} {n : Nat}, AllFrom (fun _ x => Q x) n l → ∀ x ∈ l, Q x
  | y :: r, n, h, x, hx => by
    rcases List.mem_cons.mp hx with rfl | hx
    · exact h.1
    · exact AllFrom.mem h.2 x hx
/-- the law's def keeps its promise: for the end of the row -/
theorem at_law {l : PySem.W.OpenLaw} {w : World} {K : PySem.W.Frag} {x : Str} {mg : Str → Option Value} {fa : Addr} {h : Heap} {cs : List (Addr × Addr)} {fd : FuncData} (KX : K.In h) (hT : TabsAt K h cs) (hb : ∀ (s : Shared) (u : Value), BindsTo s fd ⟨[u], []⟩ [(x, u)])
    (F : ∀ base : Heap, K.In base → base.Ns mainGlobals mg → (∀ p ∈ cs, LamX.TabB base mg p.1 p.2) → FnOk l.prog w K mg base (L2N.CX l.prog w) 100 fa fd [x] (spScr K cs)) : LamX.LawAtS l w K (L2N.CX l.prog w) 100 63 x mg fa h := by
  refine ⟨fd, cs, spScr K cs, fun p hp => (hT.mem p hp).get, fun p hp => (hT.mem p hp).none_, fun p hp => PySem.W.codeHd_of_K KX (hT.mem p hp).code, hb, fun H a ns hl _ hH hS => ⟨a, ns, rfl, hS, hl, hH, fun _ => rfl⟩, F⟩
theorem cx_false {P : Program} {w : World} {H : Hp} {s : Shared} {e : Value} {s' : Shared} (h : L2N.CX P w [] H s (fun _ _ _ => False) e s') : False := by
  obtain ⟨_, _, _, _, _, _, _, _, _, _, _, _, hE⟩ := h
  exact hE
end Fw

set_option Elab.async false
set_option linter.all false
set_option maxRecDepth 100000
set_option autoImplicit false
set_option maxHeartbeats 1000000
/-! Fw144: the facts of told and caught, from single facts. -/
namespace Fw
open PySem PySem.Spec PyProof.Rows L2
theorem cls_some {K : PySem.W.Frag} {C : Addr} (h : PySem.W.hasDictIn K C = true) : (PySem.W.clsIn K C).isSome = true := by
  obtain ⟨cd, hc, _⟩ := PySem.W.any_some h
  rw [hc]; rfl
theorem kit_of {K : PySem.W.Frag} {A B : Addr} {b : Bool} (hd : PySem.W.hasDictIn K B = true) (ht : PySem.W.typeIn K (.ref B) = some (.type "type")) (hA : PySem.W.subIn K (.ref A) (.ref A) = some true) (h : PySem.W.subIn K (.ref A) (.ref B) = some b) : PySem.W.kitOne K (.ref A) (.ref B) = some b := by
  unfold PySem.W.kitOne
  by_cases e : A = B
  · subst e
    rw [hA] at h
    rw [if_pos (beq_self_eq_true _)]
    exact h
  · rw [if_neg (by simpa using e)]
    unfold PySem.W.kitCls
    simp only []
    rw [if_pos (by rw [cls_some hd, ht]; rfl)]
    exact h
theorem kit_ve {K : PySem.W.Frag} {A : Addr} {b : Bool} (h : PySem.W.subIn K (.ref A) (.type "ValueError") = some b) : PySem.W.kitOne K (.ref A) (.type "ValueError") = some b := by
  unfold PySem.W.kitOne
  rw [if_neg (by simp)]
  unfold PySem.W.kitCls
  simp only []
  rw [if_pos (by decide +kernel)]
  exact h
theorem wexc_of {K : PySem.W.Frag} {C : Addr} (h1 : PySem.W.hasDictIn K C = true) (h2 : PySem.W.findIn K (.ref C) "__getattribute__" = some (some (.builtin "BaseException.__getattribute__"))) (h3 : PySem.W.findIn K (.ref C) "__getattr__" = some none) (h4 : PySem.W.subIn K (.ref C) (.type "BaseException") = some true)
    (h5 : PySem.W.findIn K (.ref C) "__class__" = some (some (.builtin "object.__class__"))) (h6 : PySem.W.specialIn K (.builtin "object.__class__") "__get__" = some (some (.builtin "getset_descriptor.__get__"))) (h7 : PySem.W.takesIn K (.builtin "object.__class__") = some true) (h8 : PySem.W.mroIn K C (.type "object") = some true) : WExc K C :=
  ⟨cls_some h1, h2, h3, h4, h5, h6, h7, h8⟩
end Fw

set_option maxHeartbeats 0
namespace K31
open Fw
/-- need_terms: 0 good -/
def d_need_terms : MDef := ⟨1, 1, none,
  (.cons (.if_ (.not (.var 0)) (.cons (.raise 1 (.cons (.lit (.str [110, 111, 32, 116, 101, 114, 109])) .nil)) .nil) .nil) .nil)⟩
/-- is_number: 0 thing -/
def d_is_number : MDef := ⟨1, 1, none,
  (.cons (.ret (.and (.cons (.blt (.isinst .int) (.cons (.var 0) .nil)) (.cons (.not (.blt (.isinst .bool) (.cons (.var 0) .nil))) (.cons (.cmp .le (.blt .abs (.cons (.var 0) .nil)) (.glob 0)) .nil))))) .nil)⟩
/-- need_deep: 0 term 1 names 2 deep 3 word 4 one -/
def d_need_deep : MDef := ⟨5, 3, none,
  (.cons (.expr (.call 0 (.cons (.and (.cons (.blt (.isinst .tuple) (.cons (.var 0) .nil)) (.cons (.cmp .gt (.blt .len (.cons (.var 0) .nil)) (.lit (.int 1))) (.cons (.blt (.isinst .str) (.cons (.ix (.var 0) (.lit (.int 0))) .nil)) (.cons (.cmp .lt (.var 2) (.glob 1)) .nil))))) .nil))) (.cons (.set (.one 3) (.ix (.var 0) (.lit (.int 0)))) (.cons (.expr (.call 0 (.cons (.or (.cons (.and (.cons (.cmp .in_ (.var 3) (.glob 2)) (.cons (.cmp .eq (.blt .len (.cons (.var 0) .nil)) (.lit (.int 3))) .nil))) (.cons (.cmp .eq (.bm .get (.glob 3) (.cons (.var 3) (.cons (.lit (.int 0)) .nil))) (.blt .len (.cons (.var 0) .nil))) .nil))) .nil))) (.cons (.if_ (.cmp .eq (.var 3) (.lit (.str [110, 117, 109]))) (.cons (.expr (.call 0 (.cons (.call 1 (.cons (.ix (.var 0) (.lit (.int 1))) .nil)) .nil))) .nil) (.cons (.if_ (.cmp .eq (.var 3) (.lit (.str [110, 97, 109, 101]))) (.cons (.expr (.call 0 (.cons (.and (.cons (.blt (.isinst .str) (.cons (.ix (.var 0) (.lit (.int 1))) .nil)) (.cons (.cmp .in_ (.ix (.var 0) (.lit (.int 1))) (.var 1)) .nil))) .nil))) .nil) (.cons (.for_ (.one 4) (.val (.slFrom (.var 0) (.lit (.int 1)))) (.cons (.expr (.call 2 (.cons (.var 4) (.cons (.var 1) (.cons (.bin .add (.var 2) (.lit (.int 1))) .nil))))) .nil)) .nil)) .nil)) .nil))))⟩
/-- need_term: 0 term 1 names -/
def d_need_term : MDef := ⟨2, 2, none,
  (.cons (.expr (.call 2 (.cons (.var 0) (.cons (.var 1) (.cons (.lit (.int 0)) .nil))))) .nil)⟩
/-- bounded: 0 number -/
def d_bounded : MDef := ⟨1, 1, none,
  (.cons (.if_ (.cmp .gt (.blt .abs (.cons (.var 0) .nil)) (.glob 0)) (.cons (.raise 5 (.cons (.lit (.str [103, 114, 101, 97, 116])) .nil)) .nil) .nil) (.cons (.ret (.var 0)) .nil))⟩
/-- two: 0 word 1 one 2 other -/
def d_two : MDef := ⟨3, 3, none,
  (.cons (.if_ (.cmp .eq (.var 0) (.lit (.str [112, 108, 117, 115]))) (.cons (.ret (.call 4 (.cons (.bin .add (.var 1) (.var 2)) .nil))) .nil) .nil) (.cons (.if_ (.cmp .eq (.var 0) (.lit (.str [108, 101, 115, 115]))) (.cons (.ret (.call 4 (.cons (.bin .sub (.var 1) (.var 2)) .nil))) .nil) .nil) (.cons (.if_ (.cmp .eq (.var 0) (.lit (.str [116, 105, 109, 101, 115]))) (.cons (.ret (.call 4 (.cons (.bin .mul (.var 1) (.var 2)) .nil))) .nil) .nil) (.cons (.if_ (.cmp .eq (.var 0) (.lit (.str [115, 97, 109, 101]))) (.cons (.ret (.blt .int1 (.cons (.cmp .eq (.var 1) (.var 2)) .nil))) .nil) .nil) (.cons (.if_ (.cmp .eq (.var 0) (.lit (.str [98, 101, 108, 111, 119]))) (.cons (.ret (.blt .int1 (.cons (.cmp .lt (.var 1) (.var 2)) .nil))) .nil) .nil) (.cons (.if_ (.cmp .eq (.var 2) (.lit (.int 0))) (.cons (.raise 5 (.cons (.lit (.str [110, 111, 117, 103, 104, 116])) .nil)) .nil) .nil) (.cons (.ret (.ite (.cmp .eq (.var 0) (.lit (.str [112, 97, 114, 116]))) (.bin .fdiv (.var 1) (.var 2)) (.bin .mod (.var 1) (.var 2)))) .nil)))))))⟩
/-- done: 0 term 1 names 2 said 3 word 4 first 5 found 6 asked -/
def d_done : MDef := ⟨7, 3, none,
  (.cons (.set (.one 3) (.ix (.var 0) (.lit (.int 0)))) (.cons (.if_ (.cmp .eq (.var 3) (.lit (.str [110, 117, 109]))) (.cons (.ret (.ix (.var 0) (.lit (.int 1)))) .nil) .nil) (.cons (.if_ (.cmp .eq (.var 3) (.lit (.str [110, 97, 109, 101]))) (.cons (.ret (.ix (.var 1) (.ix (.var 0) (.lit (.int 1))))) .nil) .nil) (.cons (.if_ (.cmp .eq (.var 3) (.lit (.str [115, 97, 121]))) (.cons (.set (.one 5) (.call 6 (.cons (.ix (.var 0) (.lit (.int 1))) (.cons (.var 1) (.cons (.var 2) .nil))))) (.cons (.appC 2 (.var 5)) (.cons (.ret (.var 5)) .nil))) .nil) (.cons (.if_ (.cmp .eq (.var 3) (.lit (.str [119, 104, 101, 110]))) (.cons (.set (.one 6) (.call 6 (.cons (.ix (.var 0) (.lit (.int 1))) (.cons (.var 1) (.cons (.var 2) .nil))))) (.cons (.ret (.call 6 (.cons (.ite (.cmp .eq (.var 6) (.lit (.int 0))) (.ix (.var 0) (.lit (.int 3))) (.ix (.var 0) (.lit (.int 2)))) (.cons (.var 1) (.cons (.var 2) .nil))))) .nil)) .nil) (.cons (.set (.one 4) (.call 6 (.cons (.ix (.var 0) (.lit (.int 1))) (.cons (.var 1) (.cons (.var 2) .nil))))) (.cons (.ret (.call 5 (.cons (.var 3) (.cons (.var 4) (.cons (.call 6 (.cons (.ix (.var 0) (.lit (.int 2))) (.cons (.var 1) (.cons (.var 2) .nil)))) .nil))))) .nil)))))))⟩
/-- need_lines: 0 good -/
def d_need_lines : MDef := ⟨1, 1, none,
  (.cons (.if_ (.not (.var 0)) (.cons (.raise 2 (.cons (.lit (.str [110, 111, 32, 108, 105, 110, 101])) .nil)) .nil) .nil) .nil)⟩
/-- is_count: 0 thing 1 most -/
def d_is_count : MDef := ⟨2, 2, none,
  (.cons (.ret (.and (.cons (.blt (.isinst .int) (.cons (.var 0) .nil)) (.cons (.not (.blt (.isinst .bool) (.cons (.var 0) .nil))) (.cons (.chain (.lit (.int 0)) (.more .le (.var 0) (.last .le (.var 1)))) .nil))))) .nil)⟩
/-- look_term: 0 term 1 names 2 is_term -/
def d_look_term : MDef := ⟨3, 2, none,
  (.cons (.set (.one 2) (.lit (.bl true))) (.cons (.tryE (.call 3 (.cons (.var 0) (.cons (.var 1) .nil))) 1 (.cons (.set (.one 2) (.lit (.bl false))) .nil)) (.cons (.expr (.call 7 (.cons (.var 2) .nil))) .nil)))⟩
/-- look_maker: 0 maker 1 one -/
def d_look_maker : MDef := ⟨2, 1, none,
  (.cons (.expr (.call 7 (.cons (.and (.cons (.blt (.isinst .tuple) (.cons (.var 0) .nil)) (.cons (.cmp .gt (.blt .len (.cons (.var 0) .nil)) (.lit (.int 1))) (.cons (.blt (.isinst .str) (.cons (.ix (.var 0) (.lit (.int 0))) .nil)) .nil)))) .nil))) (.cons (.if_ (.cmp .eq (.ix (.var 0) (.lit (.int 0))) (.lit (.str [99, 111, 117, 110, 116]))) (.cons (.expr (.call 7 (.cons (.and (.cons (.cmp .eq (.blt .len (.cons (.var 0) .nil)) (.lit (.int 3))) (.cons (.call 1 (.cons (.ix (.var 0) (.lit (.int 1))) .nil)) (.cons (.call 1 (.cons (.ix (.var 0) (.lit (.int 2))) .nil)) (.cons (.cmp .le (.bin .sub (.ix (.var 0) (.lit (.int 2))) (.ix (.var 0) (.lit (.int 1)))) (.glob 7)) .nil))))) .nil))) .nil) (.cons (.expr (.call 7 (.cons (.and (.cons (.cmp .eq (.ix (.var 0) (.lit (.int 0))) (.lit (.str [114, 111, 119]))) (.cons (.cmp .eq (.blt .len (.cons (.var 0) .nil)) (.lit (.int 2))) (.cons (.blt (.isinst .tuple) (.cons (.ix (.var 0) (.lit (.int 1))) .nil)) (.cons (.cmp .le (.blt .len (.cons (.ix (.var 0) (.lit (.int 1))) .nil)) (.glob 5)) .nil))))) .nil))) (.cons (.expr (.call 7 (.cons (.blt .all1 (.cons (.comp (.one 1) (.call 1 (.cons (.var 1) .nil)) (.val (.ix (.var 0) (.lit (.int 1)))) .nil) .nil)) .nil))) .nil))) .nil))⟩
/-- look_step: 0 step 1 deep 2 word -/
def d_look_step : MDef := ⟨3, 2, none,
  (.cons (.expr (.call 7 (.cons (.and (.cons (.blt (.isinst .tuple) (.cons (.var 0) .nil)) (.cons (.cmp .gt (.blt .len (.cons (.var 0) .nil)) (.lit (.int 1))) (.cons (.blt (.isinst .str) (.cons (.ix (.var 0) (.lit (.int 0))) .nil)) .nil)))) .nil))) (.cons (.set (.one 2) (.ix (.var 0) (.lit (.int 0)))) (.cons (.if_ (.cmp .in_ (.var 2) (.glob 10)) (.cons (.expr (.call 7 (.cons (.cmp .eq (.blt .len (.cons (.var 0) .nil)) (.lit (.int 2))) .nil))) (.cons (.expr (.call 9 (.cons (.ix (.var 0) (.lit (.int 1))) (.cons (.ix (.glob 10) (.var 2)) .nil)))) .nil)) (.cons (.if_ (.cmp .in_ (.var 2) (.tup (.cons (.lit (.str [102, 105, 114, 115, 116])) (.cons (.lit (.str [98, 101, 104, 105, 110, 100])) .nil)))) (.cons (.expr (.call 7 (.cons (.and (.cons (.cmp .eq (.blt .len (.cons (.var 0) .nil)) (.lit (.int 2))) (.cons (.call 8 (.cons (.ix (.var 0) (.lit (.int 1))) (.cons (.glob 4) .nil))) .nil))) .nil))) .nil) (.cons (.if_ (.cmp .eq (.var 2) (.lit (.str [115, 99, 97, 110]))) (.cons (.expr (.call 7 (.cons (.and (.cons (.cmp .eq (.blt .len (.cons (.var 0) .nil)) (.lit (.int 3))) (.cons (.call 1 (.cons (.ix (.var 0) (.lit (.int 1))) .nil)) .nil))) .nil))) (.cons (.expr (.call 9 (.cons (.ix (.var 0) (.lit (.int 2))) (.cons (.tup (.cons (.lit (.str [97, 99, 99])) (.cons (.lit (.str [120])) .nil))) .nil)))) .nil)) (.cons (.if_ (.cmp .eq (.var 2) (.lit (.str [119, 105, 100, 101]))) (.cons (.expr (.call 7 (.cons (.and (.cons (.cmp .eq (.blt .len (.cons (.var 0) .nil)) (.lit (.int 3))) (.cons (.call 8 (.cons (.ix (.var 0) (.lit (.int 1))) (.cons (.glob 8) .nil))) .nil))) .nil))) (.cons (.expr (.call 9 (.cons (.ix (.var 0) (.lit (.int 2))) (.cons (.tup (.cons (.lit (.str [120])) (.cons (.lit (.str [97, 116])) .nil))) .nil)))) .nil)) (.cons (.if_ (.cmp .eq (.var 2) (.lit (.str [112, 97, 105, 114]))) (.cons (.expr (.call 7 (.cons (.cmp .eq (.blt .len (.cons (.var 0) .nil)) (.lit (.int 3))) .nil))) (.cons (.expr (.call 12 (.cons (.ix (.var 0) (.lit (.int 1))) (.cons (.bin .add (.var 1) (.lit (.int 1))) .nil)))) (.cons (.expr (.call 9 (.cons (.ix (.var 0) (.lit (.int 2))) (.cons (.tup (.cons (.lit (.str [120])) (.cons (.lit (.str [121])) .nil))) .nil)))) .nil))) (.cons (.expr (.call 7 (.cons (.and (.cons (.cmp .eq (.var 2) (.lit (.str [116, 104, 101, 110]))) (.cons (.cmp .eq (.blt .len (.cons (.var 0) .nil)) (.lit (.int 2))) .nil))) .nil))) (.cons (.expr (.call 12 (.cons (.ix (.var 0) (.lit (.int 1))) (.cons (.bin .add (.var 1) (.lit (.int 1))) .nil)))) .nil))) .nil)) .nil)) .nil)) .nil)) .nil)))⟩
/-- look_deep: 0 line 1 deep 2 step -/
def d_look_deep : MDef := ⟨3, 2, none,
  (.cons (.expr (.call 7 (.cons (.and (.cons (.blt (.isinst .tuple) (.cons (.var 0) .nil)) (.cons (.chain (.lit (.int 1)) (.more .le (.blt .len (.cons (.var 0) .nil)) (.last .le (.glob 6)))) (.cons (.cmp .lt (.var 1) (.glob 9)) .nil)))) .nil))) (.cons (.expr (.call 10 (.cons (.ix (.var 0) (.lit (.int 0))) .nil))) (.cons (.for_ (.one 2) (.val (.slFrom (.var 0) (.lit (.int 1)))) (.cons (.expr (.call 11 (.cons (.var 2) (.cons (.var 1) .nil)))) .nil)) .nil)))⟩
/-- look_line: 0 line -/
def d_look_line : MDef := ⟨1, 1, none,
  (.cons (.expr (.call 12 (.cons (.var 0) (.cons (.lit (.int 0)) .nil)))) .nil)⟩
/-- look_end: 0 end -/
def d_look_end : MDef := ⟨1, 1, none,
  (.cons (.expr (.call 7 (.cons (.and (.cons (.blt (.isinst .tuple) (.cons (.var 0) .nil)) (.cons (.cmp .gt (.blt .len (.cons (.var 0) .nil)) (.lit (.int 0))) (.cons (.blt (.isinst .str) (.cons (.ix (.var 0) (.lit (.int 0))) .nil)) .nil)))) .nil))) (.cons (.if_ (.cmp .in_ (.ix (.var 0) (.lit (.int 0))) (.tup (.cons (.lit (.str [97, 108, 108])) (.cons (.lit (.str [109, 97, 110, 121])) .nil)))) (.cons (.expr (.call 7 (.cons (.cmp .eq (.blt .len (.cons (.var 0) .nil)) (.lit (.int 1))) .nil))) .nil) (.cons (.if_ (.cmp .eq (.ix (.var 0) (.lit (.int 0))) (.lit (.str [97, 110, 121]))) (.cons (.expr (.call 7 (.cons (.cmp .eq (.blt .len (.cons (.var 0) .nil)) (.lit (.int 2))) .nil))) (.cons (.expr (.call 9 (.cons (.ix (.var 0) (.lit (.int 1))) (.cons (.tup (.cons (.lit (.str [120])) .nil)) .nil)))) .nil)) (.cons (.expr (.call 7 (.cons (.and (.cons (.cmp .eq (.ix (.var 0) (.lit (.int 0))) (.lit (.str [102, 111, 108, 100]))) (.cons (.cmp .eq (.blt .len (.cons (.var 0) .nil)) (.lit (.int 3))) (.cons (.call 1 (.cons (.ix (.var 0) (.lit (.int 1))) .nil)) .nil)))) .nil))) (.cons (.expr (.call 9 (.cons (.ix (.var 0) (.lit (.int 2))) (.cons (.tup (.cons (.lit (.str [97, 99, 99])) (.cons (.lit (.str [120])) .nil))) .nil)))) .nil))) .nil)) .nil))⟩
/-- made: 0 maker -/
def d_made : MDef := ⟨1, 1, none,
  (.cons (.ret (.ite (.cmp .eq (.ix (.var 0) (.lit (.int 0))) (.lit (.str [99, 111, 117, 110, 116]))) (.blt .listRange (.cons (.ix (.var 0) (.lit (.int 1))) (.cons (.ix (.var 0) (.lit (.int 2))) .nil))) (.blt .list1 (.cons (.ix (.var 0) (.lit (.int 1))) .nil)))) .nil)⟩
/-- as_far: 0 row 1 term 2 said 3 place 4 one -/
def d_as_far : MDef := ⟨5, 3, none,
  (.cons (.for_ (.many [3, 4]) (.enum (.var 0)) (.cons (.if_ (.cmp .eq (.call 6 (.cons (.var 1) (.cons (.dict [[120]] (.cons (.var 4) .nil)) (.cons (.var 2) .nil)))) (.lit (.int 0))) (.cons (.ret (.var 3)) .nil) .nil) .nil)) (.cons (.ret (.blt .len (.cons (.var 0) .nil))) .nil))⟩
/-- scanned: 0 row 1 start 2 term 3 said 4 found 5 acc 6 one -/
def d_scanned : MDef := ⟨7, 4, none,
  (.cons (.own 4 .nil) (.cons (.set (.one 5) (.var 1)) (.cons (.for_ (.one 6) (.val (.var 0)) (.cons (.set (.one 5) (.call 6 (.cons (.var 2) (.cons (.dict [[97, 99, 99], [120]] (.cons (.var 5) (.cons (.var 6) .nil))) (.cons (.var 3) .nil))))) (.cons (.app 4 (.var 5)) .nil))) (.cons (.ret (.var 4)) .nil))))⟩
/-- stepped: 0 row 1 step 2 said 3 word 4 other 5 found 6 one 7 two 8 at -/
def d_stepped : MDef := ⟨9, 3, none,
  (.cons (.set (.one 3) (.ix (.var 1) (.lit (.int 0)))) (.cons (.if_ (.cmp .eq (.var 3) (.lit (.str [116, 117, 114, 110]))) (.cons (.ret (.comp (.many [8, 6]) (.call 6 (.cons (.ix (.var 1) (.lit (.int 1))) (.cons (.dict [[120], [97, 116]] (.cons (.var 6) (.cons (.var 8) .nil))) (.cons (.var 2) .nil)))) (.enum (.var 0)) .nil)) .nil) .nil) (.cons (.if_ (.cmp .eq (.var 3) (.lit (.str [115, 105, 101, 118, 101]))) (.cons (.ret (.comp (.many [8, 6]) (.var 6) (.enum (.var 0)) (.cons (.cmp .ne (.call 6 (.cons (.ix (.var 1) (.lit (.int 1))) (.cons (.dict [[120], [97, 116]] (.cons (.var 6) (.cons (.var 8) .nil))) (.cons (.var 2) .nil)))) (.lit (.int 0))) .nil))) .nil) .nil) (.cons (.if_ (.cmp .eq (.var 3) (.lit (.str [102, 105, 114, 115, 116]))) (.cons (.ret (.slTo (.var 0) (.ix (.var 1) (.lit (.int 1))))) .nil) .nil) (.cons (.if_ (.cmp .eq (.var 3) (.lit (.str [98, 101, 104, 105, 110, 100]))) (.cons (.ret (.slFrom (.var 0) (.ix (.var 1) (.lit (.int 1))))) .nil) .nil) (.cons (.if_ (.cmp .eq (.var 3) (.lit (.str [119, 104, 105, 108, 101]))) (.cons (.ret (.slTo (.var 0) (.call 16 (.cons (.var 0) (.cons (.ix (.var 1) (.lit (.int 1))) (.cons (.var 2) .nil)))))) .nil) .nil) (.cons (.if_ (.cmp .eq (.var 3) (.lit (.str [112, 97, 115, 116]))) (.cons (.ret (.slFrom (.var 0) (.call 16 (.cons (.var 0) (.cons (.ix (.var 1) (.lit (.int 1))) (.cons (.var 2) .nil)))))) .nil) .nil) (.cons (.if_ (.cmp .eq (.var 3) (.lit (.str [115, 99, 97, 110]))) (.cons (.ret (.call 17 (.cons (.var 0) (.cons (.ix (.var 1) (.lit (.int 1))) (.cons (.ix (.var 1) (.lit (.int 2))) (.cons (.var 2) .nil)))))) .nil) .nil) (.cons (.if_ (.cmp .eq (.var 3) (.lit (.str [119, 105, 100, 101]))) (.cons (.own 5 .nil) (.cons (.for_ (.one 6) (.val (.var 0)) (.cons (.ext 5 (.comp (.one 8) (.call 6 (.cons (.ix (.var 1) (.lit (.int 2))) (.cons (.dict [[120], [97, 116]] (.cons (.var 6) (.cons (.var 8) .nil))) (.cons (.var 2) .nil)))) (.range1 (.ix (.var 1) (.lit (.int 1)))) .nil)) .nil)) (.cons (.ret (.var 5)) .nil))) .nil) (.cons (.set (.one 4) (.call 19 (.cons (.ix (.var 1) (.lit (.int 1))) (.cons (.var 2) .nil)))) (.cons (.if_ (.cmp .eq (.var 3) (.lit (.str [116, 104, 101, 110]))) (.cons (.ret (.bin .add (.var 0) (.var 4))) .nil) .nil) (.cons (.ret (.comp (.many [6, 7]) (.call 6 (.cons (.ix (.var 1) (.lit (.int 2))) (.cons (.dict [[120], [121]] (.cons (.var 6) (.cons (.var 7) .nil))) (.cons (.var 2) .nil)))) (.zip (.var 0) (.var 4)) .nil)) .nil))))))))))))⟩
/-- row_of: 0 line 1 said 2 row 3 step -/
def d_row_of : MDef := ⟨4, 2, none,
  (.cons (.set (.one 2) (.call 15 (.cons (.ix (.var 0) (.lit (.int 0))) .nil))) (.cons (.for_ (.one 3) (.val (.slFrom (.var 0) (.lit (.int 1)))) (.cons (.set (.one 2) (.call 18 (.cons (.var 2) (.cons (.var 3) (.cons (.var 1) .nil))))) (.cons (.if_ (.cmp .gt (.blt .len (.cons (.var 2) .nil)) (.glob 4)) (.cons (.raise 5 (.cons (.lit (.str [108, 111, 110, 103])) .nil)) .nil) .nil) .nil))) (.cons (.ret (.var 2)) .nil)))⟩
/-- ended: 0 row 1 end 2 said 3 one -/
def d_ended : MDef := ⟨4, 3, none,
  (.cons (.if_ (.cmp .eq (.ix (.var 1) (.lit (.int 0))) (.lit (.str [97, 108, 108]))) (.cons (.ret (.blt .tuple1 (.cons (.var 0) .nil))) .nil) .nil) (.cons (.if_ (.cmp .eq (.ix (.var 1) (.lit (.int 0))) (.lit (.str [109, 97, 110, 121]))) (.cons (.ret (.blt .len (.cons (.var 0) .nil))) .nil) .nil) (.cons (.if_ (.cmp .eq (.ix (.var 1) (.lit (.int 0))) (.lit (.str [102, 111, 108, 100]))) (.cons (.ret (.ix (.bin .add (.call 17 (.cons (.var 0) (.cons (.ix (.var 1) (.lit (.int 1))) (.cons (.ix (.var 1) (.lit (.int 2))) (.cons (.var 2) .nil))))) (.lst (.cons (.ix (.var 1) (.lit (.int 1))) .nil))) (.blt .max2 (.cons (.lit (.int 0)) (.cons (.bin .sub (.blt .len (.cons (.var 0) .nil)) (.lit (.int 1))) .nil))))) .nil) .nil) (.cons (.for_ (.one 3) (.val (.var 0)) (.cons (.if_ (.cmp .ne (.call 6 (.cons (.ix (.var 1) (.lit (.int 1))) (.cons (.dict [[120]] (.cons (.var 3) .nil)) (.cons (.var 2) .nil)))) (.lit (.int 0))) (.cons (.ret (.lit (.int 1))) .nil) .nil) .nil)) (.cons (.ret (.lit (.int 0))) .nil)))))⟩
/-- run: 0 line 1 end 2 said -/
def d_run : MDef := ⟨3, 2, none,
  (.cons (.expr (.call 13 (.cons (.var 0) .nil))) (.cons (.expr (.call 14 (.cons (.var 1) .nil))) (.cons (.ret (.caught 2 (.call 20 (.cons (.call 19 (.cons (.var 0) (.cons (.var 2) .nil))) (.cons (.var 1) (.cons (.var 2) .nil)))))) .nil)))⟩
/-- strength: 0 term -/
def d_strength : MDef := ⟨1, 1, none,
  (.cons (.ret (.bm .get (.glob 12) (.cons (.ix (.var 0) (.lit (.int 0))) (.cons (.lit (.int 5)) .nil)))) .nil)⟩
/-- within: 0 term 1 least 2 found -/
def d_within : MDef := ⟨3, 2, none,
  (.cons (.set (.one 2) (.call 24 (.cons (.var 0) .nil))) (.cons (.ret (.ite (.cmp .ge (.call 22 (.cons (.var 0) .nil)) (.var 1)) (.var 2) (.bin .add (.bin .add (.lit (.str [40])) (.var 2)) (.lit (.str [41]))))) .nil))⟩
/-- term_text: 0 term 1 word 2 own -/
def d_term_text : MDef := ⟨3, 1, none,
  (.cons (.set (.one 1) (.ix (.var 0) (.lit (.int 0)))) (.cons (.if_ (.cmp .eq (.var 1) (.lit (.str [110, 117, 109]))) (.cons (.ret (.ite (.cmp .ge (.ix (.var 0) (.lit (.int 1))) (.lit (.int 0))) (.blt .str1 (.cons (.ix (.var 0) (.lit (.int 1))) .nil)) (.bin .add (.bin .add (.lit (.str [40])) (.blt .str1 (.cons (.ix (.var 0) (.lit (.int 1))) .nil))) (.lit (.str [41]))))) .nil) .nil) (.cons (.if_ (.cmp .eq (.var 1) (.lit (.str [110, 97, 109, 101]))) (.cons (.ret (.ix (.var 0) (.lit (.int 1)))) .nil) .nil) (.cons (.if_ (.cmp .eq (.var 1) (.lit (.str [115, 97, 121]))) (.cons (.ret (.bin .add (.bin .add (.lit (.str [115, 97, 121, 40])) (.call 24 (.cons (.ix (.var 0) (.lit (.int 1))) .nil))) (.lit (.str [41])))) .nil) .nil) (.cons (.if_ (.cmp .eq (.var 1) (.lit (.str [119, 104, 101, 110]))) (.cons (.ret (.bin .add (.bin .add (.bin .add (.bin .add (.bin .add (.lit (.str [119, 104, 101, 110, 32])) (.call 23 (.cons (.ix (.var 0) (.lit (.int 1))) (.cons (.lit (.int 2)) .nil)))) (.lit (.str [32, 116, 104, 101, 110, 32]))) (.call 23 (.cons (.ix (.var 0) (.lit (.int 2))) (.cons (.lit (.int 2)) .nil)))) (.lit (.str [32, 101, 108, 115, 101, 32]))) (.call 23 (.cons (.ix (.var 0) (.lit (.int 3))) (.cons (.lit (.int 1)) .nil))))) .nil) .nil) (.cons (.set (.one 2) (.call 22 (.cons (.var 0) .nil))) (.cons (.ret (.bin .add (.bin .add (.bin .add (.bin .add (.call 23 (.cons (.ix (.var 0) (.lit (.int 1))) (.cons (.var 2) .nil))) (.lit (.str [32]))) (.ix (.glob 11) (.var 1))) (.lit (.str [32]))) (.call 23 (.cons (.ix (.var 0) (.lit (.int 2))) (.cons (.bin .add (.var 2) (.lit (.int 1))) .nil))))) .nil)))))))⟩
/-- maker_text: 0 maker 1 one -/
def d_maker_text : MDef := ⟨2, 1, none,
  (.cons (.if_ (.cmp .eq (.ix (.var 0) (.lit (.int 0))) (.lit (.str [99, 111, 117, 110, 116]))) (.cons (.ret (.bin .add (.bin .add (.bin .add (.lit (.str [99, 111, 117, 110, 116, 32])) (.blt .str1 (.cons (.ix (.var 0) (.lit (.int 1))) .nil))) (.lit (.str [32]))) (.blt .str1 (.cons (.ix (.var 0) (.lit (.int 2))) .nil)))) .nil) .nil) (.cons (.ret (.bm .join (.lit (.str [32])) (.cons (.bin .add (.lst (.cons (.lit (.str [114, 111, 119])) .nil)) (.comp (.one 1) (.blt .str1 (.cons (.var 1) .nil)) (.val (.ix (.var 0) (.lit (.int 1)))) .nil)) .nil))) .nil))⟩
/-- step_text: 0 step 1 word -/
def d_step_text : MDef := ⟨2, 1, none,
  (.cons (.set (.one 1) (.ix (.var 0) (.lit (.int 0)))) (.cons (.if_ (.cmp .in_ (.var 1) (.tup (.cons (.lit (.str [97, 108, 108])) (.cons (.lit (.str [109, 97, 110, 121])) .nil)))) (.cons (.ret (.var 1)) .nil) .nil) (.cons (.if_ (.cmp .in_ (.var 1) (.tup (.cons (.lit (.str [102, 105, 114, 115, 116])) (.cons (.lit (.str [98, 101, 104, 105, 110, 100])) .nil)))) (.cons (.ret (.bin .add (.bin .add (.var 1) (.lit (.str [32]))) (.blt .str1 (.cons (.ix (.var 0) (.lit (.int 1))) .nil)))) .nil) .nil) (.cons (.if_ (.cmp .in_ (.var 1) (.tup (.cons (.lit (.str [115, 99, 97, 110])) (.cons (.lit (.str [119, 105, 100, 101])) (.cons (.lit (.str [102, 111, 108, 100])) .nil))))) (.cons (.ret (.bin .add (.bin .add (.bin .add (.bin .add (.var 1) (.lit (.str [32]))) (.blt .str1 (.cons (.ix (.var 0) (.lit (.int 1))) .nil))) (.lit (.str [58, 32]))) (.call 24 (.cons (.ix (.var 0) (.lit (.int 2))) .nil)))) .nil) .nil) (.cons (.if_ (.cmp .eq (.var 1) (.lit (.str [112, 97, 105, 114]))) (.cons (.ret (.bin .add (.bin .add (.bin .add (.lit (.str [112, 97, 105, 114, 32, 91])) (.call 27 (.cons (.ix (.var 0) (.lit (.int 1))) .nil))) (.lit (.str [93, 58, 32]))) (.call 24 (.cons (.ix (.var 0) (.lit (.int 2))) .nil)))) .nil) .nil) (.cons (.if_ (.cmp .eq (.var 1) (.lit (.str [116, 104, 101, 110]))) (.cons (.ret (.bin .add (.bin .add (.lit (.str [116, 104, 101, 110, 32, 91])) (.call 27 (.cons (.ix (.var 0) (.lit (.int 1))) .nil))) (.lit (.str [93])))) .nil) .nil) (.cons (.ret (.bin .add (.bin .add (.var 1) (.lit (.str [32]))) (.call 24 (.cons (.ix (.var 0) (.lit (.int 1))) .nil)))) .nil)))))))⟩
/-- line_text: 0 line 1 step -/
def d_line_text : MDef := ⟨2, 1, none,
  (.cons (.ret (.bm .join (.lit (.str [32, 124, 32])) (.cons (.bin .add (.lst (.cons (.call 25 (.cons (.ix (.var 0) (.lit (.int 0))) .nil)) .nil)) (.comp (.one 1) (.call 26 (.cons (.var 1) .nil)) (.val (.slFrom (.var 0) (.lit (.int 1)))) .nil)) .nil))) .nil)⟩
/-- written: 0 line 1 end -/
def d_written : MDef := ⟨2, 2, none,
  (.cons (.expr (.call 13 (.cons (.var 0) .nil))) (.cons (.expr (.call 14 (.cons (.var 1) .nil))) (.cons (.ret (.bin .add (.bin .add (.call 27 (.cons (.var 0) .nil)) (.lit (.str [32, 124, 32]))) (.call 26 (.cons (.var 1) .nil)))) .nil)))⟩
/-- _law_cell: 0 _law_script 1 _law_k -/
def d__law_cell : MDef := ⟨2, 2, none,
  (.cons (.if_ (.cmp .eq (.var 0) (.lst .nil)) (.cons (.ret (.bin .mul (.var 1) (.lit (.int 7919)))) .nil) .nil) (.cons (.ret (.bin .add (.ix (.var 0) (.bin .mod (.var 1) (.blt .len (.cons (.var 0) .nil)))) (.bin .mul (.bin .fdiv (.var 1) (.blt .len (.cons (.var 0) .nil))) (.lit (.int 104729))))) .nil))⟩
/-- _law_drawn: 0 _law_cell_here 1 _law_k 2 _law_more -/
def d__law_drawn : MDef := ⟨3, 2, none,
  (.cons (.set (.one 2) (.bin .mod (.bin .add (.bin .mul (.var 0) (.lit (.int 6364136223846793005))) (.bin .mul (.bin .add (.var 1) (.lit (.int 1))) (.lit (.int 1442695040888963407)))) (.lit (.int 340282366920938463463374607431768211507)))) (.cons (.set (.one 2) (.bin .mod (.bin .mul (.var 2) (.var 2)) (.lit (.int 340282366920938463463374607431768211297)))) (.cons (.set (.one 2) (.bin .mul (.bin .mul (.bin .add (.bin .mod (.var 2) (.lit (.int 18446744073709551557))) (.lit (.int 1))) (.bin .add (.bin .fdiv (.var 2) (.lit (.int 18446744073709551557))) (.lit (.int 1)))) (.var 2))) (.cons (.ret (.bin .mod (.var 2) (.lit (.int 340282366920938463463374607431768211507)))) .nil))))⟩
/-- _law_no_makers: 0 _law_found -/
def d__law_no_makers : MDef := ⟨1, 0, none,
  (.cons (.set (.one 0) (.lst (.cons (.lit .non) (.cons (.tup .nil) (.cons (.lit (.str [114, 111, 119])) (.cons (.tup (.cons (.lit (.str [114, 111, 119])) .nil)) (.cons (.tup (.cons (.lit (.str [114, 111, 119])) (.cons (.lst (.cons (.lit (.int 1)) .nil)) .nil))) (.cons (.tup (.cons (.lit (.str [114, 111, 119])) (.cons (.tup (.cons (.lit (.int 1)) .nil)) (.cons (.lit (.int 2)) .nil)))) (.cons (.tup (.cons (.lit (.str [114, 111, 119])) (.cons (.tup (.cons (.lit (.bl true)) .nil)) .nil))) .nil))))))))) (.cons (.set (.one 0) (.bin .add (.var 0) (.lst (.cons (.tup (.cons (.lit (.str [114, 111, 119])) (.cons (.tup (.cons (.lit .non) .nil)) .nil))) (.cons (.tup (.cons (.lit (.str [114, 111, 119])) (.cons (.bin .mul (.tup (.cons (.lit (.int 1)) .nil)) (.lit (.int 31))) .nil))) .nil))))) (.cons (.set (.one 0) (.bin .add (.var 0) (.lst (.cons (.tup (.cons (.lit (.str [114, 111, 119])) (.cons (.tup (.cons (.lit (.int 1000000000)) .nil)) .nil))) (.cons (.tup (.cons (.lit (.str [99, 111, 117, 110, 116])) (.cons (.lit (.int 1)) .nil))) (.cons (.tup (.cons (.lit (.str [99, 111, 117, 110, 116])) (.cons (.lit (.int 1)) (.cons (.lit (.int 2)) (.cons (.lit (.int 3)) .nil))))) (.cons (.tup (.cons (.lit (.str [99, 111, 117, 110, 116])) (.cons (.lit (.int 0)) (.cons (.lit (.int 61)) .nil)))) .nil))))))) (.cons (.set (.one 0) (.bin .add (.var 0) (.lst (.cons (.tup (.cons (.lit (.str [99, 111, 117, 110, 116])) (.cons (.lit .non) (.cons (.lit (.int 1)) .nil)))) .nil)))) (.cons (.set (.one 0) (.bin .add (.var 0) (.lst (.cons (.tup (.cons (.lit (.str [99, 111, 117, 110, 116])) (.cons (.lit (.int 0)) (.cons (.lit (.int 1000000000)) .nil)))) (.cons (.tup (.cons (.lit (.str [99, 111, 117, 110, 116])) (.cons (.lit (.bl true)) (.cons (.lit (.int 2)) .nil)))) (.cons (.lst (.cons (.lit (.str [99, 111, 117, 110, 116])) (.cons (.lit (.int 1)) (.cons (.lit (.int 2)) .nil)))) (.cons (.tup (.cons (.lit (.str [116, 117, 114, 110])) (.cons (.tup (.cons (.lit (.str [110, 117, 109])) (.cons (.lit (.int 1)) .nil))) .nil))) .nil))))))) (.cons (.ret (.bin .add (.var 0) (.lst (.cons (.tup (.cons (.lit (.int 5)) (.cons (.lit (.int 1)) .nil))) (.cons (.tup (.cons (.lit (.str [114, 111, 119, 115])) (.cons (.tup .nil) .nil))) .nil))))) .nil))))))⟩
/-- _law_no_steps: 0 _law_found 1 _law_one 2 _law_x -/
def d__law_no_steps : MDef := ⟨3, 0, none,
  (.cons (.set (.many [1, 2]) (.tup (.cons (.tup (.cons (.lit (.str [110, 117, 109])) (.cons (.lit (.int 1)) .nil))) (.cons (.tup (.cons (.lit (.str [110, 97, 109, 101])) (.cons (.lit (.str [120])) .nil))) .nil)))) (.cons (.set (.one 0) (.lst (.cons (.lit .non) (.cons (.tup .nil) (.cons (.tup (.cons (.lit (.str [116, 117, 114, 110])) .nil)) (.cons (.tup (.cons (.lit (.str [116, 117, 114, 110])) (.cons (.var 1) (.cons (.var 1) .nil)))) (.cons (.tup (.cons (.lit (.str [116, 117, 114, 110])) (.cons (.tup (.cons (.lit (.str [110, 97, 109, 101])) (.cons (.lit (.str [97, 99, 99])) .nil))) .nil))) .nil))))))) (.cons (.set (.one 0) (.bin .add (.var 0) (.lst (.cons (.tup (.cons (.lit (.str [116, 117, 114, 110])) (.cons (.tup (.cons (.lit (.str [110, 97, 109, 101])) (.cons (.lit (.str [121])) .nil))) .nil))) (.cons (.tup (.cons (.lit (.str [115, 105, 101, 118, 101])) (.cons (.lit (.int 1)) .nil))) .nil))))) (.cons (.set (.one 0) (.bin .add (.var 0) (.lst (.cons (.tup (.cons (.lit (.str [119, 104, 105, 108, 101])) (.cons (.tup (.cons (.lit (.str [110, 97, 109, 101])) (.cons (.lit (.str [97, 116])) .nil))) .nil))) (.cons (.tup (.cons (.lit (.str [112, 97, 115, 116])) (.cons (.tup (.cons (.lit (.str [110, 97, 109, 101])) (.cons (.lit (.str [97, 116])) .nil))) .nil))) (.cons (.tup (.cons (.lit (.str [102, 105, 114, 115, 116])) (.cons (.neg (.lit (.int 1))) .nil))) .nil)))))) (.cons (.set (.one 0) (.bin .add (.var 0) (.lst (.cons (.tup (.cons (.lit (.str [102, 105, 114, 115, 116])) (.cons (.lit (.int 201)) .nil))) (.cons (.tup (.cons (.lit (.str [102, 105, 114, 115, 116])) (.cons (.lit (.bl true)) .nil))) .nil))))) (.cons (.set (.one 0) (.bin .add (.var 0) (.lst (.cons (.tup (.cons (.lit (.str [98, 101, 104, 105, 110, 100])) (.cons (.lit .non) .nil))) (.cons (.tup (.cons (.lit (.str [98, 101, 104, 105, 110, 100])) .nil)) (.cons (.tup (.cons (.lit (.str [115, 99, 97, 110])) (.cons (.var 1) .nil))) (.cons (.tup (.cons (.lit (.str [115, 99, 97, 110])) (.cons (.lit .non) (.cons (.var 2) .nil)))) .nil))))))) (.cons (.set (.one 0) (.bin .add (.var 0) (.lst (.cons (.tup (.cons (.lit (.str [115, 99, 97, 110])) (.cons (.lit (.int 1)) (.cons (.tup (.cons (.lit (.str [110, 97, 109, 101])) (.cons (.lit (.str [97, 116])) .nil))) .nil)))) (.cons (.tup (.cons (.lit (.str [119, 105, 100, 101])) (.cons (.lit (.int 5)) (.cons (.var 2) .nil)))) .nil))))) (.cons (.set (.one 0) (.bin .add (.var 0) (.lst (.cons (.tup (.cons (.lit (.str [119, 105, 100, 101])) (.cons (.neg (.lit (.int 1))) (.cons (.var 2) .nil)))) (.cons (.tup (.cons (.lit (.str [119, 105, 100, 101])) (.cons (.lit (.int 2)) (.cons (.tup (.cons (.lit (.str [110, 97, 109, 101])) (.cons (.lit (.str [121])) .nil))) .nil)))) (.cons (.tup (.cons (.lit (.str [112, 97, 105, 114])) (.cons (.tup (.cons (.lit (.str [114, 111, 119])) (.cons (.tup .nil) .nil))) (.cons (.var 2) .nil)))) .nil)))))) (.cons (.set (.one 0) (.bin .add (.var 0) (.lst (.cons (.tup (.cons (.lit (.str [112, 97, 105, 114])) (.cons (.tup (.cons (.tup (.cons (.lit (.str [114, 111, 119])) (.cons (.tup .nil) .nil))) .nil)) (.cons (.tup (.cons (.lit (.str [110, 97, 109, 101])) (.cons (.lit (.str [97, 116])) .nil))) .nil)))) .nil)))) (.cons (.set (.one 0) (.bin .add (.var 0) (.lst (.cons (.tup (.cons (.lit (.str [112, 97, 105, 114])) (.cons (.tup (.cons (.tup (.cons (.lit (.str [114, 111, 119])) (.cons (.tup .nil) .nil))) .nil)) .nil))) (.cons (.tup (.cons (.lit (.str [116, 104, 101, 110])) (.cons (.tup (.cons (.lit (.str [114, 111, 119])) (.cons (.tup .nil) .nil))) .nil))) (.cons (.tup (.cons (.lit (.str [116, 104, 101, 110])) (.cons (.tup .nil) .nil))) .nil)))))) (.cons (.set (.one 0) (.bin .add (.var 0) (.lst (.cons (.tup (.cons (.lit (.str [116, 104, 101, 110])) (.cons (.tup (.cons (.tup (.cons (.lit (.str [114, 111, 119])) (.cons (.tup .nil) .nil))) (.cons (.lit .non) .nil))) .nil))) (.cons (.tup (.cons (.lit (.str [97, 108, 108])) .nil)) .nil))))) (.cons (.set (.one 0) (.bin .add (.var 0) (.lst (.cons (.lst (.cons (.lit (.str [116, 117, 114, 110])) (.cons (.var 1) .nil))) (.cons (.tup (.cons (.lit (.str [102, 111, 108, 100])) (.cons (.lit (.int 1)) (.cons (.var 2) .nil)))) (.cons (.tup (.cons (.lit (.str [99, 111, 117, 110, 116])) (.cons (.lit (.int 1)) (.cons (.lit (.int 2)) .nil)))) (.cons (.tup (.cons (.lit (.int 5)) (.cons (.var 1) .nil))) (.cons (.tup (.cons (.lit (.str [116, 104, 101, 110])) (.cons (.call 34 (.cons (.lit (.int 3)) .nil)) .nil))) .nil)))))))) (.cons (.ret (.bin .add (.var 0) (.lst (.cons (.tup (.cons (.lit (.str [116, 117, 114, 110])) (.cons (.tup (.cons (.lit (.str [115, 97, 121])) (.cons (.lit .non) .nil))) .nil))) .nil)))) .nil)))))))))))))⟩
/-- _law_no_ends: 0 _law_one 1 _law_found -/
def d__law_no_ends : MDef := ⟨2, 0, none,
  (.cons (.set (.one 0) (.tup (.cons (.lit (.str [110, 117, 109])) (.cons (.lit (.int 1)) .nil)))) (.cons (.set (.one 1) (.lst (.cons (.lit .non) (.cons (.tup .nil) (.cons (.lit (.str [97, 108, 108])) (.cons (.tup (.cons (.lit (.str [97, 108, 108])) (.cons (.lit (.int 1)) .nil))) (.cons (.tup (.cons (.lit (.str [109, 97, 110, 121])) (.cons (.lit (.int 1)) .nil))) (.cons (.tup (.cons (.lit (.str [97, 110, 121])) .nil)) (.cons (.tup (.cons (.lit (.str [97, 110, 121])) (.cons (.tup (.cons (.lit (.str [110, 97, 109, 101])) (.cons (.lit (.str [97, 99, 99])) .nil))) .nil))) .nil))))))))) (.cons (.set (.one 1) (.bin .add (.var 1) (.lst (.cons (.tup (.cons (.lit (.str [97, 110, 121])) (.cons (.tup (.cons (.lit (.str [110, 97, 109, 101])) (.cons (.lit (.str [97, 116])) .nil))) .nil))) (.cons (.tup (.cons (.lit (.str [102, 111, 108, 100])) (.cons (.lit (.int 1)) .nil))) .nil))))) (.cons (.set (.one 1) (.bin .add (.var 1) (.lst (.cons (.tup (.cons (.lit (.str [102, 111, 108, 100])) (.cons (.lit .non) (.cons (.var 0) .nil)))) (.cons (.tup (.cons (.lit (.str [102, 111, 108, 100])) (.cons (.lit (.int 1)) (.cons (.tup (.cons (.lit (.str [110, 97, 109, 101])) (.cons (.lit (.str [121])) .nil))) .nil)))) (.cons (.tup (.cons (.lit (.str [102, 111, 108, 100])) (.cons (.lit (.int 1000000000)) (.cons (.var 0) .nil)))) (.cons (.lst (.cons (.lit (.str [97, 108, 108])) .nil)) .nil))))))) (.cons (.ret (.bin .add (.var 1) (.lst (.cons (.tup (.cons (.lit (.str [116, 117, 114, 110])) (.cons (.var 0) .nil))) (.cons (.tup (.cons (.lit (.str [97, 110, 121])) (.cons (.var 0) (.cons (.lit (.int 1)) .nil)))) .nil))))) .nil)))))⟩
/-- _law_nest: 0 _law_many 1 _law_line 2 _law_j -/
def d__law_nest : MDef := ⟨3, 1, none,
  (.cons (.set (.one 1) (.tup (.cons (.tup (.cons (.lit (.str [114, 111, 119])) (.cons (.tup (.cons (.lit (.int 1)) .nil)) .nil))) .nil))) (.cons (.for_ (.one 2) (.range1 (.bin .sub (.var 0) (.lit (.int 1)))) (.cons (.set (.one 1) (.tup (.cons (.tup (.cons (.lit (.str [114, 111, 119])) (.cons (.tup (.cons (.lit (.int 2)) .nil)) .nil))) (.cons (.ix (.lst (.cons (.tup (.cons (.lit (.str [116, 104, 101, 110])) (.cons (.var 1) .nil))) (.cons (.tup (.cons (.lit (.str [112, 97, 105, 114])) (.cons (.var 1) (.cons (.tup (.cons (.lit (.str [110, 97, 109, 101])) (.cons (.lit (.str [121])) .nil))) .nil)))) .nil))) (.bin .mod (.var 2) (.lit (.int 2)))) .nil)))) .nil)) (.cons (.ret (.var 1)) .nil)))⟩
/-- law: 0 _law_script 1 _law_k 2 _law_more 3 _law_good 4 _law_j 5 _law_none 6 _law_here 7 _law_maker 8 _law_step 9 _law_lines 10 _law_line 11 _law_end 12 _law_some -/
def d_law : MDef := ⟨13, 1, none,
  (.cons (.for_ (.one 1) (.range1 (.blt .max2 (.cons (.lit (.int 1)) (.cons (.blt .min2 (.cons (.lit (.int 3)) (.cons (.blt .len (.cons (.var 0) .nil)) .nil))) .nil)))) (.cons (.set (.one 2) (.call 30 (.cons (.call 29 (.cons (.var 0) (.cons (.var 1) .nil))) (.cons (.var 1) .nil)))) (.cons (.set (.one 3) (.tup (.cons (.tup (.cons (.lit (.str [99, 111, 117, 110, 116])) (.cons (.lit (.int 0)) (.cons (.lit (.int 3)) .nil)))) (.cons (.tup (.cons (.lit (.str [116, 117, 114, 110])) (.cons (.tup (.cons (.lit (.str [110, 97, 109, 101])) (.cons (.lit (.str [120])) .nil))) .nil))) .nil)))) (.cons (.for_ (.one 4) (.range1 (.lit (.int 8))) (.cons (.set (.one 6) (.call 30 (.cons (.var 2) (.cons (.var 4) .nil)))) (.cons (.set (.one 7) (.ix (.call 31 .nil) (.bin .mod (.var 6) (.blt .len (.cons (.call 31 .nil) .nil))))) (.cons (.set (.one 8) (.ix (.call 32 .nil) (.bin .mod (.bin .fdiv (.var 6) (.lit (.int 64))) (.blt .len (.cons (.call 32 .nil) .nil))))) (.cons (.set (.one 9) (.lst (.cons (.tup (.cons (.var 7) .nil)) (.cons (.tup (.cons (.var 7) (.cons (.ix (.var 3) (.lit (.int 1))) .nil))) (.cons (.bin .add (.var 3) (.tup (.cons (.var 8) .nil))) (.cons (.bin .add (.slTo (.var 3) (.lit (.int 1))) (.tup (.cons (.var 8) (.cons (.ix (.var 3) (.lit (.int 1))) .nil)))) .nil)))))) (.cons (.set (.one 9) (.bin .add (.var 9) (.lst (.cons (.tup (.cons (.ix (.var 3) (.lit (.int 0))) (.cons (.tup (.cons (.lit (.str [116, 104, 101, 110])) (.cons (.tup (.cons (.var 7) .nil)) .nil))) .nil))) .nil)))) (.cons (.set (.one 10) (.ix (.bin .add (.var 9) (.lst (.cons (.tup (.cons (.ix (.var 3) (.lit (.int 0))) (.cons (.tup (.cons (.lit (.str [112, 97, 105, 114])) (.cons (.bin .add (.var 3) (.tup (.cons (.var 8) .nil))) (.cons (.tup (.cons (.lit (.str [110, 97, 109, 101])) (.cons (.lit (.str [121])) .nil))) .nil)))) .nil))) .nil))) (.bin .mod (.bin .fdiv (.var 6) (.lit (.int 4096))) (.lit (.int 6))))) (.cons (.set (.one 11) (.ix (.call 33 .nil) (.bin .mod (.bin .fdiv (.var 6) (.bin .pow (.lit (.int 2)) (.lit (.int 20)))) (.blt .len (.cons (.call 33 .nil) .nil))))) (.cons (.own 12 (.cons (.told (.call 13 (.cons (.var 10) .nil))) .nil)) (.cons (.app 12 (.told (.call 14 (.cons (.var 11) .nil)))) (.cons (.app 12 (.told (.call 21 (.cons (.var 10) (.cons (.tup (.cons (.lit (.str [97, 108, 108])) .nil)) .nil))))) (.cons (.app 12 (.told (.call 21 (.cons (.var 3) (.cons (.var 11) .nil))))) (.cons (.app 12 (.told (.call 28 (.cons (.var 10) (.cons (.tup (.cons (.lit (.str [97, 108, 108])) .nil)) .nil))))) (.cons (.app 12 (.told (.call 28 (.cons (.var 3) (.cons (.var 11) .nil))))) (.cons (.fixD 12) (.cons (.if_ (.cmp .ne (.var 12) (.bin .mul (.lst (.cons (.tup (.cons (.lit (.str [114, 101, 102, 117, 115, 101, 100])) (.cons (.lit (.str [66, 97, 100, 76, 105, 110, 101])) .nil))) .nil)) (.lit (.int 6)))) (.cons (.ret (.lit (.bl false))) .nil) .nil) .nil)))))))))))))))) (.cons (.for_ (.one 5) (.val (.lst (.cons (.lit .non) (.cons (.tup .nil) (.cons (.lst (.cons (.tup (.cons (.lit (.str [114, 111, 119])) (.cons (.tup .nil) .nil))) .nil)) (.cons (.bin .add (.slTo (.var 3) (.lit (.int 1))) (.bin .mul (.tup (.cons (.tup (.cons (.lit (.str [102, 105, 114, 115, 116])) (.cons (.lit (.int 1)) .nil))) .nil)) (.lit (.int 12)))) (.cons (.call 34 (.cons (.lit (.int 4)) .nil)) .nil))))))) (.cons (.if_ (.cmp .ne (.told (.call 13 (.cons (.var 5) .nil))) (.tup (.cons (.lit (.str [114, 101, 102, 117, 115, 101, 100])) (.cons (.lit (.str [66, 97, 100, 76, 105, 110, 101])) .nil)))) (.cons (.ret (.lit (.bl false))) .nil) .nil) .nil)) (.cons (.if_ (.or (.cons (.cmp .isnt (.call 13 (.cons (.bin .add (.slTo (.var 3) (.lit (.int 1))) (.bin .mul (.tup (.cons (.tup (.cons (.lit (.str [102, 105, 114, 115, 116])) (.cons (.lit (.int 1)) .nil))) .nil)) (.lit (.int 11)))) .nil)) (.lit .non)) (.cons (.cmp .isnt (.call 13 (.cons (.call 34 (.cons (.lit (.int 3)) .nil)) .nil)) (.lit .non)) .nil))) (.cons (.ret (.lit (.bl false))) .nil) .nil) .nil)))))) (.cons (.ret (.lit (.bl true))) .nil))⟩
def prog : Pg := ⟨[d_need_terms, d_is_number, d_need_deep, d_need_term, d_bounded, d_two, d_done, d_need_lines, d_is_count, d_look_term, d_look_maker, d_look_step, d_look_deep, d_look_line, d_look_end, d_made, d_as_far, d_scanned, d_stepped, d_row_of, d_ended, d_run, d_strength, d_within, d_term_text, d_maker_text, d_step_text, d_line_text, d_written, d__law_cell, d__law_drawn, d__law_no_makers, d__law_no_steps, d__law_no_ends, d__law_nest, d_law],
  [(.int 999999999), (.int 12), (.tup [(.str [112, 108, 117, 115]), (.str [108, 101, 115, 115]), (.str [116, 105, 109, 101, 115]), (.str [112, 97, 114, 116]), (.str [114, 101, 115, 116]), (.str [115, 97, 109, 101]), (.str [98, 101, 108, 111, 119])]), (.gdic [([110, 117, 109], (.int 2)), ([110, 97, 109, 101], (.int 2)), ([115, 97, 121], (.int 2)), ([119, 104, 101, 110], (.int 4))]), (.int 200), (.int 30), (.int 12), (.int 60), (.int 4), (.int 3), (.gdic [([116, 117, 114, 110], (.tup [(.str [120]), (.str [97, 116])])), ([115, 105, 101, 118, 101], (.tup [(.str [120]), (.str [97, 116])])), ([119, 104, 105, 108, 101], (.tup [(.str [120])])), ([112, 97, 115, 116], (.tup [(.str [120])]))]), (.gdic [([115, 97, 109, 101], (.str [61])), ([98, 101, 108, 111, 119], (.str [60])), ([112, 108, 117, 115], (.str [43])), ([108, 101, 115, 115], (.str [45])), ([116, 105, 109, 101, 115], (.str [42])), ([112, 97, 114, 116], (.str [112, 97, 114, 116])), ([114, 101, 115, 116], (.str [114, 101, 115, 116]))]), (.gdic [([119, 104, 101, 110], (.int 1)), ([115, 97, 109, 101], (.int 2)), ([98, 101, 108, 111, 119], (.int 2)), ([112, 108, 117, 115], (.int 3)), ([108, 101, 115, 115], (.int 3)), ([116, 105, 109, 101, 115], (.int 4)), ([112, 97, 114, 116], (.int 4)), ([114, 101, 115, 116], (.int 4))])],
  [],
  [⟨[70, 117, 115, 101, 69, 114, 114, 111, 114], false⟩, ⟨[66, 97, 100, 84, 101, 114, 109], false⟩, ⟨[66, 97, 100, 76, 105, 110, 101], false⟩, ⟨[66, 97, 100, 84, 101, 120, 116], false⟩, ⟨[66, 97, 100, 83, 116, 101, 112], false⟩, ⟨[70, 97, 117, 108, 116], true⟩], 5, 1000000000⟩
abbrev f_need_terms : Nat := 0
abbrev f_is_number : Nat := 1
abbrev f_need_deep : Nat := 2
abbrev f_need_term : Nat := 3
abbrev f_bounded : Nat := 4
abbrev f_two : Nat := 5
abbrev f_done : Nat := 6
abbrev f_need_lines : Nat := 7
abbrev f_is_count : Nat := 8
abbrev f_look_term : Nat := 9
abbrev f_look_maker : Nat := 10
abbrev f_look_step : Nat := 11
abbrev f_look_deep : Nat := 12
abbrev f_look_line : Nat := 13
abbrev f_look_end : Nat := 14
abbrev f_made : Nat := 15
abbrev f_as_far : Nat := 16
abbrev f_scanned : Nat := 17
abbrev f_stepped : Nat := 18
abbrev f_row_of : Nat := 19
abbrev f_ended : Nat := 20
abbrev f_run : Nat := 21
abbrev f_strength : Nat := 22
abbrev f_within : Nat := 23
abbrev f_term_text : Nat := 24
abbrev f_maker_text : Nat := 25
abbrev f_step_text : Nat := 26
abbrev f_line_text : Nat := 27
abbrev f_written : Nat := 28
abbrev f__law_cell : Nat := 29
abbrev f__law_drawn : Nat := 30
abbrev f__law_no_makers : Nat := 31
abbrev f__law_no_steps : Nat := 32
abbrev f__law_no_ends : Nat := 33
abbrev f__law_nest : Nat := 34
abbrev f_law : Nat := 35

end K31

set_option maxRecDepth 100000
set_option linter.all false
set_option maxHeartbeats 4000000
namespace K31
open Fw
theorem dq_ss (x y : Txt) : deq (.str x) (.str y) = (x == y) := by simp only [deq]
theorem dq_ii (x y : Int) : deq (.int x) (.int y) = (x == y) := by simp only [deq]
theorem dq_tt (x y : List D) : deq (.tup x) (.tup y) = deqs x y := by simp only [deq]
theorem dq_ll (x y : List D) : deq (.lst x) (.lst y) = deqs x y := by simp only [deq]
theorem dq_bb (x y : Bool) : deq (.bl x) (.bl y) = (x == y) := by simp only [deq]
theorem dq_nil : deqs [] [] = true := by simp only [deqs]
theorem dq_cons (x y : D) (r s : List D) : deqs (x :: r) (y :: s) = (deq x y && deqs r s) := by simp only [deqs]
theorem dq_scr0 : deq (.scr []) (.lst []) = true := by simp [deq]
theorem dq_scr1 (i : Int) (r : List Int) : deq (.scr (i :: r)) (.lst []) = false := by simp [deq]
theorem bm_get (kvs : List (Txt × D)) (k : Txt) (d : D) : bmD .get (.dic kvs) [.str k, d] = some ((lookT k kvs).getD d) := rfl
theorem bm_getg (kvs : List (Txt × D)) (k : Txt) (d : D) : bmD .get (.gdic kvs) [.str k, d] = some ((lookT k kvs).getD d) := rfl
theorem pg0 : prog.globs[0]? = some (.int 999999999) := rfl
theorem pg1 : prog.globs[1]? = some (.int 12) := rfl
theorem pg2 : prog.globs[2]? = some (.tup [(.str [112, 108, 117, 115]), (.str [108, 101, 115, 115]), (.str [116, 105, 109, 101, 115]), (.str [112, 97, 114, 116]), (.str [114, 101, 115, 116]), (.str [115, 97, 109, 101]), (.str [98, 101, 108, 111, 119])]) := rfl
theorem pg3 : prog.globs[3]? = some (.gdic [([110, 117, 109], (.int 2)), ([110, 97, 109, 101], (.int 2)), ([115, 97, 121], (.int 2)), ([119, 104, 101, 110], (.int 4))]) := rfl
theorem pg4 : prog.globs[4]? = some (.int 200) := rfl
theorem pg5 : prog.globs[5]? = some (.int 30) := rfl
theorem pg6 : prog.globs[6]? = some (.int 12) := rfl
theorem pg7 : prog.globs[7]? = some (.int 60) := rfl
theorem pg8 : prog.globs[8]? = some (.int 4) := rfl
theorem pg9 : prog.globs[9]? = some (.int 3) := rfl
theorem pg10 : prog.globs[10]? = some (.gdic [([116, 117, 114, 110], (.tup [(.str [120]), (.str [97, 116])])), ([115, 105, 101, 118, 101], (.tup [(.str [120]), (.str [97, 116])])), ([119, 104, 105, 108, 101], (.tup [(.str [120])])), ([112, 97, 115, 116], (.tup [(.str [120])]))]) := rfl
theorem pg11 : prog.globs[11]? = some (.gdic [([115, 97, 109, 101], (.str [61])), ([98, 101, 108, 111, 119], (.str [60])), ([112, 108, 117, 115], (.str [43])), ([108, 101, 115, 115], (.str [45])), ([116, 105, 109, 101, 115], (.str [42])), ([112, 97, 114, 116], (.str [112, 97, 114, 116])), ([114, 101, 115, 116], (.str [114, 101, 115, 116]))]) := rfl
theorem pg12 : prog.globs[12]? = some (.gdic [([119, 104, 101, 110], (.int 1)), ([115, 97, 109, 101], (.int 2)), ([98, 101, 108, 111, 119], (.int 2)), ([112, 108, 117, 115], (.int 3)), ([108, 101, 115, 115], (.int 3)), ([116, 105, 109, 101, 115], (.int 4)), ([112, 97, 114, 116], (.int 4)), ([114, 101, 115, 116], (.int 4))]) := rfl
theorem px0 : prog.excs[0]? = some ⟨[70, 117, 115, 101, 69, 114, 114, 111, 114], false⟩ := rfl
theorem px1 : prog.excs[1]? = some ⟨[66, 97, 100, 84, 101, 114, 109], false⟩ := rfl
theorem px2 : prog.excs[2]? = some ⟨[66, 97, 100, 76, 105, 110, 101], false⟩ := rfl
theorem px3 : prog.excs[3]? = some ⟨[66, 97, 100, 84, 101, 120, 116], false⟩ := rfl
theorem px4 : prog.excs[4]? = some ⟨[66, 97, 100, 83, 116, 101, 112], false⟩ := rfl
theorem px5 : prog.excs[5]? = some ⟨[70, 97, 117, 108, 116], true⟩ := rfl
theorem callT_s (k f : Nat) (ds : List D) (st : Store) : callT (tabs prog (k+1)) f ds st = runDef prog (tabs prog k) f ds st := rfl
theorem callT_c (F : FT) (T : List FT) (f : Nat) (ds : List D) (st : Store) : callT (F :: T) f ds st = F f ds st := rfl
theorem tabs_s (k : Nat) : tabs prog (k+1) = runDef prog (tabs prog k) :: tabs prog k := rfl
def finO : SO → Out D
  | .next _ st => .ok .non st
  | .ret x st => .ok x st
  | .exc e st => .exc e st
  | _ => .bad
theorem run_eq {f : Nat} {ds : List D} {st : Store} {T : List FT} (d : MDef) (h : prog.defs[f]? = some d) (hi : d.ini = none) (hl : ds.length = d.np) : runDef prog T f ds st = finO (execSs prog T d.body (startEnv d.n ds) st) := by
  unfold runDef
  rw [h]
  simp only [hi, hl, if_true]
  cases execSs prog T d.body (startEnv d.n ds) st <;> rfl
theorem fm_rng (a : Int) {b : Int} (h : 0 < b) : 0 ≤ a.fmod b ∧ a.fmod b < b := by
  rw [Int.fmod_eq_emod_of_nonneg a (Int.le_of_lt h)]
  exact ⟨Int.emod_nonneg a (by omega), Int.emod_lt_of_pos a h⟩
theorem fd_pos {a b : Int} (ha : 0 ≤ a) (h : 0 < b) : 0 ≤ a.fdiv b := by
  rw [Int.fdiv_eq_ediv_of_nonneg a (Int.le_of_lt h)]
  exact Int.ediv_nonneg ha (Int.le_of_lt h)
theorem fd_le {a b : Int} (ha : 0 ≤ a) (h : 0 < b) : a.fdiv b ≤ a := by
  rw [Int.fdiv_eq_ediv_of_nonneg a (Int.le_of_lt h)]
  exact Int.ediv_le_self b ha
def m1F (c k : Int) : Int := (c * 6364136223846793005 + (k + 1) * 1442695040888963407).fmod 340282366920938463463374607431768211507
def m2F (m : Int) : Int := (m * m).fmod 340282366920938463463374607431768211297
def m3F (m : Int) : Int := (m.fmod 18446744073709551557 + 1) * (m.fdiv 18446744073709551557 + 1) * m
def drawnF (c k : Int) : Int := (m3F (m2F (m1F c k))).fmod 340282366920938463463374607431768211507
theorem drawn_rng (c k : Int) : 0 ≤ drawnF c k ∧ drawnF c k < 340282366920938463463374607431768211507 := fm_rng _ (by decide)
theorem r_drawn (T : List FT) (c k : Int) (st : Store) : runDef prog T f__law_drawn [.int c, .int k] st = .ok (.int (drawnF c k)) st := by
  rw [run_eq d__law_drawn rfl rfl rfl]
  have a1 := fm_rng (c * 6364136223846793005 + (k + 1) * 1442695040888963407) (b := 340282366920938463463374607431768211507) (by decide)
  have a2 : 0 ≤ m2F (m1F c k) ∧ m2F (m1F c k) < 340282366920938463463374607431768211297 := fm_rng _ (by decide)
  have b1 : (m1F c k).natAbs < 2 ^ 200 := by
    have : 0 ≤ m1F c k ∧ m1F c k < 340282366920938463463374607431768211507 := a1
    omega
  have a3 := fm_rng (m2F (m1F c k)) (b := 18446744073709551557) (by decide)
  have a4 := fd_pos (b := 18446744073709551557) a2.1 (by decide)
  have b2 : ((m2F (m1F c k)).fmod 18446744073709551557 + 1).natAbs < 2 ^ 64 := by omega
  have b3 : (m2F (m1F c k)).natAbs < 2 ^ 200 := by omega
  have a5 : (m2F (m1F c k)).fdiv 18446744073709551557 < 2 ^ 65 - 1 := by
    rw [Int.fdiv_eq_ediv_of_nonneg _ (by decide)]
    omega
  have b4 : (((m2F (m1F c k)).fmod 18446744073709551557 + 1) * ((m2F (m1F c k)).fdiv 18446744073709551557 + 1)).natAbs < 2 ^ 200 := by
    rw [Int.natAbs_mul]
    have x1 : ((m2F (m1F c k)).fmod 18446744073709551557 + 1).natAbs ≤ 2 ^ 64 := by omega
    have x2 : ((m2F (m1F c k)).fdiv 18446744073709551557 + 1).natAbs ≤ 2 ^ 65 := by omega
    have := Nat.mul_le_mul x1 x2
    exact Nat.lt_of_le_of_lt this (by decide)
  have e1 : (c * 6364136223846793005 + (k + 1) * 1442695040888963407).fmod 340282366920938463463374607431768211507 = m1F c k := rfl
  have e2 : (m1F c k * m1F c k).fmod 340282366920938463463374607431768211297 = m2F (m1F c k) := rfl
  have e3 : (((m2F (m1F c k)).fmod 18446744073709551557 + 1) * ((m2F (m1F c k)).fdiv 18446744073709551557 + 1) * m2F (m1F c k)).fmod 340282366920938463463374607431768211507 = drawnF c k := rfl
  simp [inX, startEnv, startIni, execSs, execS, evalE, evalEs, evalA, evalO, evalA1, evalC, evalI, Out.bind, Out.so, Out.ofO, varD, bindTg, nextO, blt, bLen, bAbs, bMax2, bMin2, bInt, bList, bTuple, bSum, bAll, bAny, bMin1, bMax1, bIsinst, bDictPairs, bDictCopy, op2, cmp2, cmpS, eqX, atD, ixN, cutD, cutL, sIx, asI, asB, asIs, asBs, big, freezeS, compGo, forGo, items, itemsL, itemsQ, rangeD, upto, lookT, isIn, eqO, scrOk, isData, isDatas, dep, deps, dq_ss, dq_ii, dq_tt, dq_nil, dq_cons, dq_scr0, dq_scr1, flat, fldD, getF, methF, tyIs, pairsOf, mulOk, minI, maxI, bm_get, bm_getg, bmOk, finO, d__law_drawn, e1, e2, e3, b1, b2, b3, b4]
def cellF (ns : List Int) (k : Int) : Int := match ns with
  | [] => k * 7919
  | _ => (ns[(k.fmod ns.length).toNat]?).getD 0 + k.fdiv ns.length * 104729
theorem r_cell (T : List FT) (ns : List Int) (k : Int) (st : Store) (hl : ns.length ≤ 63) (hk : 0 ≤ k) : runDef prog T f__law_cell [.scr ns, .int k] st = .ok (.int (cellF ns k)) st := by
  rw [run_eq d__law_cell rfl rfl rfl]
  cases ns with
  | nil => simp [inX, startEnv, startIni, execSs, execS, evalE, evalEs, evalA, evalO, evalA1, evalC, evalI, Out.bind, Out.so, Out.ofO, varD, bindTg, nextO, blt, bLen, bAbs, bMax2, bMin2, bInt, bList, bTuple, bSum, bAll, bAny, bMin1, bMax1, bIsinst, bDictPairs, bDictCopy, op2, cmp2, cmpS, eqX, atD, ixN, cutD, cutL, sIx, asI, asB, asIs, asBs, big, freezeS, compGo, forGo, items, itemsL, itemsQ, rangeD, upto, lookT, isIn, eqO, scrOk, isData, isDatas, dep, deps, dq_ss, dq_ii, dq_tt, dq_nil, dq_cons, dq_scr0, dq_scr1, flat, fldD, getF, methF, tyIs, pairsOf, mulOk, minI, maxI, bm_get, bm_getg, bmOk, finO, d__law_cell, cellF]
  | cons n r =>
    have h0 : (0 : Int) < ((n :: r).length : Int) := by simp only [List.length_cons]; omega
    have q := fm_rng k h0
    have q1 : ((k.fmod (n :: r).length).toNat) < (n :: r).length := by omega
    have q2 : (n :: r)[(k.fmod (n :: r).length).toNat]? = some ((n :: r)[(k.fmod (n :: r).length).toNat]) := List.getElem?_eq_getElem q1
    generalize hx : (n :: r)[(k.fmod (n :: r).length).toNat] = x at q2
    have e : cellF (n :: r) k = x + k.fdiv (n :: r).length * 104729 := by unfold cellF; rw [q2]; rfl
    rw [e]
    simp only [List.length_cons] at q q1 q2 hl h0 ⊢
    push_cast at q q2 h0 ⊢
    have n1 : ¬ ((r.length : Int) + 1 = 0) := by omega
    have n2 : ((r.length : Int) + 1).natAbs < 1073741824 := by omega
    simp [inX, startEnv, startIni, execSs, execS, evalE, evalEs, evalA, evalO, evalA1, evalC, evalI, Out.bind, Out.so, Out.ofO, varD, bindTg, nextO, blt, bLen, bAbs, bMax2, bMin2, bInt, bList, bTuple, bSum, bAll, bAny, bMin1, bMax1, bIsinst, bDictPairs, bDictCopy, op2, cmp2, cmpS, eqX, atD, ixN, cutD, cutL, sIx, asI, asB, asIs, asBs, big, freezeS, compGo, forGo, items, itemsL, itemsQ, rangeD, upto, lookT, isIn, eqO, scrOk, isData, isDatas, dep, deps, dq_ss, dq_ii, dq_tt, dq_nil, dq_cons, dq_scr0, dq_scr1, flat, fldD, getF, methF, tyIs, pairsOf, mulOk, minI, maxI, bm_get, bm_getg, bmOk, finO, d__law_cell, q.1, q.2, n1, n2]
    exact (List.getElem?_eq_some_iff.mp q2).2
def forBody : MS → MSs
  | .for_ _ _ b => b
  | _ => .nil
def hdS : MSs → MS
  | .cons s _ => s
  | .nil => .pass
def tlS : MSs → MSs
  | .cons _ r => r
  | .nil => .nil
theorem forGo_inv {F : D → Env → Store → SO} {Inv : Env → Prop} {st : Store} : ∀ {xs : List D} {env : Env}, Inv env → (∀ x ∈ xs, ∀ env, Inv env → ∃ env', F x env st = .next env' st ∧ Inv env') → ∃ env', forGo F xs env st = .next env' st ∧ Inv env'
  | [], env, h, _ => ⟨env, rfl, h⟩
  | x :: r, env, h, q => by
    obtain ⟨e1, f1, i1⟩ := q x List.mem_cons_self env h
    obtain ⟨e2, f2, i2⟩ := forGo_inv i1 fun y hy => q y (List.mem_cons_of_mem _ hy)
    exact ⟨e2, by unfold forGo; rw [f1]; exact f2, i2⟩
theorem mem_upto {x : D} : ∀ {n : Nat} {lo : Int}, x ∈ (upto lo n).map D.int → ∃ i, x = .int i ∧ lo ≤ i
  | 0, lo, h => by simp [upto] at h
  | n + 1, lo, h => by
    simp only [upto, List.map_cons, List.mem_cons] at h
    rcases h with rfl | h
    · exact ⟨lo, rfl, Int.le_refl _⟩
    · obtain ⟨i, e, q⟩ := mem_upto h
      exact ⟨i, e, by omega⟩
/-- a loop over numbers: what holds holds on, the store by the round -/
theorem forGo_upto {F : D → Env → Store → SO} {Inv : Int → Env → Store → Prop} : ∀ {n : Nat} {lo : Int} {env : Env} {st : Store}, Inv lo env st → (∀ i env st, lo ≤ i → i < lo + n → Inv i env st → ∃ env' st', F (.int i) env st = .next env' st' ∧ Inv (i + 1) env' st') → ∃ env' st', forGo F ((upto lo n).map D.int) env st = .next env' st' ∧ Inv (lo + n) env' st'
  | 0, lo, env, st, h, _ => ⟨env, st, rfl, by simpa using h⟩
  | n + 1, lo, env, st, h, q => by
    obtain ⟨e1, s1, f1, i1⟩ := q lo env st (Int.le_refl _) (by push_cast; omega) h
    obtain ⟨e2, s2, f2, i2⟩ := forGo_upto (n := n) (lo := lo + 1) i1 fun i env st h1 h2 => q i env st (by omega) (by push_cast; omega)
    refine ⟨e2, s2, ?_, ?_⟩
    · simp only [upto, List.map_cons]
      unfold forGo
      rw [f1]
      exact f2
    · have e : lo + 1 + (n : Int) = lo + ((n + 1 : Nat) : Int) := by push_cast; omega
      rw [← e]; exact i2
theorem range_of {x : Int} (h : 0 ≤ x) (h2 : x ≤ 1000) : rangeD 0 x = some ((upto 0 x.toNat).map D.int) := by
  unfold rangeD
  rw [if_pos (by unfold big; omega), Int.sub_zero]
end K31

set_option maxRecDepth 100000
set_option linter.all false
set_option maxHeartbeats 8000000
set_option autoImplicit false
namespace K31
open Fw
mutual
/-- one and the same: plain data of numbers, texts -/
def same : D → D → Bool
  | .non, .non => true
  | .int i, .int j => decide (i = j)
  | .bl i, .bl j => decide (i = j)
  | .str i, .str j => decide (i = j)
  | .tup xs, .tup ys => sames xs ys
  | .lst xs, .lst ys => sames xs ys
  | .cell i, .cell j => decide (i = j)
  | _, _ => false
def sames : List D → List D → Bool
  | [], [] => true
  | x :: xs, y :: ys => same x y && sames xs ys
  | _, _ => false
end
mutual
theorem same_eq : ∀ {a b : D}, same a b = true → a = b
  | .non, b, h => by cases b <;> simp_all [same]
  | .int i, b, h => by cases b <;> simp_all [same]
  | .bl i, b, h => by cases b <;> simp_all [same]
  | .str i, b, h => by cases b <;> simp_all [same]
  | .cell i, b, h => by cases b <;> simp_all [same]
  | .tup xs, b, h => by
    cases b <;> simp only [same] at h <;> first | cases h | exact congrArg _ (sames_eq h)
  | .lst xs, b, h => by
    cases b <;> simp only [same] at h <;> first | cases h | exact congrArg _ (sames_eq h)
  | .dic _, b, h => by cases b <;> simp [same] at h
  | .gdic _, b, h => by cases b <;> simp [same] at h
  | .obj _ _, b, h => by cases b <;> simp [same] at h
  | .scr _, b, h => by cases b <;> simp [same] at h
theorem sames_eq : ∀ {a b : List D}, sames a b = true → a = b
  | [], b, h => by cases b <;> simp_all [sames]
  | x :: xs, b, h => by
    cases b with
    | nil => simp [sames] at h
    | cons y ys =>
      simp only [sames, Bool.and_eq_true] at h
      rw [same_eq h.1, sames_eq h.2]
end
def sameS : Store → Store → Bool
  | [], [] => true
  | .lst x :: xs, .lst y :: ys => sames x y && sameS xs ys
  | _, _ => false
theorem sameS_eq : ∀ {a b : Store}, sameS a b = true → a = b
  | [], b, h => by cases b <;> simp_all [sameS]
  | .lst x :: xs, b, h => by
    cases b with
    | nil => simp [sameS] at h
    | cons y ys =>
      cases y with
      | obj => simp [sameS] at h
      | lst y =>
        simp only [sameS, Bool.and_eq_true] at h
        rw [sames_eq h.1, sameS_eq h.2]
  | .obj _ _ :: _, b, h => by cases b <;> simp [sameS] at h
def sameO (d : D) (st : Store) : Out D → Bool
  | .ok d' st' => same d d' && sameS st st'
  | _ => false
theorem sameO_eq {d : D} {st : Store} {o : Out D} (h : sameO d st o = true) : o = .ok d st := by
  cases o with
  | ok a b =>
    simp only [sameO, Bool.and_eq_true] at h
    rw [same_eq h.1, sameS_eq h.2]
  | exc a b => cases h
  | bad => cases h
def badO : Out D → Bool
  | .exc ⟨2, none⟩ [] => true
  | _ => false
theorem badO_eq {o : Out D} (h : badO o = true) : o = .exc ⟨2, none⟩ [] := by
  unfold badO at h
  split at h
  · rfl
  · cases h
def lstO : Out D → List D
  | .ok (.lst ds) _ => ds
  | _ => []
def valO : Out D → D
  | .ok d _ => d
  | _ => .non
def makers : List D := lstO (callT (tabs prog 99) f__law_no_makers [] [])
def steps : List D := lstO (callT (tabs prog 99) f__law_no_steps [] [])
def ends : List D := lstO (callT (tabs prog 99) f__law_no_ends [] [])
def nest (n : Int) : D := valO (callT (tabs prog 99) f__law_nest [.int n] [])
abbrev turnX : D := .tup [.str [116, 117, 114, 110], .tup [.str [110, 97, 109, 101], .str [120]]]
abbrev cnt3 : D := .tup [.str [99, 111, 117, 110, 116], .int 0, .int 3]
abbrev goodL : D := .tup [cnt3, turnX]
abbrev allE : D := .tup [.str [97, 108, 108]]
abbrev fst1 : D := .tup [.str [102, 105, 114, 115, 116], .int 1]
def lineD (n : Nat) (m s : D) : D :=
  match n with
  | 0 => .tup [m]
  | 1 => .tup [m, turnX]
  | 2 => .tup [cnt3, turnX, s]
  | 3 => .tup [cnt3, s, turnX]
  | 4 => .tup [cnt3, .tup [.str [116, 104, 101, 110], .tup [m]]]
  | _ => .tup [cnt3, .tup [.str [112, 97, 105, 114], .tup [cnt3, turnX, s], .tup [.str [110, 97, 109, 101], .str [121]]]]
theorem all_of {α : Type} {p : α → Bool} {xs : List α} (h : xs.all p = true) : ∀ x ∈ xs, p x = true := fun x hx => List.all_eq_true.1 h x hx
theorem n20 : makers.length = 20 := by decide +kernel
theorem n33 : steps.length = 33 := by decide +kernel
theorem n15 : ends.length = 15 := by decide +kernel
theorem a0 : sameO (.lst makers) [] (callT (tabs prog 99) f__law_no_makers [] []) = true := by decide +kernel
theorem a1 : sameO (.lst steps) [] (callT (tabs prog 99) f__law_no_steps [] []) = true := by decide +kernel
theorem a2 : sameO (.lst ends) [] (callT (tabs prog 99) f__law_no_ends [] []) = true := by decide +kernel
def bad3 (d : D) : Bool := badO (callT (tabs prog 97) f_look_line [d] []) && badO (callT (tabs prog 97) f_run [d, allE] []) && badO (callT (tabs prog 97) f_written [d, allE] [])
theorem b1 : (makers.all fun m => [0, 1, 4].all fun n => bad3 (lineD n m .non)) = true := by decide +kernel
theorem b2 : (steps.all fun s => [2, 3, 5].all fun n => bad3 (lineD n .non s)) = true := by decide +kernel
theorem b3 : (ends.all fun e => badO (callT (tabs prog 99) f_look_end [e] []) && badO (callT (tabs prog 97) f_look_end [e] []) && badO (callT (tabs prog 97) f_run [goodL, e] []) && badO (callT (tabs prog 97) f_written [goodL, e] [])) = true := by decide +kernel
theorem b4 : ([.non, .tup [], .lst [.tup [.str [114, 111, 119], .tup []]], .tup (cnt3 :: List.replicate 12 fst1), nest 4].all fun d => badO (callT (tabs prog 97) f_look_line [d] [])) = true := by decide +kernel
theorem b5 : sameO .non [] (callT (tabs prog 99) f_look_line [.tup (cnt3 :: List.replicate 11 fst1)] []) = true := by decide +kernel
theorem b6 : sameO .non [] (callT (tabs prog 99) f_look_line [nest 3] []) = true := by decide +kernel
theorem b7 : sameO (nest 4) [] (callT (tabs prog 99) f__law_nest [.int 4] []) = true := by decide +kernel
theorem b8 : sameO (nest 3) [] (callT (tabs prog 99) f__law_nest [.int 3] []) = true := by decide +kernel
theorem line_bad {n : Nat} {m s : D} (hn : n < 6) (hm : m ∈ makers) (hs : s ∈ steps) : callT (tabs prog 97) f_look_line [lineD n m s] [] = .exc ⟨2, none⟩ [] ∧ callT (tabs prog 97) f_run [lineD n m s, allE] [] = .exc ⟨2, none⟩ [] ∧ callT (tabs prog 97) f_written [lineD n m s, allE] [] = .exc ⟨2, none⟩ [] := by
  have h : bad3 (lineD n m s) = true := by
    have k1 := all_of b1 m hm
    have k2 := all_of b2 s hs
    match n, hn with
    | 0, _ => exact all_of k1 0 (by simp)
    | 1, _ => exact all_of k1 1 (by simp)
    | 2, _ => exact all_of k2 2 (by simp)
    | 3, _ => exact all_of k2 3 (by simp)
    | 4, _ => exact all_of k1 4 (by simp)
    | 5, _ => exact all_of k2 5 (by simp)
  unfold bad3 at h
  simp only [Bool.and_eq_true] at h
  exact ⟨badO_eq h.1.1, badO_eq h.1.2, badO_eq h.2⟩
theorem end_bad {e : D} (he : e ∈ ends) : callT (tabs prog 97) f_look_end [e] [] = .exc ⟨2, none⟩ [] ∧ callT (tabs prog 97) f_run [goodL, e] [] = .exc ⟨2, none⟩ [] ∧ callT (tabs prog 97) f_written [goodL, e] [] = .exc ⟨2, none⟩ [] := by
  have h := all_of b3 e he
  simp only [Bool.and_eq_true] at h
  exact ⟨badO_eq h.1.1.2, badO_eq h.1.2, badO_eq h.2⟩
theorem ln_bad {d : D} (hd : d ∈ [.non, .tup [], .lst [.tup [.str [114, 111, 119], .tup []]], .tup (cnt3 :: List.replicate 12 fst1), nest 4]) : callT (tabs prog 97) f_look_line [d] [] = .exc ⟨2, none⟩ [] := badO_eq (all_of b4 d hd)
theorem cB : toldD prog ⟨2, none⟩ = some (.tup [.str [114, 101, 102, 117, 115, 101, 100], .str [66, 97, 100, 76, 105, 110, 101]]) := rfl
end K31

set_option maxRecDepth 100000
set_option linter.all false
set_option maxHeartbeats 8000000
set_option autoImplicit false
namespace K31
open Fw
def forF (T : List FT) (tg : Tg) (body : MSs) : D → Env → Store → SO := fun x env st => match bindTg tg x env with
      | some env => execSs prog T body env st
      | none => .bad
theorem ss_for {T : List FT} {t : Tg} {it : MI} {body r : MSs} {env : Env} {st st1 : Store} {xs : List D} (hi : evalI prog T it env st = .ok xs st1) : execSs prog T (.cons (.for_ t it body) r) env st = match forGo (forF T t body) xs env st1 with
    | .next env st => execSs prog T r env st
    | o => o := by
  conv => lhs; unfold execSs; unfold execS
  rw [hi]
  rfl
theorem ss_next {T : List FT} {s : MS} {r : MSs} {env env' : Env} {st st' : Store} (h : execS prog T s env st = .next env' st') : execSs prog T (.cons s r) env st = execSs prog T r env' st' := by
  conv => lhs; unfold execSs
  rw [h]
def nthS : Nat → MSs → MS
  | 0, b => hdS b
  | n + 1, b => nthS n (tlS b)
abbrev outB : MSs := forBody (hdS d_law.body)
abbrev innB : MSs := forBody (nthS 2 outB)
abbrev noneB : MSs := forBody (nthS 3 outB)
abbrev EN (s0 s1 : Slot) (more j : Int) (s5 s6 s7 s8 s9 s10 s11 s12 : Slot) : Env := [s0, s1, .val (.int more), .val goodL, .val (.int j), s5, s6, s7, s8, s9, s10, s11, s12]
abbrev BL : D := .tup [.str [114, 101, 102, 117, 115, 101, 100], .str [66, 97, 100, 76, 105, 110, 101]]
theorem at_mem {ds : List D} {i n : Int} (hn : (ds.length : Int) = n) (h0 : 0 ≤ i) (h : i < n) : ∃ d ∈ ds, atD (.lst ds) (.int i) = some d := by
  have h1 : i.toNat < ds.length := by omega
  refine ⟨ds[i.toNat], List.getElem_mem h1, ?_⟩
  simp only [atD, ixN, hn, if_pos h0, if_pos h, Option.bind_some]
  exact List.getElem?_eq_getElem h1
theorem inner_run (j : Int) (s0 s1 : Slot) (more : Int) (s5 s6 s7 s8 s9 s10 s11 s12 : Slot) : ∃ s6' s7' s8' s9' s10' s11' s12', execSs prog (tabs prog 99) innB (EN s0 s1 more j s5 s6 s7 s8 s9 s10 s11 s12) [] = .next (EN s0 s1 more j s5 s6' s7' s8' s9' s10' s11' s12') [] := by
  obtain ⟨h, hh⟩ : ∃ h, h = drawnF more j := ⟨_, rfl⟩
  have d0 : callT (tabs prog 99) f__law_drawn [.int more, .int j] [] = .ok (.int h) [] := by rw [hh]; exact r_drawn (tabs prog 98) more j []
  clear hh
  have c1 : callT (tabs prog 99) f__law_no_makers [] [] = .ok (.lst makers) [] := sameO_eq a0
  have c2 : callT (tabs prog 99) f__law_no_steps [] [] = .ok (.lst steps) [] := sameO_eq a1
  have c3 : callT (tabs prog 99) f__law_no_ends [] [] = .ok (.lst ends) [] := sameO_eq a2
  have q1 := fm_rng h (b := 20) (by decide)
  have q2 := fm_rng (h.fdiv 64) (b := 33) (by decide)
  have q3 := fm_rng (h.fdiv 1048576) (b := 15) (by decide)
  have q6 := fm_rng (h.fdiv 4096) (b := 6) (by decide)
  obtain ⟨m, hm, e1⟩ := at_mem (ds := makers) (n := 20) (by rw [n20]; rfl) q1.1 q1.2
  obtain ⟨s, hs, e2⟩ := at_mem (ds := steps) (n := 33) (by rw [n33]; rfl) q2.1 q2.2
  obtain ⟨e, he, e3⟩ := at_mem (ds := ends) (n := 15) (by rw [n15]; rfl) q3.1 q3.2
  obtain ⟨n, hn⟩ : ∃ n : Nat, (h.fdiv 4096).fmod 6 = n := ⟨((h.fdiv 4096).fmod 6).toNat, by omega⟩
  have n6 : n < 6 := by omega
  obtain ⟨g1, g2, g3⟩ := line_bad n6 hm hs
  obtain ⟨k1, k2, k3⟩ := end_bad he
  have bl1 : bLen [.lst makers] = some (.int 20) := by simp [bLen, n20]
  have bl2 : bLen [.lst steps] = some (.int 33) := by simp [bLen, n33]
  have bl3 : bLen [.lst ends] = some (.int 15) := by simp [bLen, n15]
  have p20 : op2 .pow (.int 2) (.int 20) = some (.int 1048576) := rfl
  have p21 : op2 .fdiv (.int h) (.int 1048576) = some (.int (h.fdiv 1048576)) := by simp [op2]
  have p22 : op2 .mod (.int (h.fdiv 1048576)) (.int 15) = some (.int ((h.fdiv 1048576).fmod 15)) := by simp [op2]
  generalize makers = M at *
  generalize steps = SS at *
  generalize ends = ES at *
  obtain ⟨F1, hF1⟩ : ∃ F, F = runDef prog (tabs prog 98) := ⟨_, rfl⟩
  obtain ⟨F2, hF2⟩ : ∃ F, F = runDef prog (tabs prog 97) := ⟨_, rfl⟩
  have hT : tabs prog 99 = F1 :: F2 :: tabs prog 97 := by rw [hF1, hF2]; rfl
  rw [hT] at d0 c1 c2 c3 ⊢
  clear hT hF1 hF2
  simp only [callT_c] at d0 c1 c2 c3
  generalize tabs prog 97 = T at *
  have x0 : execS prog (F1 :: F2 :: T) (hdS innB) (EN s0 s1 more j s5 s6 s7 s8 s9 s10 s11 s12) [] = .next (EN s0 s1 more j s5 (.val (.int h)) s7 s8 s9 s10 s11 s12) [] := by
    simp [inX, startEnv, startIni, execSs, execS.eq_1, execS.eq_2, execS.eq_3, execS.eq_4, execS.eq_5, execS.eq_6, execS.eq_7, execS.eq_8, execS.eq_9, execS.eq_10, execS.eq_11, execS.eq_12, execS.eq_13, execS.eq_14, execS.eq_17, execS.eq_18, execS.eq_19, execS.eq_20, execS.eq_21, execS.eq_22, evalE.eq_1, evalE.eq_2, evalE.eq_3, evalE.eq_4, evalE.eq_5, evalE.eq_6, evalE.eq_7, evalE.eq_8, evalE.eq_9, evalE.eq_10, evalE.eq_11, evalE.eq_12, evalE.eq_13, evalE.eq_14, evalE.eq_15, evalE.eq_16, evalE.eq_17, evalE.eq_18, evalE.eq_19, evalE.eq_20, evalE.eq_21, evalE.eq_22, evalE.eq_23, evalE.eq_24, evalE.eq_25, evalE.eq_26, evalE.eq_27, evalEs, evalA, evalO, evalA1, evalC, evalI, Out.bind, Out.so, Out.ofO, varD, bindTg, nextO, blt, bLen, bAbs, bMax2, bMin2, bInt, bList, bTuple, bSum, bAll, bAny, bMin1, bMax1, bIsinst, bDictPairs, bDictCopy, op2, cmp2, cmpS, eqX, atD, ixN, asI, asB, asIs, asBs, big, freezeS, items, itemsL, itemsQ, upto, lookT, isIn, eqO, scrOk, isData, isDatas, dep, deps, dq_ss, dq_ii, dq_tt, dq_nil, dq_cons, dq_scr0, dq_scr1, flat, fldD, getF, methF, tyIs, pairsOf, mulOk, minI, maxI, bm_get, bm_getg, bmOk, finO, callT_c, callT_s, List.lookup, pg0, pg1, pg2, pg3, pg4, pg5, pg6, pg7, pg8, pg9, pg10, pg11, pg12, px0, px1, px2, px3, px4, px5, EN, innB, outB, tlS, forBody, nthS, hdS, d_law, d0]
  have x1 : execS prog (F1 :: F2 :: T) (nthS 1 innB) (EN s0 s1 more j s5 (.val (.int h)) s7 s8 s9 s10 s11 s12) [] = .next (EN s0 s1 more j s5 (.val (.int h)) (.val m) s8 s9 s10 s11 s12) [] := by
    simp [inX, startEnv, startIni, execSs, execS.eq_1, execS.eq_2, execS.eq_3, execS.eq_4, execS.eq_5, execS.eq_6, execS.eq_7, execS.eq_8, execS.eq_9, execS.eq_10, execS.eq_11, execS.eq_12, execS.eq_13, execS.eq_14, execS.eq_17, execS.eq_18, execS.eq_19, execS.eq_20, execS.eq_21, execS.eq_22, evalE.eq_1, evalE.eq_2, evalE.eq_3, evalE.eq_4, evalE.eq_5, evalE.eq_6, evalE.eq_7, evalE.eq_8, evalE.eq_9, evalE.eq_10, evalE.eq_11, evalE.eq_12, evalE.eq_13, evalE.eq_14, evalE.eq_15, evalE.eq_16, evalE.eq_17, evalE.eq_18, evalE.eq_19, evalE.eq_20, evalE.eq_21, evalE.eq_22, evalE.eq_23, evalE.eq_24, evalE.eq_25, evalE.eq_26, evalE.eq_27, evalEs, evalA, evalO, evalA1, evalC, evalI, Out.bind, Out.so, Out.ofO, varD, bindTg, nextO, blt, bAbs, bMax2, bMin2, bInt, bList, bTuple, bSum, bAll, bAny, bMin1, bMax1, bIsinst, bDictPairs, bDictCopy, op2, cmp2, cmpS, eqX, asI, asB, asIs, asBs, big, freezeS, items, itemsL, itemsQ, upto, lookT, isIn, eqO, scrOk, isData, isDatas, dep, deps, dq_ss, dq_ii, dq_tt, dq_nil, dq_cons, dq_scr0, dq_scr1, flat, fldD, getF, methF, tyIs, pairsOf, mulOk, minI, maxI, bm_get, bm_getg, bmOk, finO, callT_c, callT_s, List.lookup, pg0, pg1, pg2, pg3, pg4, pg5, pg6, pg7, pg8, pg9, pg10, pg11, pg12, px0, px1, px2, px3, px4, px5, EN, innB, outB, tlS, forBody, nthS, hdS, d_law, c1, bl1, e1]
  have x2 : execS prog (F1 :: F2 :: T) (nthS 2 innB) (EN s0 s1 more j s5 (.val (.int h)) (.val m) s8 s9 s10 s11 s12) [] = .next (EN s0 s1 more j s5 (.val (.int h)) (.val m) (.val s) s9 s10 s11 s12) [] := by
    simp [inX, startEnv, startIni, execSs, execS.eq_1, execS.eq_2, execS.eq_3, execS.eq_4, execS.eq_5, execS.eq_6, execS.eq_7, execS.eq_8, execS.eq_9, execS.eq_10, execS.eq_11, execS.eq_12, execS.eq_13, execS.eq_14, execS.eq_17, execS.eq_18, execS.eq_19, execS.eq_20, execS.eq_21, execS.eq_22, evalE.eq_1, evalE.eq_2, evalE.eq_3, evalE.eq_4, evalE.eq_5, evalE.eq_6, evalE.eq_7, evalE.eq_8, evalE.eq_9, evalE.eq_10, evalE.eq_11, evalE.eq_12, evalE.eq_13, evalE.eq_14, evalE.eq_15, evalE.eq_16, evalE.eq_17, evalE.eq_18, evalE.eq_19, evalE.eq_20, evalE.eq_21, evalE.eq_22, evalE.eq_23, evalE.eq_24, evalE.eq_25, evalE.eq_26, evalE.eq_27, evalEs, evalA, evalO, evalA1, evalC, evalI, Out.bind, Out.so, Out.ofO, varD, bindTg, nextO, blt, bAbs, bMax2, bMin2, bInt, bList, bTuple, bSum, bAll, bAny, bMin1, bMax1, bIsinst, bDictPairs, bDictCopy, op2, cmp2, cmpS, eqX, asI, asB, asIs, asBs, big, freezeS, items, itemsL, itemsQ, upto, lookT, isIn, eqO, scrOk, isData, isDatas, dep, deps, dq_ss, dq_ii, dq_tt, dq_nil, dq_cons, dq_scr0, dq_scr1, flat, fldD, getF, methF, tyIs, pairsOf, mulOk, minI, maxI, bm_get, bm_getg, bmOk, finO, callT_c, callT_s, List.lookup, pg0, pg1, pg2, pg3, pg4, pg5, pg6, pg7, pg8, pg9, pg10, pg11, pg12, px0, px1, px2, px3, px4, px5, EN, innB, outB, tlS, forBody, nthS, hdS, d_law, c2, bl2, e2]
  have x6 : ∀ s9 s10 s11 s12 : Slot, execS prog (F1 :: F2 :: T) (nthS 6 innB) (EN s0 s1 more j s5 (.val (.int h)) (.val m) (.val s) s9 s10 s11 s12) [] = .next (EN s0 s1 more j s5 (.val (.int h)) (.val m) (.val s) s9 s10 (.val e) s12) [] := fun s9 s10 s11 s12 => by
    simp [inX, startEnv, startIni, execSs, execS.eq_1, execS.eq_2, execS.eq_3, execS.eq_4, execS.eq_5, execS.eq_6, execS.eq_7, execS.eq_8, execS.eq_9, execS.eq_10, execS.eq_11, execS.eq_12, execS.eq_13, execS.eq_14, execS.eq_17, execS.eq_18, execS.eq_19, execS.eq_20, execS.eq_21, execS.eq_22, evalE.eq_1, evalE.eq_2, evalE.eq_3, evalE.eq_4, evalE.eq_5, evalE.eq_6, evalE.eq_7, evalE.eq_8, evalE.eq_9, evalE.eq_10, evalE.eq_11, evalE.eq_12, evalE.eq_13, evalE.eq_14, evalE.eq_15, evalE.eq_16, evalE.eq_17, evalE.eq_18, evalE.eq_19, evalE.eq_20, evalE.eq_21, evalE.eq_22, evalE.eq_23, evalE.eq_24, evalE.eq_25, evalE.eq_26, evalE.eq_27, evalEs, evalA, evalO, evalA1, evalC, evalI, Out.bind, Out.so, Out.ofO, varD, bindTg, nextO, blt, bAbs, bMax2, bMin2, bInt, bList, bTuple, bSum, bAll, bAny, bMin1, bMax1, bIsinst, bDictPairs, bDictCopy, cmp2, cmpS, eqX, asI, asB, asIs, asBs, big, freezeS, items, itemsL, itemsQ, upto, lookT, isIn, eqO, scrOk, isData, isDatas, dep, deps, dq_ss, dq_ii, dq_tt, dq_nil, dq_cons, dq_scr0, dq_scr1, flat, fldD, getF, methF, tyIs, pairsOf, mulOk, minI, maxI, bm_get, bm_getg, bmOk, finO, callT_c, callT_s, List.lookup, pg0, pg1, pg2, pg3, pg4, pg5, pg6, pg7, pg8, pg9, pg10, pg11, pg12, px0, px1, px2, px3, px4, px5, EN, innB, outB, tlS, forBody, nthS, hdS, d_law, c3, bl3, e3, p20, p21, p22]
  have x5 : ∃ a b, execSs prog (F1 :: F2 :: T) (tlS (tlS (tlS innB))) (EN s0 s1 more j s5 (.val (.int h)) (.val m) (.val s) s9 s10 s11 s12) [] = execSs prog (F1 :: F2 :: T) (tlS (tlS (tlS (tlS (tlS (tlS innB)))))) (EN s0 s1 more j s5 (.val (.int h)) (.val m) (.val s) a (.val (lineD n m s)) s11 s12) [] ∧ b = s9 := by
    have hcut : cutD goodL none (some 1) = some (.tup [cnt3]) := rfl
    refine ⟨.val (.lst [lineD 0 m s, lineD 1 m s, lineD 2 m s, lineD 3 m s, lineD 4 m s]), s9, ?_, rfl⟩
    have eb3 : tlS (tlS (tlS innB)) = .cons (nthS 3 innB) (.cons (nthS 4 innB) (.cons (nthS 5 innB) (tlS (tlS (tlS (tlS (tlS (tlS innB)))))))) := rfl
    have y3 : execS prog (F1 :: F2 :: T) (nthS 3 innB) (EN s0 s1 more j s5 (.val (.int h)) (.val m) (.val s) s9 s10 s11 s12) [] = .next (EN s0 s1 more j s5 (.val (.int h)) (.val m) (.val s) (.val (.lst [lineD 0 m s, lineD 1 m s, lineD 2 m s, lineD 3 m s])) s10 s11 s12) [] := by
      simp [inX, startEnv, startIni, execSs, execS.eq_1, execS.eq_2, execS.eq_3, execS.eq_4, execS.eq_5, execS.eq_6, execS.eq_7, execS.eq_8, execS.eq_9, execS.eq_10, execS.eq_11, execS.eq_12, execS.eq_13, execS.eq_14, execS.eq_17, execS.eq_18, execS.eq_19, execS.eq_20, execS.eq_21, execS.eq_22, evalE.eq_1, evalE.eq_2, evalE.eq_3, evalE.eq_4, evalE.eq_5, evalE.eq_6, evalE.eq_7, evalE.eq_8, evalE.eq_9, evalE.eq_10, evalE.eq_11, evalE.eq_12, evalE.eq_13, evalE.eq_14, evalE.eq_15, evalE.eq_16, evalE.eq_17, evalE.eq_18, evalE.eq_19, evalE.eq_20, evalE.eq_21, evalE.eq_22, evalE.eq_23, evalE.eq_24, evalE.eq_25, evalE.eq_26, evalE.eq_27, evalEs, evalA, evalO, evalA1, evalC, evalI, Out.bind, Out.so, Out.ofO, varD, bindTg, nextO, blt, bLen, bAbs, bMax2, bMin2, bInt, bList, bTuple, bSum, bAll, bAny, bMin1, bMax1, bIsinst, bDictPairs, bDictCopy, op2, cmp2, cmpS, eqX, atD, ixN, asI, asB, asIs, asBs, big, freezeS, items, itemsL, itemsQ, upto, lookT, isIn, eqO, scrOk, isData, isDatas, dep, deps, dq_ss, dq_ii, dq_tt, dq_nil, dq_cons, dq_scr0, dq_scr1, flat, fldD, getF, methF, tyIs, pairsOf, mulOk, minI, maxI, bm_get, bm_getg, bmOk, finO, callT_c, callT_s, List.lookup, pg0, pg1, pg2, pg3, pg4, pg5, pg6, pg7, pg8, pg9, pg10, pg11, pg12, px0, px1, px2, px3, px4, px5, EN, innB, outB, tlS, forBody, nthS, hdS, d_law, hcut, lineD]
    have y4 : execS prog (F1 :: F2 :: T) (nthS 4 innB) (EN s0 s1 more j s5 (.val (.int h)) (.val m) (.val s) (.val (.lst [lineD 0 m s, lineD 1 m s, lineD 2 m s, lineD 3 m s])) s10 s11 s12) [] = .next (EN s0 s1 more j s5 (.val (.int h)) (.val m) (.val s) (.val (.lst [lineD 0 m s, lineD 1 m s, lineD 2 m s, lineD 3 m s, lineD 4 m s])) s10 s11 s12) [] := by
      simp [inX, startEnv, startIni, execSs, execS.eq_1, execS.eq_2, execS.eq_3, execS.eq_4, execS.eq_5, execS.eq_6, execS.eq_7, execS.eq_8, execS.eq_9, execS.eq_10, execS.eq_11, execS.eq_12, execS.eq_13, execS.eq_14, execS.eq_17, execS.eq_18, execS.eq_19, execS.eq_20, execS.eq_21, execS.eq_22, evalE.eq_1, evalE.eq_2, evalE.eq_3, evalE.eq_4, evalE.eq_5, evalE.eq_6, evalE.eq_7, evalE.eq_8, evalE.eq_9, evalE.eq_10, evalE.eq_11, evalE.eq_12, evalE.eq_13, evalE.eq_14, evalE.eq_15, evalE.eq_16, evalE.eq_17, evalE.eq_18, evalE.eq_19, evalE.eq_20, evalE.eq_21, evalE.eq_22, evalE.eq_23, evalE.eq_24, evalE.eq_25, evalE.eq_26, evalE.eq_27, evalEs, evalA, evalO, evalA1, evalC, evalI, Out.bind, Out.so, Out.ofO, varD, bindTg, nextO, blt, bLen, bAbs, bMax2, bMin2, bInt, bList, bTuple, bSum, bAll, bAny, bMin1, bMax1, bIsinst, bDictPairs, bDictCopy, op2, cmp2, cmpS, eqX, atD, ixN, asI, asB, asIs, asBs, big, freezeS, items, itemsL, itemsQ, upto, lookT, isIn, eqO, scrOk, isData, isDatas, dep, deps, dq_ss, dq_ii, dq_tt, dq_nil, dq_cons, dq_scr0, dq_scr1, flat, fldD, getF, methF, tyIs, pairsOf, mulOk, minI, maxI, bm_get, bm_getg, bmOk, finO, callT_c, callT_s, List.lookup, pg0, pg1, pg2, pg3, pg4, pg5, pg6, pg7, pg8, pg9, pg10, pg11, pg12, px0, px1, px2, px3, px4, px5, EN, innB, outB, tlS, forBody, nthS, hdS, d_law, hcut, lineD]
    have y5 : execS prog (F1 :: F2 :: T) (nthS 5 innB) (EN s0 s1 more j s5 (.val (.int h)) (.val m) (.val s) (.val (.lst [lineD 0 m s, lineD 1 m s, lineD 2 m s, lineD 3 m s, lineD 4 m s])) s10 s11 s12) [] = .next (EN s0 s1 more j s5 (.val (.int h)) (.val m) (.val s) (.val (.lst [lineD 0 m s, lineD 1 m s, lineD 2 m s, lineD 3 m s, lineD 4 m s])) (.val (lineD n m s)) s11 s12) [] := by
      match n, n6, hn with
      | 0, _, hn => simp [inX, startEnv, startIni, execSs, execS.eq_1, execS.eq_2, execS.eq_3, execS.eq_4, execS.eq_5, execS.eq_6, execS.eq_7, execS.eq_8, execS.eq_9, execS.eq_10, execS.eq_11, execS.eq_12, execS.eq_13, execS.eq_14, execS.eq_17, execS.eq_18, execS.eq_19, execS.eq_20, execS.eq_21, execS.eq_22, evalE.eq_1, evalE.eq_2, evalE.eq_3, evalE.eq_4, evalE.eq_5, evalE.eq_6, evalE.eq_7, evalE.eq_8, evalE.eq_9, evalE.eq_10, evalE.eq_11, evalE.eq_12, evalE.eq_13, evalE.eq_14, evalE.eq_15, evalE.eq_16, evalE.eq_17, evalE.eq_18, evalE.eq_19, evalE.eq_20, evalE.eq_21, evalE.eq_22, evalE.eq_23, evalE.eq_24, evalE.eq_25, evalE.eq_26, evalE.eq_27, evalEs, evalA, evalO, evalA1, evalC, evalI, Out.bind, Out.so, Out.ofO, varD, bindTg, nextO, blt, bLen, bAbs, bMax2, bMin2, bInt, bList, bTuple, bSum, bAll, bAny, bMin1, bMax1, bIsinst, bDictPairs, bDictCopy, op2, cmp2, cmpS, eqX, atD, ixN, asI, asB, asIs, asBs, big, freezeS, items, itemsL, itemsQ, upto, lookT, isIn, eqO, scrOk, isData, isDatas, dep, deps, dq_ss, dq_ii, dq_tt, dq_nil, dq_cons, dq_scr0, dq_scr1, flat, fldD, getF, methF, tyIs, pairsOf, mulOk, minI, maxI, bm_get, bm_getg, bmOk, finO, callT_c, callT_s, List.lookup, pg0, pg1, pg2, pg3, pg4, pg5, pg6, pg7, pg8, pg9, pg10, pg11, pg12, px0, px1, px2, px3, px4, px5, EN, innB, outB, tlS, forBody, nthS, hdS, d_law, hcut, lineD, hn]
      | 1, _, hn => simp [inX, startEnv, startIni, execSs, execS.eq_1, execS.eq_2, execS.eq_3, execS.eq_4, execS.eq_5, execS.eq_6, execS.eq_7, execS.eq_8, execS.eq_9, execS.eq_10, execS.eq_11, execS.eq_12, execS.eq_13, execS.eq_14, execS.eq_17, execS.eq_18, execS.eq_19, execS.eq_20, execS.eq_21, execS.eq_22, evalE.eq_1, evalE.eq_2, evalE.eq_3, evalE.eq_4, evalE.eq_5, evalE.eq_6, evalE.eq_7, evalE.eq_8, evalE.eq_9, evalE.eq_10, evalE.eq_11, evalE.eq_12, evalE.eq_13, evalE.eq_14, evalE.eq_15, evalE.eq_16, evalE.eq_17, evalE.eq_18, evalE.eq_19, evalE.eq_20, evalE.eq_21, evalE.eq_22, evalE.eq_23, evalE.eq_24, evalE.eq_25, evalE.eq_26, evalE.eq_27, evalEs, evalA, evalO, evalA1, evalC, evalI, Out.bind, Out.so, Out.ofO, varD, bindTg, nextO, blt, bLen, bAbs, bMax2, bMin2, bInt, bList, bTuple, bSum, bAll, bAny, bMin1, bMax1, bIsinst, bDictPairs, bDictCopy, op2, cmp2, cmpS, eqX, atD, ixN, asI, asB, asIs, asBs, big, freezeS, items, itemsL, itemsQ, upto, lookT, isIn, eqO, scrOk, isData, isDatas, dep, deps, dq_ss, dq_ii, dq_tt, dq_nil, dq_cons, dq_scr0, dq_scr1, flat, fldD, getF, methF, tyIs, pairsOf, mulOk, minI, maxI, bm_get, bm_getg, bmOk, finO, callT_c, callT_s, List.lookup, pg0, pg1, pg2, pg3, pg4, pg5, pg6, pg7, pg8, pg9, pg10, pg11, pg12, px0, px1, px2, px3, px4, px5, EN, innB, outB, tlS, forBody, nthS, hdS, d_law, hcut, lineD, hn]
      | 2, _, hn => simp [inX, startEnv, startIni, execSs, execS.eq_1, execS.eq_2, execS.eq_3, execS.eq_4, execS.eq_5, execS.eq_6, execS.eq_7, execS.eq_8, execS.eq_9, execS.eq_10, execS.eq_11, execS.eq_12, execS.eq_13, execS.eq_14, execS.eq_17, execS.eq_18, execS.eq_19, execS.eq_20, execS.eq_21, execS.eq_22, evalE.eq_1, evalE.eq_2, evalE.eq_3, evalE.eq_4, evalE.eq_5, evalE.eq_6, evalE.eq_7, evalE.eq_8, evalE.eq_9, evalE.eq_10, evalE.eq_11, evalE.eq_12, evalE.eq_13, evalE.eq_14, evalE.eq_15, evalE.eq_16, evalE.eq_17, evalE.eq_18, evalE.eq_19, evalE.eq_20, evalE.eq_21, evalE.eq_22, evalE.eq_23, evalE.eq_24, evalE.eq_25, evalE.eq_26, evalE.eq_27, evalEs, evalA, evalO, evalA1, evalC, evalI, Out.bind, Out.so, Out.ofO, varD, bindTg, nextO, blt, bLen, bAbs, bMax2, bMin2, bInt, bList, bTuple, bSum, bAll, bAny, bMin1, bMax1, bIsinst, bDictPairs, bDictCopy, op2, cmp2, cmpS, eqX, atD, ixN, asI, asB, asIs, asBs, big, freezeS, items, itemsL, itemsQ, upto, lookT, isIn, eqO, scrOk, isData, isDatas, dep, deps, dq_ss, dq_ii, dq_tt, dq_nil, dq_cons, dq_scr0, dq_scr1, flat, fldD, getF, methF, tyIs, pairsOf, mulOk, minI, maxI, bm_get, bm_getg, bmOk, finO, callT_c, callT_s, List.lookup, pg0, pg1, pg2, pg3, pg4, pg5, pg6, pg7, pg8, pg9, pg10, pg11, pg12, px0, px1, px2, px3, px4, px5, EN, innB, outB, tlS, forBody, nthS, hdS, d_law, hcut, lineD, hn]
      | 3, _, hn => simp [inX, startEnv, startIni, execSs, execS.eq_1, execS.eq_2, execS.eq_3, execS.eq_4, execS.eq_5, execS.eq_6, execS.eq_7, execS.eq_8, execS.eq_9, execS.eq_10, execS.eq_11, execS.eq_12, execS.eq_13, execS.eq_14, execS.eq_17, execS.eq_18, execS.eq_19, execS.eq_20, execS.eq_21, execS.eq_22, evalE.eq_1, evalE.eq_2, evalE.eq_3, evalE.eq_4, evalE.eq_5, evalE.eq_6, evalE.eq_7, evalE.eq_8, evalE.eq_9, evalE.eq_10, evalE.eq_11, evalE.eq_12, evalE.eq_13, evalE.eq_14, evalE.eq_15, evalE.eq_16, evalE.eq_17, evalE.eq_18, evalE.eq_19, evalE.eq_20, evalE.eq_21, evalE.eq_22, evalE.eq_23, evalE.eq_24, evalE.eq_25, evalE.eq_26, evalE.eq_27, evalEs, evalA, evalO, evalA1, evalC, evalI, Out.bind, Out.so, Out.ofO, varD, bindTg, nextO, blt, bLen, bAbs, bMax2, bMin2, bInt, bList, bTuple, bSum, bAll, bAny, bMin1, bMax1, bIsinst, bDictPairs, bDictCopy, op2, cmp2, cmpS, eqX, atD, ixN, asI, asB, asIs, asBs, big, freezeS, items, itemsL, itemsQ, upto, lookT, isIn, eqO, scrOk, isData, isDatas, dep, deps, dq_ss, dq_ii, dq_tt, dq_nil, dq_cons, dq_scr0, dq_scr1, flat, fldD, getF, methF, tyIs, pairsOf, mulOk, minI, maxI, bm_get, bm_getg, bmOk, finO, callT_c, callT_s, List.lookup, pg0, pg1, pg2, pg3, pg4, pg5, pg6, pg7, pg8, pg9, pg10, pg11, pg12, px0, px1, px2, px3, px4, px5, EN, innB, outB, tlS, forBody, nthS, hdS, d_law, hcut, lineD, hn]
      | 4, _, hn => simp [inX, startEnv, startIni, execSs, execS.eq_1, execS.eq_2, execS.eq_3, execS.eq_4, execS.eq_5, execS.eq_6, execS.eq_7, execS.eq_8, execS.eq_9, execS.eq_10, execS.eq_11, execS.eq_12, execS.eq_13, execS.eq_14, execS.eq_17, execS.eq_18, execS.eq_19, execS.eq_20, execS.eq_21, execS.eq_22, evalE.eq_1, evalE.eq_2, evalE.eq_3, evalE.eq_4, evalE.eq_5, evalE.eq_6, evalE.eq_7, evalE.eq_8, evalE.eq_9, evalE.eq_10, evalE.eq_11, evalE.eq_12, evalE.eq_13, evalE.eq_14, evalE.eq_15, evalE.eq_16, evalE.eq_17, evalE.eq_18, evalE.eq_19, evalE.eq_20, evalE.eq_21, evalE.eq_22, evalE.eq_23, evalE.eq_24, evalE.eq_25, evalE.eq_26, evalE.eq_27, evalEs, evalA, evalO, evalA1, evalC, evalI, Out.bind, Out.so, Out.ofO, varD, bindTg, nextO, blt, bLen, bAbs, bMax2, bMin2, bInt, bList, bTuple, bSum, bAll, bAny, bMin1, bMax1, bIsinst, bDictPairs, bDictCopy, op2, cmp2, cmpS, eqX, atD, ixN, asI, asB, asIs, asBs, big, freezeS, items, itemsL, itemsQ, upto, lookT, isIn, eqO, scrOk, isData, isDatas, dep, deps, dq_ss, dq_ii, dq_tt, dq_nil, dq_cons, dq_scr0, dq_scr1, flat, fldD, getF, methF, tyIs, pairsOf, mulOk, minI, maxI, bm_get, bm_getg, bmOk, finO, callT_c, callT_s, List.lookup, pg0, pg1, pg2, pg3, pg4, pg5, pg6, pg7, pg8, pg9, pg10, pg11, pg12, px0, px1, px2, px3, px4, px5, EN, innB, outB, tlS, forBody, nthS, hdS, d_law, hcut, lineD, hn]
      | 5, _, hn => simp [inX, startEnv, startIni, execSs, execS.eq_1, execS.eq_2, execS.eq_3, execS.eq_4, execS.eq_5, execS.eq_6, execS.eq_7, execS.eq_8, execS.eq_9, execS.eq_10, execS.eq_11, execS.eq_12, execS.eq_13, execS.eq_14, execS.eq_17, execS.eq_18, execS.eq_19, execS.eq_20, execS.eq_21, execS.eq_22, evalE.eq_1, evalE.eq_2, evalE.eq_3, evalE.eq_4, evalE.eq_5, evalE.eq_6, evalE.eq_7, evalE.eq_8, evalE.eq_9, evalE.eq_10, evalE.eq_11, evalE.eq_12, evalE.eq_13, evalE.eq_14, evalE.eq_15, evalE.eq_16, evalE.eq_17, evalE.eq_18, evalE.eq_19, evalE.eq_20, evalE.eq_21, evalE.eq_22, evalE.eq_23, evalE.eq_24, evalE.eq_25, evalE.eq_26, evalE.eq_27, evalEs, evalA, evalO, evalA1, evalC, evalI, Out.bind, Out.so, Out.ofO, varD, bindTg, nextO, blt, bLen, bAbs, bMax2, bMin2, bInt, bList, bTuple, bSum, bAll, bAny, bMin1, bMax1, bIsinst, bDictPairs, bDictCopy, op2, cmp2, cmpS, eqX, atD, ixN, asI, asB, asIs, asBs, big, freezeS, items, itemsL, itemsQ, upto, lookT, isIn, eqO, scrOk, isData, isDatas, dep, deps, dq_ss, dq_ii, dq_tt, dq_nil, dq_cons, dq_scr0, dq_scr1, flat, fldD, getF, methF, tyIs, pairsOf, mulOk, minI, maxI, bm_get, bm_getg, bmOk, finO, callT_c, callT_s, List.lookup, pg0, pg1, pg2, pg3, pg4, pg5, pg6, pg7, pg8, pg9, pg10, pg11, pg12, px0, px1, px2, px3, px4, px5, EN, innB, outB, tlS, forBody, nthS, hdS, d_law, hcut, lineD, hn]
    rw [eb3, ss_next y3, ss_next y4, ss_next y5]
    rfl
  obtain ⟨a9, b9, x5, _⟩ := x5
  have eb : innB = .cons (hdS innB) (.cons (nthS 1 innB) (.cons (nthS 2 innB) (tlS (tlS (tlS innB))))) := rfl
  have eb2 : tlS (tlS (tlS (tlS (tlS (tlS innB))))) = .cons (nthS 6 innB) (tlS (tlS (tlS (tlS (tlS (tlS (tlS innB))))))) := rfl
  refine ⟨.val (.int h), .val m, .val s, a9, .val (lineD n m s), .val e, .val (.lst [BL, BL, BL, BL, BL, BL]), ?_⟩
  rw [eb, ss_next x0, ss_next x1, ss_next x2, x5, eb2, ss_next (x6 _ _ _ _)]
  have hm6 : op2 .mul (.lst [BL]) (.int 6) = some (.lst [BL, BL, BL, BL, BL, BL]) := rfl
  have hc : cmpS [] .ne (.lst [BL, BL, BL, BL, BL, BL]) (.lst [BL, BL, BL, BL, BL, BL]) = some false := by
    simp [cmpS, cmp2, eqO, scrOk, isData, isDatas, dep, deps, dq_ll, dq_tt, dq_cons, dq_nil, dq_ss]
  have cb := cB
  generalize lineD n m s = LL at *
  generalize hB : BL = B at *
  have cb : toldD prog ⟨2, none⟩ = some B := by rw [← hB]; exact cb
  simp only [allE] at g2 g3
  generalize hG : goodL = GL at *
  have eb7 : tlS (tlS (tlS (tlS (tlS (tlS (tlS innB)))))) = .cons (nthS 7 innB) (.cons (nthS 8 innB) (.cons (nthS 9 innB) (.cons (nthS 10 innB) (.cons (nthS 11 innB) (.cons (nthS 12 innB) (.cons (nthS 13 innB) (.cons (nthS 14 innB) .nil))))))) := rfl
  have z14 : ∀ env, execS prog (F1 :: F2 :: T) (nthS 14 innB) (EN s0 s1 more j s5 (.val (.int h)) (.val m) (.val s) a9 (.val LL) (.val e) (.val (.lst [B, B, B, B, B, B]))) [] = .next (EN s0 s1 more j s5 (.val (.int h)) (.val m) (.val s) a9 (.val LL) (.val e) (.val (.lst [B, B, B, B, B, B]))) [] ∨ env = ([] : Env) := fun env => .inl (by
    rw [← hB] at hm6 hc ⊢
    simp [inX, startEnv, startIni, execSs, execS.eq_1, execS.eq_2, execS.eq_3, execS.eq_4, execS.eq_5, execS.eq_6, execS.eq_7, execS.eq_8, execS.eq_9, execS.eq_10, execS.eq_11, execS.eq_12, execS.eq_13, execS.eq_14, execS.eq_17, execS.eq_18, execS.eq_19, execS.eq_20, execS.eq_21, execS.eq_22, evalE.eq_1, evalE.eq_2, evalE.eq_3, evalE.eq_4, evalE.eq_5, evalE.eq_6, evalE.eq_7, evalE.eq_8, evalE.eq_9, evalE.eq_10, evalE.eq_11, evalE.eq_12, evalE.eq_13, evalE.eq_14, evalE.eq_15, evalE.eq_16, evalE.eq_17, evalE.eq_18, evalE.eq_19, evalE.eq_20, evalE.eq_21, evalE.eq_22, evalE.eq_23, evalE.eq_24, evalE.eq_25, evalE.eq_26, evalE.eq_27, evalEs, evalA, evalO, evalA1, evalC, evalI, Out.bind, Out.so, Out.ofO, varD, bindTg, nextO, blt, bLen, bAbs, bMax2, bMin2, bInt, bList, bTuple, bSum, bAll, bAny, bMin1, bMax1, bIsinst, bDictPairs, bDictCopy, atD, ixN, asI, asB, asIs, asBs, big, freezeS, items, itemsL, itemsQ, upto, lookT, isIn, isData, isDatas, dep, deps, dq_ss, dq_ii, dq_tt, dq_nil, dq_cons, dq_scr0, dq_scr1, flat, fldD, getF, methF, tyIs, pairsOf, mulOk, minI, maxI, bm_get, bm_getg, bmOk, finO, callT_c, callT_s, List.lookup, pg0, pg1, pg2, pg3, pg4, pg5, pg6, pg7, pg8, pg9, pg10, pg11, pg12, px0, px1, px2, px3, px4, px5, EN, innB, outB, tlS, forBody, nthS, hdS, d_law, hm6, hc])
  have z14 := (z14 [.un]).resolve_right (by simp)
  have zz : ∀ n : Nat, True := fun _ => trivial
  rw [eb7]
  have z : execSs prog (F1 :: F2 :: T) (.cons (nthS 7 innB) (.cons (nthS 8 innB) (.cons (nthS 9 innB) (.cons (nthS 10 innB) (.cons (nthS 11 innB) (.cons (nthS 12 innB) (.cons (nthS 13 innB) .nil))))))) [s0, s1, .val (.int more), .val GL, .val (.int j), s5, .val (.int h), .val m, .val s, a9, .val LL, .val e, s12] [] = .next [s0, s1, .val (.int more), .val GL, .val (.int j), s5, .val (.int h), .val m, .val s, a9, .val LL, .val e, .val (.lst [B, B, B, B, B, B])] [] := by
    simp [inX, startEnv, startIni, execSs, execS.eq_1, execS.eq_2, execS.eq_3, execS.eq_4, execS.eq_5, execS.eq_6, execS.eq_7, execS.eq_8, execS.eq_9, execS.eq_10, execS.eq_11, execS.eq_12, execS.eq_13, execS.eq_14, execS.eq_17, execS.eq_18, execS.eq_19, execS.eq_20, execS.eq_21, execS.eq_22, evalE.eq_1, evalE.eq_2, evalE.eq_3, evalE.eq_4, evalE.eq_5, evalE.eq_6, evalE.eq_7, evalE.eq_8, evalE.eq_9, evalE.eq_10, evalE.eq_11, evalE.eq_12, evalE.eq_13, evalE.eq_14, evalE.eq_15, evalE.eq_16, evalE.eq_17, evalE.eq_18, evalE.eq_19, evalE.eq_20, evalE.eq_21, evalE.eq_22, evalE.eq_23, evalE.eq_24, evalE.eq_25, evalE.eq_26, evalE.eq_27, evalEs, evalA, evalO, evalA1, evalC, evalI, Out.bind, Out.so, Out.ofO, varD, bindTg, nextO, blt, bLen, bAbs, bMax2, bMin2, bInt, bList, bTuple, bSum, bAll, bAny, bMin1, bMax1, bIsinst, bDictPairs, bDictCopy, op2, cmp2, cmpS, eqX, atD, ixN, asI, asB, asIs, asBs, big, freezeS, items, itemsL, itemsQ, upto, lookT, isIn, eqO, scrOk, isData, isDatas, dep, deps, dq_ss, dq_ii, dq_tt, dq_nil, dq_cons, dq_scr0, dq_scr1, flat, fldD, getF, methF, tyIs, pairsOf, mulOk, minI, maxI, bm_get, bm_getg, bmOk, finO, callT_c, callT_s, List.lookup, pg0, pg1, pg2, pg3, pg4, pg5, pg6, pg7, pg8, pg9, pg10, pg11, pg12, px0, px1, px2, px3, px4, px5, evalE.eq_29, innB, outB, tlS, forBody, nthS, hdS, d_law, g1, g2, g3, k1, k2, k3, cb]
  have e14 : execSs prog (F1 :: F2 :: T) (.cons (nthS 7 innB) (.cons (nthS 8 innB) (.cons (nthS 9 innB) (.cons (nthS 10 innB) (.cons (nthS 11 innB) (.cons (nthS 12 innB) (.cons (nthS 13 innB) (.cons (nthS 14 innB) .nil)))))))) [s0, s1, .val (.int more), .val GL, .val (.int j), s5, .val (.int h), .val m, .val s, a9, .val LL, .val e, s12] [] = execSs prog (F1 :: F2 :: T) (.cons (nthS 14 innB) .nil) [s0, s1, .val (.int more), .val GL, .val (.int j), s5, .val (.int h), .val m, .val s, a9, .val LL, .val e, .val (.lst [B, B, B, B, B, B])] [] := by
    generalize nthS 14 innB = L14
    simp [inX, startEnv, startIni, execSs, execS.eq_1, execS.eq_2, execS.eq_3, execS.eq_4, execS.eq_5, execS.eq_6, execS.eq_7, execS.eq_8, execS.eq_9, execS.eq_10, execS.eq_11, execS.eq_12, execS.eq_13, execS.eq_14, execS.eq_17, execS.eq_18, execS.eq_19, execS.eq_20, execS.eq_21, execS.eq_22, evalE.eq_1, evalE.eq_2, evalE.eq_3, evalE.eq_4, evalE.eq_5, evalE.eq_6, evalE.eq_7, evalE.eq_8, evalE.eq_9, evalE.eq_10, evalE.eq_11, evalE.eq_12, evalE.eq_13, evalE.eq_14, evalE.eq_15, evalE.eq_16, evalE.eq_17, evalE.eq_18, evalE.eq_19, evalE.eq_20, evalE.eq_21, evalE.eq_22, evalE.eq_23, evalE.eq_24, evalE.eq_25, evalE.eq_26, evalE.eq_27, evalEs, evalA, evalO, evalA1, evalC, evalI, Out.bind, Out.so, Out.ofO, varD, bindTg, nextO, blt, bLen, bAbs, bMax2, bMin2, bInt, bList, bTuple, bSum, bAll, bAny, bMin1, bMax1, bIsinst, bDictPairs, bDictCopy, op2, cmp2, cmpS, eqX, atD, ixN, asI, asB, asIs, asBs, big, freezeS, items, itemsL, itemsQ, upto, lookT, isIn, eqO, scrOk, isData, isDatas, dep, deps, dq_ss, dq_ii, dq_tt, dq_nil, dq_cons, dq_scr0, dq_scr1, flat, fldD, getF, methF, tyIs, pairsOf, mulOk, minI, maxI, bm_get, bm_getg, bmOk, finO, callT_c, callT_s, List.lookup, pg0, pg1, pg2, pg3, pg4, pg5, pg6, pg7, pg8, pg9, pg10, pg11, pg12, px0, px1, px2, px3, px4, px5, evalE.eq_29, innB, outB, tlS, forBody, nthS, hdS, d_law, g1, g2, g3, k1, k2, k3, cb]
  show execSs prog (F1 :: F2 :: T) _ [s0, s1, .val (.int more), .val goodL, .val (.int j), s5, .val (.int h), .val m, .val s, a9, .val LL, .val e, s12] [] = _
  rw [hG, e14]
  rw [← hG]
  exact ss_next z14
def Inv2 (s0 : Slot) (more : Int) (env : Env) : Prop := ∃ s1 j s5 s6 s7 s8 s9 s10 s11 s12, env = [s0, s1, .val (.int more), .val goodL, j, s5, s6, s7, s8, s9, s10, s11, s12]
def Inv1 (s0 : Slot) (env : Env) : Prop := ∃ s1 s2 s3 s4 s5 s6 s7 s8 s9 s10 s11 s12, env = [s0, s1, s2, s3, s4, s5, s6, s7, s8, s9, s10, s11, s12]
theorem outer_run (i : Int) (hi : 0 ≤ i) (ns : List Int) (hl : ns.length ≤ 63) (s2 s3 s4 s5 s6 s7 s8 s9 s10 s11 s12 : Slot) : ∃ env', execSs prog (tabs prog 99) outB [.val (.scr ns), .val (.int i), s2, s3, s4, s5, s6, s7, s8, s9, s10, s11, s12] [] = .next env' [] ∧ Inv1 (.val (.scr ns)) env' := by
  have c1 : callT (tabs prog 99) f__law_cell [.scr ns, .int i] [] = .ok (.int (cellF ns i)) [] := r_cell (tabs prog 98) ns i [] hl hi
  have c2 : callT (tabs prog 99) f__law_drawn [.int (cellF ns i), .int i] [] = .ok (.int (drawnF (cellF ns i) i)) [] := r_drawn (tabs prog 98) _ _ []
  generalize drawnF (cellF ns i) i = more at c2
  have h1 : execS prog (tabs prog 99) (hdS outB) [.val (.scr ns), .val (.int i), s2, s3, s4, s5, s6, s7, s8, s9, s10, s11, s12] [] = .next [.val (.scr ns), .val (.int i), .val (.int more), s3, s4, s5, s6, s7, s8, s9, s10, s11, s12] [] := by
    generalize tabs prog 99 = T at *
    simp [inX, startEnv, startIni, execSs, execS.eq_1, execS.eq_2, execS.eq_3, execS.eq_4, execS.eq_5, execS.eq_6, execS.eq_7, execS.eq_8, execS.eq_9, execS.eq_10, execS.eq_11, execS.eq_12, execS.eq_13, execS.eq_14, execS.eq_17, execS.eq_18, execS.eq_19, execS.eq_20, execS.eq_21, execS.eq_22, evalE.eq_1, evalE.eq_2, evalE.eq_3, evalE.eq_4, evalE.eq_5, evalE.eq_6, evalE.eq_7, evalE.eq_8, evalE.eq_9, evalE.eq_10, evalE.eq_11, evalE.eq_12, evalE.eq_13, evalE.eq_14, evalE.eq_15, evalE.eq_16, evalE.eq_17, evalE.eq_18, evalE.eq_19, evalE.eq_20, evalE.eq_21, evalE.eq_22, evalE.eq_23, evalE.eq_24, evalE.eq_25, evalE.eq_26, evalE.eq_27, evalEs, evalA, evalO, evalA1, evalC, evalI, Out.bind, Out.so, Out.ofO, varD, bindTg, nextO, blt, bLen, bAbs, bMax2, bMin2, bInt, bList, bTuple, bSum, bAll, bAny, bMin1, bMax1, bIsinst, bDictPairs, bDictCopy, op2, cmp2, cmpS, eqX, atD, ixN, asI, asB, asIs, asBs, big, freezeS, items, itemsL, itemsQ, upto, lookT, isIn, eqO, scrOk, isData, isDatas, dep, deps, dq_ss, dq_ii, dq_tt, dq_nil, dq_cons, dq_scr0, dq_scr1, flat, fldD, getF, methF, tyIs, pairsOf, mulOk, minI, maxI, bm_get, bm_getg, bmOk, finO, callT_c, callT_s, List.lookup, pg0, pg1, pg2, pg3, pg4, pg5, pg6, pg7, pg8, pg9, pg10, pg11, pg12, px0, px1, px2, px3, px4, px5, outB, hdS, forBody, d_law, c1, c2]
  have h2 : execS prog (tabs prog 99) (nthS 1 outB) [.val (.scr ns), .val (.int i), .val (.int more), s3, s4, s5, s6, s7, s8, s9, s10, s11, s12] [] = .next [.val (.scr ns), .val (.int i), .val (.int more), .val goodL, s4, s5, s6, s7, s8, s9, s10, s11, s12] [] := by
    generalize tabs prog 99 = T at *
    simp [inX, startEnv, startIni, execSs, execS.eq_1, execS.eq_2, execS.eq_3, execS.eq_4, execS.eq_5, execS.eq_6, execS.eq_7, execS.eq_8, execS.eq_9, execS.eq_10, execS.eq_11, execS.eq_12, execS.eq_13, execS.eq_14, execS.eq_17, execS.eq_18, execS.eq_19, execS.eq_20, execS.eq_21, execS.eq_22, evalE.eq_1, evalE.eq_2, evalE.eq_3, evalE.eq_4, evalE.eq_5, evalE.eq_6, evalE.eq_7, evalE.eq_8, evalE.eq_9, evalE.eq_10, evalE.eq_11, evalE.eq_12, evalE.eq_13, evalE.eq_14, evalE.eq_15, evalE.eq_16, evalE.eq_17, evalE.eq_18, evalE.eq_19, evalE.eq_20, evalE.eq_21, evalE.eq_22, evalE.eq_23, evalE.eq_24, evalE.eq_25, evalE.eq_26, evalE.eq_27, evalEs, evalA, evalO, evalA1, evalC, evalI, Out.bind, Out.so, Out.ofO, varD, bindTg, nextO, blt, bLen, bAbs, bMax2, bMin2, bInt, bList, bTuple, bSum, bAll, bAny, bMin1, bMax1, bIsinst, bDictPairs, bDictCopy, op2, cmp2, cmpS, eqX, atD, ixN, asI, asB, asIs, asBs, big, freezeS, items, itemsL, itemsQ, upto, lookT, isIn, eqO, scrOk, isData, isDatas, dep, deps, dq_ss, dq_ii, dq_tt, dq_nil, dq_cons, dq_scr0, dq_scr1, flat, fldD, getF, methF, tyIs, pairsOf, mulOk, minI, maxI, bm_get, bm_getg, bmOk, finO, callT_c, callT_s, List.lookup, pg0, pg1, pg2, pg3, pg4, pg5, pg6, pg7, pg8, pg9, pg10, pg11, pg12, px0, px1, px2, px3, px4, px5, outB, hdS, nthS, tlS, forBody, d_law]
  have hr : rangeD 0 8 = some ((upto 0 8).map D.int) := range_of (x := 8) (by omega) (by omega)
  have eo : outB = .cons (hdS outB) (.cons (nthS 1 outB) (.cons (.for_ (.one 4) (.range1 (.lit (.int 8))) innB) (tlS (tlS (tlS outB))))) := rfl
  rw [eo, ss_next h1, ss_next h2, ss_for (xs := (upto 0 8).map D.int) (st1 := []) (by simp [evalI, evalE, Out.ofO, asI, hr])]
  obtain ⟨e, ge, b1, b4, b5, b6, b7, b8, b9, b10, b11, b12, rfl⟩ := forGo_inv (F := forF (tabs prog 99) (.one 4) innB) (Inv := Inv2 (.val (.scr ns)) more) (st := []) (xs := (upto 0 8).map D.int) (env := [.val (.scr ns), .val (.int i), .val (.int more), .val goodL, s4, s5, s6, s7, s8, s9, s10, s11, s12]) ⟨_, _, _, _, _, _, _, _, _, _, rfl⟩ (fun x hx env h => by
        obtain ⟨s1, s4, s5, s6, s7, s8, s9, s10, s11, s12, rfl⟩ := h
        obtain ⟨j, rfl, _⟩ := mem_upto hx
        obtain ⟨a6, a7, a8, a9, a10, a11, a12, q⟩ := inner_run j (.val (.scr ns)) s1 more s5 s6 s7 s8 s9 s10 s11 s12
        exact ⟨[.val (.scr ns), s1, .val (.int more), .val goodL, .val (.int j), s5, a6, a7, a8, a9, a10, a11, a12], q, _, _, _, _, _, _, _, _, _, _, rfl⟩)
  rw [ge]
  simp only []
  have n4 : callT (tabs prog 99) f__law_nest [.int 4] [] = .ok (nest 4) [] := sameO_eq K31.b7
  have n3 : callT (tabs prog 99) f__law_nest [.int 3] [] = .ok (nest 3) [] := sameO_eq K31.b8
  have k5 : callT (tabs prog 99) f_look_line [.tup (cnt3 :: List.replicate 11 fst1)] [] = .ok .non [] := sameO_eq K31.b5
  have k6 : callT (tabs prog 99) f_look_line [nest 3] [] = .ok .non [] := sameO_eq K31.b6
  have r1 := ln_bad (d := .non) (by simp)
  have r2 := ln_bad (d := .tup []) (by simp)
  have r3 := ln_bad (d := .lst [.tup [.str [114, 111, 119], .tup []]]) (by simp)
  have r4 := ln_bad (d := .tup (cnt3 :: List.replicate 12 fst1)) (by simp)
  have r5 := ln_bad (d := nest 4) (by simp)
  have m12 : op2 .mul (.tup [fst1]) (.int 12) = some (.tup (List.replicate 12 fst1)) := rfl
  have m11 : op2 .mul (.tup [fst1]) (.int 11) = some (.tup (List.replicate 11 fst1)) := rfl
  have a12 : op2 .add (.tup [cnt3]) (.tup (List.replicate 12 fst1)) = some (.tup (cnt3 :: List.replicate 12 fst1)) := rfl
  have a11 : op2 .add (.tup [cnt3]) (.tup (List.replicate 11 fst1)) = some (.tup (cnt3 :: List.replicate 11 fst1)) := rfl
  have hcut : cutD goodL none (some 1) = some (.tup [cnt3]) := rfl
  have hc : cmpS [] .ne BL BL = some false := by
    simp [cmpS, cmp2, eqO, scrOk, isData, isDatas, dep, deps, dq_ll, dq_tt, dq_cons, dq_nil, dq_ss]
  have cb := cB
  obtain ⟨F1, hF1⟩ : ∃ F, F = runDef prog (tabs prog 98) := ⟨_, rfl⟩
  obtain ⟨F2, hF2⟩ : ∃ F, F = runDef prog (tabs prog 97) := ⟨_, rfl⟩
  have hT : tabs prog 99 = F1 :: F2 :: tabs prog 97 := by rw [hF1, hF2]; rfl
  rw [hT] at n4 n3 k5 k6 ⊢
  clear hT hF1 hF2 ge h1 h2 c1 c2
  simp only [callT_c] at n4 n3 k5 k6
  generalize tabs prog 97 = T at *
  generalize nest 4 = N4 at *
  generalize nest 3 = N3 at *
  generalize List.replicate 12 fst1 = R12 at *
  generalize List.replicate 11 fst1 = R11 at *
  generalize hG : goodL = GL at *
  generalize hB : BL = B at *
  have cb : toldD prog ⟨2, none⟩ = some B := by rw [← hB]; exact cb
  have hi2 : evalI prog (F1 :: F2 :: T) (.val (.lst (.cons (.lit .non) (.cons (.tup .nil) (.cons (.lst (.cons (.tup (.cons (.lit (.str [114, 111, 119])) (.cons (.tup .nil) .nil))) .nil)) (.cons (.bin .add (.slTo (.var 3) (.lit (.int 1))) (.bin .mul (.tup (.cons (.tup (.cons (.lit (.str [102, 105, 114, 115, 116])) (.cons (.lit (.int 1)) .nil))) .nil)) (.lit (.int 12)))) (.cons (.call f__law_nest (.cons (.lit (.int 4)) .nil)) .nil))))))) [.val (.scr ns), b1, .val (.int more), .val GL, b4, b5, b6, b7, b8, b9, b10, b11, b12] [] = .ok [.non, .tup [], .lst [.tup [.str [114, 111, 119], .tup []]], .tup (cnt3 :: R12), N4] [] := by
    simp [inX, startEnv, startIni, execSs, execS.eq_1, execS.eq_2, execS.eq_3, execS.eq_4, execS.eq_5, execS.eq_6, execS.eq_7, execS.eq_8, execS.eq_9, execS.eq_10, execS.eq_11, execS.eq_12, execS.eq_13, execS.eq_14, execS.eq_17, execS.eq_18, execS.eq_19, execS.eq_20, execS.eq_21, execS.eq_22, evalE.eq_1, evalE.eq_2, evalE.eq_3, evalE.eq_4, evalE.eq_5, evalE.eq_6, evalE.eq_7, evalE.eq_8, evalE.eq_9, evalE.eq_10, evalE.eq_11, evalE.eq_12, evalE.eq_13, evalE.eq_14, evalE.eq_15, evalE.eq_16, evalE.eq_17, evalE.eq_18, evalE.eq_19, evalE.eq_20, evalE.eq_21, evalE.eq_22, evalE.eq_23, evalE.eq_24, evalE.eq_25, evalE.eq_26, evalE.eq_27, evalEs, evalA, evalO, evalA1, evalC, evalI, Out.bind, Out.so, Out.ofO, varD, bindTg, nextO, blt, bLen, bAbs, bMax2, bMin2, bInt, bList, bTuple, bSum, bAll, bAny, bMin1, bMax1, bIsinst, bDictPairs, bDictCopy, cmp2, cmpS, eqX, atD, ixN, asI, asB, asIs, asBs, big, freezeS, items, itemsL, itemsQ, upto, lookT, isIn, eqO, scrOk, isData, isDatas, dep, deps, dq_ss, dq_ii, dq_tt, dq_nil, dq_cons, dq_scr0, dq_scr1, flat, fldD, getF, methF, tyIs, pairsOf, mulOk, minI, maxI, bm_get, bm_getg, bmOk, finO, callT_c, callT_s, List.lookup, pg0, pg1, pg2, pg3, pg4, pg5, pg6, pg7, pg8, pg9, pg10, pg11, pg12, px0, px1, px2, px3, px4, px5, hcut, m12, a12, n4]
  have eo3 : tlS (tlS (tlS outB)) = .cons (.for_ (.one 5) (.val (.lst (.cons (.lit .non) (.cons (.tup .nil) (.cons (.lst (.cons (.tup (.cons (.lit (.str [114, 111, 119])) (.cons (.tup .nil) .nil))) .nil)) (.cons (.bin .add (.slTo (.var 3) (.lit (.int 1))) (.bin .mul (.tup (.cons (.tup (.cons (.lit (.str [102, 105, 114, 115, 116])) (.cons (.lit (.int 1)) .nil))) .nil)) (.lit (.int 12)))) (.cons (.call f__law_nest (.cons (.lit (.int 4)) .nil)) .nil))))))) noneB) (.cons (nthS 4 outB) .nil) := rfl
  have st : ∀ (d : D) (b5 : Slot), callT T f_look_line [d] [] = .exc ⟨2, none⟩ [] → forF (F1 :: F2 :: T) (.one 5) noneB d [.val (.scr ns), b1, .val (.int more), .val GL, b4, b5, b6, b7, b8, b9, b10, b11, b12] [] = .next [.val (.scr ns), b1, .val (.int more), .val GL, b4, .val d, b6, b7, b8, b9, b10, b11, b12] [] := fun d b5 h => by
    rw [← hB] at hc cb
    simp [forF, inX, startEnv, startIni, execSs, execS.eq_1, execS.eq_2, execS.eq_3, execS.eq_4, execS.eq_5, execS.eq_6, execS.eq_7, execS.eq_8, execS.eq_9, execS.eq_10, execS.eq_11, execS.eq_12, execS.eq_13, execS.eq_14, execS.eq_17, execS.eq_18, execS.eq_19, execS.eq_20, execS.eq_21, execS.eq_22, evalE.eq_1, evalE.eq_2, evalE.eq_3, evalE.eq_4, evalE.eq_5, evalE.eq_6, evalE.eq_7, evalE.eq_8, evalE.eq_9, evalE.eq_10, evalE.eq_11, evalE.eq_12, evalE.eq_13, evalE.eq_14, evalE.eq_15, evalE.eq_16, evalE.eq_17, evalE.eq_18, evalE.eq_19, evalE.eq_20, evalE.eq_21, evalE.eq_22, evalE.eq_23, evalE.eq_24, evalE.eq_25, evalE.eq_26, evalE.eq_27, evalEs, evalA, evalO, evalA1, evalC, evalI, Out.bind, Out.so, Out.ofO, varD, bindTg, nextO, blt, bLen, bAbs, bMax2, bMin2, bInt, bList, bTuple, bSum, bAll, bAny, bMin1, bMax1, bIsinst, bDictPairs, bDictCopy, op2, atD, ixN, asI, asB, asIs, asBs, big, freezeS, items, itemsL, itemsQ, upto, lookT, isIn, isData, isDatas, dep, deps, dq_ss, dq_ii, dq_tt, dq_nil, dq_cons, dq_scr0, dq_scr1, flat, fldD, getF, methF, tyIs, pairsOf, mulOk, minI, maxI, bm_get, bm_getg, bmOk, finO, callT_c, callT_s, List.lookup, pg0, pg1, pg2, pg3, pg4, pg5, pg6, pg7, pg8, pg9, pg10, pg11, pg12, px0, px1, px2, px3, px4, px5, evalE.eq_29, noneB, outB, tlS, forBody, nthS, hdS, d_law, h, cb, hc]
  rw [eo3, ss_for hi2]
  unfold forGo
  rw [st _ _ r1]
  simp only []
  unfold forGo
  rw [st _ _ r2]
  simp only []
  unfold forGo
  rw [st _ _ r3]
  simp only []
  unfold forGo
  rw [st _ _ r4]
  simp only []
  unfold forGo
  rw [st _ _ r5]
  simp only [forGo]
  have fin : execS prog (F1 :: F2 :: T) (nthS 4 outB) [.val (.scr ns), b1, .val (.int more), .val GL, b4, .val N4, b6, b7, b8, b9, b10, b11, b12] [] = .next [.val (.scr ns), b1, .val (.int more), .val GL, b4, .val N4, b6, b7, b8, b9, b10, b11, b12] [] := by
    have cj : cmpS [] .isnt .non .non = some false := rfl
    simp [inX, startEnv, startIni, execSs, execS.eq_1, execS.eq_2, execS.eq_3, execS.eq_4, execS.eq_5, execS.eq_6, execS.eq_7, execS.eq_8, execS.eq_9, execS.eq_10, execS.eq_11, execS.eq_12, execS.eq_13, execS.eq_14, execS.eq_17, execS.eq_18, execS.eq_19, execS.eq_20, execS.eq_21, execS.eq_22, evalE.eq_1, evalE.eq_2, evalE.eq_3, evalE.eq_4, evalE.eq_5, evalE.eq_6, evalE.eq_7, evalE.eq_8, evalE.eq_9, evalE.eq_10, evalE.eq_11, evalE.eq_12, evalE.eq_13, evalE.eq_14, evalE.eq_15, evalE.eq_16, evalE.eq_17, evalE.eq_18, evalE.eq_19, evalE.eq_20, evalE.eq_21, evalE.eq_22, evalE.eq_23, evalE.eq_24, evalE.eq_25, evalE.eq_26, evalE.eq_27, evalEs, evalA, evalO, evalA1, evalC, evalI, Out.bind, Out.so, Out.ofO, varD, bindTg, nextO, blt, bLen, bAbs, bMax2, bMin2, bInt, bList, bTuple, bSum, bAll, bAny, bMin1, bMax1, bIsinst, bDictPairs, bDictCopy, atD, ixN, asI, asB, asIs, asBs, big, freezeS, items, itemsL, itemsQ, upto, lookT, isIn, isData, isDatas, dep, deps, dq_ss, dq_ii, dq_tt, dq_nil, dq_cons, dq_scr0, dq_scr1, flat, fldD, getF, methF, tyIs, pairsOf, mulOk, minI, maxI, bm_get, bm_getg, bmOk, finO, callT_c, callT_s, List.lookup, pg0, pg1, pg2, pg3, pg4, pg5, pg6, pg7, pg8, pg9, pg10, pg11, pg12, px0, px1, px2, px3, px4, px5, outB, tlS, forBody, nthS, hdS, d_law, hcut, m11, a11, n3, k5, k6, cj]
  rw [ss_next fin]
  exact ⟨_, rfl, _, _, _, _, _, _, _, _, _, _, _, _, rfl⟩
theorem plain_law (ns : List Int) (hl : ns.length ≤ 63) : ∃ st, callT (tabs prog 100) f_law [.scr ns] [] = .ok (.bl true) st := by
  rw [callT_s, run_eq d_law rfl rfl rfl]
  have eb : d_law.body = .cons (.for_ (.one 1) (.range1 (.blt .max2 (.cons (.lit (.int 1)) (.cons (.blt .min2 (.cons (.lit (.int 3)) (.cons (.blt .len (.cons (.var 0) .nil)) .nil))) .nil)))) outB) (.cons (.ret (.lit (.bl true))) .nil) := rfl
  have es : startEnv d_law.n [.scr ns] = [.val (.scr ns), .un, .un, .un, .un, .un, .un, .un, .un, .un, .un, .un, .un] := rfl
  obtain ⟨x, x1, x2, hx⟩ : ∃ x : Int, 1 ≤ x ∧ x ≤ 4 ∧ evalE prog (tabs prog 99) (.blt .max2 (.cons (.lit (.int 1)) (.cons (.blt .min2 (.cons (.lit (.int 3)) (.cons (.blt .len (.cons (.var 0) .nil)) .nil))) .nil))) [.val (.scr ns), .un, .un, .un, .un, .un, .un, .un, .un, .un, .un, .un, .un] [] = .ok (.int x) [] := by
    refine ⟨_, ?_, ?_, by simp [inX, startEnv, startIni, execSs, execS, evalE, evalEs, evalA, evalO, evalA1, evalC, evalI, Out.bind, Out.so, Out.ofO, varD, bindTg, nextO, blt, bLen, bAbs, bMax2, bMin2, bInt, bList, bTuple, bSum, bAll, bAny, bMin1, bMax1, bIsinst, bDictPairs, bDictCopy, op2, cmp2, cmpS, eqX, atD, ixN, cutD, cutL, sIx, asI, asB, asIs, asBs, big, freezeS, compGo, forGo, items, itemsL, itemsQ, rangeD, upto, lookT, isIn, eqO, scrOk, isData, isDatas, dep, deps, dq_ss, dq_ii, dq_tt, dq_nil, dq_cons, dq_scr0, dq_scr1, flat, fldD, getF, methF, tyIs, pairsOf, mulOk, minI, maxI, bm_get, bm_getg, bmOk]; rfl⟩
    · (repeat' split) <;> omega
    · (repeat' split) <;> omega
  have hm : evalI prog (tabs prog 99) (.range1 (.blt .max2 (.cons (.lit (.int 1)) (.cons (.blt .min2 (.cons (.lit (.int 3)) (.cons (.blt .len (.cons (.var 0) .nil)) .nil))) .nil)))) [.val (.scr ns), .un, .un, .un, .un, .un, .un, .un, .un, .un, .un, .un, .un] [] = .ok ((upto 0 x.toNat).map D.int) [] := by
    simp only [evalI, hx, Out.bind_ok, asI, Option.bind_some]
    rw [range_of (by omega) (by omega)]
    rfl
  rw [eb, es, ss_for hm]
  obtain ⟨e, ge, _⟩ := forGo_inv (F := forF (tabs prog 99) (.one 1) outB) (Inv := Inv1 (.val (.scr ns))) (st := []) (xs := (upto 0 x.toNat).map D.int) (env := [.val (.scr ns), .un, .un, .un, .un, .un, .un, .un, .un, .un, .un, .un, .un]) ⟨_, _, _, _, _, _, _, _, _, _, _, _, rfl⟩ (fun x hx env h => by
        obtain ⟨s1, s2, s3, s4, s5, s6, s7, s8, s9, s10, s11, s12, rfl⟩ := h
        obtain ⟨j, rfl, hj⟩ := mem_upto hx
        exact outer_run j hj ns hl s2 s3 s4 s5 s6 s7 s8 s9 s10 s11 s12)
  rw [ge]
  exact ⟨[], rfl⟩
end K31

set_option Elab.async false
set_option linter.all false
set_option maxRecDepth 100000
set_option maxHeartbeats 0
namespace K31
open Fw PySem PySem.Spec PyProof.Rows L2
def top (i : Nat) : Stmt := PySem.Challenge.pw_fusewalk_k31_lines_refused.main.body.getD i (.Pass ⟨0, 0, 0, 0⟩)
def nm : Nm := ⟨[("MOST_NUMBER" : Str), ("MOST_WITHIN_terms" : Str), ("TWO" : Str), ("LENGTHS" : Str), ("MOST_ROW" : Str), ("MOST_MADE" : Str), ("MOST_STEPS" : Str), ("MOST_COUNT" : Str), ("MOST_WIDE" : Str), ("MOST_WITHIN_lines" : Str), ("NAMED" : Str), ("SIGNS" : Str), ("STRENGTHS" : Str)],
  [("need_terms" : Str), ("is_number" : Str), ("need_deep" : Str), ("need_term" : Str), ("bounded" : Str), ("two" : Str), ("done" : Str), ("need_lines" : Str), ("is_count" : Str), ("look_term" : Str), ("look_maker" : Str), ("look_step" : Str), ("look_deep" : Str), ("look_line" : Str), ("look_end" : Str), ("made" : Str), ("as_far" : Str), ("scanned" : Str), ("stepped" : Str), ("row_of" : Str), ("ended" : Str), ("run" : Str), ("strength" : Str), ("within" : Str), ("term_text" : Str), ("maker_text" : Str), ("step_text" : Str), ("line_text" : Str), ("written" : Str), ("_law_cell" : Str), ("_law_drawn" : Str), ("_law_no_makers" : Str), ("_law_no_steps" : Str), ("_law_no_ends" : Str), ("_law_nest" : Str), ("law" : Str)],
  [], [("FuseError" : Str), ("BadTerm" : Str), ("BadLine" : Str), ("BadText" : Str), ("BadStep" : Str), ("Fault" : Str)],
  [("len" : Str), ("abs" : Str), ("min" : Str), ("max" : Str), ("int" : Str), ("str" : Str), ("list" : Str), ("tuple" : Str), ("sum" : Str), ("all" : Str), ("isinstance" : Str), ("range" : Str), ("enumerate" : Str), ("zip" : Str), ("bool" : Str)], true, true, true⟩
abbrev st_0 : Stmt := top 12
abbrev N_0 : List Str := ["good"]
abbrev P_0 : List Str := ["good"]
theorem sc_0 : C8.scC N_0 P_0 (C8.fnScope st_0) = true := by decide +kernel
theorem ck_0 : chkSs ⟨nm, prog, N_0, false⟩ (C8.fnScope st_0) d_need_terms.body (C8.fnBody st_0) = true := by decide +kernel
abbrev st_1 : Stmt := top 14
abbrev N_1 : List Str := ["thing"]
abbrev P_1 : List Str := ["thing"]
theorem sc_1 : C8.scC N_1 P_1 (C8.fnScope st_1) = true := by decide +kernel
theorem ck_1 : chkSs ⟨nm, prog, N_1, false⟩ (C8.fnScope st_1) d_is_number.body (C8.fnBody st_1) = true := by decide +kernel
abbrev st_2 : Stmt := top 15
abbrev N_2 : List Str := ["term", "names", "deep", "word", "one"]
abbrev P_2 : List Str := ["term", "names", "deep"]
theorem sc_2 : C8.scC N_2 P_2 (C8.fnScope st_2) = true := by decide +kernel
theorem ck_2 : chkSs ⟨nm, prog, N_2, false⟩ (C8.fnScope st_2) d_need_deep.body (C8.fnBody st_2) = true := by decide +kernel
abbrev st_3 : Stmt := top 16
abbrev N_3 : List Str := ["term", "names"]
abbrev P_3 : List Str := ["term", "names"]
theorem sc_3 : C8.scC N_3 P_3 (C8.fnScope st_3) = true := by decide +kernel
theorem ck_3 : chkSs ⟨nm, prog, N_3, false⟩ (C8.fnScope st_3) d_need_term.body (C8.fnBody st_3) = true := by decide +kernel
abbrev st_4 : Stmt := top 17
abbrev N_4 : List Str := ["number"]
abbrev P_4 : List Str := ["number"]
theorem sc_4 : C8.scC N_4 P_4 (C8.fnScope st_4) = true := by decide +kernel
theorem ck_4 : chkSs ⟨nm, prog, N_4, false⟩ (C8.fnScope st_4) d_bounded.body (C8.fnBody st_4) = true := by decide +kernel
abbrev st_5 : Stmt := top 18
abbrev N_5 : List Str := ["word", "one", "other"]
abbrev P_5 : List Str := ["word", "one", "other"]
theorem sc_5 : C8.scC N_5 P_5 (C8.fnScope st_5) = true := by decide +kernel
theorem ck_5 : chkSs ⟨nm, prog, N_5, false⟩ (C8.fnScope st_5) d_two.body (C8.fnBody st_5) = true := by decide +kernel
abbrev st_6 : Stmt := top 19
abbrev N_6 : List Str := ["term", "names", "said", "word", "first", "found", "asked"]
abbrev P_6 : List Str := ["term", "names", "said"]
theorem sc_6 : C8.scC N_6 P_6 (C8.fnScope st_6) = true := by decide +kernel
theorem ck_6 : chkSs ⟨nm, prog, N_6, false⟩ (C8.fnScope st_6) d_done.body (C8.fnBody st_6) = true := by decide +kernel
abbrev st_7 : Stmt := top 28
abbrev N_7 : List Str := ["good"]
abbrev P_7 : List Str := ["good"]
theorem sc_7 : C8.scC N_7 P_7 (C8.fnScope st_7) = true := by decide +kernel
theorem ck_7 : chkSs ⟨nm, prog, N_7, false⟩ (C8.fnScope st_7) d_need_lines.body (C8.fnBody st_7) = true := by decide +kernel
abbrev st_8 : Stmt := top 30
abbrev N_8 : List Str := ["thing", "most"]
abbrev P_8 : List Str := ["thing", "most"]
theorem sc_8 : C8.scC N_8 P_8 (C8.fnScope st_8) = true := by decide +kernel
theorem ck_8 : chkSs ⟨nm, prog, N_8, false⟩ (C8.fnScope st_8) d_is_count.body (C8.fnBody st_8) = true := by decide +kernel
abbrev st_9 : Stmt := top 31
abbrev N_9 : List Str := ["term", "names", "is_term"]
abbrev P_9 : List Str := ["term", "names"]
theorem sc_9 : C8.scC N_9 P_9 (C8.fnScope st_9) = true := by decide +kernel
theorem ck_9 : chkSs ⟨nm, prog, N_9, false⟩ (C8.fnScope st_9) d_look_term.body (C8.fnBody st_9) = true := by decide +kernel
abbrev st_10 : Stmt := top 32
abbrev N_10 : List Str := ["maker", "one"]
abbrev P_10 : List Str := ["maker"]
theorem sc_10 : C8.scC N_10 P_10 (C8.fnScope st_10) = true := by decide +kernel
theorem ck_10 : chkSs ⟨nm, prog, N_10, false⟩ (C8.fnScope st_10) d_look_maker.body (C8.fnBody st_10) = true := by decide +kernel
abbrev st_11 : Stmt := top 33
abbrev N_11 : List Str := ["step", "deep", "word"]
abbrev P_11 : List Str := ["step", "deep"]
theorem sc_11 : C8.scC N_11 P_11 (C8.fnScope st_11) = true := by decide +kernel
theorem ck_11 : chkSs ⟨nm, prog, N_11, false⟩ (C8.fnScope st_11) d_look_step.body (C8.fnBody st_11) = true := by decide +kernel
abbrev st_12 : Stmt := top 34
abbrev N_12 : List Str := ["line", "deep", "step"]
abbrev P_12 : List Str := ["line", "deep"]
theorem sc_12 : C8.scC N_12 P_12 (C8.fnScope st_12) = true := by decide +kernel
theorem ck_12 : chkSs ⟨nm, prog, N_12, false⟩ (C8.fnScope st_12) d_look_deep.body (C8.fnBody st_12) = true := by decide +kernel
abbrev st_13 : Stmt := top 35
abbrev N_13 : List Str := ["line"]
abbrev P_13 : List Str := ["line"]
theorem sc_13 : C8.scC N_13 P_13 (C8.fnScope st_13) = true := by decide +kernel
theorem ck_13 : chkSs ⟨nm, prog, N_13, false⟩ (C8.fnScope st_13) d_look_line.body (C8.fnBody st_13) = true := by decide +kernel
abbrev st_14 : Stmt := top 36
abbrev N_14 : List Str := ["end"]
abbrev P_14 : List Str := ["end"]
theorem sc_14 : C8.scC N_14 P_14 (C8.fnScope st_14) = true := by decide +kernel
theorem ck_14 : chkSs ⟨nm, prog, N_14, false⟩ (C8.fnScope st_14) d_look_end.body (C8.fnBody st_14) = true := by decide +kernel
abbrev st_15 : Stmt := top 37
abbrev N_15 : List Str := ["maker"]
abbrev P_15 : List Str := ["maker"]
theorem sc_15 : C8.scC N_15 P_15 (C8.fnScope st_15) = true := by decide +kernel
theorem ck_15 : chkSs ⟨nm, prog, N_15, false⟩ (C8.fnScope st_15) d_made.body (C8.fnBody st_15) = true := by decide +kernel
abbrev st_16 : Stmt := top 38
abbrev N_16 : List Str := ["row", "term", "said", "place", "one"]
abbrev P_16 : List Str := ["row", "term", "said"]
theorem sc_16 : C8.scC N_16 P_16 (C8.fnScope st_16) = true := by decide +kernel
theorem ck_16 : chkSs ⟨nm, prog, N_16, false⟩ (C8.fnScope st_16) d_as_far.body (C8.fnBody st_16) = true := by decide +kernel
abbrev st_17 : Stmt := top 39
abbrev N_17 : List Str := ["row", "start", "term", "said", "found", "acc", "one"]
abbrev P_17 : List Str := ["row", "start", "term", "said"]
theorem sc_17 : C8.scC N_17 P_17 (C8.fnScope st_17) = true := by decide +kernel
theorem ck_17 : chkSs ⟨nm, prog, N_17, false⟩ (C8.fnScope st_17) d_scanned.body (C8.fnBody st_17) = true := by decide +kernel
abbrev st_18 : Stmt := top 40
abbrev N_18 : List Str := ["row", "step", "said", "word", "other", "found", "one", "two", "at"]
abbrev P_18 : List Str := ["row", "step", "said"]
theorem sc_18 : C8.scC N_18 P_18 (C8.fnScope st_18) = true := by decide +kernel
theorem ck_18 : chkSs ⟨nm, prog, N_18, false⟩ (C8.fnScope st_18) d_stepped.body (C8.fnBody st_18) = true := by decide +kernel
abbrev st_19 : Stmt := top 41
abbrev N_19 : List Str := ["line", "said", "row", "step"]
abbrev P_19 : List Str := ["line", "said"]
theorem sc_19 : C8.scC N_19 P_19 (C8.fnScope st_19) = true := by decide +kernel
theorem ck_19 : chkSs ⟨nm, prog, N_19, false⟩ (C8.fnScope st_19) d_row_of.body (C8.fnBody st_19) = true := by decide +kernel
abbrev st_20 : Stmt := top 42
abbrev N_20 : List Str := ["row", "end", "said", "one"]
abbrev P_20 : List Str := ["row", "end", "said"]
theorem sc_20 : C8.scC N_20 P_20 (C8.fnScope st_20) = true := by decide +kernel
theorem ck_20 : chkSs ⟨nm, prog, N_20, false⟩ (C8.fnScope st_20) d_ended.body (C8.fnBody st_20) = true := by decide +kernel
abbrev st_21 : Stmt := top 44
abbrev N_21 : List Str := ["line", "end", "said"]
abbrev P_21 : List Str := ["line", "end"]
theorem sc_21 : C8.scC N_21 P_21 (C8.fnScope st_21) = true := by decide +kernel
theorem ck_21 : chkSs ⟨nm, prog, N_21, true⟩ (C8.fnScope st_21) d_run.body (C8.fnBody st_21) = true := by decide +kernel
abbrev st_22 : Stmt := top 48
abbrev N_22 : List Str := ["term"]
abbrev P_22 : List Str := ["term"]
theorem sc_22 : C8.scC N_22 P_22 (C8.fnScope st_22) = true := by decide +kernel
theorem ck_22 : chkSs ⟨nm, prog, N_22, false⟩ (C8.fnScope st_22) d_strength.body (C8.fnBody st_22) = true := by decide +kernel
abbrev st_23 : Stmt := top 49
abbrev N_23 : List Str := ["term", "least", "found"]
abbrev P_23 : List Str := ["term", "least"]
theorem sc_23 : C8.scC N_23 P_23 (C8.fnScope st_23) = true := by decide +kernel
theorem ck_23 : chkSs ⟨nm, prog, N_23, false⟩ (C8.fnScope st_23) d_within.body (C8.fnBody st_23) = true := by decide +kernel
abbrev st_24 : Stmt := top 50
abbrev N_24 : List Str := ["term", "word", "own"]
abbrev P_24 : List Str := ["term"]
theorem sc_24 : C8.scC N_24 P_24 (C8.fnScope st_24) = true := by decide +kernel
theorem ck_24 : chkSs ⟨nm, prog, N_24, false⟩ (C8.fnScope st_24) d_term_text.body (C8.fnBody st_24) = true := by decide +kernel
abbrev st_25 : Stmt := top 51
abbrev N_25 : List Str := ["maker", "one"]
abbrev P_25 : List Str := ["maker"]
theorem sc_25 : C8.scC N_25 P_25 (C8.fnScope st_25) = true := by decide +kernel
theorem ck_25 : chkSs ⟨nm, prog, N_25, false⟩ (C8.fnScope st_25) d_maker_text.body (C8.fnBody st_25) = true := by decide +kernel
abbrev st_26 : Stmt := top 52
abbrev N_26 : List Str := ["step", "word"]
abbrev P_26 : List Str := ["step"]
theorem sc_26 : C8.scC N_26 P_26 (C8.fnScope st_26) = true := by decide +kernel
theorem ck_26 : chkSs ⟨nm, prog, N_26, false⟩ (C8.fnScope st_26) d_step_text.body (C8.fnBody st_26) = true := by decide +kernel
abbrev st_27 : Stmt := top 53
abbrev N_27 : List Str := ["line", "step"]
abbrev P_27 : List Str := ["line"]
theorem sc_27 : C8.scC N_27 P_27 (C8.fnScope st_27) = true := by decide +kernel
theorem ck_27 : chkSs ⟨nm, prog, N_27, false⟩ (C8.fnScope st_27) d_line_text.body (C8.fnBody st_27) = true := by decide +kernel
abbrev st_28 : Stmt := top 54
abbrev N_28 : List Str := ["line", "end"]
abbrev P_28 : List Str := ["line", "end"]
theorem sc_28 : C8.scC N_28 P_28 (C8.fnScope st_28) = true := by decide +kernel
theorem ck_28 : chkSs ⟨nm, prog, N_28, false⟩ (C8.fnScope st_28) d_written.body (C8.fnBody st_28) = true := by decide +kernel
abbrev st_29 : Stmt := top 56
abbrev N_29 : List Str := ["_law_script", "_law_k"]
abbrev P_29 : List Str := ["_law_script", "_law_k"]
theorem sc_29 : C8.scC N_29 P_29 (C8.fnScope st_29) = true := by decide +kernel
theorem ck_29 : chkSs ⟨nm, prog, N_29, false⟩ (C8.fnScope st_29) d__law_cell.body (C8.fnBody st_29) = true := by decide +kernel
abbrev st_30 : Stmt := top 57
abbrev N_30 : List Str := ["_law_cell_here", "_law_k", "_law_more"]
abbrev P_30 : List Str := ["_law_cell_here", "_law_k"]
theorem sc_30 : C8.scC N_30 P_30 (C8.fnScope st_30) = true := by decide +kernel
theorem ck_30 : chkSs ⟨nm, prog, N_30, false⟩ (C8.fnScope st_30) d__law_drawn.body (C8.fnBody st_30) = true := by decide +kernel
abbrev st_31 : Stmt := top 60
abbrev N_31 : List Str := ["_law_found"]
abbrev P_31 : List Str := []
theorem sc_31 : C8.scC N_31 P_31 (C8.fnScope st_31) = true := by decide +kernel
theorem ck_31 : chkSs ⟨nm, prog, N_31, false⟩ (C8.fnScope st_31) d__law_no_makers.body (C8.fnBody st_31) = true := by decide +kernel
abbrev st_32 : Stmt := top 61
abbrev N_32 : List Str := ["_law_found", "_law_one", "_law_x"]
abbrev P_32 : List Str := []
theorem sc_32 : C8.scC N_32 P_32 (C8.fnScope st_32) = true := by decide +kernel
theorem ck_32 : chkSs ⟨nm, prog, N_32, false⟩ (C8.fnScope st_32) d__law_no_steps.body (C8.fnBody st_32) = true := by decide +kernel
abbrev st_33 : Stmt := top 62
abbrev N_33 : List Str := ["_law_one", "_law_found"]
abbrev P_33 : List Str := []
theorem sc_33 : C8.scC N_33 P_33 (C8.fnScope st_33) = true := by decide +kernel
theorem ck_33 : chkSs ⟨nm, prog, N_33, false⟩ (C8.fnScope st_33) d__law_no_ends.body (C8.fnBody st_33) = true := by decide +kernel
abbrev st_34 : Stmt := top 63
abbrev N_34 : List Str := ["_law_many", "_law_line", "_law_j"]
abbrev P_34 : List Str := ["_law_many"]
theorem sc_34 : C8.scC N_34 P_34 (C8.fnScope st_34) = true := by decide +kernel
theorem ck_34 : chkSs ⟨nm, prog, N_34, false⟩ (C8.fnScope st_34) d__law_nest.body (C8.fnBody st_34) = true := by decide +kernel
abbrev st_35 : Stmt := top 64
abbrev N_35 : List Str := ["_law_script", "_law_k", "_law_more", "_law_good", "_law_j", "_law_none", "_law_here", "_law_maker", "_law_step", "_law_lines", "_law_line", "_law_end", "_law_some"]
abbrev P_35 : List Str := ["_law_script"]
theorem sc_35 : C8.scC N_35 P_35 (C8.fnScope st_35) = true := by decide +kernel
theorem ck_35 : chkSs ⟨nm, prog, N_35, true⟩ (C8.fnScope st_35) d_law.body (C8.fnBody st_35) = true := by decide +kernel
abbrev sx_5 : Stmt := inClass (top 6) 0
section
variable {P : Program} {w : World} {K : PySem.W.Frag} {mg : Str → Option Value} {base : Heap}
abbrev gd (P : Program) (w : World) (K : PySem.W.Frag) (mg : Str → Option Value) (base : Heap) (cA eA fA : Nat → Addr) (fD : Nat → FuncData) (tb : List (Addr × Str)) : Gd := ⟨P, w, K, mg, base, prog, cA, eA, fA, fD, fun i => ([P_0, P_1, P_2, P_3, P_4, P_5, P_6, P_7, P_8, P_9, P_10, P_11, P_12, P_13, P_14, P_15, P_16, P_17, P_18, P_19, P_20, P_21, P_22, P_23, P_24, P_25, P_26, P_27, P_28, P_29, P_30, P_31, P_32, P_33, P_34, P_35] : List (List Str)).getD i [], tb⟩
def FunN (K : PySem.W.Frag) (x qual : Str) (st : Stmt) (f : Addr) (fd : FuncData) : Prop := ∃ (oc : Value) (od : Option Addr) (kV doc pm : Value) (an : Option Addr) (cdv ct : Value) (osl : Array (Option Value)), fd = PySem.W.fnOf x qual (C8.fnArgs st) (C8.fnBody st) (C8.fnScope st) .none kV doc pm an cdv ct ∧ K.lookup f = some ⟨oc, od, .func fd, osl⟩ ∧ PySem.W.codeIn K cdv qual = true
theorem FunN.fun {x qual : Str} {st : Stmt} {f : Addr} {fd : FuncData} : FunN K x qual st f fd → C8.Fun K x qual st f fd := fun ⟨a, b, c, d, e, g, i, j, k, l⟩ => ⟨⟨a, b, .none, c, d, e, g, i, j, k, l⟩⟩
theorem mem_cons {α : Type} {Q : α → Prop} {x : α} {r : List α} (h : Q x) (hr : ∀ y ∈ r, Q y) : ∀ y ∈ x :: r, Q y := fun y hy => by
  rcases List.mem_cons.mp hy with rfl | hy
  · exact h
  · exact hr y hy
theorem tb_uniq {tb : List (Addr × Str)} (hn : (tb.map (·.1)).Nodup) {A : Addr} {q : Str} (hm : (A, q) ∈ tb) : ∀ p ∈ tb, p.1 = A → p.2 = q := by
  induction tb with
  | nil => cases hm
  | cons x r ih =>
    simp only [List.map_cons, List.nodup_cons] at hn
    intro p hp e
    rcases List.mem_cons.mp hm with h | h <;> rcases List.mem_cons.mp hp with h2 | h2
    · rw [h2, ← h]
    · exact absurd (List.mem_map_of_mem (f := (·.1)) h2) (by rw [e, show A = x.1 by rw [← h]]; exact hn.1)
    · exact absurd (List.mem_map_of_mem (f := (·.1)) h) (by show A ∉ _; rw [← e, h2]; exact hn.1)
    · exact ih hn.2 h p h2 e
theorem lam_of {G : Gd} {q : Str} {c A : Addr} {cd : Value} (hT : LamX.TabB G.base G.mg c A) (hc : cd = .ref c) (hn : (G.tb.map (·.1)).Nodup) (hm : (A, (q ++ ".<locals>.") ++ "<lambda>") ∈ G.tb) : LamAt G q cd := ⟨c, A, hT, hc, hm, tb_uniq hn hm⟩
theorem allLt {α : Type} {P : Nat → Prop} {l : List α} (h : AllFrom (fun i _ => P i) 0 l) (f : Nat) (hf : f < l.length) : P f := allAt (P := fun i _ => P i) h f _ (List.getElem?_eq_getElem hf)
theorem stat {cA eA fA : Nat → Addr} {fD : Nat → FuncData} {tb : List (Addr × Str)}
    (xg0 : mg "FuseError" = some (.ref (eA 0))) (xk0 : PySem.W.keepIn K (.ref (eA 0)) = true) (xb0 : PySem.W.subIn K (.ref (eA 0)) (.type "BaseException") = some true) (xt0 : PySem.W.typeIn K (.ref (eA 0)) = some (.type "type"))
    (xx0 : PySem.W.excIn K (eA 0) bmVE "ValueError.__new__" = true)
    (xg1 : mg "BadTerm" = some (.ref (eA 1))) (xk1 : PySem.W.keepIn K (.ref (eA 1)) = true) (xb1 : PySem.W.subIn K (.ref (eA 1)) (.type "BaseException") = some true) (xt1 : PySem.W.typeIn K (.ref (eA 1)) = some (.type "type"))
    (xx1 : PySem.W.excIn K (eA 1) bmVE "ValueError.__new__" = true)
    (xg2 : mg "BadLine" = some (.ref (eA 2))) (xk2 : PySem.W.keepIn K (.ref (eA 2)) = true) (xb2 : PySem.W.subIn K (.ref (eA 2)) (.type "BaseException") = some true) (xt2 : PySem.W.typeIn K (.ref (eA 2)) = some (.type "type"))
    (xx2 : PySem.W.excIn K (eA 2) bmVE "ValueError.__new__" = true)
    (xg3 : mg "BadText" = some (.ref (eA 3))) (xk3 : PySem.W.keepIn K (.ref (eA 3)) = true) (xb3 : PySem.W.subIn K (.ref (eA 3)) (.type "BaseException") = some true) (xt3 : PySem.W.typeIn K (.ref (eA 3)) = some (.type "type"))
    (xx3 : PySem.W.excIn K (eA 3) bmVE "ValueError.__new__" = true)
    (xg4 : mg "BadStep" = some (.ref (eA 4))) (xk4 : PySem.W.keepIn K (.ref (eA 4)) = true) (xb4 : PySem.W.subIn K (.ref (eA 4)) (.type "BaseException") = some true) (xt4 : PySem.W.typeIn K (.ref (eA 4)) = some (.type "type"))
    (xx4 : PySem.W.excIn K (eA 4) bmVE "ValueError.__new__" = true)
    (xg5 : mg "Fault" = some (.ref (eA 5))) (xk5 : PySem.W.keepIn K (.ref (eA 5)) = true) (xb5 : PySem.W.subIn K (.ref (eA 5)) (.type "BaseException") = some true) (xt5 : PySem.W.typeIn K (.ref (eA 5)) = some (.type "type"))
    (xw5 : OexC K (eA 5)) (xf5 : ∃ (fI : Addr) (fd : FuncData) (ps : List Str), PySem.W.findIn K (.ref (eA 5)) "__init__" = some (some (.ref fI)) ∧ PySem.W.typeIn K (.ref fI) = some (.type "function") ∧ Binds K fd ps [] ∧ FnOk P w K mg base (L2N.CX P w) 1 fI fd ps (spX (eA 5)))
    (a0 : mg "need_terms" = some (.ref (fA 0)))
    (F0 : C8.Fun K "need" "need" st_0 (fA 0) (fD 0)) (b0 : Binds K (fD 0) P_0 []) (k0 : PySem.W.keepIn K (.ref (fA 0)) = true)
    (a1 : mg "is_number" = some (.ref (fA 1)))
    (F1 : C8.Fun K "is_number" "is_number" st_1 (fA 1) (fD 1)) (b1 : Binds K (fD 1) P_1 []) (k1 : PySem.W.keepIn K (.ref (fA 1)) = true)
    (a2 : mg "need_deep" = some (.ref (fA 2)))
    (F2 : C8.Fun K "need_deep" "need_deep" st_2 (fA 2) (fD 2)) (b2 : Binds K (fD 2) P_2 []) (k2 : PySem.W.keepIn K (.ref (fA 2)) = true)
    (a3 : mg "need_term" = some (.ref (fA 3)))
    (F3 : C8.Fun K "need_term" "need_term" st_3 (fA 3) (fD 3)) (b3 : Binds K (fD 3) P_3 []) (k3 : PySem.W.keepIn K (.ref (fA 3)) = true)
    (a4 : mg "bounded" = some (.ref (fA 4)))
    (F4 : C8.Fun K "bounded" "bounded" st_4 (fA 4) (fD 4)) (b4 : Binds K (fD 4) P_4 []) (k4 : PySem.W.keepIn K (.ref (fA 4)) = true)
    (a5 : mg "two" = some (.ref (fA 5)))
    (F5 : C8.Fun K "two" "two" st_5 (fA 5) (fD 5)) (b5 : Binds K (fD 5) P_5 []) (k5 : PySem.W.keepIn K (.ref (fA 5)) = true)
    (a6 : mg "done" = some (.ref (fA 6)))
    (F6 : C8.Fun K "done" "done" st_6 (fA 6) (fD 6)) (b6 : Binds K (fD 6) P_6 []) (k6 : PySem.W.keepIn K (.ref (fA 6)) = true)
    (a7 : mg "need_lines" = some (.ref (fA 7)))
    (F7 : C8.Fun K "need" "need" st_7 (fA 7) (fD 7)) (b7 : Binds K (fD 7) P_7 []) (k7 : PySem.W.keepIn K (.ref (fA 7)) = true)
    (a8 : mg "is_count" = some (.ref (fA 8)))
    (F8 : C8.Fun K "is_count" "is_count" st_8 (fA 8) (fD 8)) (b8 : Binds K (fD 8) P_8 []) (k8 : PySem.W.keepIn K (.ref (fA 8)) = true)
    (a9 : mg "look_term" = some (.ref (fA 9)))
    (F9 : C8.Fun K "look_term" "look_term" st_9 (fA 9) (fD 9)) (b9 : Binds K (fD 9) P_9 []) (k9 : PySem.W.keepIn K (.ref (fA 9)) = true)
    (a10 : mg "look_maker" = some (.ref (fA 10)))
    (F10 : C8.Fun K "look_maker" "look_maker" st_10 (fA 10) (fD 10)) (b10 : Binds K (fD 10) P_10 []) (k10 : PySem.W.keepIn K (.ref (fA 10)) = true)
    (a11 : mg "look_step" = some (.ref (fA 11)))
    (F11 : C8.Fun K "look_step" "look_step" st_11 (fA 11) (fD 11)) (b11 : Binds K (fD 11) P_11 []) (k11 : PySem.W.keepIn K (.ref (fA 11)) = true)
    (a12 : mg "look_deep" = some (.ref (fA 12)))
    (F12 : C8.Fun K "look_deep" "look_deep" st_12 (fA 12) (fD 12)) (b12 : Binds K (fD 12) P_12 []) (k12 : PySem.W.keepIn K (.ref (fA 12)) = true)
    (a13 : mg "look_line" = some (.ref (fA 13)))
    (F13 : C8.Fun K "look_line" "look_line" st_13 (fA 13) (fD 13)) (b13 : Binds K (fD 13) P_13 []) (k13 : PySem.W.keepIn K (.ref (fA 13)) = true)
    (a14 : mg "look_end" = some (.ref (fA 14)))
    (F14 : C8.Fun K "look_end" "look_end" st_14 (fA 14) (fD 14)) (b14 : Binds K (fD 14) P_14 []) (k14 : PySem.W.keepIn K (.ref (fA 14)) = true)
    (a15 : mg "made" = some (.ref (fA 15)))
    (F15 : C8.Fun K "made" "made" st_15 (fA 15) (fD 15)) (b15 : Binds K (fD 15) P_15 []) (k15 : PySem.W.keepIn K (.ref (fA 15)) = true)
    (a16 : mg "as_far" = some (.ref (fA 16)))
    (F16 : C8.Fun K "as_far" "as_far" st_16 (fA 16) (fD 16)) (b16 : Binds K (fD 16) P_16 []) (k16 : PySem.W.keepIn K (.ref (fA 16)) = true)
    (a17 : mg "scanned" = some (.ref (fA 17)))
    (F17 : C8.Fun K "scanned" "scanned" st_17 (fA 17) (fD 17)) (b17 : Binds K (fD 17) P_17 []) (k17 : PySem.W.keepIn K (.ref (fA 17)) = true)
    (a18 : mg "stepped" = some (.ref (fA 18)))
    (F18 : C8.Fun K "stepped" "stepped" st_18 (fA 18) (fD 18)) (b18 : Binds K (fD 18) P_18 []) (k18 : PySem.W.keepIn K (.ref (fA 18)) = true)
    (a19 : mg "row_of" = some (.ref (fA 19)))
    (F19 : C8.Fun K "row_of" "row_of" st_19 (fA 19) (fD 19)) (b19 : Binds K (fD 19) P_19 []) (k19 : PySem.W.keepIn K (.ref (fA 19)) = true)
    (a20 : mg "ended" = some (.ref (fA 20)))
    (F20 : C8.Fun K "ended" "ended" st_20 (fA 20) (fD 20)) (b20 : Binds K (fD 20) P_20 []) (k20 : PySem.W.keepIn K (.ref (fA 20)) = true)
    (a21 : mg "run" = some (.ref (fA 21)))
    (F21 : C8.Fun K "run" "run" st_21 (fA 21) (fD 21)) (b21 : Binds K (fD 21) P_21 []) (k21 : PySem.W.keepIn K (.ref (fA 21)) = true)
    (a22 : mg "strength" = some (.ref (fA 22)))
    (F22 : C8.Fun K "strength" "strength" st_22 (fA 22) (fD 22)) (b22 : Binds K (fD 22) P_22 []) (k22 : PySem.W.keepIn K (.ref (fA 22)) = true)
    (a23 : mg "within" = some (.ref (fA 23)))
    (F23 : C8.Fun K "within" "within" st_23 (fA 23) (fD 23)) (b23 : Binds K (fD 23) P_23 []) (k23 : PySem.W.keepIn K (.ref (fA 23)) = true)
    (a24 : mg "term_text" = some (.ref (fA 24)))
    (F24 : C8.Fun K "term_text" "term_text" st_24 (fA 24) (fD 24)) (b24 : Binds K (fD 24) P_24 []) (k24 : PySem.W.keepIn K (.ref (fA 24)) = true)
    (a25 : mg "maker_text" = some (.ref (fA 25)))
    (F25 : C8.Fun K "maker_text" "maker_text" st_25 (fA 25) (fD 25)) (b25 : Binds K (fD 25) P_25 []) (k25 : PySem.W.keepIn K (.ref (fA 25)) = true)
    (a26 : mg "step_text" = some (.ref (fA 26)))
    (F26 : C8.Fun K "step_text" "step_text" st_26 (fA 26) (fD 26)) (b26 : Binds K (fD 26) P_26 []) (k26 : PySem.W.keepIn K (.ref (fA 26)) = true)
    (a27 : mg "line_text" = some (.ref (fA 27)))
    (F27 : C8.Fun K "line_text" "line_text" st_27 (fA 27) (fD 27)) (b27 : Binds K (fD 27) P_27 []) (k27 : PySem.W.keepIn K (.ref (fA 27)) = true)
    (a28 : mg "written" = some (.ref (fA 28)))
    (F28 : C8.Fun K "written" "written" st_28 (fA 28) (fD 28)) (b28 : Binds K (fD 28) P_28 []) (k28 : PySem.W.keepIn K (.ref (fA 28)) = true)
    (a29 : mg "_law_cell" = some (.ref (fA 29)))
    (F29 : C8.Fun K "_law_cell" "_law_cell" st_29 (fA 29) (fD 29)) (b29 : Binds K (fD 29) P_29 []) (k29 : PySem.W.keepIn K (.ref (fA 29)) = true)
    (a30 : mg "_law_drawn" = some (.ref (fA 30)))
    (F30 : C8.Fun K "_law_drawn" "_law_drawn" st_30 (fA 30) (fD 30)) (b30 : Binds K (fD 30) P_30 []) (k30 : PySem.W.keepIn K (.ref (fA 30)) = true)
    (a31 : mg "_law_no_makers" = some (.ref (fA 31)))
    (F31 : C8.Fun K "_law_no_makers" "_law_no_makers" st_31 (fA 31) (fD 31)) (b31 : Binds K (fD 31) P_31 []) (k31 : PySem.W.keepIn K (.ref (fA 31)) = true)
    (a32 : mg "_law_no_steps" = some (.ref (fA 32)))
    (F32 : C8.Fun K "_law_no_steps" "_law_no_steps" st_32 (fA 32) (fD 32)) (b32 : Binds K (fD 32) P_32 []) (k32 : PySem.W.keepIn K (.ref (fA 32)) = true)
    (a33 : mg "_law_no_ends" = some (.ref (fA 33)))
    (F33 : C8.Fun K "_law_no_ends" "_law_no_ends" st_33 (fA 33) (fD 33)) (b33 : Binds K (fD 33) P_33 []) (k33 : PySem.W.keepIn K (.ref (fA 33)) = true)
    (a34 : mg "_law_nest" = some (.ref (fA 34)))
    (F34 : C8.Fun K "_law_nest" "_law_nest" st_34 (fA 34) (fD 34)) (b34 : Binds K (fD 34) P_34 []) (k34 : PySem.W.keepIn K (.ref (fA 34)) = true)
    (a35 : mg "law" = some (.ref (fA 35)))
    (F35 : C8.Fun K "law" "law" st_35 (fA 35) (fD 35)) (b35 : Binds K (fD 35) P_35 []) (k35 : PySem.W.keepIn K (.ref (fA 35)) = true)
    (g0 : ∃ d v u, prog.globs[0]? = some d ∧ mg "MOST_NUMBER" = some u ∧ RelV v u ∧ ∀ z, R (gd P w K mg base cA eA fA fD tb) z d v)
    (g1 : ∃ d v u, prog.globs[1]? = some d ∧ mg "MOST_WITHIN_terms" = some u ∧ RelV v u ∧ ∀ z, R (gd P w K mg base cA eA fA fD tb) z d v)
    (g2 : ∃ d v u, prog.globs[2]? = some d ∧ mg "TWO" = some u ∧ RelV v u ∧ ∀ z, R (gd P w K mg base cA eA fA fD tb) z d v)
    (g3 : ∃ d v u, prog.globs[3]? = some d ∧ mg "LENGTHS" = some u ∧ RelV v u ∧ ∀ z, R (gd P w K mg base cA eA fA fD tb) z d v)
    (g4 : ∃ d v u, prog.globs[4]? = some d ∧ mg "MOST_ROW" = some u ∧ RelV v u ∧ ∀ z, R (gd P w K mg base cA eA fA fD tb) z d v)
    (g5 : ∃ d v u, prog.globs[5]? = some d ∧ mg "MOST_MADE" = some u ∧ RelV v u ∧ ∀ z, R (gd P w K mg base cA eA fA fD tb) z d v)
    (g6 : ∃ d v u, prog.globs[6]? = some d ∧ mg "MOST_STEPS" = some u ∧ RelV v u ∧ ∀ z, R (gd P w K mg base cA eA fA fD tb) z d v)
    (g7 : ∃ d v u, prog.globs[7]? = some d ∧ mg "MOST_COUNT" = some u ∧ RelV v u ∧ ∀ z, R (gd P w K mg base cA eA fA fD tb) z d v)
    (g8 : ∃ d v u, prog.globs[8]? = some d ∧ mg "MOST_WIDE" = some u ∧ RelV v u ∧ ∀ z, R (gd P w K mg base cA eA fA fD tb) z d v)
    (g9 : ∃ d v u, prog.globs[9]? = some d ∧ mg "MOST_WITHIN_lines" = some u ∧ RelV v u ∧ ∀ z, R (gd P w K mg base cA eA fA fD tb) z d v)
    (g10 : ∃ d v u, prog.globs[10]? = some d ∧ mg "NAMED" = some u ∧ RelV v u ∧ ∀ z, R (gd P w K mg base cA eA fA fD tb) z d v)
    (g11 : ∃ d v u, prog.globs[11]? = some d ∧ mg "SIGNS" = some u ∧ RelV v u ∧ ∀ z, R (gd P w K mg base cA eA fA fD tb) z d v)
    (g12 : ∃ d v u, prog.globs[12]? = some d ∧ mg "STRENGTHS" = some u ∧ RelV v u ∧ ∀ z, R (gd P w K mg base cA eA fA fD tb) z d v)
    (z0 : mg "len" = none)
    (z1 : mg "abs" = none)
    (z2 : mg "min" = none)
    (z3 : mg "max" = none)
    (z4 : mg "int" = none)
    (z5 : mg "str" = none)
    (z6 : mg "list" = none)
    (z7 : mg "tuple" = none)
    (z8 : mg "sum" = none)
    (z9 : mg "all" = none)
    (z10 : mg "isinstance" = none)
    (z11 : mg "range" = none)
    (z12 : mg "enumerate" = none)
    (z13 : mg "zip" = none)
    (z14 : mg "bool" = none) :
    Static (gd P w K mg base cA eA fA fD tb) nm := {
    globs := allAt (P := fun g (x : Str) => ∃ d v u, prog.globs[g]? = some d ∧ mg x = some u ∧ RelV v u ∧ ∀ z, R (gd P w K mg base cA eA fA fD tb) z d v) (l := nm.globs) (by exact ⟨g0, g1, g2, g3, g4, g5, g6, g7, g8, g9, g10, g11, g12, trivial⟩)
    fns := allAt (P := fun f (x : Str) => x ≠ "" → f < prog.defs.length ∧ mg x = some (.ref (fA f))) (l := nm.fns) (by exact ⟨fun _ => ⟨by decide, a0⟩, fun _ => ⟨by decide, a1⟩, fun _ => ⟨by decide, a2⟩, fun _ => ⟨by decide, a3⟩, fun _ => ⟨by decide, a4⟩, fun _ => ⟨by decide, a5⟩, fun _ => ⟨by decide, a6⟩, fun _ => ⟨by decide, a7⟩, fun _ => ⟨by decide, a8⟩, fun _ => ⟨by decide, a9⟩, fun _ => ⟨by decide, a10⟩, fun _ => ⟨by decide, a11⟩, fun _ => ⟨by decide, a12⟩, fun _ => ⟨by decide, a13⟩, fun _ => ⟨by decide, a14⟩, fun _ => ⟨by decide, a15⟩, fun _ => ⟨by decide, a16⟩, fun _ => ⟨by decide, a17⟩, fun _ => ⟨by decide, a18⟩, fun _ => ⟨by decide, a19⟩, fun _ => ⟨by decide, a20⟩, fun _ => ⟨by decide, a21⟩, fun _ => ⟨by decide, a22⟩, fun _ => ⟨by decide, a23⟩, fun _ => ⟨by decide, a24⟩, fun _ => ⟨by decide, a25⟩, fun _ => ⟨by decide, a26⟩, fun _ => ⟨by decide, a27⟩, fun _ => ⟨by decide, a28⟩, fun _ => ⟨by decide, a29⟩, fun _ => ⟨by decide, a30⟩, fun _ => ⟨by decide, a31⟩, fun _ => ⟨by decide, a32⟩, fun _ => ⟨by decide, a33⟩, fun _ => ⟨by decide, a34⟩, fun _ => ⟨by decide, a35⟩, trivial⟩)
    kp := allLt (P := fun f => PySem.W.keepIn K (.ref (fA f)) = true) (l := prog.defs) (by exact ⟨k0, k1, k2, k3, k4, k5, k6, k7, k8, k9, k10, k11, k12, k13, k14, k15, k16, k17, k18, k19, k20, k21, k22, k23, k24, k25, k26, k27, k28, k29, k30, k31, k32, k33, k34, k35, trivial⟩)
    bd := allLt (P := fun f => Binds K (fD f) ((gd P w K mg base cA eA fA fD tb).fP f) []) (l := prog.defs) (by exact ⟨b0, b1, b2, b3, b4, b5, b6, b7, b8, b9, b10, b11, b12, b13, b14, b15, b16, b17, b18, b19, b20, b21, b22, b23, b24, b25, b26, b27, b28, b29, b30, b31, b32, b33, b34, b35, trivial⟩)
    cls := fun c k e => match c, e with
      | n + 0, e => by simp [prog] at e
    ms := fun c k m f e h => match c, e with
      | n + 0, e => by simp [prog] at e
    mkC := fun c k e => match c, e with
      | n + 0, e => by simp [prog] at e
    clsN := allAt (P := fun c (x : Str) => mg x = some (.ref (cA c))) (l := nm.cls) (by exact trivial)
    exc0 := fun c kx x e1 e2 => match c, e1, e2 with
      | 0, e1, e2 => by
        cases e1
        cases e2
        exact ⟨xg0, xk0, xb0, xt0, fun h => xx0⟩
      | 1, e1, e2 => by
        cases e1
        cases e2
        exact ⟨xg1, xk1, xb1, xt1, fun h => xx1⟩
      | 2, e1, e2 => by
        cases e1
        cases e2
        exact ⟨xg2, xk2, xb2, xt2, fun h => xx2⟩
      | 3, e1, e2 => by
        cases e1
        cases e2
        exact ⟨xg3, xk3, xb3, xt3, fun h => xx3⟩
      | 4, e1, e2 => by
        cases e1
        cases e2
        exact ⟨xg4, xk4, xb4, xt4, fun h => xx4⟩
      | 5, e1, e2 => by
        cases e1
        cases e2
        exact ⟨xg5, xk5, xb5, xt5, fun h => absurd h (by decide)⟩
      | n + 6, e1, e2 => by simp [prog] at e1
    excW := fun c kx e h => match c, e with
      | 0, e => by
        cases e
        exact absurd h (by decide)
      | 1, e => by
        cases e
        exact absurd h (by decide)
      | 2, e => by
        cases e
        exact absurd h (by decide)
      | 3, e => by
        cases e
        exact absurd h (by decide)
      | 4, e => by
        cases e
        exact absurd h (by decide)
      | 5, e => by
        cases e
        exact ⟨xw5, xf5⟩
      | n + 6, e => by simp [prog] at e
    blts := fun x hx => by
      simp only [nm, List.mem_cons, List.not_mem_nil, or_false] at hx
      rcases hx with rfl | rfl | rfl | rfl | rfl | rfl | rfl | rfl | rfl | rfl | rfl | rfl | rfl | rfl | rfl
      all_goals first | exact z0 | exact z1 | exact z2 | exact z3 | exact z4 | exact z5 | exact z6 | exact z7 | exact z8 | exact z9 | exact z10 | exact z11 | exact z12 | exact z13 | exact z14 }
theorem dfs {cA eA fA : Nat → Addr} {fD : Nat → FuncData} {tb : List (Addr × Str)}
    (lm21 : LamAt (gd P w K mg base cA eA fA fD tb) "run" (fD 21).code)
    (lm35 : LamAt (gd P w K mg base cA eA fA fD tb) "law" (fD 35).code)
    (F0 : C8.Fun K "need" "need" st_0 (fA 0) (fD 0))
    (F1 : C8.Fun K "is_number" "is_number" st_1 (fA 1) (fD 1))
    (F2 : C8.Fun K "need_deep" "need_deep" st_2 (fA 2) (fD 2))
    (F3 : C8.Fun K "need_term" "need_term" st_3 (fA 3) (fD 3))
    (F4 : C8.Fun K "bounded" "bounded" st_4 (fA 4) (fD 4))
    (F5 : C8.Fun K "two" "two" st_5 (fA 5) (fD 5))
    (F6 : C8.Fun K "done" "done" st_6 (fA 6) (fD 6))
    (F7 : C8.Fun K "need" "need" st_7 (fA 7) (fD 7))
    (F8 : C8.Fun K "is_count" "is_count" st_8 (fA 8) (fD 8))
    (F9 : C8.Fun K "look_term" "look_term" st_9 (fA 9) (fD 9))
    (F10 : C8.Fun K "look_maker" "look_maker" st_10 (fA 10) (fD 10))
    (F11 : C8.Fun K "look_step" "look_step" st_11 (fA 11) (fD 11))
    (F12 : C8.Fun K "look_deep" "look_deep" st_12 (fA 12) (fD 12))
    (F13 : C8.Fun K "look_line" "look_line" st_13 (fA 13) (fD 13))
    (F14 : C8.Fun K "look_end" "look_end" st_14 (fA 14) (fD 14))
    (F15 : C8.Fun K "made" "made" st_15 (fA 15) (fD 15))
    (F16 : C8.Fun K "as_far" "as_far" st_16 (fA 16) (fD 16))
    (F17 : C8.Fun K "scanned" "scanned" st_17 (fA 17) (fD 17))
    (F18 : C8.Fun K "stepped" "stepped" st_18 (fA 18) (fD 18))
    (F19 : C8.Fun K "row_of" "row_of" st_19 (fA 19) (fD 19))
    (F20 : C8.Fun K "ended" "ended" st_20 (fA 20) (fD 20))
    (F21 : C8.Fun K "run" "run" st_21 (fA 21) (fD 21))
    (F22 : C8.Fun K "strength" "strength" st_22 (fA 22) (fD 22))
    (F23 : C8.Fun K "within" "within" st_23 (fA 23) (fD 23))
    (F24 : C8.Fun K "term_text" "term_text" st_24 (fA 24) (fD 24))
    (F25 : C8.Fun K "maker_text" "maker_text" st_25 (fA 25) (fD 25))
    (F26 : C8.Fun K "step_text" "step_text" st_26 (fA 26) (fD 26))
    (F27 : C8.Fun K "line_text" "line_text" st_27 (fA 27) (fD 27))
    (F28 : C8.Fun K "written" "written" st_28 (fA 28) (fD 28))
    (F29 : C8.Fun K "_law_cell" "_law_cell" st_29 (fA 29) (fD 29))
    (F30 : C8.Fun K "_law_drawn" "_law_drawn" st_30 (fA 30) (fD 30))
    (F31 : C8.Fun K "_law_no_makers" "_law_no_makers" st_31 (fA 31) (fD 31))
    (F32 : C8.Fun K "_law_no_steps" "_law_no_steps" st_32 (fA 32) (fD 32))
    (F33 : C8.Fun K "_law_no_ends" "_law_no_ends" st_33 (fA 33) (fD 33))
    (F34 : C8.Fun K "_law_nest" "_law_nest" st_34 (fA 34) (fD 34))
    (F35 : C8.Fun K "law" "law" st_35 (fA 35) (fD 35)) :
    ∀ f, f < prog.defs.length → DefOk (gd P w K mg base cA eA fA fD tb) nm f := allLt (P := fun f => DefOk (gd P w K mg base cA eA fA fD tb) nm f) (l := prog.defs) (by exact ⟨⟨d_need_terms, N_0, _, _, st_0, false, rfl, F0, sc_0, ck_0, (fun h => by cases h), rfl, rfl, by decide⟩,
    ⟨d_is_number, N_1, _, _, st_1, false, rfl, F1, sc_1, ck_1, (fun h => by cases h), rfl, rfl, by decide⟩,
    ⟨d_need_deep, N_2, _, _, st_2, false, rfl, F2, sc_2, ck_2, (fun h => by cases h), rfl, rfl, by decide⟩,
    ⟨d_need_term, N_3, _, _, st_3, false, rfl, F3, sc_3, ck_3, (fun h => by cases h), rfl, rfl, by decide⟩,
    ⟨d_bounded, N_4, _, _, st_4, false, rfl, F4, sc_4, ck_4, (fun h => by cases h), rfl, rfl, by decide⟩,
    ⟨d_two, N_5, _, _, st_5, false, rfl, F5, sc_5, ck_5, (fun h => by cases h), rfl, rfl, by decide⟩,
    ⟨d_done, N_6, _, _, st_6, false, rfl, F6, sc_6, ck_6, (fun h => by cases h), rfl, rfl, by decide⟩,
    ⟨d_need_lines, N_7, _, _, st_7, false, rfl, F7, sc_7, ck_7, (fun h => by cases h), rfl, rfl, by decide⟩,
    ⟨d_is_count, N_8, _, _, st_8, false, rfl, F8, sc_8, ck_8, (fun h => by cases h), rfl, rfl, by decide⟩,
    ⟨d_look_term, N_9, _, _, st_9, false, rfl, F9, sc_9, ck_9, (fun h => by cases h), rfl, rfl, by decide⟩,
    ⟨d_look_maker, N_10, _, _, st_10, false, rfl, F10, sc_10, ck_10, (fun h => by cases h), rfl, rfl, by decide⟩,
    ⟨d_look_step, N_11, _, _, st_11, false, rfl, F11, sc_11, ck_11, (fun h => by cases h), rfl, rfl, by decide⟩,
    ⟨d_look_deep, N_12, _, _, st_12, false, rfl, F12, sc_12, ck_12, (fun h => by cases h), rfl, rfl, by decide⟩,
    ⟨d_look_line, N_13, _, _, st_13, false, rfl, F13, sc_13, ck_13, (fun h => by cases h), rfl, rfl, by decide⟩,
    ⟨d_look_end, N_14, _, _, st_14, false, rfl, F14, sc_14, ck_14, (fun h => by cases h), rfl, rfl, by decide⟩,
    ⟨d_made, N_15, _, _, st_15, false, rfl, F15, sc_15, ck_15, (fun h => by cases h), rfl, rfl, by decide⟩,
    ⟨d_as_far, N_16, _, _, st_16, false, rfl, F16, sc_16, ck_16, (fun h => by cases h), rfl, rfl, by decide⟩,
    ⟨d_scanned, N_17, _, _, st_17, false, rfl, F17, sc_17, ck_17, (fun h => by cases h), rfl, rfl, by decide⟩,
    ⟨d_stepped, N_18, _, _, st_18, false, rfl, F18, sc_18, ck_18, (fun h => by cases h), rfl, rfl, by decide⟩,
    ⟨d_row_of, N_19, _, _, st_19, false, rfl, F19, sc_19, ck_19, (fun h => by cases h), rfl, rfl, by decide⟩,
    ⟨d_ended, N_20, _, _, st_20, false, rfl, F20, sc_20, ck_20, (fun h => by cases h), rfl, rfl, by decide⟩,
    ⟨d_run, N_21, _, _, st_21, true, rfl, F21, sc_21, ck_21, (fun _ => lm21), rfl, rfl, by decide⟩,
    ⟨d_strength, N_22, _, _, st_22, false, rfl, F22, sc_22, ck_22, (fun h => by cases h), rfl, rfl, by decide⟩,
    ⟨d_within, N_23, _, _, st_23, false, rfl, F23, sc_23, ck_23, (fun h => by cases h), rfl, rfl, by decide⟩,
    ⟨d_term_text, N_24, _, _, st_24, false, rfl, F24, sc_24, ck_24, (fun h => by cases h), rfl, rfl, by decide⟩,
    ⟨d_maker_text, N_25, _, _, st_25, false, rfl, F25, sc_25, ck_25, (fun h => by cases h), rfl, rfl, by decide⟩,
    ⟨d_step_text, N_26, _, _, st_26, false, rfl, F26, sc_26, ck_26, (fun h => by cases h), rfl, rfl, by decide⟩,
    ⟨d_line_text, N_27, _, _, st_27, false, rfl, F27, sc_27, ck_27, (fun h => by cases h), rfl, rfl, by decide⟩,
    ⟨d_written, N_28, _, _, st_28, false, rfl, F28, sc_28, ck_28, (fun h => by cases h), rfl, rfl, by decide⟩,
    ⟨d__law_cell, N_29, _, _, st_29, false, rfl, F29, sc_29, ck_29, (fun h => by cases h), rfl, rfl, by decide⟩,
    ⟨d__law_drawn, N_30, _, _, st_30, false, rfl, F30, sc_30, ck_30, (fun h => by cases h), rfl, rfl, by decide⟩,
    ⟨d__law_no_makers, N_31, _, _, st_31, false, rfl, F31, sc_31, ck_31, (fun h => by cases h), rfl, rfl, by decide⟩,
    ⟨d__law_no_steps, N_32, _, _, st_32, false, rfl, F32, sc_32, ck_32, (fun h => by cases h), rfl, rfl, by decide⟩,
    ⟨d__law_no_ends, N_33, _, _, st_33, false, rfl, F33, sc_33, ck_33, (fun h => by cases h), rfl, rfl, by decide⟩,
    ⟨d__law_nest, N_34, _, _, st_34, false, rfl, F34, sc_34, ck_34, (fun h => by cases h), rfl, rfl, by decide⟩,
    ⟨d_law, N_35, _, _, st_35, true, rfl, F35, sc_35, ck_35, (fun _ => lm35), rfl, rfl, by decide⟩,
    trivial⟩)
theorem bd_0 {f : Addr} {fd : FuncData} (F : FunN K "need" "need" st_0 f fd) : Binds K fd P_0 [] := by
  obtain ⟨_, _, _, _, _, _, _, _, _, rfl, _, _⟩ := F
  exact .all fun us hl => match us, hl with | [_], _ => rfl
theorem bd_1 {f : Addr} {fd : FuncData} (F : FunN K "is_number" "is_number" st_1 f fd) : Binds K fd P_1 [] := by
  obtain ⟨_, _, _, _, _, _, _, _, _, rfl, _, _⟩ := F
  exact .all fun us hl => match us, hl with | [_], _ => rfl
theorem bd_2 {f : Addr} {fd : FuncData} (F : FunN K "need_deep" "need_deep" st_2 f fd) : Binds K fd P_2 [] := by
  obtain ⟨_, _, _, _, _, _, _, _, _, rfl, _, _⟩ := F
  exact .all fun us hl => match us, hl with | [_, _, _], _ => rfl
theorem bd_3 {f : Addr} {fd : FuncData} (F : FunN K "need_term" "need_term" st_3 f fd) : Binds K fd P_3 [] := by
  obtain ⟨_, _, _, _, _, _, _, _, _, rfl, _, _⟩ := F
  exact .all fun us hl => match us, hl with | [_, _], _ => rfl
theorem bd_4 {f : Addr} {fd : FuncData} (F : FunN K "bounded" "bounded" st_4 f fd) : Binds K fd P_4 [] := by
  obtain ⟨_, _, _, _, _, _, _, _, _, rfl, _, _⟩ := F
  exact .all fun us hl => match us, hl with | [_], _ => rfl
theorem bd_5 {f : Addr} {fd : FuncData} (F : FunN K "two" "two" st_5 f fd) : Binds K fd P_5 [] := by
  obtain ⟨_, _, _, _, _, _, _, _, _, rfl, _, _⟩ := F
  exact .all fun us hl => match us, hl with | [_, _, _], _ => rfl
theorem bd_6 {f : Addr} {fd : FuncData} (F : FunN K "done" "done" st_6 f fd) : Binds K fd P_6 [] := by
  obtain ⟨_, _, _, _, _, _, _, _, _, rfl, _, _⟩ := F
  exact .all fun us hl => match us, hl with | [_, _, _], _ => rfl
theorem bd_7 {f : Addr} {fd : FuncData} (F : FunN K "need" "need" st_7 f fd) : Binds K fd P_7 [] := by
  obtain ⟨_, _, _, _, _, _, _, _, _, rfl, _, _⟩ := F
  exact .all fun us hl => match us, hl with | [_], _ => rfl
theorem bd_8 {f : Addr} {fd : FuncData} (F : FunN K "is_count" "is_count" st_8 f fd) : Binds K fd P_8 [] := by
  obtain ⟨_, _, _, _, _, _, _, _, _, rfl, _, _⟩ := F
  exact .all fun us hl => match us, hl with | [_, _], _ => rfl
theorem bd_9 {f : Addr} {fd : FuncData} (F : FunN K "look_term" "look_term" st_9 f fd) : Binds K fd P_9 [] := by
  obtain ⟨_, _, _, _, _, _, _, _, _, rfl, _, _⟩ := F
  exact .all fun us hl => match us, hl with | [_, _], _ => rfl
theorem bd_10 {f : Addr} {fd : FuncData} (F : FunN K "look_maker" "look_maker" st_10 f fd) : Binds K fd P_10 [] := by
  obtain ⟨_, _, _, _, _, _, _, _, _, rfl, _, _⟩ := F
  exact .all fun us hl => match us, hl with | [_], _ => rfl
theorem bd_11 {f : Addr} {fd : FuncData} (F : FunN K "look_step" "look_step" st_11 f fd) : Binds K fd P_11 [] := by
  obtain ⟨_, _, _, _, _, _, _, _, _, rfl, _, _⟩ := F
  exact .all fun us hl => match us, hl with | [_, _], _ => rfl
theorem bd_12 {f : Addr} {fd : FuncData} (F : FunN K "look_deep" "look_deep" st_12 f fd) : Binds K fd P_12 [] := by
  obtain ⟨_, _, _, _, _, _, _, _, _, rfl, _, _⟩ := F
  exact .all fun us hl => match us, hl with | [_, _], _ => rfl
theorem bd_13 {f : Addr} {fd : FuncData} (F : FunN K "look_line" "look_line" st_13 f fd) : Binds K fd P_13 [] := by
  obtain ⟨_, _, _, _, _, _, _, _, _, rfl, _, _⟩ := F
  exact .all fun us hl => match us, hl with | [_], _ => rfl
theorem bd_14 {f : Addr} {fd : FuncData} (F : FunN K "look_end" "look_end" st_14 f fd) : Binds K fd P_14 [] := by
  obtain ⟨_, _, _, _, _, _, _, _, _, rfl, _, _⟩ := F
  exact .all fun us hl => match us, hl with | [_], _ => rfl
theorem bd_15 {f : Addr} {fd : FuncData} (F : FunN K "made" "made" st_15 f fd) : Binds K fd P_15 [] := by
  obtain ⟨_, _, _, _, _, _, _, _, _, rfl, _, _⟩ := F
  exact .all fun us hl => match us, hl with | [_], _ => rfl
theorem bd_16 {f : Addr} {fd : FuncData} (F : FunN K "as_far" "as_far" st_16 f fd) : Binds K fd P_16 [] := by
  obtain ⟨_, _, _, _, _, _, _, _, _, rfl, _, _⟩ := F
  exact .all fun us hl => match us, hl with | [_, _, _], _ => rfl
theorem bd_17 {f : Addr} {fd : FuncData} (F : FunN K "scanned" "scanned" st_17 f fd) : Binds K fd P_17 [] := by
  obtain ⟨_, _, _, _, _, _, _, _, _, rfl, _, _⟩ := F
  exact .all fun us hl => match us, hl with | [_, _, _, _], _ => rfl
theorem bd_18 {f : Addr} {fd : FuncData} (F : FunN K "stepped" "stepped" st_18 f fd) : Binds K fd P_18 [] := by
  obtain ⟨_, _, _, _, _, _, _, _, _, rfl, _, _⟩ := F
  exact .all fun us hl => match us, hl with | [_, _, _], _ => rfl
theorem bd_19 {f : Addr} {fd : FuncData} (F : FunN K "row_of" "row_of" st_19 f fd) : Binds K fd P_19 [] := by
  obtain ⟨_, _, _, _, _, _, _, _, _, rfl, _, _⟩ := F
  exact .all fun us hl => match us, hl with | [_, _], _ => rfl
theorem bd_20 {f : Addr} {fd : FuncData} (F : FunN K "ended" "ended" st_20 f fd) : Binds K fd P_20 [] := by
  obtain ⟨_, _, _, _, _, _, _, _, _, rfl, _, _⟩ := F
  exact .all fun us hl => match us, hl with | [_, _, _], _ => rfl
theorem bd_21 {f : Addr} {fd : FuncData} (F : FunN K "run" "run" st_21 f fd) : Binds K fd P_21 [] := by
  obtain ⟨_, _, _, _, _, _, _, _, _, rfl, _, _⟩ := F
  exact .all fun us hl => match us, hl with | [_, _], _ => rfl
theorem bd_22 {f : Addr} {fd : FuncData} (F : FunN K "strength" "strength" st_22 f fd) : Binds K fd P_22 [] := by
  obtain ⟨_, _, _, _, _, _, _, _, _, rfl, _, _⟩ := F
  exact .all fun us hl => match us, hl with | [_], _ => rfl
theorem bd_23 {f : Addr} {fd : FuncData} (F : FunN K "within" "within" st_23 f fd) : Binds K fd P_23 [] := by
  obtain ⟨_, _, _, _, _, _, _, _, _, rfl, _, _⟩ := F
  exact .all fun us hl => match us, hl with | [_, _], _ => rfl
theorem bd_24 {f : Addr} {fd : FuncData} (F : FunN K "term_text" "term_text" st_24 f fd) : Binds K fd P_24 [] := by
  obtain ⟨_, _, _, _, _, _, _, _, _, rfl, _, _⟩ := F
  exact .all fun us hl => match us, hl with | [_], _ => rfl
theorem bd_25 {f : Addr} {fd : FuncData} (F : FunN K "maker_text" "maker_text" st_25 f fd) : Binds K fd P_25 [] := by
  obtain ⟨_, _, _, _, _, _, _, _, _, rfl, _, _⟩ := F
  exact .all fun us hl => match us, hl with | [_], _ => rfl
theorem bd_26 {f : Addr} {fd : FuncData} (F : FunN K "step_text" "step_text" st_26 f fd) : Binds K fd P_26 [] := by
  obtain ⟨_, _, _, _, _, _, _, _, _, rfl, _, _⟩ := F
  exact .all fun us hl => match us, hl with | [_], _ => rfl
theorem bd_27 {f : Addr} {fd : FuncData} (F : FunN K "line_text" "line_text" st_27 f fd) : Binds K fd P_27 [] := by
  obtain ⟨_, _, _, _, _, _, _, _, _, rfl, _, _⟩ := F
  exact .all fun us hl => match us, hl with | [_], _ => rfl
theorem bd_28 {f : Addr} {fd : FuncData} (F : FunN K "written" "written" st_28 f fd) : Binds K fd P_28 [] := by
  obtain ⟨_, _, _, _, _, _, _, _, _, rfl, _, _⟩ := F
  exact .all fun us hl => match us, hl with | [_, _], _ => rfl
theorem bd_29 {f : Addr} {fd : FuncData} (F : FunN K "_law_cell" "_law_cell" st_29 f fd) : Binds K fd P_29 [] := by
  obtain ⟨_, _, _, _, _, _, _, _, _, rfl, _, _⟩ := F
  exact .all fun us hl => match us, hl with | [_, _], _ => rfl
theorem bd_30 {f : Addr} {fd : FuncData} (F : FunN K "_law_drawn" "_law_drawn" st_30 f fd) : Binds K fd P_30 [] := by
  obtain ⟨_, _, _, _, _, _, _, _, _, rfl, _, _⟩ := F
  exact .all fun us hl => match us, hl with | [_, _], _ => rfl
theorem bd_31 {f : Addr} {fd : FuncData} (F : FunN K "_law_no_makers" "_law_no_makers" st_31 f fd) : Binds K fd P_31 [] := by
  obtain ⟨_, _, _, _, _, _, _, _, _, rfl, _, _⟩ := F
  exact .all fun us hl => match us, hl with | [], _ => rfl
theorem bd_32 {f : Addr} {fd : FuncData} (F : FunN K "_law_no_steps" "_law_no_steps" st_32 f fd) : Binds K fd P_32 [] := by
  obtain ⟨_, _, _, _, _, _, _, _, _, rfl, _, _⟩ := F
  exact .all fun us hl => match us, hl with | [], _ => rfl
theorem bd_33 {f : Addr} {fd : FuncData} (F : FunN K "_law_no_ends" "_law_no_ends" st_33 f fd) : Binds K fd P_33 [] := by
  obtain ⟨_, _, _, _, _, _, _, _, _, rfl, _, _⟩ := F
  exact .all fun us hl => match us, hl with | [], _ => rfl
theorem bd_34 {f : Addr} {fd : FuncData} (F : FunN K "_law_nest" "_law_nest" st_34 f fd) : Binds K fd P_34 [] := by
  obtain ⟨_, _, _, _, _, _, _, _, _, rfl, _, _⟩ := F
  exact .all fun us hl => match us, hl with | [_], _ => rfl
theorem bd_35 {f : Addr} {fd : FuncData} (F : FunN K "law" "law" st_35 f fd) : Binds K fd P_35 [] := by
  obtain ⟨_, _, _, _, _, _, _, _, _, rfl, _, _⟩ := F
  exact .all fun us hl => match us, hl with | [_], _ => rfl
theorem b_law {f : Addr} {fd : FuncData} (F : FunN K "law" "law" st_35 f fd) (s : Shared) (u : Value) : BindsTo s fd ⟨[u], []⟩ [(("_law_script" : Str), u)] := by
  obtain ⟨_, _, kV, doc, pm, an, cdv, ct, _, rfl, _, _⟩ := F
  have h : ∀ (us : List Value) (hl : us.length = 1), bindArgs (PySem.W.fnOf "law" "law" (C8.fnArgs st_35) (C8.fnBody st_35) (C8.fnScope st_35) .none kV doc pm an cdv ct) ⟨us, []⟩ = pure ((P_35).zip us) := fun us hl => match us, hl with | [_], _ => rfl
  exact .of_eq (h [u] rfl)
theorem bd_Scaught {f : Addr} {fd : FuncData} (F : FunN K "caught" "caught" (top 43) f fd) : Binds K fd ["deed"] [] := by
  obtain ⟨_, _, _, _, _, _, _, _, _, rfl, _, _⟩ := F
  exact .all fun us hl => match us, hl with | [_], _ => rfl
theorem bd_Slawtold {f : Addr} {fd : FuncData} (F : FunN K "_law_told" "_law_told" (top 59) f fd) : Binds K fd ["_law_deed"] [] := by
  obtain ⟨_, _, _, _, _, _, _, _, _, rfl, _, _⟩ := F
  exact .all fun us hl => match us, hl with | [_], _ => rfl
theorem bd_Slawword {f : Addr} {fd : FuncData} (F : FunN K "_law_word" "_law_word" (top 58) f fd) : Binds K fd ["_law_e"] [] := by
  obtain ⟨_, _, _, _, _, _, _, _, _, rfl, _, _⟩ := F
  exact .all fun us hl => match us, hl with | [_], _ => rfl
theorem exw_mk {h : Heap} (X : K.In h) (G : h.Ns mainGlobals mg)
    {E0 : Addr}
    {E1 : Addr}
    {E2 : Addr}
    {E3 : Addr}
    {E4 : Addr}
    {E5 : Addr}
    {xn5 xq5 : Str} {xN5 xf5 : Addr} {xbs5 xbm5 xsub5 : List Value} {xsn5 : List Str} {xab5 : Bool} {xcol5 : Option Bool} {xdd5 : Option Addr} {xm05 xm15 xm25 xm35 xm55 : Option Value} {xfd5 : FuncData}
    {Scaught : Addr} {Scaughtfd : FuncData}
    {Slawtold : Addr} {Slawtoldfd : FuncData}
    {Slawword : Addr} {Slawwordfd : FuncData}
    (xa0 : PySem.W.nsIn K mainGlobals "FuseError" = some (some (.ref E0)))
    (xk0 : PySem.W.keepIn K (.ref E0) = true)
    (xb0 : PySem.W.subIn K (.ref E0) (.type "BaseException") = some true)
    (xt0 : PySem.W.typeIn K (.ref E0) = some (.type "type"))
    (yh0 : PySem.W.hasDictIn K E0 = true)
    (yg0 : PySem.W.findIn K (.ref E0) "__getattribute__" = some (some (.builtin "BaseException.__getattribute__")))
    (ya0 : PySem.W.findIn K (.ref E0) "__getattr__" = some none)
    (ys0_0 : PySem.W.subIn K (.ref E0) (.ref E0) = some true)
    (yc0 : PySem.W.findIn K (.ref E0) "__class__" = some (some (.builtin "object.__class__")))
    (ym0 : PySem.W.mroIn K E0 (.type "object") = some true)
    (yv0 : PySem.W.subIn K (.ref E0) (.type "ValueError") = some true)
    (xx0 : PySem.W.excIn K E0 [.type "ValueError", .type "Exception", .type "BaseException", .type "object"] "ValueError.__new__" = true)
    (xa1 : PySem.W.nsIn K mainGlobals "BadTerm" = some (some (.ref E1)))
    (xk1 : PySem.W.keepIn K (.ref E1) = true)
    (xb1 : PySem.W.subIn K (.ref E1) (.type "BaseException") = some true)
    (xt1 : PySem.W.typeIn K (.ref E1) = some (.type "type"))
    (yh1 : PySem.W.hasDictIn K E1 = true)
    (yg1 : PySem.W.findIn K (.ref E1) "__getattribute__" = some (some (.builtin "BaseException.__getattribute__")))
    (ya1 : PySem.W.findIn K (.ref E1) "__getattr__" = some none)
    (ys1_1 : PySem.W.subIn K (.ref E1) (.ref E1) = some true)
    (yc1 : PySem.W.findIn K (.ref E1) "__class__" = some (some (.builtin "object.__class__")))
    (ym1 : PySem.W.mroIn K E1 (.type "object") = some true)
    (yv1 : PySem.W.subIn K (.ref E1) (.type "ValueError") = some true)
    (xx1 : PySem.W.excIn K E1 [.type "ValueError", .type "Exception", .type "BaseException", .type "object"] "ValueError.__new__" = true)
    (xa2 : PySem.W.nsIn K mainGlobals "BadLine" = some (some (.ref E2)))
    (xk2 : PySem.W.keepIn K (.ref E2) = true)
    (xb2 : PySem.W.subIn K (.ref E2) (.type "BaseException") = some true)
    (xt2 : PySem.W.typeIn K (.ref E2) = some (.type "type"))
    (yh2 : PySem.W.hasDictIn K E2 = true)
    (yg2 : PySem.W.findIn K (.ref E2) "__getattribute__" = some (some (.builtin "BaseException.__getattribute__")))
    (ya2 : PySem.W.findIn K (.ref E2) "__getattr__" = some none)
    (ys2_2 : PySem.W.subIn K (.ref E2) (.ref E2) = some true)
    (yc2 : PySem.W.findIn K (.ref E2) "__class__" = some (some (.builtin "object.__class__")))
    (ym2 : PySem.W.mroIn K E2 (.type "object") = some true)
    (yv2 : PySem.W.subIn K (.ref E2) (.type "ValueError") = some true)
    (xx2 : PySem.W.excIn K E2 [.type "ValueError", .type "Exception", .type "BaseException", .type "object"] "ValueError.__new__" = true)
    (xa3 : PySem.W.nsIn K mainGlobals "BadText" = some (some (.ref E3)))
    (xk3 : PySem.W.keepIn K (.ref E3) = true)
    (xb3 : PySem.W.subIn K (.ref E3) (.type "BaseException") = some true)
    (xt3 : PySem.W.typeIn K (.ref E3) = some (.type "type"))
    (yh3 : PySem.W.hasDictIn K E3 = true)
    (yg3 : PySem.W.findIn K (.ref E3) "__getattribute__" = some (some (.builtin "BaseException.__getattribute__")))
    (ya3 : PySem.W.findIn K (.ref E3) "__getattr__" = some none)
    (ys3_3 : PySem.W.subIn K (.ref E3) (.ref E3) = some true)
    (yc3 : PySem.W.findIn K (.ref E3) "__class__" = some (some (.builtin "object.__class__")))
    (ym3 : PySem.W.mroIn K E3 (.type "object") = some true)
    (yv3 : PySem.W.subIn K (.ref E3) (.type "ValueError") = some true)
    (xx3 : PySem.W.excIn K E3 [.type "ValueError", .type "Exception", .type "BaseException", .type "object"] "ValueError.__new__" = true)
    (xa4 : PySem.W.nsIn K mainGlobals "BadStep" = some (some (.ref E4)))
    (xk4 : PySem.W.keepIn K (.ref E4) = true)
    (xb4 : PySem.W.subIn K (.ref E4) (.type "BaseException") = some true)
    (xt4 : PySem.W.typeIn K (.ref E4) = some (.type "type"))
    (yh4 : PySem.W.hasDictIn K E4 = true)
    (yg4 : PySem.W.findIn K (.ref E4) "__getattribute__" = some (some (.builtin "BaseException.__getattribute__")))
    (ya4 : PySem.W.findIn K (.ref E4) "__getattr__" = some none)
    (ys4_4 : PySem.W.subIn K (.ref E4) (.ref E4) = some true)
    (yc4 : PySem.W.findIn K (.ref E4) "__class__" = some (some (.builtin "object.__class__")))
    (ym4 : PySem.W.mroIn K E4 (.type "object") = some true)
    (yv4 : PySem.W.subIn K (.ref E4) (.type "ValueError") = some true)
    (xx4 : PySem.W.excIn K E4 [.type "ValueError", .type "Exception", .type "BaseException", .type "object"] "ValueError.__new__" = true)
    (xa5 : PySem.W.nsIn K mainGlobals "Fault" = some (some (.ref E5)))
    (xk5 : PySem.W.keepIn K (.ref E5) = true)
    (xb5 : PySem.W.subIn K (.ref E5) (.type "BaseException") = some true)
    (xt5 : PySem.W.typeIn K (.ref E5) = some (.type "type"))
    (yh5 : PySem.W.hasDictIn K E5 = true)
    (yg5 : PySem.W.findIn K (.ref E5) "__getattribute__" = some (some (.builtin "BaseException.__getattribute__")))
    (ya5 : PySem.W.findIn K (.ref E5) "__getattr__" = some none)
    (ys5_5 : PySem.W.subIn K (.ref E5) (.ref E5) = some true)
    (yc5 : PySem.W.findIn K (.ref E5) "__class__" = some (some (.builtin "object.__class__")))
    (ym5 : PySem.W.mroIn K E5 (.type "object") = some true)
    (yv5 : PySem.W.subIn K (.ref E5) (.type "ValueError") = some true)
    (xL5 : K.lookup E5 = some (excClassObj xn5 xq5 E5 xN5 xbs5 xbm5 true xsn5 xsub5 xab5 xcol5 xdd5 xm05 xm15 xm25 xm35 xm55 "ValueError.__new__"))
    (xr5 : PySem.HandSPX.refsVE xbm5 = true)
    (xs5 : PySem.W.findIn K (.ref E5) "__setattr__" = some (some (.builtin "object.__setattr__")))
    (xv5 : PySem.W.findIn K (.ref E5) "word" = some none)
    (xI5 : PySem.W.findIn K (.ref E5) "__init__" = some (some (.ref xf5)))
    (xJ5 : PySem.W.typeIn K (.ref xf5) = some (.type "function"))
    (xF5 : FunN K "__init__" "Fault.__init__" sx_5 xf5 xfd5)
    (ys0_1 : PySem.W.subIn K (.ref E0) (.ref E1) = some false)
    (ys0_2 : PySem.W.subIn K (.ref E0) (.ref E2) = some false)
    (ys0_3 : PySem.W.subIn K (.ref E0) (.ref E3) = some false)
    (ys0_4 : PySem.W.subIn K (.ref E0) (.ref E4) = some false)
    (ys0_5 : PySem.W.subIn K (.ref E0) (.ref E5) = some false)
    (ys1_0 : PySem.W.subIn K (.ref E1) (.ref E0) = some true)
    (ys1_2 : PySem.W.subIn K (.ref E1) (.ref E2) = some false)
    (ys1_3 : PySem.W.subIn K (.ref E1) (.ref E3) = some false)
    (ys1_4 : PySem.W.subIn K (.ref E1) (.ref E4) = some false)
    (ys1_5 : PySem.W.subIn K (.ref E1) (.ref E5) = some false)
    (ys2_0 : PySem.W.subIn K (.ref E2) (.ref E0) = some true)
    (ys2_1 : PySem.W.subIn K (.ref E2) (.ref E1) = some false)
    (ys2_3 : PySem.W.subIn K (.ref E2) (.ref E3) = some false)
    (ys2_4 : PySem.W.subIn K (.ref E2) (.ref E4) = some false)
    (ys2_5 : PySem.W.subIn K (.ref E2) (.ref E5) = some false)
    (ys3_0 : PySem.W.subIn K (.ref E3) (.ref E0) = some true)
    (ys3_1 : PySem.W.subIn K (.ref E3) (.ref E1) = some false)
    (ys3_2 : PySem.W.subIn K (.ref E3) (.ref E2) = some false)
    (ys3_4 : PySem.W.subIn K (.ref E3) (.ref E4) = some false)
    (ys3_5 : PySem.W.subIn K (.ref E3) (.ref E5) = some false)
    (ys4_0 : PySem.W.subIn K (.ref E4) (.ref E0) = some true)
    (ys4_1 : PySem.W.subIn K (.ref E4) (.ref E1) = some false)
    (ys4_2 : PySem.W.subIn K (.ref E4) (.ref E2) = some false)
    (ys4_3 : PySem.W.subIn K (.ref E4) (.ref E3) = some false)
    (ys4_5 : PySem.W.subIn K (.ref E4) (.ref E5) = some false)
    (ys5_0 : PySem.W.subIn K (.ref E5) (.ref E0) = some true)
    (ys5_1 : PySem.W.subIn K (.ref E5) (.ref E1) = some false)
    (ys5_2 : PySem.W.subIn K (.ref E5) (.ref E2) = some false)
    (ys5_3 : PySem.W.subIn K (.ref E5) (.ref E3) = some false)
    (ys5_4 : PySem.W.subIn K (.ref E5) (.ref E4) = some false)
    (Scaughta : PySem.W.nsIn K mainGlobals "caught" = some (some (.ref Scaught)))
    (ScaughtF : FunN K "caught" "caught" (top 43) Scaught Scaughtfd)
    (Scaughtk : PySem.W.keepIn K (.ref Scaught) = true)
    (Slawtolda : PySem.W.nsIn K mainGlobals "_law_told" = some (some (.ref Slawtold)))
    (SlawtoldF : FunN K "_law_told" "_law_told" (top 59) Slawtold Slawtoldfd)
    (Slawtoldk : PySem.W.keepIn K (.ref Slawtold) = true)
    (Slawworda : PySem.W.nsIn K mainGlobals "_law_word" = some (some (.ref Slawword)))
    (SlawwordF : FunN K "_law_word" "_law_word" (top 58) Slawword Slawwordfd)
    (Slawwordk : PySem.W.keepIn K (.ref Slawword) = true)
    (ysp : PySem.W.specialIn K (.builtin "object.__class__") "__get__" = some (some (.builtin "getset_descriptor.__get__")))
    (ytk : PySem.W.takesIn K (.builtin "object.__class__") = some true)
    (yve : PySem.W.nsIn K mainGlobals "ValueError" = some none) :
    OexC K E5 ∧ ∃ (fI : Addr) (fd : FuncData) (ps : List Str), PySem.W.findIn K (.ref E5) "__init__" = some (some (.ref fI)) ∧ PySem.W.typeIn K (.ref fI) = some (.type "function") ∧ Binds K fd ps [] ∧ FnOk P w K mg base (L2N.CX P w) 1 fI fd ps (spX E5) := by
  have XC5 : OexC K E5 := ⟨⟨_, _, _, _, _, _, _, _, _, _, _, _, _, _, _, xL5, xr5⟩, xs5, xb5, xt5, xk5⟩
  have XD5 : ∃ pa pb pc pd, C8.fnBody sx_5 = [.Assign [.Attribute (.Name "self" pa) "word" pb] (.Name "word" pc) pd] := ⟨_, _, _, _, rfl⟩
  have XE5 : Binds K xfd5 ["self", "word"] [] := by
    obtain ⟨_, _, _, _, _, _, _, _, _, e, _, _⟩ := xF5
    rw [e]
    exact .all fun us hl => match us, hl with | [_, _], _ => rfl
  have XI5 : ∃ (fI : Addr) (fd : FuncData) (ps : List Str), PySem.W.findIn K (.ref E5) "__init__" = some (some (.ref fI)) ∧ PySem.W.typeIn K (.ref fI) = some (.type "function") ∧ Binds K fd ps [] ∧ FnOk P w K mg base (L2N.CX P w) 1 fI fd ps (spX E5) := ⟨xf5, _, ["self", "word"], xI5, xJ5, XE5, x_ini XC5 xv5 xF5.fun XD5 (by decide +kernel) (by decide +kernel) (by decide +kernel)⟩
  exact ⟨XC5, XI5⟩
theorem sl_mk {h : Heap} {cA fA : Nat → Addr} {fD : Nat → FuncData} {tb : List (Addr × Str)} (X : K.In h) (G : h.Ns mainGlobals mg)
    {E0 : Addr}
    {E1 : Addr}
    {E2 : Addr}
    {E3 : Addr}
    {E4 : Addr}
    {E5 : Addr}
    {xn5 xq5 : Str} {xN5 xf5 : Addr} {xbs5 xbm5 xsub5 : List Value} {xsn5 : List Str} {xab5 : Bool} {xcol5 : Option Bool} {xdd5 : Option Addr} {xm05 xm15 xm25 xm35 xm55 : Option Value} {xfd5 : FuncData}
    {Scaught : Addr} {Scaughtfd : FuncData}
    {Slawtold : Addr} {Slawtoldfd : FuncData}
    {Slawword : Addr} {Slawwordfd : FuncData}
    (xa0 : PySem.W.nsIn K mainGlobals "FuseError" = some (some (.ref E0)))
    (xk0 : PySem.W.keepIn K (.ref E0) = true)
    (xb0 : PySem.W.subIn K (.ref E0) (.type "BaseException") = some true)
    (xt0 : PySem.W.typeIn K (.ref E0) = some (.type "type"))
    (yh0 : PySem.W.hasDictIn K E0 = true)
    (yg0 : PySem.W.findIn K (.ref E0) "__getattribute__" = some (some (.builtin "BaseException.__getattribute__")))
    (ya0 : PySem.W.findIn K (.ref E0) "__getattr__" = some none)
    (ys0_0 : PySem.W.subIn K (.ref E0) (.ref E0) = some true)
    (yc0 : PySem.W.findIn K (.ref E0) "__class__" = some (some (.builtin "object.__class__")))
    (ym0 : PySem.W.mroIn K E0 (.type "object") = some true)
    (yv0 : PySem.W.subIn K (.ref E0) (.type "ValueError") = some true)
    (xx0 : PySem.W.excIn K E0 [.type "ValueError", .type "Exception", .type "BaseException", .type "object"] "ValueError.__new__" = true)
    (xa1 : PySem.W.nsIn K mainGlobals "BadTerm" = some (some (.ref E1)))
    (xk1 : PySem.W.keepIn K (.ref E1) = true)
    (xb1 : PySem.W.subIn K (.ref E1) (.type "BaseException") = some true)
    (xt1 : PySem.W.typeIn K (.ref E1) = some (.type "type"))
    (yh1 : PySem.W.hasDictIn K E1 = true)
    (yg1 : PySem.W.findIn K (.ref E1) "__getattribute__" = some (some (.builtin "BaseException.__getattribute__")))
    (ya1 : PySem.W.findIn K (.ref E1) "__getattr__" = some none)
    (ys1_1 : PySem.W.subIn K (.ref E1) (.ref E1) = some true)
    (yc1 : PySem.W.findIn K (.ref E1) "__class__" = some (some (.builtin "object.__class__")))
    (ym1 : PySem.W.mroIn K E1 (.type "object") = some true)
    (yv1 : PySem.W.subIn K (.ref E1) (.type "ValueError") = some true)
    (xx1 : PySem.W.excIn K E1 [.type "ValueError", .type "Exception", .type "BaseException", .type "object"] "ValueError.__new__" = true)
    (xa2 : PySem.W.nsIn K mainGlobals "BadLine" = some (some (.ref E2)))
    (xk2 : PySem.W.keepIn K (.ref E2) = true)
    (xb2 : PySem.W.subIn K (.ref E2) (.type "BaseException") = some true)
    (xt2 : PySem.W.typeIn K (.ref E2) = some (.type "type"))
    (yh2 : PySem.W.hasDictIn K E2 = true)
    (yg2 : PySem.W.findIn K (.ref E2) "__getattribute__" = some (some (.builtin "BaseException.__getattribute__")))
    (ya2 : PySem.W.findIn K (.ref E2) "__getattr__" = some none)
    (ys2_2 : PySem.W.subIn K (.ref E2) (.ref E2) = some true)
    (yc2 : PySem.W.findIn K (.ref E2) "__class__" = some (some (.builtin "object.__class__")))
    (ym2 : PySem.W.mroIn K E2 (.type "object") = some true)
    (yv2 : PySem.W.subIn K (.ref E2) (.type "ValueError") = some true)
    (xx2 : PySem.W.excIn K E2 [.type "ValueError", .type "Exception", .type "BaseException", .type "object"] "ValueError.__new__" = true)
    (xa3 : PySem.W.nsIn K mainGlobals "BadText" = some (some (.ref E3)))
    (xk3 : PySem.W.keepIn K (.ref E3) = true)
    (xb3 : PySem.W.subIn K (.ref E3) (.type "BaseException") = some true)
    (xt3 : PySem.W.typeIn K (.ref E3) = some (.type "type"))
    (yh3 : PySem.W.hasDictIn K E3 = true)
    (yg3 : PySem.W.findIn K (.ref E3) "__getattribute__" = some (some (.builtin "BaseException.__getattribute__")))
    (ya3 : PySem.W.findIn K (.ref E3) "__getattr__" = some none)
    (ys3_3 : PySem.W.subIn K (.ref E3) (.ref E3) = some true)
    (yc3 : PySem.W.findIn K (.ref E3) "__class__" = some (some (.builtin "object.__class__")))
    (ym3 : PySem.W.mroIn K E3 (.type "object") = some true)
    (yv3 : PySem.W.subIn K (.ref E3) (.type "ValueError") = some true)
    (xx3 : PySem.W.excIn K E3 [.type "ValueError", .type "Exception", .type "BaseException", .type "object"] "ValueError.__new__" = true)
    (xa4 : PySem.W.nsIn K mainGlobals "BadStep" = some (some (.ref E4)))
    (xk4 : PySem.W.keepIn K (.ref E4) = true)
    (xb4 : PySem.W.subIn K (.ref E4) (.type "BaseException") = some true)
    (xt4 : PySem.W.typeIn K (.ref E4) = some (.type "type"))
    (yh4 : PySem.W.hasDictIn K E4 = true)
    (yg4 : PySem.W.findIn K (.ref E4) "__getattribute__" = some (some (.builtin "BaseException.__getattribute__")))
    (ya4 : PySem.W.findIn K (.ref E4) "__getattr__" = some none)
    (ys4_4 : PySem.W.subIn K (.ref E4) (.ref E4) = some true)
    (yc4 : PySem.W.findIn K (.ref E4) "__class__" = some (some (.builtin "object.__class__")))
    (ym4 : PySem.W.mroIn K E4 (.type "object") = some true)
    (yv4 : PySem.W.subIn K (.ref E4) (.type "ValueError") = some true)
    (xx4 : PySem.W.excIn K E4 [.type "ValueError", .type "Exception", .type "BaseException", .type "object"] "ValueError.__new__" = true)
    (xa5 : PySem.W.nsIn K mainGlobals "Fault" = some (some (.ref E5)))
    (xk5 : PySem.W.keepIn K (.ref E5) = true)
    (xb5 : PySem.W.subIn K (.ref E5) (.type "BaseException") = some true)
    (xt5 : PySem.W.typeIn K (.ref E5) = some (.type "type"))
    (yh5 : PySem.W.hasDictIn K E5 = true)
    (yg5 : PySem.W.findIn K (.ref E5) "__getattribute__" = some (some (.builtin "BaseException.__getattribute__")))
    (ya5 : PySem.W.findIn K (.ref E5) "__getattr__" = some none)
    (ys5_5 : PySem.W.subIn K (.ref E5) (.ref E5) = some true)
    (yc5 : PySem.W.findIn K (.ref E5) "__class__" = some (some (.builtin "object.__class__")))
    (ym5 : PySem.W.mroIn K E5 (.type "object") = some true)
    (yv5 : PySem.W.subIn K (.ref E5) (.type "ValueError") = some true)
    (xL5 : K.lookup E5 = some (excClassObj xn5 xq5 E5 xN5 xbs5 xbm5 true xsn5 xsub5 xab5 xcol5 xdd5 xm05 xm15 xm25 xm35 xm55 "ValueError.__new__"))
    (xr5 : PySem.HandSPX.refsVE xbm5 = true)
    (xs5 : PySem.W.findIn K (.ref E5) "__setattr__" = some (some (.builtin "object.__setattr__")))
    (xv5 : PySem.W.findIn K (.ref E5) "word" = some none)
    (xI5 : PySem.W.findIn K (.ref E5) "__init__" = some (some (.ref xf5)))
    (xJ5 : PySem.W.typeIn K (.ref xf5) = some (.type "function"))
    (xF5 : FunN K "__init__" "Fault.__init__" sx_5 xf5 xfd5)
    (ys0_1 : PySem.W.subIn K (.ref E0) (.ref E1) = some false)
    (ys0_2 : PySem.W.subIn K (.ref E0) (.ref E2) = some false)
    (ys0_3 : PySem.W.subIn K (.ref E0) (.ref E3) = some false)
    (ys0_4 : PySem.W.subIn K (.ref E0) (.ref E4) = some false)
    (ys0_5 : PySem.W.subIn K (.ref E0) (.ref E5) = some false)
    (ys1_0 : PySem.W.subIn K (.ref E1) (.ref E0) = some true)
    (ys1_2 : PySem.W.subIn K (.ref E1) (.ref E2) = some false)
    (ys1_3 : PySem.W.subIn K (.ref E1) (.ref E3) = some false)
    (ys1_4 : PySem.W.subIn K (.ref E1) (.ref E4) = some false)
    (ys1_5 : PySem.W.subIn K (.ref E1) (.ref E5) = some false)
    (ys2_0 : PySem.W.subIn K (.ref E2) (.ref E0) = some true)
    (ys2_1 : PySem.W.subIn K (.ref E2) (.ref E1) = some false)
    (ys2_3 : PySem.W.subIn K (.ref E2) (.ref E3) = some false)
    (ys2_4 : PySem.W.subIn K (.ref E2) (.ref E4) = some false)
    (ys2_5 : PySem.W.subIn K (.ref E2) (.ref E5) = some false)
    (ys3_0 : PySem.W.subIn K (.ref E3) (.ref E0) = some true)
    (ys3_1 : PySem.W.subIn K (.ref E3) (.ref E1) = some false)
    (ys3_2 : PySem.W.subIn K (.ref E3) (.ref E2) = some false)
    (ys3_4 : PySem.W.subIn K (.ref E3) (.ref E4) = some false)
    (ys3_5 : PySem.W.subIn K (.ref E3) (.ref E5) = some false)
    (ys4_0 : PySem.W.subIn K (.ref E4) (.ref E0) = some true)
    (ys4_1 : PySem.W.subIn K (.ref E4) (.ref E1) = some false)
    (ys4_2 : PySem.W.subIn K (.ref E4) (.ref E2) = some false)
    (ys4_3 : PySem.W.subIn K (.ref E4) (.ref E3) = some false)
    (ys4_5 : PySem.W.subIn K (.ref E4) (.ref E5) = some false)
    (ys5_0 : PySem.W.subIn K (.ref E5) (.ref E0) = some true)
    (ys5_1 : PySem.W.subIn K (.ref E5) (.ref E1) = some false)
    (ys5_2 : PySem.W.subIn K (.ref E5) (.ref E2) = some false)
    (ys5_3 : PySem.W.subIn K (.ref E5) (.ref E3) = some false)
    (ys5_4 : PySem.W.subIn K (.ref E5) (.ref E4) = some false)
    (Scaughta : PySem.W.nsIn K mainGlobals "caught" = some (some (.ref Scaught)))
    (ScaughtF : FunN K "caught" "caught" (top 43) Scaught Scaughtfd)
    (Scaughtk : PySem.W.keepIn K (.ref Scaught) = true)
    (Slawtolda : PySem.W.nsIn K mainGlobals "_law_told" = some (some (.ref Slawtold)))
    (SlawtoldF : FunN K "_law_told" "_law_told" (top 59) Slawtold Slawtoldfd)
    (Slawtoldk : PySem.W.keepIn K (.ref Slawtold) = true)
    (Slawworda : PySem.W.nsIn K mainGlobals "_law_word" = some (some (.ref Slawword)))
    (SlawwordF : FunN K "_law_word" "_law_word" (top 58) Slawword Slawwordfd)
    (Slawwordk : PySem.W.keepIn K (.ref Slawword) = true)
    (ysp : PySem.W.specialIn K (.builtin "object.__class__") "__get__" = some (some (.builtin "getset_descriptor.__get__")))
    (ytk : PySem.W.takesIn K (.builtin "object.__class__") = some true)
    (yve : PySem.W.nsIn K mainGlobals "ValueError" = some none)
    (z0 : PySem.W.nsIn K mainGlobals "len" = some none)
    (z1 : PySem.W.nsIn K mainGlobals "abs" = some none)
    (z2 : PySem.W.nsIn K mainGlobals "min" = some none)
    (z3 : PySem.W.nsIn K mainGlobals "max" = some none)
    (z4 : PySem.W.nsIn K mainGlobals "int" = some none)
    (z5 : PySem.W.nsIn K mainGlobals "str" = some none)
    (z6 : PySem.W.nsIn K mainGlobals "list" = some none)
    (z7 : PySem.W.nsIn K mainGlobals "tuple" = some none)
    (z8 : PySem.W.nsIn K mainGlobals "sum" = some none)
    (z9 : PySem.W.nsIn K mainGlobals "all" = some none)
    (z10 : PySem.W.nsIn K mainGlobals "isinstance" = some none)
    (z11 : PySem.W.nsIn K mainGlobals "range" = some none)
    (z12 : PySem.W.nsIn K mainGlobals "enumerate" = some none)
    (z13 : PySem.W.nsIn K mainGlobals "zip" = some none)
    (z14 : PySem.W.nsIn K mainGlobals "bool" = some none) :
    Lams (gd P w K mg base cA (fun i => ([E0, E1, E2, E3, E4, E5] : List Addr).getD i 0) fA fD tb) nm := by
  let eA : Nat → Addr := fun i => ([E0, E1, E2, E3, E4, E5] : List Addr).getD i 0
  have LC : CaughtOk (gd P w K mg base cA eA fA fD tb) := ⟨⟨_, _, _, PySem.W.mg_of X G Scaughta, Scaughtk, ScaughtF.fun, bd_Scaught ScaughtF, by decide +kernel⟩, PySem.W.mg_of X G xa5, PySem.W.exm_ref xb5 yh5 xt5 ys5_5, ⟨yg5, ya5, xb5, yh5⟩, xv5⟩
  have WF : WordFacts (gd P w K mg base cA eA fA fD tb) := {
    ex := ⟨_, _, _, PySem.W.mg_of X G Slawworda, Slawwordk, SlawwordF.fun, bd_Slawword SlawwordF, by decide +kernel⟩
    cls := fun c kx e => match c, e with
      | 0, e => by
        cases e
        refine ⟨wexc_of yh0 yg0 ya0 xb0 yc0 ysp ytk ym0, kit_ve yv0, fun nm hn => ?_⟩
        simp only [five, List.mem_cons, List.not_mem_nil, or_false] at hn
        rcases hn with rfl | rfl | rfl | rfl | rfl
        · exact ⟨E2, PySem.W.mg_of X G xa2, (kit_of yh2 xt2 ys0_0 ys0_2).trans (by decide +kernel)⟩
        · exact ⟨E4, PySem.W.mg_of X G xa4, (kit_of yh4 xt4 ys0_0 ys0_4).trans (by decide +kernel)⟩
        · exact ⟨E1, PySem.W.mg_of X G xa1, (kit_of yh1 xt1 ys0_0 ys0_1).trans (by decide +kernel)⟩
        · exact ⟨E3, PySem.W.mg_of X G xa3, (kit_of yh3 xt3 ys0_0 ys0_3).trans (by decide +kernel)⟩
        · exact ⟨E5, PySem.W.mg_of X G xa5, (kit_of yh5 xt5 ys0_0 ys0_5).trans (by decide +kernel)⟩
      | 1, e => by
        cases e
        refine ⟨wexc_of yh1 yg1 ya1 xb1 yc1 ysp ytk ym1, kit_ve yv1, fun nm hn => ?_⟩
        simp only [five, List.mem_cons, List.not_mem_nil, or_false] at hn
        rcases hn with rfl | rfl | rfl | rfl | rfl
        · exact ⟨E2, PySem.W.mg_of X G xa2, (kit_of yh2 xt2 ys1_1 ys1_2).trans (by decide +kernel)⟩
        · exact ⟨E4, PySem.W.mg_of X G xa4, (kit_of yh4 xt4 ys1_1 ys1_4).trans (by decide +kernel)⟩
        · exact ⟨E1, PySem.W.mg_of X G xa1, (kit_of yh1 xt1 ys1_1 ys1_1).trans (by decide +kernel)⟩
        · exact ⟨E3, PySem.W.mg_of X G xa3, (kit_of yh3 xt3 ys1_1 ys1_3).trans (by decide +kernel)⟩
        · exact ⟨E5, PySem.W.mg_of X G xa5, (kit_of yh5 xt5 ys1_1 ys1_5).trans (by decide +kernel)⟩
      | 2, e => by
        cases e
        refine ⟨wexc_of yh2 yg2 ya2 xb2 yc2 ysp ytk ym2, kit_ve yv2, fun nm hn => ?_⟩
        simp only [five, List.mem_cons, List.not_mem_nil, or_false] at hn
        rcases hn with rfl | rfl | rfl | rfl | rfl
        · exact ⟨E2, PySem.W.mg_of X G xa2, (kit_of yh2 xt2 ys2_2 ys2_2).trans (by decide +kernel)⟩
        · exact ⟨E4, PySem.W.mg_of X G xa4, (kit_of yh4 xt4 ys2_2 ys2_4).trans (by decide +kernel)⟩
        · exact ⟨E1, PySem.W.mg_of X G xa1, (kit_of yh1 xt1 ys2_2 ys2_1).trans (by decide +kernel)⟩
        · exact ⟨E3, PySem.W.mg_of X G xa3, (kit_of yh3 xt3 ys2_2 ys2_3).trans (by decide +kernel)⟩
        · exact ⟨E5, PySem.W.mg_of X G xa5, (kit_of yh5 xt5 ys2_2 ys2_5).trans (by decide +kernel)⟩
      | 3, e => by
        cases e
        refine ⟨wexc_of yh3 yg3 ya3 xb3 yc3 ysp ytk ym3, kit_ve yv3, fun nm hn => ?_⟩
        simp only [five, List.mem_cons, List.not_mem_nil, or_false] at hn
        rcases hn with rfl | rfl | rfl | rfl | rfl
        · exact ⟨E2, PySem.W.mg_of X G xa2, (kit_of yh2 xt2 ys3_3 ys3_2).trans (by decide +kernel)⟩
        · exact ⟨E4, PySem.W.mg_of X G xa4, (kit_of yh4 xt4 ys3_3 ys3_4).trans (by decide +kernel)⟩
        · exact ⟨E1, PySem.W.mg_of X G xa1, (kit_of yh1 xt1 ys3_3 ys3_1).trans (by decide +kernel)⟩
        · exact ⟨E3, PySem.W.mg_of X G xa3, (kit_of yh3 xt3 ys3_3 ys3_3).trans (by decide +kernel)⟩
        · exact ⟨E5, PySem.W.mg_of X G xa5, (kit_of yh5 xt5 ys3_3 ys3_5).trans (by decide +kernel)⟩
      | 4, e => by
        cases e
        refine ⟨wexc_of yh4 yg4 ya4 xb4 yc4 ysp ytk ym4, kit_ve yv4, fun nm hn => ?_⟩
        simp only [five, List.mem_cons, List.not_mem_nil, or_false] at hn
        rcases hn with rfl | rfl | rfl | rfl | rfl
        · exact ⟨E2, PySem.W.mg_of X G xa2, (kit_of yh2 xt2 ys4_4 ys4_2).trans (by decide +kernel)⟩
        · exact ⟨E4, PySem.W.mg_of X G xa4, (kit_of yh4 xt4 ys4_4 ys4_4).trans (by decide +kernel)⟩
        · exact ⟨E1, PySem.W.mg_of X G xa1, (kit_of yh1 xt1 ys4_4 ys4_1).trans (by decide +kernel)⟩
        · exact ⟨E3, PySem.W.mg_of X G xa3, (kit_of yh3 xt3 ys4_4 ys4_3).trans (by decide +kernel)⟩
        · exact ⟨E5, PySem.W.mg_of X G xa5, (kit_of yh5 xt5 ys4_4 ys4_5).trans (by decide +kernel)⟩
      | 5, e => by
        cases e
        refine ⟨wexc_of yh5 yg5 ya5 xb5 yc5 ysp ytk ym5, kit_ve yv5, fun nm hn => ?_⟩
        simp only [five, List.mem_cons, List.not_mem_nil, or_false] at hn
        rcases hn with rfl | rfl | rfl | rfl | rfl
        · exact ⟨E2, PySem.W.mg_of X G xa2, (kit_of yh2 xt2 ys5_5 ys5_2).trans (by decide +kernel)⟩
        · exact ⟨E4, PySem.W.mg_of X G xa4, (kit_of yh4 xt4 ys5_5 ys5_4).trans (by decide +kernel)⟩
        · exact ⟨E1, PySem.W.mg_of X G xa1, (kit_of yh1 xt1 ys5_5 ys5_1).trans (by decide +kernel)⟩
        · exact ⟨E3, PySem.W.mg_of X G xa3, (kit_of yh3 xt3 ys5_5 ys5_3).trans (by decide +kernel)⟩
        · exact ⟨E5, PySem.W.mg_of X G xa5, (kit_of yh5 xt5 ys5_5 ys5_5).trans (by decide +kernel)⟩
      | n + 6, e => by simp [prog] at e
    word := fun c kx e h => match c, e with
      | 0, e => by
        cases e
        exact absurd h (by decide)
      | 1, e => by
        cases e
        exact absurd h (by decide)
      | 2, e => by
        cases e
        exact absurd h (by decide)
      | 3, e => by
        cases e
        exact absurd h (by decide)
      | 4, e => by
        cases e
        exact absurd h (by decide)
      | 5, e => by
        cases e
        exact ⟨⟨yg5, ya5, xb5, yh5⟩, xv5⟩
      | n + 6, e => by simp [prog] at e
    blt := ⟨PySem.W.mg_none_of X G z10, PySem.W.mg_none_of X G z8, PySem.W.mg_none_of X G z4, PySem.W.mg_none_of X G yve⟩ }
  have LT : ToldOk (gd P w K mg base cA eA fA fD tb) := ⟨⟨_, _, _, PySem.W.mg_of X G Slawtolda, Slawtoldk, SlawtoldF.fun, bd_Slawtold SlawtoldF, by decide +kernel⟩, ⟨E0, PySem.W.mg_of X G xa0, fun c kx e => match c, e with
      | 0, e => PySem.W.exm_ref xb0 yh0 xt0 ys0_0
      | 1, e => PySem.W.exm_ref xb0 yh0 xt0 ys1_0
      | 2, e => PySem.W.exm_ref xb0 yh0 xt0 ys2_0
      | 3, e => PySem.W.exm_ref xb0 yh0 xt0 ys3_0
      | 4, e => PySem.W.exm_ref xb0 yh0 xt0 ys4_0
      | 5, e => PySem.W.exm_ref xb0 yh0 xt0 ys5_0
      | n + 6, e => by simp [prog] at e⟩, word_ok WF⟩
  exact ⟨(fun _ => LT), (fun _ => LC), (fun _ c kx e => match c, e with
      | 0, e => PySem.W.exm_ref xb0 yh0 xt0 ys0_0
      | 1, e => PySem.W.exm_ref xb1 yh1 xt1 ys1_1
      | 2, e => PySem.W.exm_ref xb2 yh2 xt2 ys2_2
      | 3, e => PySem.W.exm_ref xb3 yh3 xt3 ys3_3
      | 4, e => PySem.W.exm_ref xb4 yh4 xt4 ys4_4
      | 5, e => PySem.W.exm_ref xb5 yh5 xt5 ys5_5
      | n + 6, e => by simp [prog] at e)⟩
theorem all_mk {l : PySem.W.OpenLaw} {h : Heap} {fa : Addr} (X : K.In h) (G : h.Ns mainGlobals mg) (hfa : mg "law" = some (.ref fa))
    {f0 : Addr} {fd0 : FuncData}
    {f1 : Addr} {fd1 : FuncData}
    {f2 : Addr} {fd2 : FuncData}
    {f3 : Addr} {fd3 : FuncData}
    {f4 : Addr} {fd4 : FuncData}
    {f5 : Addr} {fd5 : FuncData}
    {f6 : Addr} {fd6 : FuncData}
    {f7 : Addr} {fd7 : FuncData}
    {f8 : Addr} {fd8 : FuncData}
    {f9 : Addr} {fd9 : FuncData}
    {f10 : Addr} {fd10 : FuncData}
    {f11 : Addr} {fd11 : FuncData}
    {f12 : Addr} {fd12 : FuncData}
    {f13 : Addr} {fd13 : FuncData}
    {f14 : Addr} {fd14 : FuncData}
    {f15 : Addr} {fd15 : FuncData}
    {f16 : Addr} {fd16 : FuncData}
    {f17 : Addr} {fd17 : FuncData}
    {f18 : Addr} {fd18 : FuncData}
    {f19 : Addr} {fd19 : FuncData}
    {f20 : Addr} {fd20 : FuncData}
    {f21 : Addr} {fd21 : FuncData}
    {lc21 lP21 : Addr} {ltc21 : Value} {ltd21 : Option Addr} {ltv21 : Array Value} {lts21 : Array (Option Value)}
    {f22 : Addr} {fd22 : FuncData}
    {f23 : Addr} {fd23 : FuncData}
    {f24 : Addr} {fd24 : FuncData}
    {f25 : Addr} {fd25 : FuncData}
    {f26 : Addr} {fd26 : FuncData}
    {f27 : Addr} {fd27 : FuncData}
    {f28 : Addr} {fd28 : FuncData}
    {f29 : Addr} {fd29 : FuncData}
    {f30 : Addr} {fd30 : FuncData}
    {f31 : Addr} {fd31 : FuncData}
    {f32 : Addr} {fd32 : FuncData}
    {f33 : Addr} {fd33 : FuncData}
    {f34 : Addr} {fd34 : FuncData}
    {f35 : Addr} {fd35 : FuncData}
    {lc35 lP35 : Addr} {ltc35 : Value} {ltd35 : Option Addr} {ltv35 : Array Value} {lts35 : Array (Option Value)}
    {u0 : Tok}
    {u1 : Tok}
    {u2 : Tok}
    {u3 : Tok}
    {u4 : Tok}
    {u5 : Tok}
    {u6 : Tok}
    {u7 : Tok}
    {u8 : Tok}
    {t9 : Addr} {td9 : Option Addr} {tn9 : Nat} {ts9 : Array (Option Value)}
    {u10 : Tok}
    {u11 : Tok}
    {u12 : Tok}
    {u13 : Tok}
    {u14 : Tok}
    {u15 : Tok}
    {u16 : Tok}
    {u17 : Tok}
    {t18 : Addr} {tn18 : Nat} {h18_0 h18_1 h18_2 h18_3 : Int}
    {u19 : Tok}
    {u20 : Tok}
    {u21 : Tok}
    {u22 : Tok}
    {u23 : Tok}
    {u24 : Tok}
    {u25 : Tok}
    {u26 : Tok}
    {u27 : Tok}
    {t28 : Addr} {td28 : Option Addr} {tn28 : Nat} {ts28 : Array (Option Value)}
    {u29 : Tok}
    {u30 : Tok}
    {u31 : Tok}
    {t32 : Addr} {td32 : Option Addr} {tn32 : Nat} {ts32 : Array (Option Value)}
    {u33 : Tok}
    {u34 : Tok}
    {t35 : Addr} {td35 : Option Addr} {tn35 : Nat} {ts35 : Array (Option Value)}
    {u36 : Tok}
    {u37 : Tok}
    {t38 : Addr} {td38 : Option Addr} {tn38 : Nat} {ts38 : Array (Option Value)}
    {t39 : Addr} {tn39 : Nat} {h39_0 h39_1 h39_2 h39_3 : Int}
    {u40 : Tok}
    {u41 : Tok}
    {u42 : Tok}
    {u43 : Tok}
    {u44 : Tok}
    {u45 : Tok}
    {u46 : Tok}
    {u47 : Tok}
    {u48 : Tok}
    {u49 : Tok}
    {u50 : Tok}
    {u51 : Tok}
    {u52 : Tok}
    {u53 : Tok}
    {t54 : Addr} {tn54 : Nat} {h54_0 h54_1 h54_2 h54_3 h54_4 h54_5 h54_6 : Int}
    {u55 : Tok}
    {u56 : Tok}
    {u57 : Tok}
    {u58 : Tok}
    {u59 : Tok}
    {u60 : Tok}
    {u61 : Tok}
    {u62 : Tok}
    {u63 : Tok}
    {u64 : Tok}
    {u65 : Tok}
    {u66 : Tok}
    {u67 : Tok}
    {u68 : Tok}
    {u69 : Tok}
    {u70 : Tok}
    {t71 : Addr} {tn71 : Nat} {h71_0 h71_1 h71_2 h71_3 h71_4 h71_5 h71_6 h71_7 : Int}
    {E0 : Addr}
    {E1 : Addr}
    {E2 : Addr}
    {E3 : Addr}
    {E4 : Addr}
    {E5 : Addr}
    {xn5 xq5 : Str} {xN5 xf5 : Addr} {xbs5 xbm5 xsub5 : List Value} {xsn5 : List Str} {xab5 : Bool} {xcol5 : Option Bool} {xdd5 : Option Addr} {xm05 xm15 xm25 xm35 xm55 : Option Value} {xfd5 : FuncData}
    {Scaught : Addr} {Scaughtfd : FuncData}
    {Slawtold : Addr} {Slawtoldfd : FuncData}
    {Slawword : Addr} {Slawwordfd : FuncData}
    (xa0 : PySem.W.nsIn K mainGlobals "FuseError" = some (some (.ref E0)))
    (xk0 : PySem.W.keepIn K (.ref E0) = true)
    (xb0 : PySem.W.subIn K (.ref E0) (.type "BaseException") = some true)
    (xt0 : PySem.W.typeIn K (.ref E0) = some (.type "type"))
    (yh0 : PySem.W.hasDictIn K E0 = true)
    (yg0 : PySem.W.findIn K (.ref E0) "__getattribute__" = some (some (.builtin "BaseException.__getattribute__")))
    (ya0 : PySem.W.findIn K (.ref E0) "__getattr__" = some none)
    (ys0_0 : PySem.W.subIn K (.ref E0) (.ref E0) = some true)
    (yc0 : PySem.W.findIn K (.ref E0) "__class__" = some (some (.builtin "object.__class__")))
    (ym0 : PySem.W.mroIn K E0 (.type "object") = some true)
    (yv0 : PySem.W.subIn K (.ref E0) (.type "ValueError") = some true)
    (xx0 : PySem.W.excIn K E0 [.type "ValueError", .type "Exception", .type "BaseException", .type "object"] "ValueError.__new__" = true)
    (xa1 : PySem.W.nsIn K mainGlobals "BadTerm" = some (some (.ref E1)))
    (xk1 : PySem.W.keepIn K (.ref E1) = true)
    (xb1 : PySem.W.subIn K (.ref E1) (.type "BaseException") = some true)
    (xt1 : PySem.W.typeIn K (.ref E1) = some (.type "type"))
    (yh1 : PySem.W.hasDictIn K E1 = true)
    (yg1 : PySem.W.findIn K (.ref E1) "__getattribute__" = some (some (.builtin "BaseException.__getattribute__")))
    (ya1 : PySem.W.findIn K (.ref E1) "__getattr__" = some none)
    (ys1_1 : PySem.W.subIn K (.ref E1) (.ref E1) = some true)
    (yc1 : PySem.W.findIn K (.ref E1) "__class__" = some (some (.builtin "object.__class__")))
    (ym1 : PySem.W.mroIn K E1 (.type "object") = some true)
    (yv1 : PySem.W.subIn K (.ref E1) (.type "ValueError") = some true)
    (xx1 : PySem.W.excIn K E1 [.type "ValueError", .type "Exception", .type "BaseException", .type "object"] "ValueError.__new__" = true)
    (xa2 : PySem.W.nsIn K mainGlobals "BadLine" = some (some (.ref E2)))
    (xk2 : PySem.W.keepIn K (.ref E2) = true)
    (xb2 : PySem.W.subIn K (.ref E2) (.type "BaseException") = some true)
    (xt2 : PySem.W.typeIn K (.ref E2) = some (.type "type"))
    (yh2 : PySem.W.hasDictIn K E2 = true)
    (yg2 : PySem.W.findIn K (.ref E2) "__getattribute__" = some (some (.builtin "BaseException.__getattribute__")))
    (ya2 : PySem.W.findIn K (.ref E2) "__getattr__" = some none)
    (ys2_2 : PySem.W.subIn K (.ref E2) (.ref E2) = some true)
    (yc2 : PySem.W.findIn K (.ref E2) "__class__" = some (some (.builtin "object.__class__")))
    (ym2 : PySem.W.mroIn K E2 (.type "object") = some true)
    (yv2 : PySem.W.subIn K (.ref E2) (.type "ValueError") = some true)
    (xx2 : PySem.W.excIn K E2 [.type "ValueError", .type "Exception", .type "BaseException", .type "object"] "ValueError.__new__" = true)
    (xa3 : PySem.W.nsIn K mainGlobals "BadText" = some (some (.ref E3)))
    (xk3 : PySem.W.keepIn K (.ref E3) = true)
    (xb3 : PySem.W.subIn K (.ref E3) (.type "BaseException") = some true)
    (xt3 : PySem.W.typeIn K (.ref E3) = some (.type "type"))
    (yh3 : PySem.W.hasDictIn K E3 = true)
    (yg3 : PySem.W.findIn K (.ref E3) "__getattribute__" = some (some (.builtin "BaseException.__getattribute__")))
    (ya3 : PySem.W.findIn K (.ref E3) "__getattr__" = some none)
    (ys3_3 : PySem.W.subIn K (.ref E3) (.ref E3) = some true)
    (yc3 : PySem.W.findIn K (.ref E3) "__class__" = some (some (.builtin "object.__class__")))
    (ym3 : PySem.W.mroIn K E3 (.type "object") = some true)
    (yv3 : PySem.W.subIn K (.ref E3) (.type "ValueError") = some true)
    (xx3 : PySem.W.excIn K E3 [.type "ValueError", .type "Exception", .type "BaseException", .type "object"] "ValueError.__new__" = true)
    (xa4 : PySem.W.nsIn K mainGlobals "BadStep" = some (some (.ref E4)))
    (xk4 : PySem.W.keepIn K (.ref E4) = true)
    (xb4 : PySem.W.subIn K (.ref E4) (.type "BaseException") = some true)
    (xt4 : PySem.W.typeIn K (.ref E4) = some (.type "type"))
    (yh4 : PySem.W.hasDictIn K E4 = true)
    (yg4 : PySem.W.findIn K (.ref E4) "__getattribute__" = some (some (.builtin "BaseException.__getattribute__")))
    (ya4 : PySem.W.findIn K (.ref E4) "__getattr__" = some none)
    (ys4_4 : PySem.W.subIn K (.ref E4) (.ref E4) = some true)
    (yc4 : PySem.W.findIn K (.ref E4) "__class__" = some (some (.builtin "object.__class__")))
    (ym4 : PySem.W.mroIn K E4 (.type "object") = some true)
    (yv4 : PySem.W.subIn K (.ref E4) (.type "ValueError") = some true)
    (xx4 : PySem.W.excIn K E4 [.type "ValueError", .type "Exception", .type "BaseException", .type "object"] "ValueError.__new__" = true)
    (xa5 : PySem.W.nsIn K mainGlobals "Fault" = some (some (.ref E5)))
    (xk5 : PySem.W.keepIn K (.ref E5) = true)
    (xb5 : PySem.W.subIn K (.ref E5) (.type "BaseException") = some true)
    (xt5 : PySem.W.typeIn K (.ref E5) = some (.type "type"))
    (yh5 : PySem.W.hasDictIn K E5 = true)
    (yg5 : PySem.W.findIn K (.ref E5) "__getattribute__" = some (some (.builtin "BaseException.__getattribute__")))
    (ya5 : PySem.W.findIn K (.ref E5) "__getattr__" = some none)
    (ys5_5 : PySem.W.subIn K (.ref E5) (.ref E5) = some true)
    (yc5 : PySem.W.findIn K (.ref E5) "__class__" = some (some (.builtin "object.__class__")))
    (ym5 : PySem.W.mroIn K E5 (.type "object") = some true)
    (yv5 : PySem.W.subIn K (.ref E5) (.type "ValueError") = some true)
    (xL5 : K.lookup E5 = some (excClassObj xn5 xq5 E5 xN5 xbs5 xbm5 true xsn5 xsub5 xab5 xcol5 xdd5 xm05 xm15 xm25 xm35 xm55 "ValueError.__new__"))
    (xr5 : PySem.HandSPX.refsVE xbm5 = true)
    (xs5 : PySem.W.findIn K (.ref E5) "__setattr__" = some (some (.builtin "object.__setattr__")))
    (xv5 : PySem.W.findIn K (.ref E5) "word" = some none)
    (xI5 : PySem.W.findIn K (.ref E5) "__init__" = some (some (.ref xf5)))
    (xJ5 : PySem.W.typeIn K (.ref xf5) = some (.type "function"))
    (xF5 : FunN K "__init__" "Fault.__init__" sx_5 xf5 xfd5)
    (ys0_1 : PySem.W.subIn K (.ref E0) (.ref E1) = some false)
    (ys0_2 : PySem.W.subIn K (.ref E0) (.ref E2) = some false)
    (ys0_3 : PySem.W.subIn K (.ref E0) (.ref E3) = some false)
    (ys0_4 : PySem.W.subIn K (.ref E0) (.ref E4) = some false)
    (ys0_5 : PySem.W.subIn K (.ref E0) (.ref E5) = some false)
    (ys1_0 : PySem.W.subIn K (.ref E1) (.ref E0) = some true)
    (ys1_2 : PySem.W.subIn K (.ref E1) (.ref E2) = some false)
    (ys1_3 : PySem.W.subIn K (.ref E1) (.ref E3) = some false)
    (ys1_4 : PySem.W.subIn K (.ref E1) (.ref E4) = some false)
    (ys1_5 : PySem.W.subIn K (.ref E1) (.ref E5) = some false)
    (ys2_0 : PySem.W.subIn K (.ref E2) (.ref E0) = some true)
    (ys2_1 : PySem.W.subIn K (.ref E2) (.ref E1) = some false)
    (ys2_3 : PySem.W.subIn K (.ref E2) (.ref E3) = some false)
    (ys2_4 : PySem.W.subIn K (.ref E2) (.ref E4) = some false)
    (ys2_5 : PySem.W.subIn K (.ref E2) (.ref E5) = some false)
    (ys3_0 : PySem.W.subIn K (.ref E3) (.ref E0) = some true)
    (ys3_1 : PySem.W.subIn K (.ref E3) (.ref E1) = some false)
    (ys3_2 : PySem.W.subIn K (.ref E3) (.ref E2) = some false)
    (ys3_4 : PySem.W.subIn K (.ref E3) (.ref E4) = some false)
    (ys3_5 : PySem.W.subIn K (.ref E3) (.ref E5) = some false)
    (ys4_0 : PySem.W.subIn K (.ref E4) (.ref E0) = some true)
    (ys4_1 : PySem.W.subIn K (.ref E4) (.ref E1) = some false)
    (ys4_2 : PySem.W.subIn K (.ref E4) (.ref E2) = some false)
    (ys4_3 : PySem.W.subIn K (.ref E4) (.ref E3) = some false)
    (ys4_5 : PySem.W.subIn K (.ref E4) (.ref E5) = some false)
    (ys5_0 : PySem.W.subIn K (.ref E5) (.ref E0) = some true)
    (ys5_1 : PySem.W.subIn K (.ref E5) (.ref E1) = some false)
    (ys5_2 : PySem.W.subIn K (.ref E5) (.ref E2) = some false)
    (ys5_3 : PySem.W.subIn K (.ref E5) (.ref E3) = some false)
    (ys5_4 : PySem.W.subIn K (.ref E5) (.ref E4) = some false)
    (Scaughta : PySem.W.nsIn K mainGlobals "caught" = some (some (.ref Scaught)))
    (ScaughtF : FunN K "caught" "caught" (top 43) Scaught Scaughtfd)
    (Scaughtk : PySem.W.keepIn K (.ref Scaught) = true)
    (Slawtolda : PySem.W.nsIn K mainGlobals "_law_told" = some (some (.ref Slawtold)))
    (SlawtoldF : FunN K "_law_told" "_law_told" (top 59) Slawtold Slawtoldfd)
    (Slawtoldk : PySem.W.keepIn K (.ref Slawtold) = true)
    (Slawworda : PySem.W.nsIn K mainGlobals "_law_word" = some (some (.ref Slawword)))
    (SlawwordF : FunN K "_law_word" "_law_word" (top 58) Slawword Slawwordfd)
    (Slawwordk : PySem.W.keepIn K (.ref Slawword) = true)
    (ysp : PySem.W.specialIn K (.builtin "object.__class__") "__get__" = some (some (.builtin "getset_descriptor.__get__")))
    (ytk : PySem.W.takesIn K (.builtin "object.__class__") = some true)
    (yve : PySem.W.nsIn K mainGlobals "ValueError" = some none)
    (a0 : PySem.W.nsIn K mainGlobals "need_terms" = some (some (.ref f0)))
    (F0 : FunN K "need" "need" st_0 f0 fd0)
    (k0 : PySem.W.keepIn K (.ref f0) = true)
    (a1 : PySem.W.nsIn K mainGlobals "is_number" = some (some (.ref f1)))
    (F1 : FunN K "is_number" "is_number" st_1 f1 fd1)
    (k1 : PySem.W.keepIn K (.ref f1) = true)
    (a2 : PySem.W.nsIn K mainGlobals "need_deep" = some (some (.ref f2)))
    (F2 : FunN K "need_deep" "need_deep" st_2 f2 fd2)
    (k2 : PySem.W.keepIn K (.ref f2) = true)
    (a3 : PySem.W.nsIn K mainGlobals "need_term" = some (some (.ref f3)))
    (F3 : FunN K "need_term" "need_term" st_3 f3 fd3)
    (k3 : PySem.W.keepIn K (.ref f3) = true)
    (a4 : PySem.W.nsIn K mainGlobals "bounded" = some (some (.ref f4)))
    (F4 : FunN K "bounded" "bounded" st_4 f4 fd4)
    (k4 : PySem.W.keepIn K (.ref f4) = true)
    (a5 : PySem.W.nsIn K mainGlobals "two" = some (some (.ref f5)))
    (F5 : FunN K "two" "two" st_5 f5 fd5)
    (k5 : PySem.W.keepIn K (.ref f5) = true)
    (a6 : PySem.W.nsIn K mainGlobals "done" = some (some (.ref f6)))
    (F6 : FunN K "done" "done" st_6 f6 fd6)
    (k6 : PySem.W.keepIn K (.ref f6) = true)
    (a7 : PySem.W.nsIn K mainGlobals "need_lines" = some (some (.ref f7)))
    (F7 : FunN K "need" "need" st_7 f7 fd7)
    (k7 : PySem.W.keepIn K (.ref f7) = true)
    (a8 : PySem.W.nsIn K mainGlobals "is_count" = some (some (.ref f8)))
    (F8 : FunN K "is_count" "is_count" st_8 f8 fd8)
    (k8 : PySem.W.keepIn K (.ref f8) = true)
    (a9 : PySem.W.nsIn K mainGlobals "look_term" = some (some (.ref f9)))
    (F9 : FunN K "look_term" "look_term" st_9 f9 fd9)
    (k9 : PySem.W.keepIn K (.ref f9) = true)
    (a10 : PySem.W.nsIn K mainGlobals "look_maker" = some (some (.ref f10)))
    (F10 : FunN K "look_maker" "look_maker" st_10 f10 fd10)
    (k10 : PySem.W.keepIn K (.ref f10) = true)
    (a11 : PySem.W.nsIn K mainGlobals "look_step" = some (some (.ref f11)))
    (F11 : FunN K "look_step" "look_step" st_11 f11 fd11)
    (k11 : PySem.W.keepIn K (.ref f11) = true)
    (a12 : PySem.W.nsIn K mainGlobals "look_deep" = some (some (.ref f12)))
    (F12 : FunN K "look_deep" "look_deep" st_12 f12 fd12)
    (k12 : PySem.W.keepIn K (.ref f12) = true)
    (a13 : PySem.W.nsIn K mainGlobals "look_line" = some (some (.ref f13)))
    (F13 : FunN K "look_line" "look_line" st_13 f13 fd13)
    (k13 : PySem.W.keepIn K (.ref f13) = true)
    (a14 : PySem.W.nsIn K mainGlobals "look_end" = some (some (.ref f14)))
    (F14 : FunN K "look_end" "look_end" st_14 f14 fd14)
    (k14 : PySem.W.keepIn K (.ref f14) = true)
    (a15 : PySem.W.nsIn K mainGlobals "made" = some (some (.ref f15)))
    (F15 : FunN K "made" "made" st_15 f15 fd15)
    (k15 : PySem.W.keepIn K (.ref f15) = true)
    (a16 : PySem.W.nsIn K mainGlobals "as_far" = some (some (.ref f16)))
    (F16 : FunN K "as_far" "as_far" st_16 f16 fd16)
    (k16 : PySem.W.keepIn K (.ref f16) = true)
    (a17 : PySem.W.nsIn K mainGlobals "scanned" = some (some (.ref f17)))
    (F17 : FunN K "scanned" "scanned" st_17 f17 fd17)
    (k17 : PySem.W.keepIn K (.ref f17) = true)
    (a18 : PySem.W.nsIn K mainGlobals "stepped" = some (some (.ref f18)))
    (F18 : FunN K "stepped" "stepped" st_18 f18 fd18)
    (k18 : PySem.W.keepIn K (.ref f18) = true)
    (a19 : PySem.W.nsIn K mainGlobals "row_of" = some (some (.ref f19)))
    (F19 : FunN K "row_of" "row_of" st_19 f19 fd19)
    (k19 : PySem.W.keepIn K (.ref f19) = true)
    (a20 : PySem.W.nsIn K mainGlobals "ended" = some (some (.ref f20)))
    (F20 : FunN K "ended" "ended" st_20 f20 fd20)
    (k20 : PySem.W.keepIn K (.ref f20) = true)
    (a21 : PySem.W.nsIn K mainGlobals "run" = some (some (.ref f21)))
    (F21 : FunN K "run" "run" st_21 f21 fd21)
    (le21 : fd21.code = .ref lc21)
    (lt21 : K.lookup lc21 = some ⟨ltc21, ltd21, .fields ltv21, lts21⟩)
    (lp21 : ltv21[11]? = some (.ref lP21))
    (lh21 : PySem.W.codeHdIn K lc21 lP21 = true)
    (ln21 : K.lookup lP21 = none)
    (lg21 : h.get? lP21 = some (PySem.W.tabObj #[]))
    (k21 : PySem.W.keepIn K (.ref f21) = true)
    (a22 : PySem.W.nsIn K mainGlobals "strength" = some (some (.ref f22)))
    (F22 : FunN K "strength" "strength" st_22 f22 fd22)
    (k22 : PySem.W.keepIn K (.ref f22) = true)
    (a23 : PySem.W.nsIn K mainGlobals "within" = some (some (.ref f23)))
    (F23 : FunN K "within" "within" st_23 f23 fd23)
    (k23 : PySem.W.keepIn K (.ref f23) = true)
    (a24 : PySem.W.nsIn K mainGlobals "term_text" = some (some (.ref f24)))
    (F24 : FunN K "term_text" "term_text" st_24 f24 fd24)
    (k24 : PySem.W.keepIn K (.ref f24) = true)
    (a25 : PySem.W.nsIn K mainGlobals "maker_text" = some (some (.ref f25)))
    (F25 : FunN K "maker_text" "maker_text" st_25 f25 fd25)
    (k25 : PySem.W.keepIn K (.ref f25) = true)
    (a26 : PySem.W.nsIn K mainGlobals "step_text" = some (some (.ref f26)))
    (F26 : FunN K "step_text" "step_text" st_26 f26 fd26)
    (k26 : PySem.W.keepIn K (.ref f26) = true)
    (a27 : PySem.W.nsIn K mainGlobals "line_text" = some (some (.ref f27)))
    (F27 : FunN K "line_text" "line_text" st_27 f27 fd27)
    (k27 : PySem.W.keepIn K (.ref f27) = true)
    (a28 : PySem.W.nsIn K mainGlobals "written" = some (some (.ref f28)))
    (F28 : FunN K "written" "written" st_28 f28 fd28)
    (k28 : PySem.W.keepIn K (.ref f28) = true)
    (a29 : PySem.W.nsIn K mainGlobals "_law_cell" = some (some (.ref f29)))
    (F29 : FunN K "_law_cell" "_law_cell" st_29 f29 fd29)
    (k29 : PySem.W.keepIn K (.ref f29) = true)
    (a30 : PySem.W.nsIn K mainGlobals "_law_drawn" = some (some (.ref f30)))
    (F30 : FunN K "_law_drawn" "_law_drawn" st_30 f30 fd30)
    (k30 : PySem.W.keepIn K (.ref f30) = true)
    (a31 : PySem.W.nsIn K mainGlobals "_law_no_makers" = some (some (.ref f31)))
    (F31 : FunN K "_law_no_makers" "_law_no_makers" st_31 f31 fd31)
    (k31 : PySem.W.keepIn K (.ref f31) = true)
    (a32 : PySem.W.nsIn K mainGlobals "_law_no_steps" = some (some (.ref f32)))
    (F32 : FunN K "_law_no_steps" "_law_no_steps" st_32 f32 fd32)
    (k32 : PySem.W.keepIn K (.ref f32) = true)
    (a33 : PySem.W.nsIn K mainGlobals "_law_no_ends" = some (some (.ref f33)))
    (F33 : FunN K "_law_no_ends" "_law_no_ends" st_33 f33 fd33)
    (k33 : PySem.W.keepIn K (.ref f33) = true)
    (a34 : PySem.W.nsIn K mainGlobals "_law_nest" = some (some (.ref f34)))
    (F34 : FunN K "_law_nest" "_law_nest" st_34 f34 fd34)
    (k34 : PySem.W.keepIn K (.ref f34) = true)
    (a35 : PySem.W.nsIn K mainGlobals "law" = some (some (.ref f35)))
    (F35 : FunN K "law" "law" st_35 f35 fd35)
    (le35 : fd35.code = .ref lc35)
    (lt35 : K.lookup lc35 = some ⟨ltc35, ltd35, .fields ltv35, lts35⟩)
    (lp35 : ltv35[11]? = some (.ref lP35))
    (lh35 : PySem.W.codeHdIn K lc35 lP35 = true)
    (ln35 : K.lookup lP35 = none)
    (lg35 : h.get? lP35 = some (PySem.W.tabObj #[]))
    (k35 : PySem.W.keepIn K (.ref f35) = true)
    (lD : ([lP21, lP35] : List Addr).Nodup)
    (gl0 : PySem.W.nsIn K mainGlobals "MOST_NUMBER" = some (some (.int (999999999) u0)))
    (gl1 : PySem.W.nsIn K mainGlobals "MOST_WITHIN_terms" = some (some (.int (12) u1)))
    (gl2 : PySem.W.nsIn K mainGlobals "TWO" = some (some (.ref t9)))
    (e9 : K.lookup t9 = some ⟨.type "tuple", td9, .seq #[.str "plus" u2, .str "less" u3, .str "times" u4, .str "part" u5, .str "rest" u6, .str "same" u7, .str "below" u8] tn9, ts9⟩)
    (gl3 : PySem.W.nsIn K mainGlobals "LENGTHS" = some (some (.ref t18)))
    (e18 : K.lookup t18 = some ⟨.type "dict", none, .dict #[⟨h18_0, .str "num" u10, .int (2) u11⟩, ⟨h18_1, .str "name" u12, .int (2) u13⟩, ⟨h18_2, .str "say" u14, .int (2) u15⟩, ⟨h18_3, .str "when" u16, .int (4) u17⟩] tn18, #[]⟩)
    (lo18 : (t18 == sysModules) = false)
    (kh18_0 : h18_0 = PyData.keyHash w.params "num")
    (kh18_1 : h18_1 = PyData.keyHash w.params "name")
    (kh18_2 : h18_2 = PyData.keyHash w.params "say")
    (kh18_3 : h18_3 = PyData.keyHash w.params "when")
    (gl4 : PySem.W.nsIn K mainGlobals "MOST_ROW" = some (some (.int (200) u19)))
    (gl5 : PySem.W.nsIn K mainGlobals "MOST_MADE" = some (some (.int (30) u20)))
    (gl6 : PySem.W.nsIn K mainGlobals "MOST_STEPS" = some (some (.int (12) u21)))
    (gl7 : PySem.W.nsIn K mainGlobals "MOST_COUNT" = some (some (.int (60) u22)))
    (gl8 : PySem.W.nsIn K mainGlobals "MOST_WIDE" = some (some (.int (4) u23)))
    (gl9 : PySem.W.nsIn K mainGlobals "MOST_WITHIN_lines" = some (some (.int (3) u24)))
    (gl10 : PySem.W.nsIn K mainGlobals "NAMED" = some (some (.ref t39)))
    (e39 : K.lookup t39 = some ⟨.type "dict", none, .dict #[⟨h39_0, .str "turn" u25, .ref t28⟩, ⟨h39_1, .str "sieve" u29, .ref t32⟩, ⟨h39_2, .str "while" u33, .ref t35⟩, ⟨h39_3, .str "past" u36, .ref t38⟩] tn39, #[]⟩)
    (e28 : K.lookup t28 = some ⟨.type "tuple", td28, .seq #[.str "x" u26, .str "at" u27] tn28, ts28⟩)
    (e32 : K.lookup t32 = some ⟨.type "tuple", td32, .seq #[.str "x" u30, .str "at" u31] tn32, ts32⟩)
    (e35 : K.lookup t35 = some ⟨.type "tuple", td35, .seq #[.str "x" u34] tn35, ts35⟩)
    (e38 : K.lookup t38 = some ⟨.type "tuple", td38, .seq #[.str "x" u37] tn38, ts38⟩)
    (lo39 : (t39 == sysModules) = false)
    (kh39_0 : h39_0 = PyData.keyHash w.params "turn")
    (kh39_1 : h39_1 = PyData.keyHash w.params "sieve")
    (kh39_2 : h39_2 = PyData.keyHash w.params "while")
    (kh39_3 : h39_3 = PyData.keyHash w.params "past")
    (gl11 : PySem.W.nsIn K mainGlobals "SIGNS" = some (some (.ref t54)))
    (e54 : K.lookup t54 = some ⟨.type "dict", none, .dict #[⟨h54_0, .str "same" u40, .str "=" u41⟩, ⟨h54_1, .str "below" u42, .str "<" u43⟩, ⟨h54_2, .str "plus" u44, .str "+" u45⟩, ⟨h54_3, .str "less" u46, .str "-" u47⟩, ⟨h54_4, .str "times" u48, .str "*" u49⟩, ⟨h54_5, .str "part" u50, .str "part" u51⟩, ⟨h54_6, .str "rest" u52, .str "rest" u53⟩] tn54, #[]⟩)
    (lo54 : (t54 == sysModules) = false)
    (kh54_0 : h54_0 = PyData.keyHash w.params "same")
    (kh54_1 : h54_1 = PyData.keyHash w.params "below")
    (kh54_2 : h54_2 = PyData.keyHash w.params "plus")
    (kh54_3 : h54_3 = PyData.keyHash w.params "less")
    (kh54_4 : h54_4 = PyData.keyHash w.params "times")
    (kh54_5 : h54_5 = PyData.keyHash w.params "part")
    (kh54_6 : h54_6 = PyData.keyHash w.params "rest")
    (gl12 : PySem.W.nsIn K mainGlobals "STRENGTHS" = some (some (.ref t71)))
    (e71 : K.lookup t71 = some ⟨.type "dict", none, .dict #[⟨h71_0, .str "when" u55, .int (1) u56⟩, ⟨h71_1, .str "same" u57, .int (2) u58⟩, ⟨h71_2, .str "below" u59, .int (2) u60⟩, ⟨h71_3, .str "plus" u61, .int (3) u62⟩, ⟨h71_4, .str "less" u63, .int (3) u64⟩, ⟨h71_5, .str "times" u65, .int (4) u66⟩, ⟨h71_6, .str "part" u67, .int (4) u68⟩, ⟨h71_7, .str "rest" u69, .int (4) u70⟩] tn71, #[]⟩)
    (lo71 : (t71 == sysModules) = false)
    (kh71_0 : h71_0 = PyData.keyHash w.params "when")
    (kh71_1 : h71_1 = PyData.keyHash w.params "same")
    (kh71_2 : h71_2 = PyData.keyHash w.params "below")
    (kh71_3 : h71_3 = PyData.keyHash w.params "plus")
    (kh71_4 : h71_4 = PyData.keyHash w.params "less")
    (kh71_5 : h71_5 = PyData.keyHash w.params "times")
    (kh71_6 : h71_6 = PyData.keyHash w.params "part")
    (kh71_7 : h71_7 = PyData.keyHash w.params "rest")
    (z0 : PySem.W.nsIn K mainGlobals "len" = some none)
    (z1 : PySem.W.nsIn K mainGlobals "abs" = some none)
    (z2 : PySem.W.nsIn K mainGlobals "min" = some none)
    (z3 : PySem.W.nsIn K mainGlobals "max" = some none)
    (z4 : PySem.W.nsIn K mainGlobals "int" = some none)
    (z5 : PySem.W.nsIn K mainGlobals "str" = some none)
    (z6 : PySem.W.nsIn K mainGlobals "list" = some none)
    (z7 : PySem.W.nsIn K mainGlobals "tuple" = some none)
    (z8 : PySem.W.nsIn K mainGlobals "sum" = some none)
    (z9 : PySem.W.nsIn K mainGlobals "all" = some none)
    (z10 : PySem.W.nsIn K mainGlobals "isinstance" = some none)
    (z11 : PySem.W.nsIn K mainGlobals "range" = some none)
    (z12 : PySem.W.nsIn K mainGlobals "enumerate" = some none)
    (z13 : PySem.W.nsIn K mainGlobals "zip" = some none)
    (z14 : PySem.W.nsIn K mainGlobals "bool" = some none) :
    LamX.LawAtS l w K (L2N.CX l.prog w) 100 63 "_law_script" mg fa h := by
  have e : fa = f35 := by
    have e := hfa.symm.trans (PySem.W.mg_of X G a35)
    exact Value.ref.inj (Option.some.inj e)
  rw [e]
  refine at_law (cs := [(lc21, lP21), (lc35, lP35)]) X ⟨⟨lh21, ln21, lg21⟩, ⟨⟨lh35, ln35, lg35⟩, True.intro⟩⟩ (b_law F35) fun base _ _ TB => ?_
  have lam21 : LamAt (gd l.prog w K mg base (fun i => ([] : List Addr).getD i 0) (fun i => ([E0, E1, E2, E3, E4, E5] : List Addr).getD i 0) (fun i => ([f0, f1, f2, f3, f4, f5, f6, f7, f8, f9, f10, f11, f12, f13, f14, f15, f16, f17, f18, f19, f20, f21, f22, f23, f24, f25, f26, f27, f28, f29, f30, f31, f32, f33, f34, f35] : List Addr).getD i 0) (fun i => ([fd0, fd1, fd2, fd3, fd4, fd5, fd6, fd7, fd8, fd9, fd10, fd11, fd12, fd13, fd14, fd15, fd16, fd17, fd18, fd19, fd20, fd21, fd22, fd23, fd24, fd25, fd26, fd27, fd28, fd29, fd30, fd31, fd32, fd33, fd34, fd35] : List FuncData).getD i default) [(lP21, ("run" ++ ".<locals>.") ++ "<lambda>"), (lP35, ("law" ++ ".<locals>.") ++ "<lambda>")]) "run" fd21.code := lam_of (TB (lc21, lP21) (.head _)) le21 lD (.head _)
  have lam35 : LamAt (gd l.prog w K mg base (fun i => ([] : List Addr).getD i 0) (fun i => ([E0, E1, E2, E3, E4, E5] : List Addr).getD i 0) (fun i => ([f0, f1, f2, f3, f4, f5, f6, f7, f8, f9, f10, f11, f12, f13, f14, f15, f16, f17, f18, f19, f20, f21, f22, f23, f24, f25, f26, f27, f28, f29, f30, f31, f32, f33, f34, f35] : List Addr).getD i 0) (fun i => ([fd0, fd1, fd2, fd3, fd4, fd5, fd6, fd7, fd8, fd9, fd10, fd11, fd12, fd13, fd14, fd15, fd16, fd17, fd18, fd19, fd20, fd21, fd22, fd23, fd24, fd25, fd26, fd27, fd28, fd29, fd30, fd31, fd32, fd33, fd34, fd35] : List FuncData).getD i default) [(lP21, ("run" ++ ".<locals>.") ++ "<lambda>"), (lP35, ("law" ++ ".<locals>.") ++ "<lambda>")]) "law" fd35.code := lam_of (TB (lc35, lP35) (.tail _ (.head _))) le35 lD (.tail _ (.head _))
  have XW := exw_mk (P := l.prog) (w := w) (base := base) X G xa0 xk0 xb0 xt0 yh0 yg0 ya0 ys0_0 yc0 ym0 yv0 xx0 xa1 xk1 xb1 xt1 yh1 yg1 ya1 ys1_1 yc1 ym1 yv1 xx1 xa2 xk2 xb2 xt2 yh2 yg2 ya2 ys2_2 yc2 ym2 yv2 xx2 xa3 xk3 xb3 xt3 yh3 yg3 ya3 ys3_3 yc3 ym3 yv3 xx3 xa4 xk4 xb4 xt4 yh4 yg4 ya4 ys4_4 yc4 ym4 yv4 xx4 xa5 xk5 xb5 xt5 yh5 yg5 ya5 ys5_5 yc5 ym5 yv5 xL5 xr5 xs5 xv5 xI5 xJ5 xF5 ys0_1 ys0_2 ys0_3 ys0_4 ys0_5 ys1_0 ys1_2 ys1_3 ys1_4 ys1_5 ys2_0 ys2_1 ys2_3 ys2_4 ys2_5 ys3_0 ys3_1 ys3_2 ys3_4 ys3_5 ys4_0 ys4_1 ys4_2 ys4_3 ys4_5 ys5_0 ys5_1 ys5_2 ys5_3 ys5_4 Scaughta ScaughtF Scaughtk Slawtolda SlawtoldF Slawtoldk Slawworda SlawwordF Slawwordk ysp ytk yve
  have SL : Lams (gd l.prog w K mg base (fun i => ([] : List Addr).getD i 0) (fun i => ([E0, E1, E2, E3, E4, E5] : List Addr).getD i 0) (fun i => ([f0, f1, f2, f3, f4, f5, f6, f7, f8, f9, f10, f11, f12, f13, f14, f15, f16, f17, f18, f19, f20, f21, f22, f23, f24, f25, f26, f27, f28, f29, f30, f31, f32, f33, f34, f35] : List Addr).getD i 0) (fun i => ([fd0, fd1, fd2, fd3, fd4, fd5, fd6, fd7, fd8, fd9, fd10, fd11, fd12, fd13, fd14, fd15, fd16, fd17, fd18, fd19, fd20, fd21, fd22, fd23, fd24, fd25, fd26, fd27, fd28, fd29, fd30, fd31, fd32, fd33, fd34, fd35] : List FuncData).getD i default) [(lP21, ("run" ++ ".<locals>.") ++ "<lambda>"), (lP35, ("law" ++ ".<locals>.") ++ "<lambda>")]) nm := sl_mk X G xa0 xk0 xb0 xt0 yh0 yg0 ya0 ys0_0 yc0 ym0 yv0 xx0 xa1 xk1 xb1 xt1 yh1 yg1 ya1 ys1_1 yc1 ym1 yv1 xx1 xa2 xk2 xb2 xt2 yh2 yg2 ya2 ys2_2 yc2 ym2 yv2 xx2 xa3 xk3 xb3 xt3 yh3 yg3 ya3 ys3_3 yc3 ym3 yv3 xx3 xa4 xk4 xb4 xt4 yh4 yg4 ya4 ys4_4 yc4 ym4 yv4 xx4 xa5 xk5 xb5 xt5 yh5 yg5 ya5 ys5_5 yc5 ym5 yv5 xL5 xr5 xs5 xv5 xI5 xJ5 xF5 ys0_1 ys0_2 ys0_3 ys0_4 ys0_5 ys1_0 ys1_2 ys1_3 ys1_4 ys1_5 ys2_0 ys2_1 ys2_3 ys2_4 ys2_5 ys3_0 ys3_1 ys3_2 ys3_4 ys3_5 ys4_0 ys4_1 ys4_2 ys4_3 ys4_5 ys5_0 ys5_1 ys5_2 ys5_3 ys5_4 Scaughta ScaughtF Scaughtk Slawtolda SlawtoldF Slawtoldk Slawworda SlawwordF Slawwordk ysp ytk yve z0 z1 z2 z3 z4 z5 z6 z7 z8 z9 z10 z11 z12 z13 z14
  have S : Static (gd l.prog w K mg base (fun i => ([] : List Addr).getD i 0) (fun i => ([E0, E1, E2, E3, E4, E5] : List Addr).getD i 0) (fun i => ([f0, f1, f2, f3, f4, f5, f6, f7, f8, f9, f10, f11, f12, f13, f14, f15, f16, f17, f18, f19, f20, f21, f22, f23, f24, f25, f26, f27, f28, f29, f30, f31, f32, f33, f34, f35] : List Addr).getD i 0) (fun i => ([fd0, fd1, fd2, fd3, fd4, fd5, fd6, fd7, fd8, fd9, fd10, fd11, fd12, fd13, fd14, fd15, fd16, fd17, fd18, fd19, fd20, fd21, fd22, fd23, fd24, fd25, fd26, fd27, fd28, fd29, fd30, fd31, fd32, fd33, fd34, fd35] : List FuncData).getD i default) [(lP21, ("run" ++ ".<locals>.") ++ "<lambda>"), (lP35, ("law" ++ ".<locals>.") ++ "<lambda>")]) nm := stat
    (PySem.W.mg_of X G xa0) xk0 xb0 xt0 xx0
    (PySem.W.mg_of X G xa1) xk1 xb1 xt1 xx1
    (PySem.W.mg_of X G xa2) xk2 xb2 xt2 xx2
    (PySem.W.mg_of X G xa3) xk3 xb3 xt3 xx3
    (PySem.W.mg_of X G xa4) xk4 xb4 xt4 xx4
    (PySem.W.mg_of X G xa5) xk5 xb5 xt5 XW.1 XW.2
    (PySem.W.mg_of X G a0)
    F0.fun (bd_0 F0) k0
    (PySem.W.mg_of X G a1)
    F1.fun (bd_1 F1) k1
    (PySem.W.mg_of X G a2)
    F2.fun (bd_2 F2) k2
    (PySem.W.mg_of X G a3)
    F3.fun (bd_3 F3) k3
    (PySem.W.mg_of X G a4)
    F4.fun (bd_4 F4) k4
    (PySem.W.mg_of X G a5)
    F5.fun (bd_5 F5) k5
    (PySem.W.mg_of X G a6)
    F6.fun (bd_6 F6) k6
    (PySem.W.mg_of X G a7)
    F7.fun (bd_7 F7) k7
    (PySem.W.mg_of X G a8)
    F8.fun (bd_8 F8) k8
    (PySem.W.mg_of X G a9)
    F9.fun (bd_9 F9) k9
    (PySem.W.mg_of X G a10)
    F10.fun (bd_10 F10) k10
    (PySem.W.mg_of X G a11)
    F11.fun (bd_11 F11) k11
    (PySem.W.mg_of X G a12)
    F12.fun (bd_12 F12) k12
    (PySem.W.mg_of X G a13)
    F13.fun (bd_13 F13) k13
    (PySem.W.mg_of X G a14)
    F14.fun (bd_14 F14) k14
    (PySem.W.mg_of X G a15)
    F15.fun (bd_15 F15) k15
    (PySem.W.mg_of X G a16)
    F16.fun (bd_16 F16) k16
    (PySem.W.mg_of X G a17)
    F17.fun (bd_17 F17) k17
    (PySem.W.mg_of X G a18)
    F18.fun (bd_18 F18) k18
    (PySem.W.mg_of X G a19)
    F19.fun (bd_19 F19) k19
    (PySem.W.mg_of X G a20)
    F20.fun (bd_20 F20) k20
    (PySem.W.mg_of X G a21)
    F21.fun (bd_21 F21) k21
    (PySem.W.mg_of X G a22)
    F22.fun (bd_22 F22) k22
    (PySem.W.mg_of X G a23)
    F23.fun (bd_23 F23) k23
    (PySem.W.mg_of X G a24)
    F24.fun (bd_24 F24) k24
    (PySem.W.mg_of X G a25)
    F25.fun (bd_25 F25) k25
    (PySem.W.mg_of X G a26)
    F26.fun (bd_26 F26) k26
    (PySem.W.mg_of X G a27)
    F27.fun (bd_27 F27) k27
    (PySem.W.mg_of X G a28)
    F28.fun (bd_28 F28) k28
    (PySem.W.mg_of X G a29)
    F29.fun (bd_29 F29) k29
    (PySem.W.mg_of X G a30)
    F30.fun (bd_30 F30) k30
    (PySem.W.mg_of X G a31)
    F31.fun (bd_31 F31) k31
    (PySem.W.mg_of X G a32)
    F32.fun (bd_32 F32) k32
    (PySem.W.mg_of X G a33)
    F33.fun (bd_33 F33) k33
    (PySem.W.mg_of X G a34)
    F34.fun (bd_34 F34) k34
    (PySem.W.mg_of X G a35)
    F35.fun (bd_35 F35) k35
    ⟨_, .int (999999999), _, rfl, PySem.W.mg_of X G gl0, ⟨_, rfl⟩, fun z => R.int.mpr rfl⟩
    ⟨_, .int (12), _, rfl, PySem.W.mg_of X G gl1, ⟨_, rfl⟩, fun z => R.int.mpr rfl⟩
    ⟨_, .ref t9, _, rfl, PySem.W.mg_of X G gl2, rfl, fun z => by simp only [R]; exact ⟨t9, [.str "plus", .str "less", .str "times", .str "part", .str "rest", .str "same", .str "below"], rfl, .inr ⟨_, _, _, e9, rfl, rfl, by show 7 ≤ sizeLine; decide, (.cons ⟨_, rfl⟩ (.cons ⟨_, rfl⟩ (.cons ⟨_, rfl⟩ (.cons ⟨_, rfl⟩ (.cons ⟨_, rfl⟩ (.cons ⟨_, rfl⟩ (.cons ⟨_, rfl⟩ .nil)))))))⟩, (Rs.mk _ _ (R.str.mpr ⟨by decide +kernel, by decide +kernel⟩) (Rs.mk _ _ (R.str.mpr ⟨by decide +kernel, by decide +kernel⟩) (Rs.mk _ _ (R.str.mpr ⟨by decide +kernel, by decide +kernel⟩) (Rs.mk _ _ (R.str.mpr ⟨by decide +kernel, by decide +kernel⟩) (Rs.mk _ _ (R.str.mpr ⟨by decide +kernel, by decide +kernel⟩) (Rs.mk _ _ (R.str.mpr ⟨by decide +kernel, by decide +kernel⟩) (Rs.mk _ _ (R.str.mpr ⟨by decide +kernel, by decide +kernel⟩) (Rs.nil.mpr rfl))))))))⟩⟩
    ⟨_, .ref t18, _, rfl, PySem.W.mg_of X G gl3, rfl, fun z => by unfold R; exact ⟨t18, [(Sum.inr "num", .int (2)), (Sum.inr "name", .int (2)), (Sum.inr "say", .int (2)), (Sum.inr "when", .int (4))], rfl, kdic_of e18 ⟨⟨_, _, rfl, kh18_0⟩, ⟨⟨_, _, rfl, kh18_1⟩, ⟨⟨_, _, rfl, kh18_2⟩, ⟨⟨_, _, rfl, kh18_3⟩, trivial⟩⟩⟩⟩ lo18 ⟨⟨_, _, rfl, rfl⟩, ⟨_, rfl⟩, ⟨⟨_, _, rfl, rfl⟩, ⟨_, rfl⟩, ⟨⟨_, _, rfl, rfl⟩, ⟨_, rfl⟩, ⟨⟨_, _, rfl, rfl⟩, ⟨_, rfl⟩, trivial⟩⟩⟩⟩, (RK.mk' (by decide +kernel) (by decide +kernel) (R.int.mpr rfl) (RK.mk' (by decide +kernel) (by decide +kernel) (R.int.mpr rfl) (RK.mk' (by decide +kernel) (by decide +kernel) (R.int.mpr rfl) (RK.mk' (by decide +kernel) (by decide +kernel) (R.int.mpr rfl) RK.nil'))))⟩⟩
    ⟨_, .int (200), _, rfl, PySem.W.mg_of X G gl4, ⟨_, rfl⟩, fun z => R.int.mpr rfl⟩
    ⟨_, .int (30), _, rfl, PySem.W.mg_of X G gl5, ⟨_, rfl⟩, fun z => R.int.mpr rfl⟩
    ⟨_, .int (12), _, rfl, PySem.W.mg_of X G gl6, ⟨_, rfl⟩, fun z => R.int.mpr rfl⟩
    ⟨_, .int (60), _, rfl, PySem.W.mg_of X G gl7, ⟨_, rfl⟩, fun z => R.int.mpr rfl⟩
    ⟨_, .int (4), _, rfl, PySem.W.mg_of X G gl8, ⟨_, rfl⟩, fun z => R.int.mpr rfl⟩
    ⟨_, .int (3), _, rfl, PySem.W.mg_of X G gl9, ⟨_, rfl⟩, fun z => R.int.mpr rfl⟩
    ⟨_, .ref t39, _, rfl, PySem.W.mg_of X G gl10, rfl, fun z => by unfold R; exact ⟨t39, [(Sum.inr "turn", .ref t28), (Sum.inr "sieve", .ref t32), (Sum.inr "while", .ref t35), (Sum.inr "past", .ref t38)], rfl, kdic_of e39 ⟨⟨_, _, rfl, kh39_0⟩, ⟨⟨_, _, rfl, kh39_1⟩, ⟨⟨_, _, rfl, kh39_2⟩, ⟨⟨_, _, rfl, kh39_3⟩, trivial⟩⟩⟩⟩ lo39 ⟨⟨_, _, rfl, rfl⟩, rfl, ⟨⟨_, _, rfl, rfl⟩, rfl, ⟨⟨_, _, rfl, rfl⟩, rfl, ⟨⟨_, _, rfl, rfl⟩, rfl, trivial⟩⟩⟩⟩, (RK.mk' (by decide +kernel) (by decide +kernel) (by simp only [R]; exact ⟨t28, [.str "x", .str "at"], rfl, .inr ⟨_, _, _, e28, rfl, rfl, by show 2 ≤ sizeLine; decide, (.cons ⟨_, rfl⟩ (.cons ⟨_, rfl⟩ .nil))⟩, (Rs.mk _ _ (R.str.mpr ⟨by decide +kernel, by decide +kernel⟩) (Rs.mk _ _ (R.str.mpr ⟨by decide +kernel, by decide +kernel⟩) (Rs.nil.mpr rfl)))⟩) (RK.mk' (by decide +kernel) (by decide +kernel) (by simp only [R]; exact ⟨t32, [.str "x", .str "at"], rfl, .inr ⟨_, _, _, e32, rfl, rfl, by show 2 ≤ sizeLine; decide, (.cons ⟨_, rfl⟩ (.cons ⟨_, rfl⟩ .nil))⟩, (Rs.mk _ _ (R.str.mpr ⟨by decide +kernel, by decide +kernel⟩) (Rs.mk _ _ (R.str.mpr ⟨by decide +kernel, by decide +kernel⟩) (Rs.nil.mpr rfl)))⟩) (RK.mk' (by decide +kernel) (by decide +kernel) (by simp only [R]; exact ⟨t35, [.str "x"], rfl, .inr ⟨_, _, _, e35, rfl, rfl, by show 1 ≤ sizeLine; decide, (.cons ⟨_, rfl⟩ .nil)⟩, (Rs.mk _ _ (R.str.mpr ⟨by decide +kernel, by decide +kernel⟩) (Rs.nil.mpr rfl))⟩) (RK.mk' (by decide +kernel) (by decide +kernel) (by simp only [R]; exact ⟨t38, [.str "x"], rfl, .inr ⟨_, _, _, e38, rfl, rfl, by show 1 ≤ sizeLine; decide, (.cons ⟨_, rfl⟩ .nil)⟩, (Rs.mk _ _ (R.str.mpr ⟨by decide +kernel, by decide +kernel⟩) (Rs.nil.mpr rfl))⟩) RK.nil'))))⟩⟩
    ⟨_, .ref t54, _, rfl, PySem.W.mg_of X G gl11, rfl, fun z => by unfold R; exact ⟨t54, [(Sum.inr "same", .str "="), (Sum.inr "below", .str "<"), (Sum.inr "plus", .str "+"), (Sum.inr "less", .str "-"), (Sum.inr "times", .str "*"), (Sum.inr "part", .str "part"), (Sum.inr "rest", .str "rest")], rfl, kdic_of e54 ⟨⟨_, _, rfl, kh54_0⟩, ⟨⟨_, _, rfl, kh54_1⟩, ⟨⟨_, _, rfl, kh54_2⟩, ⟨⟨_, _, rfl, kh54_3⟩, ⟨⟨_, _, rfl, kh54_4⟩, ⟨⟨_, _, rfl, kh54_5⟩, ⟨⟨_, _, rfl, kh54_6⟩, trivial⟩⟩⟩⟩⟩⟩⟩ lo54 ⟨⟨_, _, rfl, rfl⟩, ⟨_, rfl⟩, ⟨⟨_, _, rfl, rfl⟩, ⟨_, rfl⟩, ⟨⟨_, _, rfl, rfl⟩, ⟨_, rfl⟩, ⟨⟨_, _, rfl, rfl⟩, ⟨_, rfl⟩, ⟨⟨_, _, rfl, rfl⟩, ⟨_, rfl⟩, ⟨⟨_, _, rfl, rfl⟩, ⟨_, rfl⟩, ⟨⟨_, _, rfl, rfl⟩, ⟨_, rfl⟩, trivial⟩⟩⟩⟩⟩⟩⟩, (RK.mk' (by decide +kernel) (by decide +kernel) (R.str.mpr ⟨by decide +kernel, by decide +kernel⟩) (RK.mk' (by decide +kernel) (by decide +kernel) (R.str.mpr ⟨by decide +kernel, by decide +kernel⟩) (RK.mk' (by decide +kernel) (by decide +kernel) (R.str.mpr ⟨by decide +kernel, by decide +kernel⟩) (RK.mk' (by decide +kernel) (by decide +kernel) (R.str.mpr ⟨by decide +kernel, by decide +kernel⟩) (RK.mk' (by decide +kernel) (by decide +kernel) (R.str.mpr ⟨by decide +kernel, by decide +kernel⟩) (RK.mk' (by decide +kernel) (by decide +kernel) (R.str.mpr ⟨by decide +kernel, by decide +kernel⟩) (RK.mk' (by decide +kernel) (by decide +kernel) (R.str.mpr ⟨by decide +kernel, by decide +kernel⟩) RK.nil')))))))⟩⟩
    ⟨_, .ref t71, _, rfl, PySem.W.mg_of X G gl12, rfl, fun z => by unfold R; exact ⟨t71, [(Sum.inr "when", .int (1)), (Sum.inr "same", .int (2)), (Sum.inr "below", .int (2)), (Sum.inr "plus", .int (3)), (Sum.inr "less", .int (3)), (Sum.inr "times", .int (4)), (Sum.inr "part", .int (4)), (Sum.inr "rest", .int (4))], rfl, kdic_of e71 ⟨⟨_, _, rfl, kh71_0⟩, ⟨⟨_, _, rfl, kh71_1⟩, ⟨⟨_, _, rfl, kh71_2⟩, ⟨⟨_, _, rfl, kh71_3⟩, ⟨⟨_, _, rfl, kh71_4⟩, ⟨⟨_, _, rfl, kh71_5⟩, ⟨⟨_, _, rfl, kh71_6⟩, ⟨⟨_, _, rfl, kh71_7⟩, trivial⟩⟩⟩⟩⟩⟩⟩⟩ lo71 ⟨⟨_, _, rfl, rfl⟩, ⟨_, rfl⟩, ⟨⟨_, _, rfl, rfl⟩, ⟨_, rfl⟩, ⟨⟨_, _, rfl, rfl⟩, ⟨_, rfl⟩, ⟨⟨_, _, rfl, rfl⟩, ⟨_, rfl⟩, ⟨⟨_, _, rfl, rfl⟩, ⟨_, rfl⟩, ⟨⟨_, _, rfl, rfl⟩, ⟨_, rfl⟩, ⟨⟨_, _, rfl, rfl⟩, ⟨_, rfl⟩, ⟨⟨_, _, rfl, rfl⟩, ⟨_, rfl⟩, trivial⟩⟩⟩⟩⟩⟩⟩⟩, (RK.mk' (by decide +kernel) (by decide +kernel) (R.int.mpr rfl) (RK.mk' (by decide +kernel) (by decide +kernel) (R.int.mpr rfl) (RK.mk' (by decide +kernel) (by decide +kernel) (R.int.mpr rfl) (RK.mk' (by decide +kernel) (by decide +kernel) (R.int.mpr rfl) (RK.mk' (by decide +kernel) (by decide +kernel) (R.int.mpr rfl) (RK.mk' (by decide +kernel) (by decide +kernel) (R.int.mpr rfl) (RK.mk' (by decide +kernel) (by decide +kernel) (R.int.mpr rfl) (RK.mk' (by decide +kernel) (by decide +kernel) (R.int.mpr rfl) RK.nil'))))))))⟩⟩
    (PySem.W.mg_none_of X G z0)
    (PySem.W.mg_none_of X G z1)
    (PySem.W.mg_none_of X G z2)
    (PySem.W.mg_none_of X G z3)
    (PySem.W.mg_none_of X G z4)
    (PySem.W.mg_none_of X G z5)
    (PySem.W.mg_none_of X G z6)
    (PySem.W.mg_none_of X G z7)
    (PySem.W.mg_none_of X G z8)
    (PySem.W.mg_none_of X G z9)
    (PySem.W.mg_none_of X G z10)
    (PySem.W.mg_none_of X G z11)
    (PySem.W.mg_none_of X G z12)
    (PySem.W.mg_none_of X G z13)
    (PySem.W.mg_none_of X G z14)
  have D : ∀ f, f < prog.defs.length → DefOk (gd l.prog w K mg base (fun i => ([] : List Addr).getD i 0) (fun i => ([E0, E1, E2, E3, E4, E5] : List Addr).getD i 0) (fun i => ([f0, f1, f2, f3, f4, f5, f6, f7, f8, f9, f10, f11, f12, f13, f14, f15, f16, f17, f18, f19, f20, f21, f22, f23, f24, f25, f26, f27, f28, f29, f30, f31, f32, f33, f34, f35] : List Addr).getD i 0) (fun i => ([fd0, fd1, fd2, fd3, fd4, fd5, fd6, fd7, fd8, fd9, fd10, fd11, fd12, fd13, fd14, fd15, fd16, fd17, fd18, fd19, fd20, fd21, fd22, fd23, fd24, fd25, fd26, fd27, fd28, fd29, fd30, fd31, fd32, fd33, fd34, fd35] : List FuncData).getD i default) [(lP21, ("run" ++ ".<locals>.") ++ "<lambda>"), (lP35, ("law" ++ ".<locals>.") ++ "<lambda>")]) nm f := dfs lam21 lam35 F0.fun F1.fun F2.fun F3.fun F4.fun F5.fun F6.fun F7.fun F8.fun F9.fun F10.fun F11.fun F12.fun F13.fun F14.fun F15.fun F16.fun F17.fun F18.fun F19.fun F20.fun F21.fun F22.fun F23.fun F24.fun F25.fun F26.fun F27.fun F28.fun F29.fun F30.fun F31.fun F32.fun F33.fun F34.fun F35.fun
  have F := fns_ok S SL D 100 35 (by show 35 < 36; decide)
  have HTB : ∀ p ∈ ([(lP21, ("run" ++ ".<locals>.") ++ "<lambda>"), (lP35, ("law" ++ ".<locals>.") ++ "<lambda>")] : List (Addr × Str)), ∃ c ∈ ([(lc21, lP21), (lc35, lP35)] : List (Addr × Addr)), c.2 = p.1 := by
    repeat first
      | refine mem_cons ⟨(lc21, lP21), (.head _), rfl⟩ ?_
      | refine mem_cons ⟨(lc35, lP35), (.tail _ (.head _)), rfl⟩ ?_
    intro p hp
    cases hp
  exact F.imp (fun vs H Q E h => scr_of (G := gd l.prog w K mg base (fun i => ([] : List Addr).getD i 0) (fun i => ([E0, E1, E2, E3, E4, E5] : List Addr).getD i 0) (fun i => ([f0, f1, f2, f3, f4, f5, f6, f7, f8, f9, f10, f11, f12, f13, f14, f15, f16, f17, f18, f19, f20, f21, f22, f23, f24, f25, f26, f27, f28, f29, f30, f31, f32, f33, f34, f35] : List Addr).getD i 0) (fun i => ([fd0, fd1, fd2, fd3, fd4, fd5, fd6, fd7, fd8, fd9, fd10, fd11, fd12, fd13, fd14, fd15, fd16, fd17, fd18, fd19, fd20, fd21, fd22, fd23, fd24, fd25, fd26, fd27, fd28, fd29, fd30, fd31, fd32, fd33, fd34, fd35] : List FuncData).getD i default) [(lP21, ("run" ++ ".<locals>.") ++ "<lambda>"), (lP35, ("law" ++ ".<locals>.") ++ "<lambda>")]) rfl HTB plain_law vs H Q E h)
end
theorem walk {l : PySem.W.OpenLaw} {q : Program} {loose : List Str} {XP : (Str → Option Value) → Heap → Prop} {YP : World → Heap → Prop} {d : DefRec} {K : Params → PySem.W.Frag} (hn : l.most = some 63) (hdf : d.params.defaults = [])
    (hY : ∀ (w : World) (h : Heap), YP w h → (K w.params).In h)
    (F : ∀ (w : World) (mg : Str → Option Value) (fa : Addr) (h : Heap), YP w h → (K w.params).In h → h.Ns mainGlobals mg → mg d.name = some (.ref fa) → LamX.LawAtS l w (K w.params) (L2N.CX l.prog w) 100 63 "_law_script" mg fa h) :
    PySem.W.WalkO q loose XP YP l.row.toRowW d [] (fun f vs => PySem.call f vs) :=
  LamX.walk_ofTs (n := 63) (k := 100) (x := "_law_script") (CX := fun w => L2N.CX l.prog w) hn (by decide) hdf ⟨rfl, by decide, by decide⟩ hY F fun _ _ _ _ _ z => cx_false z
end K31
open PySem PySem.W PyProof.Rows
set_option maxRecDepth 100000 in
set_option maxHeartbeats 0 in
theorem PySem.Challenge.cw_fusewalk_k31_lines_refused_holds : PySem.Challenge.rw_fusewalk_k31_lines_refused.Holds := by
  w_on; o_law; k_head; (case hw => w_witness2)
  k_fill
  refine K31.walk (l := PySem.Challenge.rw_fusewalk_k31_lines_refused) rfl rfl (fun w h Y => by first | exact PySem.W.kIn_of Y | exact PySem.W.km_in_of Y) ?F
  case F =>
    intro w mg fa h Y KX G hmg
    refine' K31.all_mk KX G hmg ?xa0 ?xk0 ?xb0 ?xt0 ?yh0 ?yg0 ?ya0 ?ys0_0 ?yc0 ?ym0 ?yv0 ?xx0 ?xa1 ?xk1 ?xb1 ?xt1 ?yh1 ?yg1 ?ya1 ?ys1_1 ?yc1 ?ym1 ?yv1 ?xx1 ?xa2 ?xk2 ?xb2 ?xt2 ?yh2 ?yg2 ?ya2 ?ys2_2 ?yc2 ?ym2 ?yv2 ?xx2 ?xa3 ?xk3 ?xb3 ?xt3 ?yh3 ?yg3 ?ya3 ?ys3_3 ?yc3 ?ym3 ?yv3 ?xx3 ?xa4 ?xk4 ?xb4 ?xt4 ?yh4 ?yg4 ?ya4 ?ys4_4 ?yc4 ?ym4 ?yv4 ?xx4 ?xa5 ?xk5 ?xb5 ?xt5 ?yh5 ?yg5 ?ya5 ?ys5_5 ?yc5 ?ym5 ?yv5 ?xL5 ?xr5 ?xs5 ?xv5 ?xI5 ?xJ5 ?xF5 ?ys0_1 ?ys0_2 ?ys0_3 ?ys0_4 ?ys0_5 ?ys1_0 ?ys1_2 ?ys1_3 ?ys1_4 ?ys1_5 ?ys2_0 ?ys2_1 ?ys2_3 ?ys2_4 ?ys2_5 ?ys3_0 ?ys3_1 ?ys3_2 ?ys3_4 ?ys3_5 ?ys4_0 ?ys4_1 ?ys4_2 ?ys4_3 ?ys4_5 ?ys5_0 ?ys5_1 ?ys5_2 ?ys5_3 ?ys5_4 ?Scaughta ?ScaughtF ?Scaughtk ?Slawtolda ?SlawtoldF ?Slawtoldk ?Slawworda ?SlawwordF ?Slawwordk ?ysp ?ytk ?yve ?a0 ?F0 ?k0 ?a1 ?F1 ?k1 ?a2 ?F2 ?k2 ?a3 ?F3 ?k3 ?a4 ?F4 ?k4 ?a5 ?F5 ?k5 ?a6 ?F6 ?k6 ?a7 ?F7 ?k7 ?a8 ?F8 ?k8 ?a9 ?F9 ?k9 ?a10 ?F10 ?k10 ?a11 ?F11 ?k11 ?a12 ?F12 ?k12 ?a13 ?F13 ?k13 ?a14 ?F14 ?k14 ?a15 ?F15 ?k15 ?a16 ?F16 ?k16 ?a17 ?F17 ?k17 ?a18 ?F18 ?k18 ?a19 ?F19 ?k19 ?a20 ?F20 ?k20 ?a21 ?F21 ?le21 ?lt21 ?lp21 ?lh21 ?ln21 ?lg21 ?k21 ?a22 ?F22 ?k22 ?a23 ?F23 ?k23 ?a24 ?F24 ?k24 ?a25 ?F25 ?k25 ?a26 ?F26 ?k26 ?a27 ?F27 ?k27 ?a28 ?F28 ?k28 ?a29 ?F29 ?k29 ?a30 ?F30 ?k30 ?a31 ?F31 ?k31 ?a32 ?F32 ?k32 ?a33 ?F33 ?k33 ?a34 ?F34 ?k34 ?a35 ?F35 ?le35 ?lt35 ?lp35 ?lh35 ?ln35 ?lg35 ?k35 ?lD ?gl0 ?gl1 ?gl2 ?e9 ?gl3 ?e18 ?lo18 ?kh18_0 ?kh18_1 ?kh18_2 ?kh18_3 ?gl4 ?gl5 ?gl6 ?gl7 ?gl8 ?gl9 ?gl10 ?e39 ?e28 ?e32 ?e35 ?e38 ?lo39 ?kh39_0 ?kh39_1 ?kh39_2 ?kh39_3 ?gl11 ?e54 ?lo54 ?kh54_0 ?kh54_1 ?kh54_2 ?kh54_3 ?kh54_4 ?kh54_5 ?kh54_6 ?gl12 ?e71 ?lo71 ?kh71_0 ?kh71_1 ?kh71_2 ?kh71_3 ?kh71_4 ?kh71_5 ?kh71_6 ?kh71_7 ?z0 ?z1 ?z2 ?z3 ?z4 ?z5 ?z6 ?z7 ?z8 ?z9 ?z10 ?z11 ?z12 ?z13 ?z14
    (case xa0 => k_is)
    (case xk0 => k_is)
    (case xb0 => k_is)
    (case xt0 => k_is)
    (case yh0 => k_is)
    (case yg0 => k_is)
    (case ya0 => k_is)
    (case ys0_0 => k_is)
    (case yc0 => k_is)
    (case ym0 => k_is)
    (case yv0 => k_is)
    (case xx0 => k_exc)
    (case xa1 => k_is)
    (case xk1 => k_is)
    (case xb1 => k_is)
    (case xt1 => k_is)
    (case yh1 => k_is)
    (case yg1 => k_is)
    (case ya1 => k_is)
    (case ys1_1 => k_is)
    (case yc1 => k_is)
    (case ym1 => k_is)
    (case yv1 => k_is)
    (case xx1 => k_exc)
    (case xa2 => k_is)
    (case xk2 => k_is)
    (case xb2 => k_is)
    (case xt2 => k_is)
    (case yh2 => k_is)
    (case yg2 => k_is)
    (case ya2 => k_is)
    (case ys2_2 => k_is)
    (case yc2 => k_is)
    (case ym2 => k_is)
    (case yv2 => k_is)
    (case xx2 => k_exc)
    (case xa3 => k_is)
    (case xk3 => k_is)
    (case xb3 => k_is)
    (case xt3 => k_is)
    (case yh3 => k_is)
    (case yg3 => k_is)
    (case ya3 => k_is)
    (case ys3_3 => k_is)
    (case yc3 => k_is)
    (case ym3 => k_is)
    (case yv3 => k_is)
    (case xx3 => k_exc)
    (case xa4 => k_is)
    (case xk4 => k_is)
    (case xb4 => k_is)
    (case xt4 => k_is)
    (case yh4 => k_is)
    (case yg4 => k_is)
    (case ya4 => k_is)
    (case ys4_4 => k_is)
    (case yc4 => k_is)
    (case ym4 => k_is)
    (case yv4 => k_is)
    (case xx4 => k_exc)
    (case xa5 => k_is)
    (case xk5 => k_is)
    (case xb5 => k_is)
    (case xt5 => k_is)
    (case yh5 => k_is)
    (case yg5 => k_is)
    (case ya5 => k_is)
    (case ys5_5 => k_is)
    (case yc5 => k_is)
    (case ym5 => k_is)
    (case yv5 => k_is)
    (case xL5 => k_is)
    (case xr5 => first | rfl | decide +kernel)
    (case xs5 => k_is)
    (case xv5 => k_is)
    (case xI5 => k_is)
    (case xJ5 => k_is)
    (case xF5 => exact ⟨_, _, _, _, _, _, _, _, _, rfl, by k_is, by k_is⟩)
    (case ys0_1 => k_is)
    (case ys0_2 => k_is)
    (case ys0_3 => k_is)
    (case ys0_4 => k_is)
    (case ys0_5 => k_is)
    (case ys1_0 => k_is)
    (case ys1_2 => k_is)
    (case ys1_3 => k_is)
    (case ys1_4 => k_is)
    (case ys1_5 => k_is)
    (case ys2_0 => k_is)
    (case ys2_1 => k_is)
    (case ys2_3 => k_is)
    (case ys2_4 => k_is)
    (case ys2_5 => k_is)
    (case ys3_0 => k_is)
    (case ys3_1 => k_is)
    (case ys3_2 => k_is)
    (case ys3_4 => k_is)
    (case ys3_5 => k_is)
    (case ys4_0 => k_is)
    (case ys4_1 => k_is)
    (case ys4_2 => k_is)
    (case ys4_3 => k_is)
    (case ys4_5 => k_is)
    (case ys5_0 => k_is)
    (case ys5_1 => k_is)
    (case ys5_2 => k_is)
    (case ys5_3 => k_is)
    (case ys5_4 => k_is)
    (case Scaughta => k_is)
    (case ScaughtF => exact ⟨_, _, _, _, _, _, _, _, _, rfl, by k_is, by k_is⟩)
    (case Scaughtk => k_is)
    (case Slawtolda => k_is)
    (case SlawtoldF => exact ⟨_, _, _, _, _, _, _, _, _, rfl, by k_is, by k_is⟩)
    (case Slawtoldk => k_is)
    (case Slawworda => k_is)
    (case SlawwordF => exact ⟨_, _, _, _, _, _, _, _, _, rfl, by k_is, by k_is⟩)
    (case Slawwordk => k_is)
    (case ysp => k_is)
    (case ytk => k_is)
    (case yve => k_is)
    (case a0 => k_is)
    (case F0 => exact ⟨_, _, _, _, _, _, _, _, _, rfl, by k_is, by k_is⟩)
    (case k0 => k_is)
    (case a1 => k_is)
    (case F1 => exact ⟨_, _, _, _, _, _, _, _, _, rfl, by k_is, by k_is⟩)
    (case k1 => k_is)
    (case a2 => k_is)
    (case F2 => exact ⟨_, _, _, _, _, _, _, _, _, rfl, by k_is, by k_is⟩)
    (case k2 => k_is)
    (case a3 => k_is)
    (case F3 => exact ⟨_, _, _, _, _, _, _, _, _, rfl, by k_is, by k_is⟩)
    (case k3 => k_is)
    (case a4 => k_is)
    (case F4 => exact ⟨_, _, _, _, _, _, _, _, _, rfl, by k_is, by k_is⟩)
    (case k4 => k_is)
    (case a5 => k_is)
    (case F5 => exact ⟨_, _, _, _, _, _, _, _, _, rfl, by k_is, by k_is⟩)
    (case k5 => k_is)
    (case a6 => k_is)
    (case F6 => exact ⟨_, _, _, _, _, _, _, _, _, rfl, by k_is, by k_is⟩)
    (case k6 => k_is)
    (case a7 => k_is)
    (case F7 => exact ⟨_, _, _, _, _, _, _, _, _, rfl, by k_is, by k_is⟩)
    (case k7 => k_is)
    (case a8 => k_is)
    (case F8 => exact ⟨_, _, _, _, _, _, _, _, _, rfl, by k_is, by k_is⟩)
    (case k8 => k_is)
    (case a9 => k_is)
    (case F9 => exact ⟨_, _, _, _, _, _, _, _, _, rfl, by k_is, by k_is⟩)
    (case k9 => k_is)
    (case a10 => k_is)
    (case F10 => exact ⟨_, _, _, _, _, _, _, _, _, rfl, by k_is, by k_is⟩)
    (case k10 => k_is)
    (case a11 => k_is)
    (case F11 => exact ⟨_, _, _, _, _, _, _, _, _, rfl, by k_is, by k_is⟩)
    (case k11 => k_is)
    (case a12 => k_is)
    (case F12 => exact ⟨_, _, _, _, _, _, _, _, _, rfl, by k_is, by k_is⟩)
    (case k12 => k_is)
    (case a13 => k_is)
    (case F13 => exact ⟨_, _, _, _, _, _, _, _, _, rfl, by k_is, by k_is⟩)
    (case k13 => k_is)
    (case a14 => k_is)
    (case F14 => exact ⟨_, _, _, _, _, _, _, _, _, rfl, by k_is, by k_is⟩)
    (case k14 => k_is)
    (case a15 => k_is)
    (case F15 => exact ⟨_, _, _, _, _, _, _, _, _, rfl, by k_is, by k_is⟩)
    (case k15 => k_is)
    (case a16 => k_is)
    (case F16 => exact ⟨_, _, _, _, _, _, _, _, _, rfl, by k_is, by k_is⟩)
    (case k16 => k_is)
    (case a17 => k_is)
    (case F17 => exact ⟨_, _, _, _, _, _, _, _, _, rfl, by k_is, by k_is⟩)
    (case k17 => k_is)
    (case a18 => k_is)
    (case F18 => exact ⟨_, _, _, _, _, _, _, _, _, rfl, by k_is, by k_is⟩)
    (case k18 => k_is)
    (case a19 => k_is)
    (case F19 => exact ⟨_, _, _, _, _, _, _, _, _, rfl, by k_is, by k_is⟩)
    (case k19 => k_is)
    (case a20 => k_is)
    (case F20 => exact ⟨_, _, _, _, _, _, _, _, _, rfl, by k_is, by k_is⟩)
    (case k20 => k_is)
    (case a21 => k_is)
    (case F21 => exact ⟨_, _, _, _, _, _, _, _, _, rfl, by k_is, by k_is⟩)
    (case le21 => exact rfl)
    (case lt21 => k_is)
    (case lp21 => exact rfl)
    (case lh21 => first | kernel_rfl | rfl)
    (case ln21 => first | kernel_rfl | rfl)
    (case lg21 => exact PySem.W.km_tabs_of Y _ (by first | k_mem | simp | decide))
    (case k21 => k_is)
    (case a22 => k_is)
    (case F22 => exact ⟨_, _, _, _, _, _, _, _, _, rfl, by k_is, by k_is⟩)
    (case k22 => k_is)
    (case a23 => k_is)
    (case F23 => exact ⟨_, _, _, _, _, _, _, _, _, rfl, by k_is, by k_is⟩)
    (case k23 => k_is)
    (case a24 => k_is)
    (case F24 => exact ⟨_, _, _, _, _, _, _, _, _, rfl, by k_is, by k_is⟩)
    (case k24 => k_is)
    (case a25 => k_is)
    (case F25 => exact ⟨_, _, _, _, _, _, _, _, _, rfl, by k_is, by k_is⟩)
    (case k25 => k_is)
    (case a26 => k_is)
    (case F26 => exact ⟨_, _, _, _, _, _, _, _, _, rfl, by k_is, by k_is⟩)
    (case k26 => k_is)
    (case a27 => k_is)
    (case F27 => exact ⟨_, _, _, _, _, _, _, _, _, rfl, by k_is, by k_is⟩)
    (case k27 => k_is)
    (case a28 => k_is)
    (case F28 => exact ⟨_, _, _, _, _, _, _, _, _, rfl, by k_is, by k_is⟩)
    (case k28 => k_is)
    (case a29 => k_is)
    (case F29 => exact ⟨_, _, _, _, _, _, _, _, _, rfl, by k_is, by k_is⟩)
    (case k29 => k_is)
    (case a30 => k_is)
    (case F30 => exact ⟨_, _, _, _, _, _, _, _, _, rfl, by k_is, by k_is⟩)
    (case k30 => k_is)
    (case a31 => k_is)
    (case F31 => exact ⟨_, _, _, _, _, _, _, _, _, rfl, by k_is, by k_is⟩)
    (case k31 => k_is)
    (case a32 => k_is)
    (case F32 => exact ⟨_, _, _, _, _, _, _, _, _, rfl, by k_is, by k_is⟩)
    (case k32 => k_is)
    (case a33 => k_is)
    (case F33 => exact ⟨_, _, _, _, _, _, _, _, _, rfl, by k_is, by k_is⟩)
    (case k33 => k_is)
    (case a34 => k_is)
    (case F34 => exact ⟨_, _, _, _, _, _, _, _, _, rfl, by k_is, by k_is⟩)
    (case k34 => k_is)
    (case a35 => k_is)
    (case F35 => exact ⟨_, _, _, _, _, _, _, _, _, rfl, by k_is, by k_is⟩)
    (case le35 => exact rfl)
    (case lt35 => k_is)
    (case lp35 => exact rfl)
    (case lh35 => first | kernel_rfl | rfl)
    (case ln35 => first | kernel_rfl | rfl)
    (case lg35 => exact PySem.W.km_tabs_of Y _ (by first | k_mem | simp | decide))
    (case k35 => k_is)
    (case lD => decide)
    (case gl0 => k_is)
    (case gl1 => k_is)
    (case gl2 => k_is)
    (case e9 => k_is)
    (case gl3 => k_is)
    (case e18 => k_is)
    (case lo18 => first | rfl | decide | k_is)
    (case kh18_0 => first | rfl | k_is)
    (case kh18_1 => first | rfl | k_is)
    (case kh18_2 => first | rfl | k_is)
    (case kh18_3 => first | rfl | k_is)
    (case gl4 => k_is)
    (case gl5 => k_is)
    (case gl6 => k_is)
    (case gl7 => k_is)
    (case gl8 => k_is)
    (case gl9 => k_is)
    (case gl10 => k_is)
    (case e39 => k_is)
    (case e28 => k_is)
    (case e32 => k_is)
    (case e35 => k_is)
    (case e38 => k_is)
    (case lo39 => first | rfl | decide | k_is)
    (case kh39_0 => first | rfl | k_is)
    (case kh39_1 => first | rfl | k_is)
    (case kh39_2 => first | rfl | k_is)
    (case kh39_3 => first | rfl | k_is)
    (case gl11 => k_is)
    (case e54 => k_is)
    (case lo54 => first | rfl | decide | k_is)
    (case kh54_0 => first | rfl | k_is)
    (case kh54_1 => first | rfl | k_is)
    (case kh54_2 => first | rfl | k_is)
    (case kh54_3 => first | rfl | k_is)
    (case kh54_4 => first | rfl | k_is)
    (case kh54_5 => first | rfl | k_is)
    (case kh54_6 => first | rfl | k_is)
    (case gl12 => k_is)
    (case e71 => k_is)
    (case lo71 => first | rfl | decide | k_is)
    (case kh71_0 => first | rfl | k_is)
    (case kh71_1 => first | rfl | k_is)
    (case kh71_2 => first | rfl | k_is)
    (case kh71_3 => first | rfl | k_is)
    (case kh71_4 => first | rfl | k_is)
    (case kh71_5 => first | rfl | k_is)
    (case kh71_6 => first | rfl | k_is)
    (case kh71_7 => first | rfl | k_is)
    (case z0 => k_is)
    (case z1 => k_is)
    (case z2 => k_is)
    (case z3 => k_is)
    (case z4 => k_is)
    (case z5 => k_is)
    (case z6 => k_is)
    (case z7 => k_is)
    (case z8 => k_is)
    (case z9 => k_is)
    (case z10 => k_is)
    (case z11 => k_is)
    (case z12 => k_is)
    (case z13 => k_is)
    (case z14 => k_is)


