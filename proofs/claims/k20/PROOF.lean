import PyProof.Rows.All
import Wide.All
import OpenK.AllK
import Wide.FinOn
import HandS.ForMost
import HandS.Exc
import HandS.ExcOwn
import HandS.ExcInit
import HandS.TryOnly
import HandS.Wide
import HandS.Conv
import HandS.More
import HandS.IsInst
import HandS.TupAny
import HandS.WordsExc
import HandS.Codes
import PySem.Challenge.RW_fusewalk_k20_whole_bounds_told
set_option autoImplicit false
/-! Fw0: a small language of expressions and statements, and what it reckons. Plain Lean, no machine in sight. -/
namespace Fw

/-- a text, by its code points -/
abbrev Txt := List Nat

/-- plain values: what is never changed again stands here by its value; a cell is one that may be changed -/
inductive D where
  | non
  | bl (b : Bool)
  | int (i : Int)
  | str (s : Txt)
  | tup (ds : List D)
  | lst (ds : List D)
  | dic (kvs : List (Txt × D))
  /-- a dict that the module's top made -/
  | gdic (kvs : List (Txt × D))
  | obj (c : Nat) (ds : List D)
  | cell (i : Nat)
  /-- the script -/
  | scr (ns : List Int)
  deriving Inhabited

/-- what may be changed: a list, an instance -/
inductive Cell where
  | lst (ds : List D)
  | obj (c : Nat) (ds : List D)
  deriving Inhabited
abbrev Store := List Cell

/-- an exception: its class by number, its word if it bears one -/
structure Exc where
  c : Nat
  w : Option D

inductive Out (α : Type) where
  | ok (a : α) (st : Store)
  | exc (e : Exc) (st : Store)
  | bad

@[inline] def Out.bind {α β : Type} : Out α → (α → Store → Out β) → Out β
  | .ok a st, f => f a st
  | .exc e st, _ => .exc e st
  | .bad, _ => .bad
@[simp] theorem Out.bind_ok {α β : Type} (a : α) (st : Store) (f : α → Store → Out β) : (Out.ok a st).bind f = f a st := rfl
@[simp] theorem Out.bind_exc {α β : Type} (e : Exc) (st : Store) (f : α → Store → Out β) : (Out.exc e st).bind f = .exc e st := rfl
@[simp] theorem Out.bind_bad {α β : Type} (f : α → Store → Out β) : (Out.bad : Out α).bind f = .bad := rfl
def Out.ofO {α : Type} (st : Store) : Option α → Out α
  | some a => .ok a st
  | none => .bad
@[simp] theorem Out.ofO_some {α : Type} (st : Store) (a : α) : Out.ofO st (some a) = .ok a st := rfl
@[simp] theorem Out.ofO_none {α : Type} (st : Store) : (Out.ofO st none : Out α) = .bad := rfl

inductive Op2 where
  | add | sub | mul | fdiv | mod | pow
  deriving DecidableEq
inductive Cmp where
  | eq | ne | lt | le | gt | ge | is_ | isnt | in_ | notin
  deriving DecidableEq
inductive Ty where
  | int | bool | str | tuple | list
  deriving DecidableEq
inductive Blt where
  | len | abs | min2 | max2 | int1 | str1 | list1 | tuple1 | sum1 | all1 | any1 | min1 | max1 | maxD | sorted1 | sortedSet | listRange | dictCopy | dictPairs
  | isinst (t : Ty)
  deriving DecidableEq
inductive Bm where
  | get | index | join | replace
  deriving DecidableEq

/-- targets: one name, or some names of a tuple -/
inductive Tg where
  | one (i : Nat)
  | many (is : List Nat)

mutual
inductive ME where
  | var (i : Nat)
  | lit (d : D)
  | glob (g : Nat)
  | bin (op : Op2) (a b : ME)
  | neg (a : ME)
  | not (a : ME)
  | cmp (op : Cmp) (a b : ME)
  | chain (a : ME) (r : MC)
  | and (es : MEs)
  | or (es : MEs)
  | ite (c a b : ME)
  | ix (a b : ME)
  | ixO (i : Nat) (b : ME)
  | lenO (i : Nat)
  | slFrom (a lo : ME)
  | slTo (a hi : ME)
  | slBoth (a lo hi : ME)
  | tup (es : MEs)
  | lst (es : MEs)
  | dict (ks : List Txt) (es : MEs)
  | fld (a : ME) (f : Txt)
  | call (f : Nat) (es : MEs)
  | meth (a : ME) (m : Txt) (es : MEs)
  | make (c : Nat) (es : MEs)
  | blt (b : Blt) (es : MEs)
  | bm (m : Bm) (a : ME) (es : MEs)
  | comp (t : Tg) (elt : ME) (it : MI) (cs : MEs)
  | told (e : ME)
  | caught (i : Nat) (e : ME)
inductive MEs where
  | nil
  | cons (e : ME) (es : MEs)
inductive MC where
  | last (op : Cmp) (e : ME)
  | more (op : Cmp) (e : ME) (r : MC)
inductive MI where
  | val (e : ME)
  | range1 (e : ME)
  | range2 (a b : ME)
  | enum (e : ME)
  | zip (a b : ME)
end

mutual
inductive MS where
  | expr (e : ME)
  | set (t : Tg) (e : ME)
  | par2 (i j : Nat) (a b : ME)
  | own (i : Nat) (es : MEs)
  | ownD (i : Nat) (ks : List Txt) (es : MEs)
  | newCell (i : Nat)
  | app (i : Nat) (e : ME)
  | ext (i : Nat) (e : ME)
  | setD (i : Nat) (k : Txt) (e : ME)
  | appC (i : Nat) (e : ME)
  | fset (i : Nat) (f : Txt) (e : ME)
  | finit (i : Nat) (f : Txt) (e : ME)
  | if_ (c : ME) (a b : MSs)
  | for_ (t : Tg) (it : MI) (body : MSs)
  | while_ (c : ME) (body : MSs)
  | ret (e : ME)
  | raise (c : Nat) (es : MEs)
  | cont
  | pass
  | tryE (e : ME) (c : Nat) (h : MSs)
inductive MSs where
  | nil
  | cons (s : MS) (r : MSs)
end

inductive Slot where
  | un
  | val (d : D)
  | own (ds : List D)
  | ownD (kvs : List (Txt × D))
  | self (c : Nat) (fs : List (Txt × D))
  deriving Inhabited
abbrev Env := List Slot

/-- a def by number: level by level -/
abbrev FT := Nat → List D → Store → Out D

/-! ### plain operations -/
def big : Nat := 16777216

/-- the place of an index -/
def ixN (n : Nat) (i : Int) : Option Nat := if 0 ≤ i then (if i < n then some i.toNat else none) else if -(n : Int) ≤ i then some (i + n).toNat else none
def sIx (n d : Nat) : Option Int → Nat
  | none => d
  | some v => if v < 0 then (v + (n : Int)).toNat else min v.toNat n
def cutL {α : Type} (xs : List α) (lo hi : Option Int) : List α := (xs.drop (sIx xs.length 0 lo)).take (sIx xs.length xs.length hi - sIx xs.length 0 lo)

mutual
def isData : D → Bool
  | .non | .bl _ | .int _ | .str _ => true
  | .tup ds => isDatas ds
  | .lst ds => isDatas ds
  | .scr _ => true
  | .dic _ | .gdic _ | .obj _ _ | .cell _ => false
def isDatas : List D → Bool
  | [] => true
  | .scr _ :: _ => false
  | d :: ds => isData d && isDatas ds
end
mutual
def dep : D → Nat
  | .tup ds => deps ds + 1
  | .lst ds => deps ds + 1
  | .scr _ => 1
  | _ => 0
def deps : List D → Nat
  | [] => 0
  | d :: ds => max (dep d) (deps ds)
end
mutual
/-- == of data -/
def deq : D → D → Bool
  | .non, .non => true
  | .bl a, .bl b => a == b
  | .bl a, .int j => (if a then 1 else 0) == j
  | .int i, .bl b => i == (if b then 1 else 0)
  | .int i, .int j => i == j
  | .str x, .str y => x == y
  | .lst xs, .lst ys => deqs xs ys
  | .tup xs, .tup ys => deqs xs ys
  | .scr ns, .lst [] => ns.isEmpty
  | _, _ => false
def deqs : List D → List D → Bool
  | [], [] => true
  | x :: xs, y :: ys => deq x y && deqs xs ys
  | _, _ => false
end
/-- the script is compared with the empty list alone -/
def scrOk : D → D → Bool
  | .scr _, .lst [] => true
  | .scr _, _ => false
  | _, .scr _ => false
  | _, _ => true
def eqO (a b : D) : Option Bool := if scrOk a b && isData a && isData b && (decide (dep b ≤ 64) || decide (dep a ≤ 64)) then some (deq a b) else none
/-- of texts, numbers, truths, None -/
def flat : D → Bool
  | .non | .bl _ | .int _ | .str _ => true
  | _ => false
def lookT (k : Txt) : List (Txt × D) → Option D
  | [] => none
  | (x, d) :: r => if x = k then some d else lookT k r

def isIn (x y : D) : Option Bool :=
  match y with
  | .tup ys => if flat x && ys.all flat then some (ys.any fun y => deq y x) else none
  | .lst ys => if flat x && ys.all flat then some (ys.any fun y => deq y x) else none
  | .dic kvs => match x with
    | .str k => some (lookT k kvs).isSome
    | _ => none
  | .gdic kvs => match x with
    | .str k => some (lookT k kvs).isSome
    | _ => none
  | .str s => match x with
    | .str [c] => some (s.contains c)
    | _ => none
  | _ => none

def cmp2 : Cmp → D → D → Option Bool
  | .eq, a, b => eqO a b
  | .ne, a, b => (eqO a b).map (!·)
  | .lt, .int i, .int j => some (decide (i < j))
  | .le, .int i, .int j => some (decide (i ≤ j))
  | .gt, .int i, .int j => some (decide (j < i))
  | .ge, .int i, .int j => some (decide (j ≤ i))
  | .is_, a, .non => some (match a with | .non => true | _ => false)
  | .isnt, a, .non => some (match a with | .non => false | _ => true)
  | .in_, a, b => isIn a b
  | .notin, a, b => (isIn a b).map (!·)
  | _, _, _ => none

def mulOk (i j : Int) : Bool := decide (i.natAbs < 2 ^ 64) || decide (j.natAbs < 2 ^ 64) || (decide (i.natAbs < 2 ^ 200) && decide (j.natAbs < 2 ^ 200))
def op2 : Op2 → D → D → Option D
  | .add, .int i, .int j => some (.int (i + j))
  | .sub, .int i, .int j => some (.int (i - j))
  | .mul, .int i, .int j => if mulOk i j then some (.int (i * j)) else none
  | .fdiv, .int i, .int j => if (j ≠ 0 ∧ j.natAbs < 1073741824) ∨ (0 < j ∧ j.natAbs < 2 ^ 200) then some (.int (i.fdiv j)) else none
  | .mod, .int i, .int j => if j ≠ 0 then some (.int (i.fmod j)) else none
  | .pow, .int i, .int j => if 0 ≤ j ∧ j ≤ 100 ∧ i.natAbs < 2 ^ 64 then some (.int (i ^ j.toNat)) else none
  | .add, .str s, .str t => if s.length + t.length ≤ big then some (.str (s ++ t)) else none
  | .add, .lst xs, .lst ys => if xs.length + ys.length ≤ big then some (.lst (xs ++ ys)) else none
  | .add, .tup xs, .tup ys => if xs.length + ys.length ≤ big then some (.tup (xs ++ ys)) else none
  | _, _, _ => none

def atD (a b : D) : Option D :=
  match a, b with
  | .tup xs, .int i => (ixN xs.length i).bind fun j => xs[j]?
  | .lst xs, .int i => (ixN xs.length i).bind fun j => xs[j]?
  | .scr ns, .int i => ((ixN ns.length i).bind fun j => ns[j]?).map .int
  | .str s, .int i => if s.length ≤ big then ((ixN s.length i).bind fun j => s[j]?).map fun c => .str [c] else none
  | .dic kvs, .str k => lookT k kvs
  | .gdic kvs, .str k => lookT k kvs
  | _, _ => none
def cutD (a : D) (lo hi : Option Int) : Option D :=
  match a with
  | .tup xs => some (.tup (cutL xs lo hi))
  | .lst xs => some (.lst (cutL xs lo hi))
  | .str s => if s.length ≤ big then some (.str (cutL s lo hi)) else none
  | _ => none
def asI : D → Option Int
  | .int i => some i
  | _ => none
def asB : D → Option Bool
  | .bl b => some b
  | _ => none
def asIs : List D → Option (List Int)
  | [] => some []
  | .int i :: r => (asIs r).map (i :: ·)
  | _ :: _ => none
def asBs : List D → Option (List Bool)
  | [] => some []
  | .bl i :: r => (asBs r).map (i :: ·)
  | _ :: _ => none
/-- the items of what is walked -/
def items : D → Option (List D)
  | .tup ds => some ds
  | .lst ds => some ds
  | .str s => some (s.map fun c => .str [c])
  | _ => none
/-- of a list alone -/
def itemsL : D → Option (List D)
  | .lst ds => some ds
  | _ => none
def minI : List Int → Int
  | [] => 0
  | i :: r => r.foldl min i
def maxI : List Int → Int
  | [] => 0
  | i :: r => r.foldl max i
def insI (i : Int) : List Int → List Int
  | [] => [i]
  | j :: r => if i ≤ j then i :: j :: r else j :: insI i r
def sortI : List Int → List Int
  | [] => []
  | i :: r => insI i (sortI r)
def upto (lo : Int) : Nat → List Int
  | 0 => []
  | n + 1 => lo :: upto (lo + 1) n
def rangeD (lo hi : Int) : Option (List D) := if lo.natAbs < 2 ^ 62 ∧ hi.natAbs < 2 ^ 62 ∧ (hi - lo).toNat ≤ big then some ((upto lo (hi - lo).toNat).map .int) else none
def tyIs : Ty → D → Option Bool
  | .int, .int _ => some true
  | .int, .bl _ => some true
  | .bool, .bl _ => some true
  | .str, .str _ => some true
  | .tuple, .tup _ => some true
  | .list, .lst _ => some true
  | _, .non | _, .bl _ | _, .int _ | _, .str _ | _, .tup _ | _, .lst _ => some false
  | _, _ => none
/-- the figures of a number -/
def figs (n : Nat) : Txt := (Nat.toDigits 10 n).map Char.toNat
def showI (i : Int) : Txt := if i < 0 then 45 :: figs i.natAbs else figs i.natAbs
def putT (k : Txt) (d : D) : List (Txt × D) → List (Txt × D)
  | [] => [(k, d)]
  | (x, e) :: r => if x = k then (x, d) :: r else (x, e) :: putT k d r
def pairsOf : List D → Option (List (Txt × D))
  | [] => some []
  | .tup [.str k, d] :: r => (pairsOf r).map ((k, d) :: ·)
  | _ :: _ => none
def dedupI : List Int → List Int
  | [] => []
  | i :: r => if r.contains i then dedupI r else i :: dedupI r

def bLen : List D → Option D
  | [.tup ds] => some (.int ds.length)
  | [.lst ds] => some (.int ds.length)
  | [.scr ns] => some (.int ns.length)
  | [.str s] => if s.length ≤ big then some (.int s.length) else none
  | _ => none
def bAbs : List D → Option D
  | [.int i] => some (.int (if i < 0 then -i else i))
  | _ => none
def bMin2 : List D → Option D
  | [.int i, .int j] => some (.int (if j < i then j else i))
  | _ => none
def bMax2 : List D → Option D
  | [.int i, .int j] => some (.int (if j > i then j else i))
  | _ => none
def bInt : List D → Option D
  | [.int i] => some (.int i)
  | [.bl b] => some (.int (if b then 1 else 0))
  | _ => none
def bStr : List D → Option D
  | [.int i] => if i.natAbs < 2 ^ 200 then some (.str (showI i)) else none
  | _ => none
def bList : List D → Option D
  | [.tup ds] => some (.lst ds)
  | [.lst ds] => some (.lst ds)
  | [.dic kvs] => some (.lst (kvs.map fun kv => .str kv.1))
  | _ => none
def bTuple : List D → Option D
  | [.tup ds] => some (.tup ds)
  | [.lst ds] => some (.tup ds)
  | _ => none
def bSum : List D → Option D
  | [.lst ds] => (asIs ds).map fun ns => .int ns.sum
  | _ => none
def bAll : List D → Option D
  | [.lst ds] => (asBs ds).map fun bs => .bl (bs.all id)
  | _ => none
def bAny : List D → Option D
  | [.lst ds] => (asBs ds).map fun bs => .bl (bs.any id)
  | _ => none
def bMin1 : List D → Option D
  | [.lst ds] => if ds.isEmpty then none else (asIs ds).map fun ns => .int (minI ns)
  | _ => none
def bMax1 : List D → Option D
  | [.lst ds] => if ds.isEmpty then none else (asIs ds).map fun ns => .int (maxI ns)
  | _ => none
def bMaxD : List D → Option D
  | [.lst ds] => (asIs ds).map fun ns => .int (maxI ns)
  | _ => none
def bSorted : List D → Option D
  | [.lst ds] => (asIs ds).bind fun ns => if ns.length < 64 then some (.lst ((sortI ns).map .int)) else none
  | _ => none
def bSortedSet : List D → Option D
  | [.lst ds] => (asIs ds).bind fun ns => if ns.length < 64 then some (.lst ((sortI (dedupI ns)).map .int)) else none
  | _ => none
def bListRange : List D → Option D
  | [.int i, .int j] => (rangeD i j).map .lst
  | _ => none
def bDictCopy : List D → Option D
  | [.dic kvs] => some (.dic kvs)
  | _ => none
def bDictPairs : List D → Option D
  | [.lst ds] => (pairsOf ds).bind fun kvs => if (kvs.map (·.1)).Nodup then some (.dic kvs) else none
  | _ => none
def bIsinst (t : Ty) : List D → Option D
  | [d] => (tyIs t d).map .bl
  | _ => none
def blt : Blt → List D → Option D
  | .len => bLen
  | .abs => bAbs
  | .min2 => bMin2
  | .max2 => bMax2
  | .int1 => bInt
  | .str1 => bStr
  | .list1 => bList
  | .tuple1 => bTuple
  | .sum1 => bSum
  | .all1 => bAll
  | .any1 => bAny
  | .min1 => bMin1
  | .max1 => bMax1
  | .maxD => bMaxD
  | .sorted1 => bSorted
  | .sortedSet => bSortedSet
  | .listRange => bListRange
  | .dictCopy => bDictCopy
  | .dictPairs => bDictPairs
  | .isinst t => bIsinst t

def bmD : Bm → D → List D → Option D
  | .get, .dic kvs, [.str k, d] => some ((lookT k kvs).getD d)
  | .get, .gdic kvs, [.str k, d] => some ((lookT k kvs).getD d)
  | .index, .lst ds, [x] => if flat x && ds.all flat && ds.any (fun y => deq y x) then some (.int (ds.findIdx fun y => deq y x)) else none
  | _, _, _ => none

/-! ### what an expression reckons -/
structure MCls where
  /-- its instances are changed later -/
  mu : Bool
  fs : List Txt
  init : Nat
  ms : List (Txt × Nat)
structure MExc where
  name : Txt
  /-- it bears a word -/
  word : Bool
structure MDef where
  /-- how many slots, how many parameters -/
  n : Nat
  np : Nat
  /-- an __init__: of which class -/
  ini : Option Nat
  body : MSs
structure Pg where
  defs : List MDef
  globs : List D
  cls : List MCls
  excs : List MExc
  /-- the class of faults -/
  fault : Nat
  fuel : Nat

def callT (T : List FT) (f : Nat) (ds : List D) (st : Store) : Out D :=
  match T with
  | [] => .bad
  | F :: _ => F f ds st

mutual
/-- no cell from n on -/
def below (n : Nat) : D → Bool
  | .non | .bl _ | .int _ | .str _ | .scr _ => true
  | .tup ds => belows n ds
  | .lst ds => belows n ds
  | .dic kvs => belowK n kvs
  | .gdic kvs => belowK n kvs
  | .obj _ ds => belows n ds
  | .cell i => decide (i < n)
def belows (n : Nat) : List D → Bool
  | [] => true
  | d :: ds => below n d && belows n ds
def belowK (n : Nat) : List (Txt × D) → Bool
  | [] => true
  | (_, d) :: r => below n d && belowK n r
end
def belowC (n : Nat) : Cell → Bool
  | .lst ds => belows n ds
  | .obj _ ds => belows n ds

def bindTg : Tg → D → Env → Option Env
  | .one i, d, env => if i < env.length then some (env.set i (.val d)) else none
  | .many is, .tup ds, env => if is.length = ds.length ∧ is.all (fun i => decide (i < env.length)) then some ((is.zip ds).foldl (fun e p => e.set p.1 (.val p.2)) env) else none
  | _, _, _ => none

def compGo (f : D → Store → Out (Option D)) : List D → Store → Out (List D)
  | [], st => .ok [] st
  | x :: r, st => (f x st).bind fun o st1 => (compGo f r st1).bind fun ds st2 => .ok (match o with | some d => d :: ds | none => ds) st2

def varD (env : Env) (i : Nat) : Option D :=
  match env[i]? with
  | some (.val d) => some d
  | _ => none
def getF (P : Pg) (c : Nat) (ds : List D) (f : Txt) : Option D :=
  match P.cls[c]? with
  | some k => (k.fs.zip ds).lookup f
  | none => none
def fldD (P : Pg) (st : Store) (f : Txt) : D → Option D
  | .obj c ds => getF P c ds f
  | .cell i => match st[i]? with
    | some (.obj c ds) => getF P c ds f
    | _ => none
  | _ => none
/-- the def of a method of what stands there -/
def methF (P : Pg) (st : Store) (m : Txt) : D → Option Nat
  | .obj c _ => (P.cls[c]?).bind fun k => k.ms.lookup m
  | .cell i => match st[i]? with
    | some (.obj c _) => (P.cls[c]?).bind fun k => k.ms.lookup m
    | _ => none
  | _ => none
def t_refused : Txt := [114, 101, 102, 117, 115, 101, 100]
def t_good : Txt := [103, 111, 111, 100]
def t_fault : Txt := [102, 97, 117, 108, 116]
/-- what _law_told makes of an exception -/
def toldD (P : Pg) (e : Exc) : Option D :=
  match P.excs[e.c]? with
  | some k => match k.word, e.w with
    | true, some w => some (.tup [.str t_refused, .str k.name, w])
    | false, none => some (.tup [.str t_refused, .str k.name])
    | _, _ => none
  | none => none
def closeC (n : Nat) (tag : Txt) (d : D) (st : Store) : Out D :=
  match st[n]? with
  | some (.lst ds) => if below n d && belows n ds && (st.take n).all (belowC n) then .ok (.tup [.str tag, d, .lst ds]) (st.take n) else .bad
  | _ => .bad

mutual
def evalE (P : Pg) (T : List FT) : ME → Env → Store → Out D
  | .var i, env, st => .ofO st (varD env i)
  | .lit d, _, st => .ok d st
  | .glob g, _, st => .ofO st P.globs[g]?
  | .bin op a b, env, st => (evalE P T a env st).bind fun x st => (evalE P T b env st).bind fun y st => .ofO st (op2 op x y)
  | .neg a, env, st => (evalE P T a env st).bind fun x st => .ofO st ((asI x).map fun i => .int (-i))
  | .not a, env, st => (evalE P T a env st).bind fun x st => .ofO st ((asB x).map fun b => .bl (!b))
  | .cmp op a b, env, st => (evalE P T a env st).bind fun x st => (evalE P T b env st).bind fun y st => .ofO st ((cmp2 op x y).map .bl)
  | .chain a r, env, st => (evalE P T a env st).bind fun x st => evalC P T x r env st
  | .and es, env, st => evalA P T es env st
  | .or es, env, st => evalO P T es env st
  | .ite c a b, env, st => (evalE P T c env st).bind fun x st => match x with
    | .bl true => evalE P T a env st
    | .bl false => evalE P T b env st
    | _ => .bad
  | .ix a b, env, st => (evalE P T a env st).bind fun x st => (evalE P T b env st).bind fun y st => .ofO st (atD x y)
  | .ixO i b, env, st => match env[i]? with
    | some (.own ds) => (evalE P T b env st).bind fun y st => .ofO st (atD (.lst ds) y)
    | _ => .bad
  | .lenO i, env, st => match env[i]? with
    | some (.own ds) => .ok (.int ds.length) st
    | _ => .bad
  | .slFrom a lo, env, st => (evalE P T a env st).bind fun x st => (evalE P T lo env st).bind fun l st => .ofO st ((asI l).bind fun l => cutD x (some l) none)
  | .slTo a hi, env, st => (evalE P T a env st).bind fun x st => (evalE P T hi env st).bind fun h st => .ofO st ((asI h).bind fun h => cutD x none (some h))
  | .slBoth a lo hi, env, st => (evalE P T a env st).bind fun x st => (evalE P T lo env st).bind fun l st => match asI l with
    | some l => (evalE P T hi env st).bind fun h st => .ofO st ((asI h).bind fun h => cutD x (some l) (some h))
    | none => .bad
  | .tup es, env, st => (evalEs P T es env st).bind fun ds st => if ds.length ≤ big then .ok (.tup ds) st else .bad
  | .lst es, env, st => (evalEs P T es env st).bind fun ds st => if ds.length ≤ big then .ok (.lst ds) st else .bad
  | .dict ks es, env, st => (evalEs P T es env st).bind fun ds st => if ds.length = ks.length ∧ ds.length ≤ 15 ∧ ks.Nodup then .ok (.dic (ks.zip ds)) st else .bad
  | .fld a f, env, st => (evalE P T a env st).bind fun x st => .ofO st (fldD P st f x)
  | .call f es, env, st => (evalEs P T es env st).bind fun ds st => callT T f ds st
  | .meth a m es, env, st => (evalE P T a env st).bind fun x st => match methF P st m x with
    | some f => (evalEs P T es env st).bind fun ds st => callT T f (x :: ds) st
    | none => .bad
  | .make c es, env, st => match T with
    | [] => .bad
    | _ :: T' => (evalEs P T es env st).bind fun ds st => match P.cls[c]? with
      | some k => match callT T' k.init ds st with
        | .ok (.tup ds) st => if k.mu then .ok (.cell st.length) (st ++ [.obj c ds]) else .ok (.obj c ds) st
        | _ => .bad
      | none => .bad
  | .blt b es, env, st => (evalEs P T es env st).bind fun ds st => .ofO st (blt b ds)
  | .bm m a es, env, st => (evalE P T a env st).bind fun x st => (evalEs P T es env st).bind fun ds st => .ofO st (bmD m x ds)
  | .comp t elt it cs, env, st => (evalI P T it env st).bind fun xs st => if xs.length ≤ big then
      (compGo (fun x st => match bindTg t x env with
        | some env => (evalA1 P T cs env st).bind fun b st => if b then (evalE P T elt env st).bind fun d st => .ok (some d) st else .ok none st
        | none => .bad) xs st).bind fun ds st => .ok (.lst ds) st else .bad
  | .told e, env, st => match T with
    | _ :: _ :: T' => match evalE P T' e env st with
      | .ok d st => .ok d st
      | .exc e st => .ofO st (toldD P e)
      | .bad => .bad
    | _ => .bad
  | .caught i e, env, st => match T with
    | _ :: _ :: T' => match evalE P T' e (env.set i (.val (.cell st.length))) (st ++ [.lst []]) with
      | .ok d st' => closeC st.length t_good d st'
      | .exc e st' => match e.w with
        | some w => if e.c = P.fault then closeC st.length t_fault w st' else .bad
        | none => .bad
      | .bad => .bad
    | _ => .bad
def evalEs (P : Pg) (T : List FT) : MEs → Env → Store → Out (List D)
  | .nil, _, st => .ok [] st
  | .cons e es, env, st => (evalE P T e env st).bind fun d st => (evalEs P T es env st).bind fun ds st => .ok (d :: ds) st
/-- and -/
def evalA (P : Pg) (T : List FT) : MEs → Env → Store → Out D
  | .nil, _, _ => .bad
  | .cons e .nil, env, st => evalE P T e env st
  | .cons e (.cons e' es), env, st => (evalE P T e env st).bind fun x st => match x with
    | .bl true => evalA P T (.cons e' es) env st
    | .bl false => .ok (.bl false) st
    | _ => .bad
/-- or -/
def evalO (P : Pg) (T : List FT) : MEs → Env → Store → Out D
  | .nil, _, _ => .bad
  | .cons e .nil, env, st => evalE P T e env st
  | .cons e (.cons e' es), env, st => (evalE P T e env st).bind fun x st => match x with
    | .bl true => .ok (.bl true) st
    | .bl false => evalO P T (.cons e' es) env st
    | _ => .bad
/-- a clause's test, if there is one -/
def evalA1 (P : Pg) (T : List FT) : MEs → Env → Store → Out Bool
  | .nil, _, st => .ok true st
  | .cons e .nil, env, st => (evalE P T e env st).bind fun x st => .ofO st (asB x)
  | .cons _ (.cons _ _), _, _ => .bad
/-- a chain of comparisons -/
def evalC (P : Pg) (T : List FT) (x : D) : MC → Env → Store → Out D
  | .last op e, env, st => (evalE P T e env st).bind fun y st => .ofO st ((cmp2 op x y).map .bl)
  | .more op e r, env, st => (evalE P T e env st).bind fun y st => match cmp2 op x y with
    | some true => evalC P T y r env st
    | some false => .ok (.bl false) st
    | none => .bad
/-- what is walked -/
def evalI (P : Pg) (T : List FT) : MI → Env → Store → Out (List D)
  | .val e, env, st => (evalE P T e env st).bind fun x st => .ofO st (items x)
  | .range1 e, env, st => (evalE P T e env st).bind fun x st => .ofO st ((asI x).bind fun n => rangeD 0 n)
  | .range2 a b, env, st => (evalE P T a env st).bind fun x st => (evalE P T b env st).bind fun y st => .ofO st ((asI x).bind fun i => (asI y).bind fun j => rangeD i j)
  | .enum e, env, st => (evalE P T e env st).bind fun x st => .ofO st ((itemsL x).map fun ds => (upto 0 ds.length).zipWith (fun i d => .tup [.int i, d]) ds)
  | .zip a b, env, st => (evalE P T a env st).bind fun x st => (evalE P T b env st).bind fun y st => .ofO st ((itemsL x).bind fun ds => (itemsL y).map fun es => ds.zipWith (fun d e => .tup [d, e]) es)
end

/-! ### what statements do -/
inductive SO where
  | next (env : Env) (st : Store)
  | ret (d : D) (st : Store)
  | cont (env : Env) (st : Store)
  | exc (e : Exc) (st : Store)
  | bad
def Out.so {α : Type} : Out α → (α → Store → SO) → SO
  | .ok a st, f => f a st
  | .exc e st, _ => .exc e st
  | .bad, _ => .bad
@[simp] theorem Out.so_ok {α : Type} (a : α) (st : Store) (f : α → Store → SO) : (Out.ok a st).so f = f a st := rfl
@[simp] theorem Out.so_exc {α : Type} (e : Exc) (st : Store) (f : α → Store → SO) : (Out.exc e st : Out α).so f = .exc e st := rfl
@[simp] theorem Out.so_bad {α : Type} (f : α → Store → SO) : (Out.bad : Out α).so f = .bad := rfl
def SO.then : SO → (Env → Store → SO) → SO
  | .next env st, f => f env st
  | .ret d st, _ => .ret d st
  | .cont env st, _ => .cont env st
  | .exc e st, _ => .exc e st
  | .bad, _ => .bad
def nextO (st : Store) : Option Env → SO
  | some env => .next env st
  | none => .bad
def freezeS : Slot → Slot
  | .own ds => .val (.lst ds)
  | .ownD kvs => .val (.dic kvs)
  | s => s
def forGo (f : D → Env → Store → SO) : List D → Env → Store → SO
  | [], env, st => .next env st
  | x :: r, env, st => match f x env st with
    | .next env st => forGo f r env st
    | .cont env st => forGo f r env st
    | o => o
def whileGo (c : Env → Store → Out D) (f : Env → Store → SO) : Nat → Env → Store → SO
  | 0, _, _ => .bad
  | n + 1, env, st => (c env st).so fun x st => match x with
    | .bl true => match f env st with
      | .next env st => whileGo c f n env st
      | .cont env st => whileGo c f n env st
      | o => o
    | .bl false => .next env st
    | _ => .bad

mutual
def execS (P : Pg) (T : List FT) : MS → Env → Store → SO
  | .expr e, env, st => (evalE P T e env st).so fun _ st => .next env st
  | .set t e, env, st => (evalE P T e env st).so fun x st => nextO st (bindTg t x env)
  | .par2 i j a b, env, st => (evalE P T a env st).so fun x st => (evalE P T b env st).so fun y st =>
      if i < env.length ∧ j < env.length ∧ i ≠ j then .next ((env.set i (.val x)).set j (.val y)) st else .bad
  | .own i es, env, st => (evalEs P T es env st).so fun ds st => if ds.length ≤ big ∧ i < env.length then .next (env.set i (.own ds)) st else .bad
  | .ownD i ks es, env, st => (evalEs P T es env st).so fun ds st => if ds.length = ks.length ∧ ds.length ≤ 15 ∧ ks.Nodup ∧ i < env.length then .next (env.set i (.ownD (ks.zip ds))) st else .bad
  | .newCell i, env, st => if i < env.length then .next (env.set i (.val (.cell st.length))) (st ++ [.lst []]) else .bad
  | .app i e, env, st => match env[i]? with
    | some (.own ds) => (evalE P T e env st).so fun x st => if ds.length < big then .next (env.set i (.own (ds ++ [x]))) st else .bad
    | _ => .bad
  | .ext i e, env, st => match env[i]? with
    | some (.own ds) => (evalE P T e env st).so fun x st => match x with
      | .lst es => if ds.length + es.length ≤ big then .next (env.set i (.own (ds ++ es))) st else .bad
      | _ => .bad
    | _ => .bad
  | .setD i k e, env, st => match env[i]? with
    | some (.ownD kvs) => (evalE P T e env st).so fun x st => if kvs.length < big then .next (env.set i (.ownD (putT k x kvs))) st else .bad
    | _ => .bad
  | .appC i e, env, st => match varD env i with
    | some (.cell j) => (evalE P T e env st).so fun x st => match st[j]? with
      | some (.lst ds) => if ds.length < big then .next env (st.set j (.lst (ds ++ [x]))) else .bad
      | _ => .bad
    | _ => .bad
  | .fset i f e, env, st => match varD env i with
    | some (.cell j) => (evalE P T e env st).so fun x st => match st[j]? with
      | some (.obj c ds) => match (P.cls[c]?).bind fun k => k.fs.findIdx? (· == f) with
        | some n => .next env (st.set j (.obj c (ds.set n x)))
        | none => .bad
      | _ => .bad
    | _ => .bad
  | .finit i f e, env, st => match env[i]? with
    | some (.self c fs) => (evalE P T e env st).so fun x st => if fs.length < 20 ∧ (fs.lookup f).isNone ∧ (P.cls[c]?).map (fun k => k.fs.contains f) = some true then .next (env.set i (.self c (fs ++ [(f, x)]))) st else .bad
    | _ => .bad
  | .if_ c a b, env, st => (evalE P T c env st).so fun x st => match x with
    | .bl true => execSs P T a env st
    | .bl false => execSs P T b env st
    | _ => .bad
  | .for_ t it body, env, st => (evalI P T it env st).so fun xs st => forGo (fun x env st => match bindTg t x env with
      | some env => execSs P T body env st
      | none => .bad) xs env st
  | .while_ c body, env, st => whileGo (evalE P T c) (execSs P T body) P.fuel env st
  | .ret e, env, st => (evalE P T e (env.map freezeS) st).so fun x st => .ret x st
  | .raise c es, env, st => (evalEs P T es env st).so fun ds st => match P.excs[c]?, ds with
    | some k, [d] => .exc ⟨c, if k.word then some d else none⟩ st
    | _, _ => .bad
  | .cont, env, st => .cont env st
  | .pass, env, st => .next env st
  | .tryE e c h, env, st => match evalE P T e env st with
    | .ok _ st => .next env st
    | .exc x st => if x.c = c then execSs P T h env st else .bad
    | .bad => .bad
def execSs (P : Pg) (T : List FT) : MSs → Env → Store → SO
  | .nil, env, st => .next env st
  | .cons s r, env, st => match execS P T s env st with
    | .next env st => execSs P T r env st
    | o => o
end

/-! ### defs -/
def startEnv (n : Nat) (ds : List D) : Env := ds.map .val ++ List.replicate (n - ds.length) .un
/-- an instance is made: self stands in slot 0 -/
def startIni (c n : Nat) (ds : List D) : Env := .self c [] :: (ds.map .val ++ List.replicate (n - 1 - ds.length) .un)
def runDef (P : Pg) (T : List FT) (f : Nat) (ds : List D) (st : Store) : Out D :=
  match P.defs[f]? with
  | none => .bad
  | some d =>
    match d.ini with
    | some c => if ds.length + 1 = d.np then
        match execSs P T d.body (startIni c d.n ds) st with
        | .next (.self c' fs :: _) st => if c' = c ∧ some (fs.map (·.1)) = (P.cls[c]?).map (·.fs) then .ok (.tup (fs.map (·.2))) st else .bad
        | .exc e st => .exc e st
        | _ => .bad
      else .bad
    | none => if ds.length = d.np then
        match execSs P T d.body (startEnv d.n ds) st with
        | .next _ st => .ok .non st
        | .ret x st => .ok x st
        | .exc e st => .exc e st
        | _ => .bad
      else .bad
/-- the defs, level by level -/
def tabs (P : Pg) : Nat → List FT
  | 0 => []
  | k + 1 => runDef P (tabs P k) :: tabs P k

end Fw

set_option Elab.async false
set_option linter.all false
set_option maxRecDepth 100000
set_option autoImplicit false
/-! Fw1: how what Fw0 reckons lies in the machine. -/
namespace Fw
open PySem L2

/-- the ground: the text, its world, what the top left, the small program, where its classes stand -/
structure Gd where
  P : Program
  w : World
  K : PySem.W.Frag
  mg : Str → Option Value
  base : Heap
  pg : Pg
  /-- where its classes, its exceptions, its defs stand; a def's data, its parameters -/
  cA : Nat → Addr
  eA : Nat → Addr
  fA : Nat → Addr
  fD : Nat → FuncData
  fP : Nat → List Str
  tb : List (Addr × Str)

/-- a state: the abstract heap, what is never changed any more, where the cells stand -/
structure Z where
  H : Hp
  F : Addr → Prop
  io : List Addr

def sOf (t : Txt) : Str := ⟨t.toArray⟩
def okT (t : Txt) : Bool := t.all fun c => decide (c < 1114112)
def kOf (t : Txt) : Key := Sum.inr (sOf t)
theorem sOf_inj {a b : Txt} (h : sOf a = sOf b) : a = b := by
  have e : (⟨a.toArray⟩ : Str) = ⟨b.toArray⟩ := h
  injection e with e
  simpa using congrArg Array.toList e
theorem sOf_iff {a b : Txt} : sOf a = sOf b ↔ a = b := ⟨sOf_inj, fun e => by rw [e]⟩
theorem kOf_inj {a b : Txt} (h : kOf a = kOf b) : a = b := sOf_inj (Sum.inr.inj h)

/-- a tuple, a list, a dict that the top left -/
def KTup (K : PySem.W.Frag) (a : Addr) (vs : List V) : Prop :=
  ∃ (o : Obj) (its : Array Value) (n : Nat), K.lookup a = some o ∧ o.cls = .type "tuple" ∧ o.data = .seq its n ∧ its.size ≤ sizeLine ∧ Vals vs its.toList
def KLst (K : PySem.W.Frag) (a : Addr) (vs : List V) : Prop :=
  ∃ (o : Obj) (its : Array Value) (n : Nat), K.lookup a = some o ∧ o.cls = .type "list" ∧ o.dict = none ∧ o.data = .seq its n ∧ its.size ≤ sizeLine ∧ Vals vs its.toList
def KDic (G : Gd) (a : Addr) (kvs : List (Key × V)) : Prop :=
  ∃ (es : Array DictEntry) (n : Nat), KDict G.K G.w a es n ∧ ∀ x : Str, ∃ r : Option Value, PySem.W.nsIn G.K a x = some r ∧ RelO (valV kvs (Sum.inr x)) r

mutual
def R (G : Gd) (z : Z) : D → V → Prop
  | .non, v => v = .non
  | .bl b, v => v = .bl b
  | .int i, v => v = .int i
  | .str s, v => v = .str (sOf s) ∧ okT s = true
  | .tup ds, v => ∃ a vs, v = .ref a ∧ ((z.F a ∧ z.H a = some (.tup vs)) ∨ KTup G.K a vs) ∧ Rs G z ds vs
  | .lst ds, v => ∃ a vs, v = .ref a ∧ (z.F a ∧ z.H a = some (.lst vs)) ∧ Rs G z ds vs
  | .dic kvs, v => ∃ a vs, v = .ref a ∧ (z.F a ∧ z.H a = some (.dK vs)) ∧ RK G z kvs vs
  | .gdic kvs, v => ∃ a vs, v = .ref a ∧ KDic G a vs ∧ RK G z kvs vs
  | .obj c ds, v => ∃ a dx vs k, v = .ref a ∧ z.F a ∧ G.pg.cls[c]? = some k ∧ z.H a = some (.ins (G.cA c) dx ((k.fs.map sOf).zip vs)) ∧ vs.length = k.fs.length ∧ Rs G z ds vs
  | .cell i, v => ∃ a, z.io[i]? = some a ∧ v = .ref a
  | .scr ns, v => ∃ a, v = .ref a ∧ ((z.F a ∧ Rd z.H a (.lst (ns.map V.int))) ∨ KLst G.K a (ns.map V.int))
def Rs (G : Gd) (z : Z) : List D → List V → Prop
  | [], vs => vs = []
  | d :: ds, vs => ∃ v r, vs = v :: r ∧ R G z d v ∧ Rs G z ds r
def RK (G : Gd) (z : Z) : List (Txt × D) → List (Key × V) → Prop
  | [], vs => vs = []
  | (k, d) :: ds, vs => ∃ v r, vs = (kOf k, v) :: r ∧ okT k = true ∧ R G z d v ∧ RK G z ds r
end

/-- what is known stays known -/
structure Keep (z z' : Z) : Prop where
  f : ∀ a, z.F a → z'.F a
  h : ∀ a o, z.F a → z.H a = some o → z'.H a = some o
  c : ∀ (i : Nat) (a : Addr), z.io[i]? = some a → z'.io[i]? = some a
theorem Keep.refl (z : Z) : Keep z z := ⟨fun _ h => h, fun _ _ _ h => h, fun _ _ h => h⟩

mutual
theorem R.keep {G : Gd} {z z' : Z} (k : Keep z z') : ∀ (d : D) (v : V), R G z d v → R G z' d v
  | .non, v, h => by simpa only [R] using h
  | .bl b, v, h => by simpa only [R] using h
  | .int i, v, h => by simpa only [R] using h
  | .str s, v, h => by simpa only [R] using h
  | .tup ds, v, h => by
    simp only [R] at h ⊢
    obtain ⟨a, vs, e, q, r⟩ := h
    exact ⟨a, vs, e, q.imp (fun ⟨f, h⟩ => ⟨k.f a f, k.h a _ f h⟩) id, Rs.keep k ds vs r⟩
  | .lst ds, v, h => by
    simp only [R] at h ⊢
    obtain ⟨a, vs, e, ⟨f, q⟩, r⟩ := h
    exact ⟨a, vs, e, ⟨k.f a f, k.h a _ f q⟩, Rs.keep k ds vs r⟩
  | .dic kvs, v, h => by
    simp only [R] at h ⊢
    obtain ⟨a, vs, e, ⟨f, q⟩, r⟩ := h
    exact ⟨a, vs, e, ⟨k.f a f, k.h a _ f q⟩, RK.keep k kvs vs r⟩
  | .gdic kvs, v, h => by
    simp only [R] at h ⊢
    obtain ⟨a, vs, e, q, r⟩ := h
    exact ⟨a, vs, e, q, RK.keep k kvs vs r⟩
  | .obj c ds, v, h => by
    simp only [R] at h ⊢
    obtain ⟨a, dx, vs, kl, e, f, hk, q, hl, r⟩ := h
    exact ⟨a, dx, vs, kl, e, k.f a f, hk, k.h a _ f q, hl, Rs.keep k ds vs r⟩
  | .cell i, v, h => by
    simp only [R] at h ⊢
    obtain ⟨a, q, e⟩ := h
    exact ⟨a, k.c i a q, e⟩
  | .scr ns, v, h => by
    simp only [R] at h ⊢
    obtain ⟨a, e, q⟩ := h
    refine ⟨a, e, q.imp (fun ⟨f, h⟩ => ⟨k.f a f, ?_⟩) id⟩
    rcases h with h | ⟨o, h⟩
    · exact .inl (k.h a _ f h)
    · exact .inr ⟨o, k.h a _ f h⟩
theorem Rs.keep {G : Gd} {z z' : Z} (k : Keep z z') : ∀ (ds : List D) (vs : List V), Rs G z ds vs → Rs G z' ds vs
  | [], vs, h => by simpa only [Rs] using h
  | d :: ds, vs, h => by
    simp only [Rs] at h ⊢
    obtain ⟨v, r, e, h1, h2⟩ := h
    exact ⟨v, r, e, R.keep k d v h1, Rs.keep k ds r h2⟩
theorem RK.keep {G : Gd} {z z' : Z} (k : Keep z z') : ∀ (ds : List (Txt × D)) (vs : List (Key × V)), RK G z ds vs → RK G z' ds vs
  | [], vs, h => by simpa only [RK] using h
  | (x, d) :: ds, vs, h => by
    simp only [RK] at h ⊢
    obtain ⟨v, r, e, h0, h1, h2⟩ := h
    exact ⟨v, r, e, h0, R.keep k d v h1, RK.keep k ds r h2⟩
end

section
variable {G : Gd} {z : Z}
theorem Rs.nil {vs : List V} : Rs G z [] vs ↔ vs = [] := by simp only [Rs]
theorem Rs.cons {d : D} {ds : List D} {v : V} {vs : List V} : Rs G z (d :: ds) (v :: vs) ↔ R G z d v ∧ Rs G z ds vs := by
  simp only [Rs]
  constructor
  · rintro ⟨_, _, e, h1, h2⟩
    cases e
    exact ⟨h1, h2⟩
  · rintro ⟨h1, h2⟩
    exact ⟨v, vs, rfl, h1, h2⟩
theorem Rs.mk (d : D) (ds : List D) {v : V} {vs : List V} (h1 : R G z d v) (h2 : Rs G z ds vs) : Rs G z (d :: ds) (v :: vs) := Rs.cons.mpr ⟨h1, h2⟩
theorem Rs.len : ∀ {ds : List D} {vs : List V}, Rs G z ds vs → vs.length = ds.length
  | [], vs, h => by rw [Rs.nil.mp h]; rfl
  | d :: ds, vs, h => by
    simp only [Rs] at h
    obtain ⟨v, r, rfl, _, h⟩ := h
    simp [Rs.len h]
theorem Rs.get : ∀ {ds : List D} {vs : List V} {i : Nat} {d : D}, Rs G z ds vs → ds[i]? = some d → ∃ v, vs[i]? = some v ∧ R G z d v
  | d' :: ds, vs, i, d, h, e => by
    simp only [Rs] at h
    obtain ⟨v, r, rfl, h1, h2⟩ := h
    cases i with
    | zero => simp at e; subst e; exact ⟨v, rfl, h1⟩
    | succ i =>
      obtain ⟨w, a, b⟩ := Rs.get (i := i) h2 (by simpa using e)
      exact ⟨w, by simpa using a, b⟩
theorem Rs.getV : ∀ {ds : List D} {vs : List V} {i : Nat} {v : V}, Rs G z ds vs → vs[i]? = some v → ∃ d, ds[i]? = some d ∧ R G z d v
  | [], vs, i, v, h, e => by
    rw [Rs.nil.mp h] at e; simp at e
  | d' :: ds, vs, i, v, h, e => by
    simp only [Rs] at h
    obtain ⟨v', r, rfl, h1, h2⟩ := h
    cases i with
    | zero => simp at e; subst e; exact ⟨d', rfl, h1⟩
    | succ i =>
      obtain ⟨w, a, b⟩ := Rs.getV (i := i) h2 (by simpa using e)
      exact ⟨w, by simpa using a, b⟩
theorem Rs.app : ∀ {ds es : List D} {vs ws : List V}, Rs G z ds vs → Rs G z es ws → Rs G z (ds ++ es) (vs ++ ws)
  | [], es, vs, ws, h, h' => by rw [Rs.nil.mp h]; exact h'
  | d :: ds, es, vs, ws, h, h' => by
    simp only [Rs] at h
    obtain ⟨v, r, rfl, h1, h2⟩ := h
    exact Rs.mk _ _ h1 (Rs.app h2 h')
theorem Rs.take : ∀ {ds : List D} {vs : List V} (n : Nat), Rs G z ds vs → Rs G z (ds.take n) (vs.take n)
  | [], vs, n, h => by rw [Rs.nil.mp h]; simp [Rs]
  | d :: ds, vs, 0, h => by simp [Rs]
  | d :: ds, vs, n + 1, h => by
    simp only [Rs] at h
    obtain ⟨v, r, rfl, h1, h2⟩ := h
    exact Rs.mk _ _ h1 (Rs.take n h2)
theorem Rs.drop : ∀ {ds : List D} {vs : List V} (n : Nat), Rs G z ds vs → Rs G z (ds.drop n) (vs.drop n)
  | [], vs, n, h => by rw [Rs.nil.mp h]; simp [Rs]
  | d :: ds, vs, 0, h => h
  | d :: ds, vs, n + 1, h => by
    simp only [Rs] at h
    obtain ⟨v, r, rfl, h1, h2⟩ := h
    exact Rs.drop n h2
theorem Rs.set : ∀ {ds : List D} {vs : List V} (n : Nat) {d : D} {v : V}, Rs G z ds vs → R G z d v → Rs G z (ds.set n d) (vs.set n v)
  | [], vs, n, d, v, h, _ => by rw [Rs.nil.mp h]; simp [Rs]
  | d' :: ds, vs, 0, d, v, h, q => by
    simp only [Rs] at h
    obtain ⟨v', r, rfl, h1, h2⟩ := h
    exact Rs.mk _ _ q h2
  | d' :: ds, vs, n + 1, d, v, h, q => by
    simp only [Rs] at h
    obtain ⟨v', r, rfl, h1, h2⟩ := h
    exact Rs.mk _ _ h1 (Rs.set n h2 q)
theorem R.int {i : Int} {v : V} : R G z (.int i) v ↔ v = .int i := by simp only [R]
theorem R.bl {i : Bool} {v : V} : R G z (.bl i) v ↔ v = .bl i := by simp only [R]
theorem R.non {v : V} : R G z .non v ↔ v = .non := by simp only [R]
theorem R.str {s : Txt} {v : V} : R G z (.str s) v ↔ (v = .str (sOf s) ∧ okT s = true) := by simp only [R]
theorem Rs.ints : ∀ {ns : List Int} {vs : List V}, Rs G z (ns.map .int) vs ↔ vs = ns.map .int
  | [], vs => by simp [Rs]
  | n :: ns, vs => by
    simp only [List.map_cons, Rs, R.int]
    constructor
    · rintro ⟨v, r, rfl, rfl, h⟩
      rw [Rs.ints.mp h]
    · rintro rfl
      exact ⟨_, _, rfl, rfl, Rs.ints.mpr rfl⟩
theorem Rs.bls : ∀ {ns : List Bool} {vs : List V}, Rs G z (ns.map .bl) vs ↔ vs = ns.map .bl
  | [], vs => by simp [Rs]
  | n :: ns, vs => by
    simp only [List.map_cons, Rs, R.bl]
    constructor
    · rintro ⟨v, r, rfl, rfl, h⟩
      rw [Rs.bls.mp h]
    · rintro rfl
      exact ⟨_, _, rfl, rfl, Rs.bls.mpr rfl⟩
end

/-! ### states -/
/-- what an expression may do: new objects, other contents of cells, tables of code grow -/
structure Ext (z z' : Z) : Prop where
  f : ∀ a, z.F a → z'.F a
  h : ∀ a o, z.H a = some o → a ∉ z.io → (∀ ps, o ≠ .tbl ps) → z'.H a = some o
  c : ∃ m, z'.io = z.io ++ m ∧ ∀ a ∈ m, z.H a = none
  nf : ∀ a, z'.F a → z.F a ∨ z.H a = none
  gr : ∀ a, z'.H a = none → z.H a = none
/-- cells and the rest stand apart -/
structure Wf (z : Z) : Prop where
  cf : ∀ a ∈ z.io, ¬ z.F a
  nd : z.io.Nodup
  ft : ∀ a, z.F a → ∃ o, z.H a = some o ∧ ∀ ps, o ≠ .tbl ps
def CellAt (G : Gd) (z : Z) (a : Addr) : Cell → Prop
  | .lst ds => ∃ vs, z.H a = some (.lst vs) ∧ Rs G z ds vs
  | .obj c ds => ∃ dx vs k, G.pg.cls[c]? = some k ∧ z.H a = some (.ins (G.cA c) dx ((k.fs.map sOf).zip vs)) ∧ vs.length = k.fs.length ∧ Rs G z ds vs
structure Rel (G : Gd) (z : Z) (st : Store) : Prop where
  wf : Wf z
  len : z.io.length = st.length
  at_ : ∀ (i : Nat) (c : Cell), st[i]? = some c → ∃ a, z.io[i]? = some a ∧ CellAt G z a c

theorem Ext.refl (z : Z) : Ext z z := ⟨fun _ h => h, fun _ _ h _ _ => h, ⟨[], by simp⟩, fun _ h => .inl h, fun _ h => h⟩
theorem Ext.trans {z1 z2 z3 : Z} (a : Ext z1 z2) (b : Ext z2 z3) : Ext z1 z3 := by
  obtain ⟨m1, e1, n1⟩ := a.c
  obtain ⟨m2, e2, n2⟩ := b.c
  refine ⟨fun x h => b.f x (a.f x h), fun x o h1 h2 h3 => ?_, ⟨m1 ++ m2, by rw [e2, e1, List.append_assoc], fun x hx => ?_⟩, fun x h => ?_, fun x h => a.gr x (b.gr x h)⟩
  · refine b.h x o (a.h x o h1 h2 h3) (fun hm => ?_) h3
    rw [e1] at hm
    rcases List.mem_append.mp hm with hm | hm
    · exact h2 hm
    · rw [n1 x hm] at h1; cases h1
  · rcases List.mem_append.mp hx with hx | hx
    · exact n1 x hx
    · exact a.gr x (n2 x hx)
  · rcases b.nf x h with h | h
    · exact a.nf x h
    · exact .inr (a.gr x h)
theorem Ext.keep {z z' : Z} (e : Ext z z') (w : Wf z) : Keep z z' := by
  obtain ⟨m, em, _⟩ := e.c
  refine ⟨e.f, fun a o f h => ?_, fun i a h => ?_⟩
  · obtain ⟨o', h', nt⟩ := w.ft a f
    rw [h] at h'; cases h'
    exact e.h a o h (fun hm => w.cf a hm f) nt
  · rw [em]
    rw [List.getElem?_append_left (List.getElem?_eq_some_iff.mp h).1]
    exact h
theorem R.ext {G : Gd} {z z' : Z} {d : D} {v : V} (h : R G z d v) (e : Ext z z') (w : Wf z) : R G z' d v := R.keep (e.keep w) d v h
theorem Rs.ext {G : Gd} {z z' : Z} {ds : List D} {vs : List V} (h : Rs G z ds vs) (e : Ext z z') (w : Wf z) : Rs G z' ds vs := Rs.keep (e.keep w) ds vs h
theorem Rel.notIn {G : Gd} {z : Z} {st : Store} (r : Rel G z st) {a : Addr} (h : z.H a = none) : a ∉ z.io := fun hm => by
  obtain ⟨i, hi, e⟩ := List.getElem_of_mem hm
  have hl : i < st.length := by rw [← r.len]; exact hi
  obtain ⟨a', e', q⟩ := r.at_ i st[i] (List.getElem?_eq_getElem hl)
  have e2 : z.io[i]? = some a := by rw [List.getElem?_eq_getElem hi, e]
  rw [e2] at e'; cases e'
  cases hc : st[i] with
  | lst ds =>
    rw [hc] at q
    obtain ⟨vs, q, _⟩ := q
    rw [h] at q; cases q
  | obj c ds =>
    rw [hc] at q
    obtain ⟨dx, vs, k, _, q, _⟩ := q
    rw [h] at q; cases q
theorem Rel.notF {G : Gd} {z : Z} {st : Store} (r : Rel G z st) {a : Addr} (h : z.H a = none) : ¬ z.F a := fun hf => by
  obtain ⟨o, e, _⟩ := r.wf.ft a hf
  rw [h] at e; cases e
/-- a new object that is never changed -/
def Z.new (z : Z) (p : Addr) (o : HO) : Z := ⟨upd z.H p o, fun a => z.F a ∨ a = p, z.io⟩
theorem Z.new_at (z : Z) (p : Addr) (o : HO) : (z.new p o).H p = some o := upd_same
theorem Z.new_F (z : Z) (p : Addr) (o : HO) : (z.new p o).F p := .inr rfl
theorem Ext.new {z : Z} {p : Addr} {o : HO} (h : z.H p = none) : Ext z (z.new p o) := by
  refine ⟨fun a f => .inl f, fun a u e _ _ => ?_, ⟨[], by simp [Z.new]⟩, fun a f => f.imp id fun e => by rw [e]; exact h, fun a e => ?_⟩
  · show upd z.H p o a = some u
    rw [upd_ne (ne_of_none e h)]; exact e
  · have e' : upd z.H p o a = none := e
    by_cases q : a = p
    · rw [q]; exact h
    · rw [upd_ne q] at e'; exact e'
theorem CellAt.keep {G : Gd} {z z' : Z} (k : Keep z z') {a : Addr} (ha : ∀ o, z.H a = some o → z'.H a = some o) : ∀ {c : Cell}, CellAt G z a c → CellAt G z' a c
  | .lst ds, ⟨vs, h, r⟩ => ⟨vs, ha _ h, Rs.keep k _ _ r⟩
  | .obj c ds, ⟨dx, vs, kl, h0, h, hl, r⟩ => ⟨dx, vs, kl, h0, ha _ h, hl, Rs.keep k _ _ r⟩
theorem Rel.new {G : Gd} {z : Z} {st : Store} (r : Rel G z st) {p : Addr} {o : HO} (h : z.H p = none) (nt : ∀ ps, o ≠ .tbl ps) : Rel G (z.new p o) st := by
  have e := Ext.new (o := o) h
  refine ⟨⟨fun a hm hf => ?_, r.wf.nd, fun a hf => ?_⟩, r.len, fun i c hc => ?_⟩
  · rcases hf with hf | hf
    · exact r.wf.cf a hm hf
    · rw [hf] at hm; exact r.notIn h hm
  · rcases hf with hf | hf
    · obtain ⟨u, q, n⟩ := r.wf.ft a hf
      exact ⟨u, by show upd z.H p o a = some u; rw [upd_ne (ne_of_none q h)]; exact q, n⟩
    · exact ⟨o, by rw [hf]; exact upd_same, nt⟩
  · obtain ⟨a, q, k⟩ := r.at_ i c hc
    exact ⟨a, q, CellAt.keep (e.keep r.wf) (fun u q => by show upd z.H p o a = some u; rw [upd_ne (ne_of_none q h)]; exact q) k⟩
/-- an object that nothing else may know: it may be changed -/
structure Alone (z : Z) (p : Addr) : Prop where
  here : ∃ o, z.H p = some o ∧ ∀ ps, o ≠ .tbl ps
  nf : ¬ z.F p
  ni : p ∉ z.io
def Z.put (z : Z) (p : Addr) (o : HO) : Z := ⟨upd z.H p o, z.F, z.io⟩
/-- from now on it is never changed -/
def Z.fix (z : Z) (p : Addr) : Z := ⟨z.H, fun a => z.F a ∨ a = p, z.io⟩
theorem Alone.new {G : Gd} {z : Z} {st : Store} (r : Rel G z st) {p : Addr} {o : HO} (h : z.H p = none) (nt : ∀ ps, o ≠ .tbl ps) : Alone (z.put p o) p :=
  ⟨⟨o, upd_same, nt⟩, r.notF h, r.notIn h⟩
theorem Alone.put {z : Z} {p : Addr} (a : Alone z p) {o : HO} (nt : ∀ ps, o ≠ .tbl ps) : Alone (z.put p o) p := ⟨⟨o, upd_same, nt⟩, a.nf, a.ni⟩
theorem Keep.put {z : Z} {p : Addr} {o : HO} (nf : ¬ z.F p) : Keep z (z.put p o) :=
  ⟨fun _ h => h, fun a u f h => by
    show upd z.H p o a = some u
    have ne : a ≠ p := fun e => nf (by rw [← e]; exact f)
    rw [upd_ne ne]
    exact h, fun _ _ h => h⟩
theorem Keep.fix (z : Z) (p : Addr) : Keep z (z.fix p) := ⟨fun _ h => .inl h, fun _ _ _ h => h, fun _ _ h => h⟩
theorem Rel.put' {G : Gd} {z : Z} {st : Store} (r : Rel G z st) {p : Addr} {o : HO} (nf : ¬ z.F p) (ni : p ∉ z.io) : Rel G (z.put p o) st := by
  have ne : ∀ a, z.F a → a ≠ p := fun a f e => nf (by rw [← e]; exact f)
  refine ⟨⟨r.wf.cf, r.wf.nd, fun a f => ?_⟩, r.len, fun i c hc => ?_⟩
  · obtain ⟨u, e, n⟩ := r.wf.ft a f
    exact ⟨u, by show upd z.H p o a = some u; rw [upd_ne (ne a f)]; exact e, n⟩
  · obtain ⟨a, q, k⟩ := r.at_ i c hc
    have na : a ≠ p := fun e => ni (by rw [← e]; exact List.mem_of_getElem? q)
    exact ⟨a, q, CellAt.keep (Keep.put nf) (fun u e => by show upd z.H p o a = some u; rw [upd_ne na]; exact e) k⟩
theorem Rel.put {G : Gd} {z : Z} {st : Store} (r : Rel G z st) {p : Addr} {o : HO} (al : Alone z p) : Rel G (z.put p o) st := r.put' al.nf al.ni
theorem Rel.fix {G : Gd} {z : Z} {st : Store} (r : Rel G z st) {p : Addr} (al : Alone z p) : Rel G (z.fix p) st := by
  refine ⟨⟨fun a hm f => ?_, r.wf.nd, fun a f => ?_⟩, r.len, fun i c hc => ?_⟩
  · rcases f with f | f
    · exact r.wf.cf a hm f
    · exact al.ni (by rw [← f]; exact hm)
  · rcases f with f | f
    · exact r.wf.ft a f
    · rw [f]; exact al.here
  · obtain ⟨a, q, k⟩ := r.at_ i c hc
    exact ⟨a, q, CellAt.keep (Keep.fix z p) (fun u e => e) k⟩
theorem Ext.put {z0 z : Z} (e : Ext z0 z) {p : Addr} {o : HO} (h : z0.H p = none) : Ext z0 (z.put p o) := by
  refine ⟨e.f, fun a u q n t => ?_, e.c, e.nf, fun a q => ?_⟩
  · show upd z.H p o a = some u
    rw [upd_ne (ne_of_none q h)]
    exact e.h a u q n t
  · by_cases c : a = p
    · rw [c]; exact h
    · have q' : upd z.H p o a = none := q
      rw [upd_ne c] at q'
      exact e.gr a q'
theorem Ext.fix {z0 z : Z} (e : Ext z0 z) {p : Addr} (h : z0.H p = none) : Ext z0 (z.fix p) :=
  ⟨fun a f => .inl (e.f a f), e.h, e.c, fun a f => f.elim (e.nf a) fun q => .inr (by rw [q]; exact h), e.gr⟩
theorem Alone.ext {z z' : Z} {p : Addr} (al : Alone z p) (e : Ext z z') : Alone z' p ∧ ∀ o, z.H p = some o → z'.H p = some o := by
  obtain ⟨o, h, nt⟩ := al.here
  have h' := e.h p o h al.ni nt
  refine ⟨⟨⟨o, h', nt⟩, fun f => ?_, fun hm => ?_⟩, fun u q => ?_⟩
  · rcases e.nf p f with q | q
    · exact al.nf q
    · rw [h] at q; cases q
  · obtain ⟨m, em, n⟩ := e.c
    rw [em] at hm
    rcases List.mem_append.mp hm with hm | hm
    · exact al.ni hm
    · rw [n p hm] at h; cases h
  · rw [h] at q; cases q; exact h'

/-! ### the frame -/
def SlotAt (G : Gd) (z : Z) (o : Option (Option V)) : Slot → Prop
  | .un => True
  | .val d => ∃ v, o = some (some v) ∧ R G z d v
  | .own ds => ∃ a vs, o = some (some (.ref a)) ∧ z.H a = some (.lst vs) ∧ Rs G z ds vs ∧ ¬ z.F a ∧ a ∉ z.io
  | .ownD kvs => ∃ a vs, o = some (some (.ref a)) ∧ z.H a = some (.dK vs) ∧ RK G z kvs vs ∧ ¬ z.F a ∧ a ∉ z.io
  | .self c fs => ∃ a dx vs k, o = some (some (.ref a)) ∧ G.pg.cls[c]? = some k ∧ z.H a = some (.ins (G.cA c) dx ((fs.map fun p => sOf p.1).zip vs)) ∧ vs.length = fs.length ∧ Rs G z (fs.map (·.2)) vs ∧ ¬ z.F a ∧ a ∉ z.io
/-- a slot that alone holds its object -/
def Slot.alone : Slot → Bool
  | .own _ | .ownD _ | .self _ _ => true
  | _ => false
structure EnvR (G : Gd) (z : Z) (env : Env) (σ : St) : Prop where
  len : env.length = σ.length
  at_ : ∀ (i : Nat) (s : Slot), env[i]? = some s → SlotAt G z σ[i]? s
  apart : ∀ (i j : Nat) (s t : Slot) (a : Addr), env[i]? = some s → env[j]? = some t → s.alone = true → t.alone = true → σ[i]? = some (some (.ref a)) → σ[j]? = some (some (.ref a)) → i = j

theorem SlotAt.ext {G : Gd} {z z' : Z} {o : Option (Option V)} (e : Ext z z') (w : Wf z) : ∀ {s : Slot}, SlotAt G z o s → SlotAt G z' o s := by
  have own : ∀ {a : Addr} {u : HO}, z.H a = some u → (∀ ps, u ≠ .tbl ps) → ¬ z.F a → a ∉ z.io → z'.H a = some u ∧ ¬ z'.F a ∧ a ∉ z'.io := fun {a u} h nt nf ni => by
    refine ⟨e.h a u h ni nt, fun hf => ?_, fun hm => ?_⟩
    · rcases e.nf a hf with q | q
      · exact nf q
      · rw [h] at q; cases q
    · obtain ⟨m, em, n⟩ := e.c
      rw [em] at hm
      rcases List.mem_append.mp hm with hm | hm
      · exact ni hm
      · rw [n a hm] at h; cases h
  intro s h
  cases s with
  | un => trivial
  | val d =>
    obtain ⟨v, q, r⟩ := h
    exact ⟨v, q, r.ext e w⟩
  | own ds =>
    obtain ⟨a, vs, q, h, r, nf, ni⟩ := h
    obtain ⟨h1, h2, h3⟩ := own h (fun ps => by simp) nf ni
    exact ⟨a, vs, q, h1, r.ext e w, h2, h3⟩
  | ownD kvs =>
    obtain ⟨a, vs, q, h, r, nf, ni⟩ := h
    obtain ⟨h1, h2, h3⟩ := own h (fun ps => by simp) nf ni
    exact ⟨a, vs, q, h1, RK.keep (e.keep w) _ _ r, h2, h3⟩
  | self c fs =>
    obtain ⟨a, dx, vs, k, q, hk, h, hl, r, nf, ni⟩ := h
    obtain ⟨h1, h2, h3⟩ := own h (fun ps => by simp) nf ni
    exact ⟨a, dx, vs, k, q, hk, h1, hl, r.ext e w, h2, h3⟩
theorem EnvR.ext {G : Gd} {z z' : Z} {env : Env} {σ : St} (h : EnvR G z env σ) (e : Ext z z') (w : Wf z) : EnvR G z' env σ :=
  ⟨h.len, fun i s q => (h.at_ i s q).ext e w, h.apart⟩
theorem EnvR.var {G : Gd} {z : Z} {env : Env} {σ : St} {i : Nat} {d : D} (h : EnvR G z env σ) (e : varD env i = some d) : ∃ v, σ[i]? = some (some v) ∧ R G z d v := by
  unfold varD at e
  split at e
  · rename_i d' q
    cases e
    exact h.at_ i _ q
  · cases e

/-! ### what comes of a reckoning, in the machine -/
/-- an exception in the machine: its class, its own dict -/
def ExcR (G : Gd) (z : Z) (e : Exc) (cls : Value) (dd : Option Addr) : Prop :=
  cls = .ref (G.eA e.c) ∧ match e.w with
    | none => True
    | some w => ∃ d v, dd = some d ∧ z.H d = some (.xd [(("word" : Str), v)]) ∧ R G z w v
def Post {α : Type} (G : Gd) (z : Z) (σ : St) (W : WX) (o : Out α) (k : α → Store → Z → Prop) : Prop :=
  match o with
  | .ok a st => ∀ z', Ext z z' → Rel G z' st → k a st z'
  | .exc e st => ∀ z' cls dd, Ext z z' → Rel G z' st → ExcR G z' e cls dd → W cls dd σ z'.H
  | .bad => False
section
variable {G : Gd} {z : Z} {σ : St} {W : WX}
theorem Post.imp {α : Type} {o : Out α} {k k' : α → Store → Z → Prop} (h : Post G z σ W o k) (f : ∀ a st z', Ext z z' → Rel G z' st → k a st z' → k' a st z') : Post G z σ W o k' := by
  cases o with
  | ok a st => exact fun z' e r => f a st z' e r (h z' e r)
  | exc e st => exact h
  | bad => exact h
theorem Post.later {α : Type} {o : Out α} {k : α → Store → Z → Prop} {z' : Z} (h : Post G z σ W o k) (e : Ext z z') : Post G z' σ W o k := by
  cases o with
  | ok a st => exact fun z2 e2 r => h z2 (e.trans e2) r
  | exc x st => exact fun z2 cls dd e2 r => h z2 cls dd (e.trans e2) r
  | bad => exact h
theorem Post.bind {α β : Type} {o : Out α} {f : α → Store → Out β} {k : β → Store → Z → Prop} (h : Post G z σ W (o.bind f) k) : Post G z σ W o fun a st z' => Post G z' σ W (f a st) k := by
  cases o with
  | ok a st => exact fun z' e r => Post.later (o := f a st) h e
  | exc e st => exact h
  | bad => exact h
theorem Post.bind0 {α β : Type} {o : Out α} {f : α → Store → Out β} {k : β → Store → Z → Prop} (h : Post G z σ W (o.bind f) k) : Post G z σ W o fun a st _ => Post G z σ W (f a st) k := by
  cases o with
  | ok a st => exact fun _ _ _ => h
  | exc e st => exact h
  | bad => exact h
theorem Post.at {α : Type} {a : α} {st : Store} {k : α → Store → Z → Prop} {z' : Z} (h : Post G z σ W (.ok a st) k) (e : Ext z z') (r : Rel G z' st) : k a st z' := h z' e r
theorem Post.ofO {α : Type} {st : Store} {o : Option α} {k : α → Store → Z → Prop} (h : Post G z σ W (Out.ofO st o) k) (r : Rel G z st) : ∃ a, o = some a ∧ k a st z := by
  cases o with
  | some a => exact ⟨a, rfl, h z (Ext.refl z) r⟩
  | none => exact h.elim
theorem Post.ok {α : Type} {a : α} {st : Store} {k : α → Store → Z → Prop} (h : Post G z σ W (.ok a st) k) (r : Rel G z st) : k a st z := h z (Ext.refl z) r
end
end Fw

set_option Elab.async false
set_option linter.all false
set_option maxRecDepth 100000
set_option autoImplicit false
set_option maxHeartbeats 1000000
/-! Fw2: the plain operations of Fw0 are the machine's. -/
namespace Fw
open PySem L2

/-! ### data -/
mutual
def toPd : D → PyData
  | .non => .none
  | .bl b => .bool b
  | .int i => .int i
  | .str s => .str (sOf s)
  | .tup ds => .tuple (toPds ds)
  | .lst ds => .list (toPds ds)
  | .scr ns => .list (ns.map .int)
  | _ => .none
def toPds : List D → List PyData
  | [] => []
  | d :: ds => toPd d :: toPds ds
end
theorem dpInts {K : PySem.W.Frag} {H : Hp} : ∀ ns : List Int, DpAll K H (ns.map V.int) (ns.map PyData.int)
  | [] => .nil
  | n :: ns => .cons (.int n) (dpInts ns)
mutual
theorem R.dp {G : Gd} {z : Z} : ∀ (d : D) (v : V), R G z d v → isData d = true → Dp G.K z.H v (toPd d)
  | .non, v, h, _ => by rw [R.non.mp h]; exact .non
  | .bl b, v, h, _ => by rw [R.bl.mp h]; exact .bl b
  | .int i, v, h, _ => by rw [R.int.mp h]; exact .int i
  | .str s, v, h, _ => by rw [(R.str.mp h).1]; exact .str _
  | .tup ds, v, h, q => by
    simp only [R] at h
    obtain ⟨a, vs, rfl, hq, r⟩ := h
    refine .tup (xs := vs) ?_ (Rs.dp ds vs r (by simpa [isData] using q))
    rcases hq with ⟨_, hq⟩ | hq
    · exact SqT.of hq
    · exact .inr hq
  | .lst ds, v, h, q => by
    simp only [R] at h
    obtain ⟨a, vs, rfl, ⟨_, hq⟩, r⟩ := h
    exact .lst (xs := vs) (SqL.of hq) (Rs.dp ds vs r (by simpa [isData] using q))
  | .scr ns, v, h, _ => by
    simp only [R] at h
    obtain ⟨a, rfl, hq⟩ := h
    refine .lst (xs := ns.map V.int) ?_ (dpInts ns)
    rcases hq with ⟨_, hq⟩ | hq
    · exact .inl hq
    · exact .inr hq
  | .dic kvs, v, _, q => by simp [isData] at q
  | .gdic kvs, v, _, q => by simp [isData] at q
  | .obj c ds, v, _, q => by simp [isData] at q
  | .cell i, v, _, q => by simp [isData] at q
theorem Rs.dp {G : Gd} {z : Z} : ∀ (ds : List D) (vs : List V), Rs G z ds vs → isDatas ds = true → DpAll G.K z.H vs (toPds ds)
  | [], vs, h, _ => by rw [Rs.nil.mp h]; exact .nil
  | d :: ds, vs, h, q => by
    simp only [Rs] at h
    obtain ⟨v, r, rfl, h1, h2⟩ := h
    have q1 : isData d = true ∧ isDatas ds = true := by
      cases d <;> simp_all [isDatas, isData]
    exact .cons (R.dp d v h1 q1.1) (Rs.dp ds r h2 q1.2)
end
mutual
theorem lay_of {G : Gd} {z : Z} : ∀ (d : D) (v : V), R G z d v → (toPd d).canLay0 = true
  | .non, v, h => by simp [toPd, PyData.canLay0]
  | .bl b, v, h => by simp [toPd, PyData.canLay0]
  | .int i, v, h => by simp [toPd, PyData.canLay0]
  | .str s, v, h => by
    have q := (R.str.mp h).2
    simp only [toPd, PyData.canLay0, PyData.strOk, sOf]
    rw [Array.all_eq_true']
    intro x hx
    have hx : x ∈ s := by simpa using hx
    exact List.all_eq_true.mp q x hx
  | .tup ds, v, h => by
    simp only [R] at h
    obtain ⟨a, vs, rfl, hq, r⟩ := h
    simp only [toPd, PyData.canLay0]
    exact lays_of ds vs r
  | .lst ds, v, h => by
    simp only [R] at h
    obtain ⟨a, vs, rfl, hq, r⟩ := h
    simp only [toPd, PyData.canLay0]
    exact lays_of ds vs r
  | .scr ns, v, h => by
    simp only [toPd, PyData.canLay0]
    induction ns with
    | nil => simp [PyData.canLayAll0]
    | cons n r ih =>
      have h' : R G z (.scr r) v → True := fun _ => trivial
      clear h h'
      have all : ∀ l : List Int, PyData.canLayAll0 (l.map PyData.int) = true := fun l => by
        induction l with
        | nil => simp [PyData.canLayAll0]
        | cons a b ih => simp [PyData.canLayAll0, PyData.canLay0, ih]
      exact all (n :: r)
  | .dic kvs, v, h => by simp [toPd, PyData.canLay0]
  | .gdic kvs, v, h => by simp [toPd, PyData.canLay0]
  | .obj c ds, v, h => by simp [toPd, PyData.canLay0]
  | .cell i, v, h => by simp [toPd, PyData.canLay0]
theorem lays_of {G : Gd} {z : Z} : ∀ (ds : List D) (vs : List V), Rs G z ds vs → PyData.canLayAll0 (toPds ds) = true
  | [], vs, h => by simp [toPds, PyData.canLayAll0]
  | d :: ds, vs, h => by
    simp only [Rs] at h
    obtain ⟨v, r, rfl, h1, h2⟩ := h
    simp [toPds, PyData.canLayAll0, lay_of d v h1, lays_of ds r h2]
end
theorem depInts : ∀ ns : List Int, PyData.depthAll (ns.map PyData.int) = 0
  | [] => by simp [PyData.depthAll]
  | n :: ns => by simp [PyData.depthAll, PyData.depth, depInts ns]
mutual
theorem dep_of : ∀ d : D, (toPd d).depth = dep d
  | .non | .bl _ | .int _ | .str _ => by simp [toPd, PyData.depth, dep]
  | .tup ds | .lst ds => by simp [toPd, PyData.depth, dep, deps_of ds]
  | .scr ns => by simp [toPd, PyData.depth, dep, depInts]
  | .dic _ | .gdic _ | .obj _ _ | .cell _ => by simp [toPd, PyData.depth, dep]
theorem deps_of : ∀ ds : List D, PyData.depthAll (toPds ds) = deps ds
  | [] => by simp [toPds, PyData.depthAll, deps]
  | d :: ds => by simp [toPds, PyData.depthAll, deps, dep_of d, deps_of ds]
end
theorem strBeq (x y : Txt) : (sOf x == sOf y) = (x == y) := by
  rw [Bool.eq_iff_iff]
  simp only [beq_iff_eq]
  exact sOf_iff
/-- no script within -/
def noScr : D → Bool
  | .scr _ => false
  | _ => true
mutual
theorem eqv_of : ∀ a b : D, isData a = true → isData b = true → noScr a = true → noScr b = true → PyData.eqv (toPd a) (toPd b) = deq a b
  | .tup xs, .tup ys, ha, hb, _, _ => by
    simp only [toPd, PyData.eqv, deq]
    exact eqvs_of xs ys (by simpa [isData] using ha) (by simpa [isData] using hb)
  | .lst xs, .lst ys, ha, hb, _, _ => by
    simp only [toPd, PyData.eqv, deq]
    exact eqvs_of xs ys (by simpa [isData] using ha) (by simpa [isData] using hb)
  | .str x, .str y, _, _, _, _ => by simp only [toPd, PyData.eqv, deq]; exact strBeq x y
  | .non, b, ha, hb, na, nb => by cases b <;> simp_all [toPd, PyData.eqv, deq, isData, noScr]
  | .bl x, b, ha, hb, na, nb => by cases b <;> simp_all [toPd, PyData.eqv, deq, isData, noScr]
  | .int x, b, ha, hb, na, nb => by cases b <;> simp_all [toPd, PyData.eqv, deq, isData, noScr]
  | .str x, .non, ha, hb, na, nb | .str x, .bl _, ha, hb, na, nb | .str x, .int _, ha, hb, na, nb | .str x, .tup _, ha, hb, na, nb | .str x, .lst _, ha, hb, na, nb => by simp [toPd, PyData.eqv, deq]
  | .str x, .dic _, ha, hb, na, nb | .str x, .gdic _, ha, hb, na, nb | .str x, .obj _ _, ha, hb, na, nb | .str x, .cell _, ha, hb, na, nb => by simp [isData] at hb
  | .str x, .scr _, ha, hb, na, nb => by simp [noScr] at nb
  | .tup x, .non, ha, hb, na, nb | .tup x, .bl _, ha, hb, na, nb | .tup x, .int _, ha, hb, na, nb | .tup x, .str _, ha, hb, na, nb | .tup x, .lst _, ha, hb, na, nb => by simp [toPd, PyData.eqv, deq]
  | .tup x, .dic _, ha, hb, na, nb | .tup x, .gdic _, ha, hb, na, nb | .tup x, .obj _ _, ha, hb, na, nb | .tup x, .cell _, ha, hb, na, nb => by simp [isData] at hb
  | .tup x, .scr _, ha, hb, na, nb => by simp [noScr] at nb
  | .lst x, .non, ha, hb, na, nb | .lst x, .bl _, ha, hb, na, nb | .lst x, .int _, ha, hb, na, nb | .lst x, .str _, ha, hb, na, nb | .lst x, .tup _, ha, hb, na, nb => by simp [toPd, PyData.eqv, deq]
  | .lst x, .dic _, ha, hb, na, nb | .lst x, .gdic _, ha, hb, na, nb | .lst x, .obj _ _, ha, hb, na, nb | .lst x, .cell _, ha, hb, na, nb => by simp [isData] at hb
  | .lst x, .scr _, ha, hb, na, nb => by simp [noScr] at nb
  | .scr _, b, ha, hb, na, nb => by simp [noScr] at na
  | .dic _, b, ha, hb, na, nb | .gdic _, b, ha, hb, na, nb | .obj _ _, b, ha, hb, na, nb | .cell _, b, ha, hb, na, nb => by simp [isData] at ha
theorem eqvs_of : ∀ xs ys : List D, isDatas xs = true → isDatas ys = true → PyData.eqvAll (toPds xs) (toPds ys) = deqs xs ys
  | [], [], _, _ => by simp [toPds, PyData.eqvAll, deqs]
  | [], y :: ys, _, _ => by simp [toPds, PyData.eqvAll, deqs]
  | x :: xs, [], _, _ => by simp [toPds, PyData.eqvAll, deqs]
  | x :: xs, y :: ys, ha, hb => by
    have a1 : isData x = true ∧ isDatas xs = true ∧ noScr x = true := by cases x <;> simp_all [isDatas, isData, noScr]
    have b1 : isData y = true ∧ isDatas ys = true ∧ noScr y = true := by cases y <;> simp_all [isDatas, isData, noScr]
    simp only [toPds, PyData.eqvAll, deqs]
    rw [eqv_of x y a1.1 b1.1 a1.2.2 b1.2.2, eqvs_of xs ys a1.2.1 b1.2.1]
end
theorem eqv_all (a b : D) (hs : scrOk a b = true) (ha : isData a = true) (hb : isData b = true) : PyData.eqv (toPd a) (toPd b) = deq a b := by
  by_cases na : noScr a = true
  · by_cases nb : noScr b = true
    · exact eqv_of a b ha hb na nb
    · cases b <;> simp_all [noScr]
      cases a <;> simp_all [scrOk]
  · cases a <;> simp_all [noScr]
    rename_i ns
    cases b <;> simp_all [scrOk]
    rename_i l
    cases l with
    | nil => cases ns <;> simp [toPd, toPds, PyData.eqv, PyData.eqvAll, deq]
    | cons => simp_all [scrOk]

/-! ### two values, an answer -/
/-- a plain operation's reading -/
def rO2 (G : Gd) (g : D → D → Option D) : R2 := fun x y H Q => ∃ z st dx dy d, z.H = H ∧ Rel G z st ∧ R G z dx x ∧ R G z dy y ∧ g dx dy = some d ∧ ∀ z' v, Ext z z' → Rel G z' st → R G z' d v → Q v z'.H
/-- of a context: it runs over the ground -/
structure On (G : Gd) (X : Cx) : Prop where
  P : X.prog = G.P
  w : X.w = G.w
  K : X.K = G.K
  mg : X.mg = G.mg
  base : X.base = G.base
  calm : X.calm = true
  room : ∃ k, Room k X.A
theorem len_sOf (s : Txt) : (sOf s).length = s.length := by
  show (s.toArray).size = s.length
  simp
theorem okT_app {a b : Txt} (h : okT a = true) (h' : okT b = true) : okT (a ++ b) = true := by
  unfold okT at *
  rw [List.all_append, h, h']
  rfl
theorem sOf_app (a b : Txt) : sOf a ++ sOf b = sOf (a ++ b) := by
  show (⟨a.toArray ++ b.toArray⟩ : Str) = ⟨(a ++ b).toArray⟩
  simp
theorem big_eq : big = sizeLine := by rw [sizeLine_eq]; rfl
theorem bits200 {i : Int} (h : i.natAbs < 2 ^ 200) : i.natAbs.log2 < 200 := PySem.Flt.log2_lt_of (by decide) h
section
variable {G : Gd} {X : Cx}
theorem ROp.mk {f : Value → Value → Sem Value} {g : D → D → Option D}
    (h : ∀ (pins : List (Addr × Obj)) (s : Shared) (σ : L2.St) (z : Z) (st : Store) (x y : V) (v u : Value) (Q : VK) (dx dy d : D), L2.Inv X pins σ z.H s → RelV x v → RelV y u → Rel G z st → R G z dx x → R G z dy y → g dx dy = some d →
      (∀ z' v, Ext z z' → Rel G z' st → R G z' d v → Q v z'.H) → wpAny (model X.prog X.w) X.A (f v u) (EP X pins σ Q) X.xe s) : OpR X f (rO2 G g) := by
  intro pins s σ H x y v u Q I rx ry q
  obtain ⟨z, st, dx, dy, d, rfl, rel, r1, r2, e, q⟩ := q
  exact h pins s σ z st x y v u Q dx dy d I rx ry rel r1 r2 e q
theorem op_addD (o : On G X) : OpR X (binaryOp .Add) (rO2 G (op2 .add)) := by
  refine ROp.mk fun pins s σ z st x y v u Q dx dy d I rx ry rel r1 r2 e q => ?_
  cases dx <;> cases dy <;> simp only [op2] at e <;> try cases e
  · rename_i i j
    rw [R.int] at r1 r2
    exact op_add pins s σ z.H x y v u Q I rx ry ⟨i, j, r1, r2, q z _ (Ext.refl z) rel (R.int.mpr rfl)⟩
  · rename_i i j
    rw [R.str] at r1 r2
    split at e
    · rename_i hl
      cases e
      refine op_add_str pins s σ z.H x y v u Q I rx ry ⟨sOf i, sOf j, r1.1, r2.1, by rw [len_sOf, len_sOf, ← big_eq]; exact hl, ?_⟩
      exact q z _ (Ext.refl z) rel (R.str.mpr ⟨by rw [sOf_app], okT_app r1.2 r2.2⟩)
    · cases e
  · rename_i i j
    split at e
    · rename_i hl
      cases e
      simp only [R] at r1 r2
      obtain ⟨a, vs, rfl, h1, q1⟩ := r1
      obtain ⟨b, ws, rfl, h2, q2⟩ := r2
      have s1 : SqT X.K z.H a vs := by rw [o.K]; rcases h1 with ⟨_, h⟩ | h; exact SqT.of h; exact .inr h
      have s2 : SqT X.K z.H b ws := by rw [o.K]; rcases h2 with ⟨_, h⟩ | h; exact SqT.of h; exact .inr h
      refine op_catA pins s σ z.H _ _ v u Q I rx ry ⟨a, b, vs, ws, rfl, rfl, s1, s2, by rw [q1.len, q2.len, ← big_eq]; exact hl, fun e => ?_, fun _ e => ?_, fun _ _ p np => ?_⟩
      · have e1 : i = [] := List.eq_nil_of_length_eq_zero (by rw [← q1.len, e]; rfl)
        subst e1
        refine q z _ (Ext.refl z) rel ?_
        simp only [R]
        exact ⟨b, ws, rfl, h2, by simpa using q2⟩
      · have e1 : j = [] := List.eq_nil_of_length_eq_zero (by rw [← q2.len, e]; rfl)
        subst e1
        refine q z _ (Ext.refl z) rel ?_
        simp only [R]
        exact ⟨a, vs, rfl, h1, by simpa using q1⟩
      · refine q (z.new p (.tup (vs ++ ws))) _ (Ext.new np) (rel.new np (by simp)) ?_
        simp only [R]
        exact ⟨p, _, rfl, .inl ⟨z.new_F p _, z.new_at p _⟩, (q1.app q2).ext (Ext.new np) rel.wf⟩
    · cases e
  · rename_i i j
    split at e
    · rename_i hl
      cases e
      simp only [R] at r1 r2
      obtain ⟨a, vs, rfl, ⟨f1, h1⟩, q1⟩ := r1
      obtain ⟨b, ws, rfl, ⟨f2, h2⟩, q2⟩ := r2
      refine op_cat pins s σ z.H _ _ v u Q I rx ry ⟨a, b, vs, ws, rfl, rfl, h1, h2, by rw [q1.len, q2.len, ← big_eq]; exact hl, fun p np => ?_⟩
      refine q (z.new p (.lst (vs ++ ws))) _ (Ext.new np) (rel.new np (by simp)) ?_
      simp only [R]
      exact ⟨p, _, rfl, ⟨z.new_F p _, z.new_at p _⟩, (q1.app q2).ext (Ext.new np) rel.wf⟩
    · cases e
theorem op_intD {f : Value → Value → Sem Value} {g : D → D → Option D} {C : Int → Int → Prop} {k : Int → Int → Int} (h : OpR X f (rI C fun i j => .int (k i j)))
    (hg : ∀ dx dy d, g dx dy = some d → ∃ i j, dx = .int i ∧ dy = .int j ∧ C i j ∧ d = .int (k i j)) : OpR X f (rO2 G g) := by
  refine ROp.mk fun pins s σ z st x y v u Q dx dy d I rx ry rel r1 r2 e q => ?_
  obtain ⟨i, j, rfl, rfl, c, rfl⟩ := hg _ _ _ e
  rw [R.int] at r1 r2
  exact h pins s σ z.H x y v u Q I rx ry ⟨i, j, r1, r2, c, q z _ (Ext.refl z) rel (R.int.mpr rfl)⟩
theorem op_subD : OpR X (binaryOp .Sub) (rO2 G (op2 .sub)) := by
  refine ROp.mk fun pins s σ z st x y v u Q dx dy d I rx ry rel r1 r2 e q => ?_
  cases dx <;> cases dy <;> simp only [op2] at e <;> try cases e
  rename_i i j
  rw [R.int] at r1 r2
  exact op_sub pins s σ z.H x y v u Q I rx ry ⟨i, j, r1, r2, q z _ (Ext.refl z) rel (R.int.mpr rfl)⟩
theorem op_modD : OpR X (binaryOp .Mod) (rO2 G (op2 .mod)) := by
  refine op_intD op_modN fun dx dy d e => ?_
  cases dx <;> cases dy <;> simp only [op2] at e <;> try cases e
  rename_i i j
  split at e <;> cases e
  rename_i c
  exact ⟨i, j, rfl, rfl, c, rfl⟩
theorem op_powD : OpR X (binaryOp .Pow) (rO2 G (op2 .pow)) := by
  refine op_intD op_pow fun dx dy d e => ?_
  cases dx <;> cases dy <;> simp only [op2] at e <;> try cases e
  rename_i i j
  split at e <;> cases e
  rename_i c
  exact ⟨i, j, rfl, rfl, ⟨c.1, by omega, c.2.2⟩, rfl⟩
theorem op_mulD : OpR X (binaryOp .Mult) (rO2 G (op2 .mul)) := by
  refine ROp.mk fun pins s σ z st x y v u Q dx dy d I rx ry rel r1 r2 e q => ?_
  cases dx <;> cases dy <;> simp only [op2] at e <;> try cases e
  rename_i i j
  split at e <;> cases e
  rename_i c
  rw [R.int] at r1 r2
  have fin := q z _ (Ext.refl z) rel (R.int.mpr rfl)
  unfold mulOk at c
  simp only [Bool.or_eq_true, Bool.and_eq_true, decide_eq_true_eq] at c
  rcases c with (c | c) | ⟨c1, c2⟩
  · exact op_mul pins s σ z.H x y v u Q I rx ry ⟨i, j, r1, r2, .inl ⟨by omega, by omega⟩, fin⟩
  · exact op_mul pins s σ z.H x y v u Q I rx ry ⟨i, j, r1, r2, .inr ⟨by omega, by omega⟩, fin⟩
  · exact op_mulW pins s σ z.H x y v u Q I rx ry ⟨i, j, r1, r2, by have := bits200 c1; have := bits200 c2; show _ < _; omega, fin⟩
theorem op_fdivD : OpR X (binaryOp .FloorDiv) (rO2 G (op2 .fdiv)) := by
  refine ROp.mk fun pins s σ z st x y v u Q dx dy d I rx ry rel r1 r2 e q => ?_
  cases dx <;> cases dy <;> simp only [op2] at e <;> try cases e
  rename_i i j
  split at e <;> cases e
  rename_i c
  rw [R.int] at r1 r2
  rcases c with c | ⟨c1, c2⟩
  · exact op_fdivN pins s σ z.H x y v u Q I rx ry ⟨i, j, r1, r2, c, q z _ (Ext.refl z) rel (R.int.mpr rfl)⟩
  · refine op_fdivW pins s σ z.H x y v u Q I rx ry ⟨i, j, r1, r2, ⟨c1, by have := bits200 c2; omega⟩, q z _ (Ext.refl z) rel (R.int.mpr ?_)⟩
    rw [Int.fdiv_eq_ediv_of_nonneg _ (Int.le_of_lt c1)]

/-! ### comparisons -/
theorem op_eqD' (o : On G X) : OpR X (compareOp .Eq) (rO2 G fun a b => (cmp2 .eq a b).map .bl) := by
  refine ROp.mk fun pins s σ z st x y v u Q dx dy d I rx ry rel r1 r2 e q => ?_
  simp only [cmp2, eqO] at e
  split at e
  · rename_i c
    simp only [Option.map_some, Option.some.injEq] at e
    subst e
    simp only [Bool.and_eq_true, Bool.or_eq_true, decide_eq_true_eq] at c
    obtain ⟨⟨⟨c0, c1⟩, c2⟩, c3⟩ := c
    obtain ⟨as, q1⟩ := Dp.reads I _ x v (by rw [o.K]; exact R.dp dx x r1 c1) rx
    obtain ⟨bs, q2⟩ := Dp.reads I _ y u (by rw [o.K]; exact R.dp dy y r2 c2) ry
    obtain ⟨k, hr⟩ := o.room
    refine SeqAt.compareEq_reads q1 q2 (lay_of dx x r1) (lay_of dy y r2) ?_ ?_
    · have hu := hr.units
      rw [dep_of, dep_of]
      rcases c3 with c3 | c3
      · have : min (dep dx) (dep dy) ≤ dep dy := Nat.min_le_right _ _
        omega
      · have : min (dep dx) (dep dy) ≤ dep dx := Nat.min_le_left _ _
        omega
    · rw [eqv_all dx dy c0 c1 c2]
      exact ⟨.bl _, z.H, I, rfl, q z _ (Ext.refl z) rel (R.bl.mpr rfl)⟩
  · cases e
theorem op_neD' (o : On G X) : OpR X (compareOp .NotEq) (rO2 G fun a b => (cmp2 .ne a b).map .bl) := by
  refine ROp.mk fun pins s σ z st x y v u Q dx dy d I rx ry rel r1 r2 e q => ?_
  simp only [cmp2, eqO] at e
  split at e
  · rename_i c
    simp only [Option.map_some, Option.some.injEq] at e
    subst e
    simp only [Bool.and_eq_true, Bool.or_eq_true, decide_eq_true_eq] at c
    obtain ⟨⟨⟨c0, c1⟩, c2⟩, c3⟩ := c
    obtain ⟨as, q1⟩ := Dp.reads I _ x v (by rw [o.K]; exact R.dp dx x r1 c1) rx
    obtain ⟨bs, q2⟩ := Dp.reads I _ y u (by rw [o.K]; exact R.dp dy y r2 c2) ry
    obtain ⟨k, hr⟩ := o.room
    refine SeqAt.compareNe_reads q1 q2 (lay_of dx x r1) (lay_of dy y r2) ?_ ?_
    · have hu := hr.units
      rw [dep_of, dep_of]
      rcases c3 with c3 | c3
      · have : min (dep dx) (dep dy) ≤ dep dy := Nat.min_le_right _ _
        omega
      · have : min (dep dx) (dep dy) ≤ dep dx := Nat.min_le_left _ _
        omega
    · rw [eqv_all dx dy c0 c1 c2]
      exact ⟨.bl _, z.H, I, rfl, q z _ (Ext.refl z) rel (R.bl.mpr rfl)⟩
  · cases e
theorem op_ordD {op : CmpOp} {c : Cmp} {p : Int → Int → Bool} (h : OpR X (compareOp op) (rI0 fun i j => .bl (p i j)))
    (hg : ∀ dx dy b, cmp2 c dx dy = some b → ∃ i j, dx = .int i ∧ dy = .int j ∧ b = p i j) : OpR X (compareOp op) (rO2 G fun a b => (cmp2 c a b).map .bl) := by
  refine ROp.mk fun pins s σ z st x y v u Q dx dy d I rx ry rel r1 r2 e q => ?_
  obtain ⟨b, e1, rfl⟩ := Option.map_eq_some_iff.mp e
  obtain ⟨i, j, rfl, rfl, rfl⟩ := hg _ _ _ e1
  rw [R.int] at r1 r2
  exact h pins s σ z.H x y v u Q I rx ry ⟨i, j, r1, r2, q z _ (Ext.refl z) rel (R.bl.mpr rfl)⟩
theorem op_ltD : OpR X (compareOp .Lt) (rO2 G fun a b => (cmp2 .lt a b).map .bl) :=
  op_ordD op_lt fun dx dy b e => by cases dx <;> cases dy <;> simp only [cmp2] at e <;> cases e; exact ⟨_, _, rfl, rfl, rfl⟩
theorem op_leD : OpR X (compareOp .LtE) (rO2 G fun a b => (cmp2 .le a b).map .bl) :=
  op_ordD op_le fun dx dy b e => by cases dx <;> cases dy <;> simp only [cmp2] at e <;> cases e; exact ⟨_, _, rfl, rfl, rfl⟩
theorem op_gtD : OpR X (compareOp .Gt) (rO2 G fun a b => (cmp2 .gt a b).map .bl) :=
  op_ordD op_gt fun dx dy b e => by cases dx <;> cases dy <;> simp only [cmp2] at e <;> cases e; exact ⟨_, _, rfl, rfl, rfl⟩
theorem op_geD : OpR X (compareOp .GtE) (rO2 G fun a b => (cmp2 .ge a b).map .bl) :=
  op_ordD op_ge fun dx dy b e => by cases dx <;> cases dy <;> simp only [cmp2] at e <;> cases e; exact ⟨_, _, rfl, rfl, rfl⟩
theorem R.isNon {z : Z} : ∀ {d : D} {x : V}, R G z d x → decide (x = .non) = (match d with | .non => true | _ => false)
  | .non, x, h => by rw [R.non.mp h]; rfl
  | .bl _, x, h => by rw [R.bl.mp h]; rfl
  | .int _, x, h => by rw [R.int.mp h]; rfl
  | .str _, x, h => by rw [(R.str.mp h).1]; rfl
  | .tup _, x, h => by simp only [R] at h; obtain ⟨a, vs, rfl, _⟩ := h; rfl
  | .lst _, x, h => by simp only [R] at h; obtain ⟨a, vs, rfl, _⟩ := h; rfl
  | .dic _, x, h => by simp only [R] at h; obtain ⟨a, vs, rfl, _⟩ := h; rfl
  | .gdic _, x, h => by simp only [R] at h; obtain ⟨a, vs, rfl, _⟩ := h; rfl
  | .obj _ _, x, h => by simp only [R] at h; obtain ⟨a, dx, vs, k, rfl, _⟩ := h; rfl
  | .cell _, x, h => by simp only [R] at h; obtain ⟨a, _, rfl⟩ := h; rfl
  | .scr _, x, h => by simp only [R] at h; obtain ⟨a, rfl, _⟩ := h; rfl
theorem op_isD : OpR X (compareOp .Is) (rO2 G fun a b => (cmp2 .is_ a b).map .bl) := by
  refine ROp.mk fun pins s σ z st x y v u Q dx dy d I rx ry rel r1 r2 e q => ?_
  cases dy <;> simp only [cmp2] at e <;> try cases e
  rw [R.non] at r2
  refine op_isN pins s σ z.H x y v u Q I rx ry ⟨r2, ?_⟩
  rw [r1.isNon]
  exact q z _ (Ext.refl z) rel (R.bl.mpr rfl)
theorem op_isntD : OpR X (compareOp .IsNot) (rO2 G fun a b => (cmp2 .isnt a b).map .bl) := by
  refine ROp.mk fun pins s σ z st x y v u Q dx dy d I rx ry rel r1 r2 e q => ?_
  cases dy <;> simp only [cmp2] at e <;> try cases e
  rw [R.non] at r2
  refine op_notN pins s σ z.H x y v u Q I rx ry ⟨r2, ?_⟩
  rw [r1.isNon]
  refine q z _ (Ext.refl z) rel (R.bl.mpr ?_)
  cases dx <;> rfl
theorem flat_of {z : Z} {d : D} {x : V} (h : R G z d x) (f : flat d = true) : flatV x = true := by
  cases d <;> simp [flat] at f
  · rw [R.non.mp h]; rfl
  · rw [R.bl.mp h]; rfl
  · rw [R.int.mp h]; rfl
  · rw [(R.str.mp h).1]; rfl
theorem flats_of {z : Z} : ∀ {ds : List D} {vs : List V}, Rs G z ds vs → ds.all flat = true → vs.all flatV = true
  | [], vs, h, _ => by rw [Rs.nil.mp h]; rfl
  | d :: ds, vs, h, f => by
    simp only [Rs] at h
    obtain ⟨v, r, rfl, h1, h2⟩ := h
    simp only [List.all_cons, Bool.and_eq_true] at f ⊢
    exact ⟨flat_of h1 f.1, flats_of h2 f.2⟩
theorem R.flat {z : Z} {d : D} {x : V} (h : R G z d x) (f : Fw.flat d = true) : (d = .non ∧ x = .non) ∨ (∃ b, d = .bl b ∧ x = .bl b) ∨ (∃ i, d = .int i ∧ x = .int i) ∨ ∃ s, d = .str s ∧ x = .str (sOf s) := by
  cases d <;> simp [Fw.flat] at f
  · exact .inl ⟨rfl, R.non.mp h⟩
  · exact .inr (.inl ⟨_, rfl, R.bl.mp h⟩)
  · exact .inr (.inr (.inl ⟨_, rfl, R.int.mp h⟩))
  · exact .inr (.inr (.inr ⟨_, rfl, (R.str.mp h).1⟩))
theorem eqV_of {z : Z} {d e : D} {x y : V} (h : R G z d x) (f : flat d = true) (h' : R G z e y) (f' : flat e = true) : eqV x y = deq d e := by
  rcases h.flat f with ⟨rfl, rfl⟩ | ⟨b, rfl, rfl⟩ | ⟨b, rfl, rfl⟩ | ⟨b, rfl, rfl⟩ <;> rcases h'.flat f' with ⟨rfl, rfl⟩ | ⟨c, rfl, rfl⟩ | ⟨c, rfl, rfl⟩ | ⟨c, rfl, rfl⟩ <;> simp only [eqV, deq]
  exact strBeq _ _
theorem inV_of {z : Z} {d : D} {x : V} (h : R G z d x) (f : flat d = true) : ∀ {ds : List D} {vs : List V}, Rs G z ds vs → ds.all flat = true → inV x vs = ds.any fun y => deq y d
  | [], vs, hs, _ => by rw [Rs.nil.mp hs]; rfl
  | e :: ds, vs, hs, fs => by
    simp only [Rs] at hs
    obtain ⟨v, r, rfl, h1, h2⟩ := hs
    simp only [List.all_cons, Bool.and_eq_true] at fs
    have ih := inV_of h f h2 fs.2
    unfold inV at ih ⊢
    rw [List.any_cons, List.any_cons, ih, eqV_of h1 fs.1 h f]
theorem RK.look {z : Z} : ∀ {kvs : List (Txt × D)} {vs : List (Key × V)}, RK G z kvs vs → ∀ k : Txt, match lookT k kvs with
    | some d => ∃ v, valV vs (kOf k) = some v ∧ R G z d v
    | none => valV vs (kOf k) = none
  | [], vs, h, k => by
    have e : vs = [] := by simpa only [RK] using h
    subst e
    exact valV_nil
  | (x, d) :: r, vs, h, k => by
    simp only [RK] at h
    obtain ⟨v, ws, rfl, _, h1, h2⟩ := h
    have ih := RK.look h2 k
    unfold lookT
    by_cases e : x = k
    · rw [if_pos e]
      subst e
      exact ⟨v, valV_pos rfl, h1⟩
    · have ne : ¬ kOf x = kOf k := fun q => e (kOf_inj q)
      rw [if_neg e, valV_neg (by exact ne)]
      exact ih
theorem RK.len {z : Z} : ∀ {kvs : List (Txt × D)} {vs : List (Key × V)}, RK G z kvs vs → vs.length = kvs.length
  | [], vs, h => by
    have e : vs = [] := by simpa only [RK] using h
    subst e
    rfl
  | (x, d) :: r, vs, h => by
    simp only [RK] at h
    obtain ⟨v, ws, rfl, _, h1, h2⟩ := h
    simp [RK.len h2]
theorem on_units (o : On G X) : X.A.units + 1 < cLine := by
  obtain ⟨k, hr⟩ := o.room
  have := hr.units
  omega
/-- in a dict, as a rule by values -/
theorem op_inDict : OpR X (compareOp .In) (fun x y H Q => X.A.units + 1 < cLine ∧ ∃ a o, y = .ref a ∧ DGet H a x o ∧ Q (.bl o.isSome) H) := by
  intro pins s σ H x y v u Q I rx ry h
  obtain ⟨hu, a, o, rfl, g, q⟩ := h
  cases ry
  exact d_in hu I g rx fun s' I' => ⟨.bl _, H, I', rfl, q⟩
theorem op_notInDict : OpR X (compareOp .NotIn) (fun x y H Q => X.A.units + 1 < cLine ∧ ∃ a o, y = .ref a ∧ DGet H a x o ∧ Q (.bl (!o.isSome)) H) := by
  intro pins s σ H x y v u Q I rx ry h
  obtain ⟨hu, a, o, rfl, g, q⟩ := h
  cases ry
  exact d_notIn hu I g rx fun s' I' => ⟨.bl _, H, I', rfl, q⟩
theorem isIn_seq {z : Z} {dx : D} {x : V} (r1 : R G z dx x) {ds : List D} {vs : List V} (q : Rs G z ds vs) {b : Bool} (e : (if (flat dx && ds.all flat) = true then some (ds.any fun y => deq y dx) else none) = some b) :
    flatV x = true ∧ vs.all flatV = true ∧ inV x vs = b := by
  split at e
  · rename_i c
    cases e
    simp only [Bool.and_eq_true] at c
    exact ⟨flat_of r1 c.1, flats_of q c.2, inV_of r1 c.1 q c.2⟩
  · cases e
theorem KDic.isSome {a : Addr} {vs : List (Key × V)} (h : KDic G a vs) (x : Str) : ∃ es n r, KDict G.K G.w a es n ∧ PySem.W.nsIn G.K a x = some r ∧ RelO (valV vs (Sum.inr x)) r := by
  obtain ⟨es, n, k, h⟩ := h
  obtain ⟨r, e, q⟩ := h x
  exact ⟨es, n, r, k, e, q⟩
theorem op_inD (o : On G X) : OpR X (compareOp .In) (rO2 G fun a b => (cmp2 .in_ a b).map .bl) := by
  refine ROp.mk fun pins s σ z st x y v u Q dx dy d I rx ry rel r1 r2 e q => ?_
  obtain ⟨b, e1, rfl⟩ := Option.map_eq_some_iff.mp e
  have fin := q z _ (Ext.refl z) rel (R.bl.mpr rfl)
  cases dy <;> simp only [cmp2, isIn] at e1 <;> try cases e1
  · rename_i t
    split at e1 <;> cases e1
    rename_i c
    refine op_in_sign pins s σ z.H x y v u Q I rx ry ⟨c, sOf t, (R.str.mp r1).1, (R.str.mp r2).1, ?_⟩
    have e2 : decide (c ∈ (sOf t).cps.toList) = t.contains c := by
      rw [Bool.eq_iff_iff]
      simp [sOf]
      exact ⟨of_decide_eq_true, decide_eq_true⟩
    rw [e2]
    exact fin
  · rename_i ds
    simp only [R] at r2
    obtain ⟨a, vs, rfl, hq, qs⟩ := r2
    obtain ⟨f1, f2, f3⟩ := isIn_seq r1 qs e1
    refine op_in_seq pins s σ z.H x _ v u Q I rx ry ⟨a, vs, rfl, .inr ?_, f1, f2, ?_⟩
    · rw [o.K]
      rcases hq with ⟨_, h⟩ | h
      · exact SqT.of h
      · exact .inr h
    · rw [f3]
      exact fin
  · rename_i ds
    simp only [R] at r2
    obtain ⟨a, vs, rfl, ⟨_, hq⟩, qs⟩ := r2
    obtain ⟨f1, f2, f3⟩ := isIn_seq r1 qs e1
    refine op_in_seq pins s σ z.H x _ v u Q I rx ry ⟨a, vs, rfl, .inl (SqL.of hq), f1, f2, ?_⟩
    rw [f3]
    exact fin
  · rename_i kvs
    split at e1 <;> cases e1
    rename_i k
    simp only [R] at r2
    obtain ⟨a, vs, rfl, hq, qs⟩ := r2
    have lk := qs.look k
    have e0 := (R.str.mp r1).1
    subst e0
    obtain ⟨_, hq⟩ := hq
    refine op_inDict pins s σ z.H _ _ v u Q I rx ry ⟨on_units o, a, valV vs (kOf k), rfl, DGet.k (k := kOf k) hq, ?_⟩
    cases el : lookT k kvs with
    | none => rw [el] at lk; rw [lk]; rw [el] at fin; exact fin
    | some d => rw [el] at lk; obtain ⟨w, w2, _⟩ := lk; rw [w2]; rw [el] at fin; exact fin
  · rename_i kvs
    split at e1 <;> cases e1
    rename_i k
    simp only [R] at r2
    obtain ⟨a, vs, rfl, hq, qs⟩ := r2
    have lk := qs.look k
    have e0 := (R.str.mp r1).1
    subst e0
    obtain ⟨es, n, r, kd, e2, ro⟩ := hq.isSome (sOf k)
    have kd' : KDict X.K X.w a es n := by rw [o.K, o.w]; exact kd
    refine op_in_kd kd' pins s σ z.H _ _ v u Q I rx ry ⟨sOf k, r, rfl, rfl, by rw [o.K]; exact e2, ?_⟩
    rw [← ro.isSome_eq]
    have e3 : valV vs (Sum.inr (sOf k)) = valV vs (kOf k) := rfl
    rw [e3]
    cases el : lookT k kvs with
    | none => rw [el] at lk; rw [lk]; rw [el] at fin; exact fin
    | some d => rw [el] at lk; obtain ⟨w, w1, _⟩ := lk; rw [w1]; rw [el] at fin; exact fin
theorem op_notinD (o : On G X) : OpR X (compareOp .NotIn) (rO2 G fun a b => (cmp2 .notin a b).map .bl) := by
  refine ROp.mk fun pins s σ z st x y v u Q dx dy d I rx ry rel r1 r2 e q => ?_
  obtain ⟨b0, e0, rfl⟩ := Option.map_eq_some_iff.mp e
  obtain ⟨b, e1, rfl⟩ := Option.map_eq_some_iff.mp (show (isIn dx dy).map (!·) = some b0 from e0)
  have fin := q z _ (Ext.refl z) rel (R.bl.mpr rfl)
  clear e e0
  cases dy <;> simp only [isIn] at e1 <;> try cases e1
  · rename_i t
    split at e1 <;> cases e1
    rename_i c
    refine op_notIn_sign pins s σ z.H x y v u Q I rx ry ⟨c, sOf t, (R.str.mp r1).1, (R.str.mp r2).1, ?_⟩
    have e2 : decide (c ∈ (sOf t).cps.toList) = t.contains c := by
      rw [Bool.eq_iff_iff]
      simp [sOf]
      exact ⟨of_decide_eq_true, decide_eq_true⟩
    rw [e2]
    exact fin
  · rename_i ds
    simp only [R] at r2
    obtain ⟨a, vs, rfl, hq, qs⟩ := r2
    obtain ⟨f1, f2, f3⟩ := isIn_seq r1 qs e1
    refine op_notIn_seq pins s σ z.H x _ v u Q I rx ry ⟨a, vs, rfl, .inr ?_, f1, f2, ?_⟩
    · rw [o.K]
      rcases hq with ⟨_, h⟩ | h
      · exact SqT.of h
      · exact .inr h
    · rw [f3]
      exact fin
  · rename_i ds
    simp only [R] at r2
    obtain ⟨a, vs, rfl, ⟨_, hq⟩, qs⟩ := r2
    obtain ⟨f1, f2, f3⟩ := isIn_seq r1 qs e1
    refine op_notIn_seq pins s σ z.H x _ v u Q I rx ry ⟨a, vs, rfl, .inl (SqL.of hq), f1, f2, ?_⟩
    rw [f3]
    exact fin
  · rename_i kvs
    split at e1 <;> cases e1
    rename_i k
    simp only [R] at r2
    obtain ⟨a, vs, rfl, hq, qs⟩ := r2
    have lk := qs.look k
    have e5 := (R.str.mp r1).1
    subst e5
    obtain ⟨_, hq⟩ := hq
    refine op_notInDict pins s σ z.H _ _ v u Q I rx ry ⟨on_units o, a, valV vs (kOf k), rfl, DGet.k (k := kOf k) hq, ?_⟩
    cases el : lookT k kvs with
    | none => rw [el] at lk; rw [lk]; rw [el] at fin; exact fin
    | some d => rw [el] at lk; obtain ⟨w, w2, _⟩ := lk; rw [w2]; rw [el] at fin; exact fin
  · rename_i kvs
    split at e1 <;> cases e1
    rename_i k
    simp only [R] at r2
    obtain ⟨a, vs, rfl, hq, qs⟩ := r2
    have lk := qs.look k
    have e5 := (R.str.mp r1).1
    subst e5
    obtain ⟨es, n, r, kd, e2, ro⟩ := hq.isSome (sOf k)
    have kd' : KDict X.K X.w a es n := by rw [o.K, o.w]; exact kd
    refine op_notIn_kd kd' pins s σ z.H _ _ v u Q I rx ry ⟨sOf k, r, rfl, rfl, by rw [o.K]; exact e2, ?_⟩
    rw [← ro.isSome_eq]
    have e3 : valV vs (Sum.inr (sOf k)) = valV vs (kOf k) := rfl
    rw [e3]
    cases el : lookT k kvs with
    | none => rw [el] at lk; rw [lk]; rw [el] at fin; exact fin
    | some d => rw [el] at lk; obtain ⟨w, w1, _⟩ := lk; rw [w1]; rw [el] at fin; exact fin
end
end Fw

set_option Elab.async false
set_option linter.all false
set_option maxRecDepth 100000
set_option autoImplicit false
set_option maxHeartbeats 1000000
/-! Fw3: items, slices, the built-in functions. -/
namespace Fw
open PySem L2
section
variable {G : Gd} {X : Cx}

/-! ### items -/
theorem ixN_eq (n : Nat) (i : Int) : L2.ixN n i = Fw.ixN n i := rfl
theorem R.seqT {z : Z} {ds : List D} {v : V} (o : On G X) (h : R G z (.tup ds) v) : ∃ a vs, v = .ref a ∧ SqT X.K z.H a vs ∧ Rs G z ds vs := by
  simp only [R] at h
  obtain ⟨a, vs, e, hq, r⟩ := h
  refine ⟨a, vs, e, ?_, r⟩
  rw [o.K]
  rcases hq with ⟨_, h⟩ | h
  · exact SqT.of h
  · exact .inr h
theorem R.seqL {z : Z} {ds : List D} {v : V} (o : On G X) (h : R G z (.lst ds) v) : ∃ a vs, v = .ref a ∧ z.H a = some (.lst vs) ∧ SqL X.K z.H a vs ∧ Rs G z ds vs := by
  simp only [R] at h
  obtain ⟨a, vs, e, ⟨_, hq⟩, r⟩ := h
  exact ⟨a, vs, e, hq, SqL.of hq, r⟩
theorem R.seqS {z : Z} {ns : List Int} {v : V} (o : On G X) (h : R G z (.scr ns) v) : ∃ a, v = .ref a ∧ SqL X.K z.H a (ns.map V.int) := by
  simp only [R] at h
  obtain ⟨a, e, hq⟩ := h
  refine ⟨a, e, ?_⟩
  rw [o.K]
  rcases hq with ⟨_, h⟩ | h
  · exact .inl h
  · exact .inr h
theorem atI_of {z : Z} {ds : List D} {vs : List V} {i : Int} {d : D} (r : Rs G z ds vs) (e : ((Fw.ixN ds.length i).bind fun j => ds[j]?) = some d) : ∃ v, L2.atI vs i = some v ∧ R G z d v := by
  obtain ⟨j, e1, e2⟩ := Option.bind_eq_some_iff.mp e
  obtain ⟨v, h1, h2⟩ := r.get e2
  refine ⟨v, ?_, h2⟩
  unfold L2.atI
  rw [r.len, ixN_eq, e1]
  exact h1
theorem ixD (o : On G X) : IxR X (rO2 G atD) := by
  intro value slice pins s σ H x y v u Q I rx ry q hs
  obtain ⟨z, st, dx, dy, d, rfl, rel, r1, r2, e, q⟩ := q
  cases dx <;> cases dy <;> simp only [atD] at e <;> try cases e
  · rename_i t i
    split at e
    · rename_i hl
      obtain ⟨c, e1, rfl⟩ := Option.map_eq_some_iff.mp e
      refine ix_str value slice pins s σ z.H x y v u Q I rx ry ⟨sOf t, i, c, (R.str.mp r1).1, R.int.mp r2, by rw [len_sOf, ← big_eq]; exact hl, ?_, ?_⟩ hs
      · obtain ⟨j, e2, e3⟩ := Option.bind_eq_some_iff.mp e1
        unfold L2.atI
        rw [show (sOf t).cps.toList.length = t.length by simp [sOf], ixN_eq, e2]
        simpa [sOf] using e3
      · refine q z _ (Ext.refl z) rel (R.str.mpr ⟨rfl, ?_⟩)
        obtain ⟨j, e2, e3⟩ := Option.bind_eq_some_iff.mp e1
        have hm : c ∈ t := List.mem_of_getElem? e3
        have ok := (R.str.mp r1).2
        simp only [okT, List.all_cons, List.all_nil, Bool.and_true]
        exact List.all_eq_true.mp ok c hm
    · cases e
  · rename_i ds i
    obtain ⟨a, vs, rfl, hq, r⟩ := r1.seqT o
    obtain ⟨w, e1, r3⟩ := atI_of r e
    exact ix_tup value slice pins s σ z.H _ y v u Q I rx ry ⟨a, vs, i, w, rfl, R.int.mp r2, hq, e1, q z _ (Ext.refl z) rel r3⟩ hs
  · rename_i ds i
    obtain ⟨a, vs, rfl, _, hq, r⟩ := r1.seqL o
    obtain ⟨w, e1, r3⟩ := atI_of r e
    exact ix_list value slice pins s σ z.H _ y v u Q I rx ry ⟨a, vs, i, w, rfl, R.int.mp r2, hq, e1, q z _ (Ext.refl z) rel r3⟩ hs
  · rename_i kvs k
    simp only [R] at r1
    obtain ⟨a, vs, rfl, hq, qs⟩ := r1
    have lk := qs.look k
    rw [e] at lk
    obtain ⟨w, e1, r3⟩ := lk
    have fin := q z _ (Ext.refl z) rel r3
    have e5 := (R.str.mp r2).1
    subst e5
    obtain ⟨_, hq⟩ := hq
    obtain rfl : v = Value.ref a := rx
    have g : DGet z.H a (kV (kOf k)) (some w) := by
      have := DGet.k (k := kOf k) hq
      rw [e1] at this
      exact this
    exact PyProof.Rows.tail_any (dict_typeIs I g) PySem.F.slot_dict_getitem.lookup (d_getItem (on_units o) I g ry fun w' s3 I3 rw' => ⟨w, z.H, I3, rw', fin⟩) hs
  · rename_i kvs k
    simp only [R] at r1
    obtain ⟨a, vs, rfl, hq, qs⟩ := r1
    have lk := qs.look k
    rw [e] at lk
    obtain ⟨w, e1, r3⟩ := lk
    have fin := q z _ (Ext.refl z) rel r3
    have e5 := (R.str.mp r2).1
    subst e5
    obtain ⟨es, n, r, kd, e2, ro⟩ := hq.isSome (sOf k)
    have e3 : valV vs (Sum.inr (sOf k)) = some w := e1
    rw [e3] at ro
    cases r with
    | none => exact ro.elim
    | some u0 =>
      refine ix_kdict value slice pins s σ z.H _ _ v u Q I rx ry ⟨a, sOf k, w, rfl, rfl, ⟨es, n, u0, ?_, ?_, ?_, ro⟩, fin⟩ hs
      · rw [o.K]; exact kd.at_
      · rw [o.w]; exact kd.lit
      · rw [o.K]; exact e2
  · rename_i ns i
    obtain ⟨a, rfl, hq⟩ := r1.seqS o
    obtain ⟨n, e1, rfl⟩ := Option.map_eq_some_iff.mp e
    obtain ⟨j, e2, e3⟩ := Option.bind_eq_some_iff.mp e1
    refine ix_list value slice pins s σ z.H _ y v u Q I rx ry ⟨a, _, i, .int n, rfl, R.int.mp r2, hq, ?_, q z _ (Ext.refl z) rel (R.int.mpr rfl)⟩ hs
    unfold L2.atI
    rw [List.length_map, ixN_eq, e2]
    show (ns.map V.int)[j]? = _
    rw [List.getElem?_map, e3]
    rfl

/-! ### slices -/
def rSl (G : Gd) : V → Option Int → Option Int → Hp → VK → Prop := fun x lo hi H Q => ∃ z st dx d, z.H = H ∧ Rel G z st ∧ R G z dx x ∧ cutD dx lo hi = some d ∧ ∀ z' v, Ext z z' → Rel G z' st → R G z' d v → Q v z'.H
theorem sIx_eq (n d : Nat) (o : Option Int) : HT.sIx n d o = Fw.sIx n d o := by
  cases o <;> rfl
theorem cutV_of {z : Z} {ds : List D} {vs : List V} (r : Rs G z ds vs) (lo hi : Option Int) : Rs G z (cutL ds lo hi) (cutV vs lo hi) := by
  unfold cutL cutV
  rw [r.len, sIx_eq, sIx_eq]
  exact (r.drop _).take _
theorem okT_cut {t : Txt} (h : okT t = true) (lo hi : Option Int) : okT (cutL t lo hi) = true := by
  unfold okT cutL at *
  rw [List.all_eq_true] at *
  exact fun x hx => h x (List.mem_of_mem_drop (List.mem_of_mem_take hx))
theorem slD (o : On G X) : SlR X (rSl G) := by
  intro pins s σ H x v vl vu lo hi sl Q I rx hs pl pu q
  obtain ⟨z, st, dx, d, rfl, rel, r1, e, q⟩ := q
  cases dx <;> simp only [cutD] at e <;> try cases e
  · rename_i t
    split at e <;> cases e
    rename_i hl
    refine sl_str pins s σ z.H x v vl vu lo hi sl Q I rx hs pl pu ⟨sOf t, (R.str.mp r1).1, by rw [len_sOf, ← big_eq]; exact hl, ?_⟩
    refine q z _ (Ext.refl z) rel (R.str.mpr ⟨?_, okT_cut (R.str.mp r1).2 _ _⟩)
    unfold cutS cutL
    rw [len_sOf, sIx_eq, sIx_eq]
    simp [sOf]
  · rename_i ds
    obtain ⟨a, vs, rfl, hq, r⟩ := r1.seqT o
    refine sl_tupA pins s σ z.H _ v vl vu lo hi sl Q I rx hs pl pu ⟨a, vs, rfl, hq, fun hw => ?_, fun _ p np => ?_⟩
    · refine q z _ (Ext.refl z) rel ?_
      have e : cutL ds lo hi = ds := by
        unfold cutL
        rw [← r.len, ← sIx_eq, ← sIx_eq, hw.1, hw.2, List.drop_zero, Nat.sub_zero, r.len, List.take_length]
      rw [e]
      exact r1
    · refine q (z.new p (.tup (cutV vs lo hi))) _ (Ext.new np) (rel.new np (by simp)) ?_
      simp only [R]
      exact ⟨p, _, rfl, .inl ⟨z.new_F p _, z.new_at p _⟩, (cutV_of r lo hi).ext (Ext.new np) rel.wf⟩
  · rename_i ds
    obtain ⟨a, vs, rfl, _, hq, r⟩ := r1.seqL o
    refine sl_list pins s σ z.H _ v vl vu lo hi sl Q I rx hs pl pu ⟨a, vs, rfl, hq, fun p np => ?_⟩
    refine q (z.new p (.lst (cutV vs lo hi))) _ (Ext.new np) (rel.new np (by simp)) ?_
    simp only [R]
    exact ⟨p, _, rfl, ⟨z.new_F p _, z.new_at p _⟩, (cutV_of r lo hi).ext (Ext.new np) rel.wf⟩

/-! ### built-in functions -/
def rBl (G : Gd) (g : List D → Option D) : List V → Hp → VK → Prop := fun vs H Q => ∃ z st ds d, z.H = H ∧ Rel G z st ∧ Rs G z ds vs ∧ g ds = some d ∧ ∀ z' v, Ext z z' → Rel G z' st → R G z' d v → Q v z'.H
theorem CallR.mk' {f : Value} {g : List D → Option D}
    (h : ∀ (pins : List (Addr × Obj)) (s : Shared) (σ : L2.St) (z : Z) (st : Store) (vs : List V) (us : List Value) (Q : VK) (ds : List D) (d : D), L2.Inv X pins σ z.H s → Vals vs us → Rel G z st → Rs G z ds vs → g ds = some d →
      (∀ z' v, Ext z z' → Rel G z' st → R G z' d v → Q v z'.H) → wpAny (model X.prog X.w) X.A (call f us) (EP X pins σ Q) X.xe s) : CallR X f (rBl G g) := by
  intro pins s σ H vs us Q I r q
  obtain ⟨z, st, ds, d, rfl, rel, rs, e, q⟩ := q
  exact h pins s σ z st vs us Q ds d I r rel rs e q
theorem Rs.one {z : Z} {d : D} {vs : List V} (h : Rs G z [d] vs) : ∃ v, vs = [v] ∧ R G z d v := by
  simp only [Rs] at h
  obtain ⟨v, r, rfl, h1, rfl⟩ := h
  exact ⟨v, rfl, h1⟩
theorem Rs.two {z : Z} {d e : D} {vs : List V} (h : Rs G z [d, e] vs) : ∃ v w, vs = [v, w] ∧ R G z d v ∧ R G z e w := by
  simp only [Rs] at h
  obtain ⟨v, r, rfl, h1, w, r', rfl, h2, rfl⟩ := h
  exact ⟨v, w, rfl, h1, h2⟩
theorem b_len (o : On G X) : CallR X (.builtin "len") (rBl G bLen) := by
  refine CallR.mk' fun pins s σ z st vs us Q ds d I r rel rs e q => ?_
  unfold bLen at e
  split at e <;> try cases e
  · obtain ⟨v, rfl, h⟩ := rs.one
    obtain ⟨a, ws, rfl, hq, rr⟩ := h.seqT o
    exact call_len pins s σ z.H _ us Q I r ⟨.ref a, ws.length, rfl, .inr ⟨ws, hq, rfl⟩, q z _ (Ext.refl z) rel (R.int.mpr (by rw [rr.len]))⟩
  · obtain ⟨v, rfl, h⟩ := rs.one
    obtain ⟨a, ws, rfl, _, hq, rr⟩ := h.seqL o
    exact call_len pins s σ z.H _ us Q I r ⟨.ref a, ws.length, rfl, .inl ⟨ws, hq, rfl⟩, q z _ (Ext.refl z) rel (R.int.mpr (by rw [rr.len]))⟩
  · obtain ⟨v, rfl, h⟩ := rs.one
    obtain ⟨a, rfl, hq⟩ := h.seqS o
    exact call_len pins s σ z.H _ us Q I r ⟨.ref a, _, rfl, .inl ⟨_, hq, rfl⟩, q z _ (Ext.refl z) rel (R.int.mpr (by rw [List.length_map]))⟩
  · obtain ⟨v, rfl, h⟩ := rs.one
    split at e <;> cases e
    rename_i hl
    rw [R.str] at h
    obtain ⟨rfl, _⟩ := h
    exact call_len pins s σ z.H _ us Q I r ⟨_, _, rfl, ⟨by rw [len_sOf, ← big_eq]; exact hl, rfl⟩, q z _ (Ext.refl z) rel (R.int.mpr (by rw [len_sOf]))⟩
theorem b_abs : CallR X (.builtin "abs") (rBl G bAbs) := by
  refine CallR.mk' fun pins s σ z st vs us Q ds d I r rel rs e q => ?_
  unfold bAbs at e
  split at e <;> try cases e
  obtain ⟨v, rfl, h⟩ := rs.one
  rw [R.int] at h
  subst h
  exact call_abs pins s σ z.H _ us Q I r ⟨_, rfl, q z _ (Ext.refl z) rel (R.int.mpr rfl)⟩
theorem b_min2 (o : On G X) : CallR X (.builtin "min") (rBl G bMin2) := by
  refine CallR.mk' fun pins s σ z st vs us Q ds d I r rel rs e q => ?_
  unfold bMin2 at e
  split at e <;> try cases e
  obtain ⟨v, w, rfl, h, h'⟩ := rs.two
  rw [R.int] at h h'
  subst h h'
  exact call_min2 o.calm pins s σ z.H _ us Q I r ⟨_, _, rfl, q z _ (Ext.refl z) rel (R.int.mpr rfl)⟩
theorem b_max2 (o : On G X) : CallR X (.builtin "max") (rBl G bMax2) := by
  refine CallR.mk' fun pins s σ z st vs us Q ds d I r rel rs e q => ?_
  unfold bMax2 at e
  split at e <;> try cases e
  obtain ⟨v, w, rfl, h, h'⟩ := rs.two
  rw [R.int] at h h'
  subst h h'
  exact call_max2 o.calm pins s σ z.H _ us Q I r ⟨_, _, rfl, q z _ (Ext.refl z) rel (R.int.mpr rfl)⟩
theorem b_int1 : CallR X (.type "int") (rBl G bInt) := by
  refine CallR.mk' fun pins s σ z st vs us Q ds d I r rel rs e q => ?_
  unfold bInt at e
  split at e <;> try cases e
  · obtain ⟨v, rfl, h⟩ := rs.one
    rw [R.int] at h
    subst h
    exact call_int1 pins s σ z.H _ us Q I r (.inl ⟨_, rfl, q z _ (Ext.refl z) rel (R.int.mpr rfl)⟩)
  · obtain ⟨v, rfl, h⟩ := rs.one
    rw [R.bl] at h
    subst h
    exact call_int1 pins s σ z.H _ us Q I r (.inr ⟨_, rfl, q z _ (Ext.refl z) rel (R.int.mpr rfl)⟩)
theorem asIs_eq : ∀ {ds : List D} {ns : List Int}, asIs ds = some ns → ds = ns.map .int
  | [], ns, e => by cases e; rfl
  | .int i :: r, ns, e => by
    obtain ⟨m, e1, rfl⟩ := Option.map_eq_some_iff.mp e
    rw [asIs_eq e1]; rfl
  | .non :: _, _, e | .bl _ :: _, _, e | .str _ :: _, _, e | .tup _ :: _, _, e | .lst _ :: _, _, e | .dic _ :: _, _, e | .obj _ _ :: _, _, e | .cell _ :: _, _, e | .scr _ :: _, _, e => by cases e
theorem asBs_eq : ∀ {ds : List D} {ns : List Bool}, asBs ds = some ns → ds = ns.map .bl
  | [], ns, e => by cases e; rfl
  | .bl i :: r, ns, e => by
    obtain ⟨m, e1, rfl⟩ := Option.map_eq_some_iff.mp e
    rw [asBs_eq e1]; rfl
  | .non :: _, _, e | .int _ :: _, _, e | .str _ :: _, _, e | .tup _ :: _, _, e | .lst _ :: _, _, e | .dic _ :: _, _, e | .obj _ _ :: _, _, e | .cell _ :: _, _, e | .scr _ :: _, _, e => by cases e
theorem R.ints {z : Z} {ds : List D} {ns : List Int} {v : V} (o : On G X) (h : R G z (.lst ds) v) (e : asIs ds = some ns) : ∃ a, v = .ref a ∧ SqL X.K z.H a (ns.map V.int) := by
  obtain ⟨a, ws, rfl, _, hq, rr⟩ := h.seqL o
  rw [asIs_eq e, Rs.ints] at rr
  subst rr
  exact ⟨a, rfl, hq⟩
theorem R.bools {z : Z} {ds : List D} {ns : List Bool} {v : V} (o : On G X) (h : R G z (.lst ds) v) (e : asBs ds = some ns) : ∃ a, v = .ref a ∧ SqL X.K z.H a (ns.map V.bl) := by
  obtain ⟨a, ws, rfl, _, hq, rr⟩ := h.seqL o
  rw [asBs_eq e, Rs.bls] at rr
  subst rr
  exact ⟨a, rfl, hq⟩
theorem b_sum (o : On G X) : CallR X (.builtin "sum") (rBl G bSum) := by
  refine CallR.mk' fun pins s σ z st vs us Q ds d I r rel rs e q => ?_
  unfold bSum at e
  split at e <;> try cases e
  obtain ⟨v, rfl, h⟩ := rs.one
  obtain ⟨ns, e1, rfl⟩ := Option.map_eq_some_iff.mp e
  obtain ⟨a, rfl, hq⟩ := h.ints o e1
  exact cr_sum o.calm pins s σ z.H _ us Q I r ⟨a, ns, rfl, hq, q z _ (Ext.refl z) rel (R.int.mpr rfl)⟩
theorem b_all (o : On G X) : CallR X (.builtin "all") (rBl G bAll) := by
  refine CallR.mk' fun pins s σ z st vs us Q ds d I r rel rs e q => ?_
  unfold bAll at e
  split at e <;> try cases e
  obtain ⟨v, rfl, h⟩ := rs.one
  obtain ⟨ns, e1, rfl⟩ := Option.map_eq_some_iff.mp e
  obtain ⟨a, rfl, hq⟩ := h.bools o e1
  exact cr_all o.calm pins s σ z.H _ us Q I r ⟨a, ns, rfl, hq, q z _ (Ext.refl z) rel (R.bl.mpr rfl)⟩
theorem b_any (o : On G X) : CallR X (.builtin "any") (rBl G bAny) := by
  refine CallR.mk' fun pins s σ z st vs us Q ds d I r rel rs e q => ?_
  unfold bAny at e
  split at e <;> try cases e
  obtain ⟨v, rfl, h⟩ := rs.one
  obtain ⟨ns, e1, rfl⟩ := Option.map_eq_some_iff.mp e
  obtain ⟨a, rfl, hq⟩ := h.bools o e1
  exact cr_any o.calm pins s σ z.H _ us Q I r ⟨a, ns, rfl, hq, q z _ (Ext.refl z) rel (R.bl.mpr rfl)⟩
theorem foldMin : ∀ (r : List Int) (i : Int), (r.foldl min i = i ∨ r.foldl min i ∈ r) ∧ r.foldl min i ≤ i ∧ ∀ y ∈ r, r.foldl min i ≤ y
  | [], i => ⟨.inl rfl, Int.le_refl _, fun _ h => nomatch h⟩
  | a :: r, i => by
    obtain ⟨h1, h2, h3⟩ := foldMin r (min i a)
    rw [List.foldl_cons]
    refine ⟨?_, by omega, fun y hy => ?_⟩
    · rcases h1 with h1 | h1
      · rw [h1]
        by_cases c : i ≤ a
        · left; omega
        · right; have : min i a = a := by omega
          rw [this]; exact List.mem_cons_self
      · exact .inr (List.mem_cons_of_mem _ h1)
    · rcases List.mem_cons.mp hy with rfl | hy
      · omega
      · exact h3 y hy
theorem foldMax : ∀ (r : List Int) (i : Int), (r.foldl max i = i ∨ r.foldl max i ∈ r) ∧ i ≤ r.foldl max i ∧ ∀ y ∈ r, y ≤ r.foldl max i
  | [], i => ⟨.inl rfl, Int.le_refl _, fun _ h => nomatch h⟩
  | a :: r, i => by
    obtain ⟨h1, h2, h3⟩ := foldMax r (max i a)
    rw [List.foldl_cons]
    refine ⟨?_, by omega, fun y hy => ?_⟩
    · rcases h1 with h1 | h1
      · rw [h1]
        by_cases c : a ≤ i
        · left; omega
        · right; have : max i a = a := by omega
          rw [this]; exact List.mem_cons_self
      · exact .inr (List.mem_cons_of_mem _ h1)
    · rcases List.mem_cons.mp hy with rfl | hy
      · omega
      · exact h3 y hy
theorem minI_is {ns : List Int} (h : ns ≠ []) : minI ns ∈ ns ∧ ∀ y ∈ ns, minI ns ≤ y := by
  cases ns with
  | nil => exact absurd rfl h
  | cons i r =>
    obtain ⟨h1, h2, h3⟩ := foldMin r i
    refine ⟨?_, fun y hy => ?_⟩
    · show r.foldl min i ∈ _
      rcases h1 with h1 | h1
      · rw [h1]; exact List.mem_cons_self
      · exact List.mem_cons_of_mem _ h1
    · rcases List.mem_cons.mp hy with rfl | hy
      · exact h2
      · exact h3 y hy
theorem maxI_is {ns : List Int} (h : ns ≠ []) : maxI ns ∈ ns ∧ ∀ y ∈ ns, y ≤ maxI ns := by
  cases ns with
  | nil => exact absurd rfl h
  | cons i r =>
    obtain ⟨h1, h2, h3⟩ := foldMax r i
    refine ⟨?_, fun y hy => ?_⟩
    · show r.foldl max i ∈ _
      rcases h1 with h1 | h1
      · rw [h1]; exact List.mem_cons_self
      · exact List.mem_cons_of_mem _ h1
    · rcases List.mem_cons.mp hy with rfl | hy
      · exact h2
      · exact h3 y hy
theorem b_min (o : On G X) : CallR X (.builtin "min") (rBl G bMin1) := by
  refine CallR.mk' fun pins s σ z st vs us Q ds d I r rel rs e q => ?_
  unfold bMin1 at e
  split at e <;> try cases e
  obtain ⟨v, rfl, h⟩ := rs.one
  split at e
  · cases e
  rename_i hne
  obtain ⟨ns, e1, rfl⟩ := Option.map_eq_some_iff.mp e
  obtain ⟨a, rfl, hq⟩ := h.ints o e1
  have ne : ns ≠ [] := fun z => hne (by rw [asIs_eq e1, z]; rfl)
  have hm := minI_is ne
  refine cr_min o.calm pins s σ z.H _ us Q I r ⟨a, ns, rfl, hq, List.length_pos_iff.mpr ne, fun m hm1 hm2 => ?_⟩
  have : m = minI ns := Int.le_antisymm (hm2 _ hm.1) (hm.2 _ hm1)
  rw [this]
  exact q z _ (Ext.refl z) rel (R.int.mpr rfl)
theorem b_max (o : On G X) : CallR X (.builtin "max") (rBl G bMax1) := by
  refine CallR.mk' fun pins s σ z st vs us Q ds d I r rel rs e q => ?_
  unfold bMax1 at e
  split at e <;> try cases e
  obtain ⟨v, rfl, h⟩ := rs.one
  split at e
  · cases e
  rename_i hne
  obtain ⟨ns, e1, rfl⟩ := Option.map_eq_some_iff.mp e
  obtain ⟨a, rfl, hq⟩ := h.ints o e1
  have ne : ns ≠ [] := fun z => hne (by rw [asIs_eq e1, z]; rfl)
  have hm := maxI_is ne
  refine cr_max o.calm pins s σ z.H _ us Q I r ⟨a, ns, rfl, hq, List.length_pos_iff.mpr ne, fun m hm1 hm2 => ?_⟩
  have : m = maxI ns := Int.le_antisymm (hm.2 _ hm1) (hm2 _ hm.1)
  rw [this]
  exact q z _ (Ext.refl z) rel (R.int.mpr rfl)
theorem R.newL {z : Z} {st : Store} {ds : List D} {vs : List V} (rel : Rel G z st) (rr : Rs G z ds vs) {p : Addr} (np : z.H p = none) : R G (z.new p (.lst vs)) (.lst ds) (.ref p) := by
  simp only [R]
  exact ⟨p, _, rfl, ⟨z.new_F p _, z.new_at p _⟩, rr.ext (Ext.new np) rel.wf⟩
theorem R.newT {z : Z} {st : Store} {ds : List D} {vs : List V} (rel : Rel G z st) (rr : Rs G z ds vs) {p : Addr} (np : z.H p = none) : R G (z.new p (.tup vs)) (.tup ds) (.ref p) := by
  simp only [R]
  exact ⟨p, _, rfl, .inl ⟨z.new_F p _, z.new_at p _⟩, rr.ext (Ext.new np) rel.wf⟩
theorem RK.keys {z : Z} : ∀ {kvs : List (Txt × D)} {vs : List (Key × V)}, RK G z kvs vs → Rs G z (kvs.map fun kv => .str kv.1) (vs.map fun kv => kV kv.1)
  | [], vs, h => by
    have e : vs = [] := by simpa only [RK] using h
    subst e
    exact Rs.nil.mpr rfl
  | (k, d) :: r, vs, h => by
    simp only [RK] at h
    obtain ⟨v, ws, rfl, h0, h1, h2⟩ := h
    exact Rs.mk _ _ (R.str.mpr ⟨rfl, h0⟩) (RK.keys h2)
theorem b_list (o : On G X) : CallR X (.type "list") (rBl G bList) := by
  refine CallR.mk' fun pins s σ z st vs us Q ds d I r rel rs e q => ?_
  unfold bList at e
  split at e <;> try cases e
  · obtain ⟨v, rfl, h⟩ := rs.one
    obtain ⟨a, ws, rfl, hq, rr⟩ := h.seqT o
    exact call_list_of pins s σ z.H _ us Q I r ⟨a, ws, rfl, .inr hq, fun p np => q (z.new p _) _ (Ext.new np) (rel.new np (by simp)) (R.newL rel rr np)⟩
  · obtain ⟨v, rfl, h⟩ := rs.one
    obtain ⟨a, ws, rfl, _, hq, rr⟩ := h.seqL o
    exact call_list_of pins s σ z.H _ us Q I r ⟨a, ws, rfl, .inl hq, fun p np => q (z.new p _) _ (Ext.new np) (rel.new np (by simp)) (R.newL rel rr np)⟩
  · obtain ⟨v, rfl, h⟩ := rs.one
    simp only [R] at h
    obtain ⟨a, ws, rfl, ⟨_, hq⟩, rr⟩ := h
    exact call_list_dK o.calm pins s σ z.H _ us Q I r ⟨a, ws, rfl, hq, fun p np => q (z.new p _) _ (Ext.new np) (rel.new np (by simp)) (R.newL rel rr.keys np)⟩
theorem b_tuple (o : On G X) : CallR X (.type "tuple") (rBl G bTuple) := by
  refine CallR.mk' fun pins s σ z st vs us Q ds d I r rel rs e q => ?_
  unfold bTuple at e
  split at e <;> try cases e
  · obtain ⟨v, rfl, h⟩ := rs.one
    obtain ⟨a, ws, rfl, hq, rr⟩ := h.seqT o
    exact call_tuple_of pins s σ z.H _ us Q I r ⟨a, ws, rfl, .inr ⟨hq, q z _ (Ext.refl z) rel h⟩⟩
  · obtain ⟨v, rfl, h⟩ := rs.one
    obtain ⟨a, ws, rfl, _, hq, rr⟩ := h.seqL o
    exact call_tuple_of pins s σ z.H _ us Q I r ⟨a, ws, rfl, .inl ⟨hq, fun p np => q (z.new p _) _ (Ext.new np) (rel.new np (by simp)) (R.newT rel rr np)⟩⟩
/-- a class by its name -/
def tyN : Ty → String
  | .int => "int" | .bool => "bool" | .str => "str" | .tuple => "tuple" | .list => "list"
theorem kitAll : ∀ t : Ty, ∀ a ∈ ["NoneType", "bool", "int", "str", "list", "tuple"], kitB a (tyN t) = some (a == tyN t || (a == "bool" && tyN t == "int")) := by
  intro t a ha
  cases t <;> simp only [List.mem_cons, List.not_mem_nil, or_false] at ha <;> rcases ha with rfl | rfl | rfl | rfl | rfl | rfl <;> decide +kernel
theorem b_isinst (o : On G X) (t : Ty) : CallR X (.builtin "isinstance") (fun vs H Q => ∃ v, vs = [v, .ty (tyN t)] ∧ rBl G (bIsinst t) [v] H Q) := by
  intro pins s σ H vs us Q I r q
  obtain ⟨v, rfl, z, st, ds, d, rfl, rel, rs, e, q⟩ := q
  unfold bIsinst at e
  split at e <;> try cases e
  rename_i x
  obtain ⟨v', ev, h⟩ := rs.one
  cases ev
  obtain ⟨b, e1, rfl⟩ := Option.map_eq_some_iff.mp e
  have fin := q z _ (Ext.refl z) rel (R.bl.mpr rfl)
  have go : ∀ {a : String}, TyX X.K z.H v (.type a) → kitB a (tyN t) = some b → wpAny (model X.prog X.w) X.A (call (.builtin "isinstance") us) (EP X pins σ Q) X.xe s := fun ty k =>
    call_isi pins s σ z.H _ us Q I r ⟨v, .ty (tyN t), _, .type (tyN t), b, rfl, .ty _, ty, kit_ty k, fin⟩
  have K1 := kitAll t
  cases x <;> simp only [tyIs] at e1
  · rw [R.non] at h; subst h
    refine go (a := "NoneType") (.base .non) ?_
    rw [K1 _ (by simp)]
    cases t <;> cases e1 <;> decide
  · rw [R.bl] at h; subst h
    refine go (a := "bool") (.base (.bl _)) ?_
    rw [K1 _ (by simp)]
    cases t <;> cases e1 <;> decide
  · rw [R.int] at h; subst h
    refine go (a := "int") (.base (.int _)) ?_
    rw [K1 _ (by simp)]
    cases t <;> cases e1 <;> decide
  · rw [R.str] at h; obtain ⟨rfl, _⟩ := h
    refine go (a := "str") (.base (.str _)) ?_
    rw [K1 _ (by simp)]
    cases t <;> cases e1 <;> decide
  · simp only [R] at h
    obtain ⟨a, ws, rfl, hq, _⟩ := h
    refine go (a := "tuple") ?_ ?_
    · rcases hq with ⟨_, hq⟩ | ⟨ob, its, n, l, c, _⟩
      · exact .base (.tup hq)
      · exact .kTuple (o := ob) (by rw [o.K]; exact l) c
    · rw [K1 _ (by simp)]
      cases t <;> cases e1 <;> decide
  · simp only [R] at h
    obtain ⟨a, ws, rfl, ⟨_, hq⟩, _⟩ := h
    refine go (a := "list") (.base (.lst hq)) ?_
    rw [K1 _ (by simp)]
    cases t <;> cases e1 <;> decide
  all_goals (cases t <;> cases e1)
end
end Fw

set_option Elab.async false
set_option linter.all false
set_option maxRecDepth 100000
set_option autoImplicit false
set_option maxHeartbeats 1000000
/-! Fw31: an exception in the air, at the hand of a frame or of a block in it. -/
namespace Fw
open PySem PySem.Spec PyProof.Rows L2

/-- fresh, or with a traceback whose flight is anything -/
def SkyA (B : Heap) (l : List PySem.Env) (a : Addr) (Zp : Obj → Prop) (h : Heap) : Prop :=
  B.StaysIn h ∧ B.get? a = none ∧ h.FunFrames B l ∧ ((∃ oe vs, h.get? a = some oe ∧ Zp oe ∧ oe.data = .fields vs ∧ vs[1]? = some .none) ∨ ∃ fr : Option Addr, HandSPX.TracedZ h B a Zp (fr.elim Value.none fun f => rawInt f))

section
variable {M : Model} {A : Around} {E : Value → Shared → Prop} {s : Shared} {Zp : Obj → Prop} {B : Heap} {env env0 : PySem.Env} {outer : List PySem.Env} {L e : Addr}
theorem note_other {fl : Value} {Q : Unit → Shared → Prop} (hZ : HandSPX.Steady Zp) (hfr : A.frames = some (env :: outer)) (hf : env.frame = some L) (hkb : B.StaysIn s.heap) (hen : B.get? e = none) (hl : s.heap.FunFrames B (env :: outer))
    (tr : HandSPX.TracedZ s.heap B e Zp fl) (hne : (fl == rawInt L) = false)
    (hQ : ∀ h', HandSPX.HeldZ B (env :: outer) e Zp L h' → s.heap.UpToSlots h' → Q () { s with heap := h' }) : wpAny M A (noteFrame (.ref e) env) Q E s := by
  obtain ⟨oe, vs, T, oT, ts, he, hz, hd, h1, hnT, hTe, hT, hdT, h3⟩ := tr
  unfold noteFrame; simp only [hf]
  refine wpAny_bind (wpAny_field he hd h1 ?_)
  rw [if_pos (by simp : (Value.ref T != Value.none) = true)]
  refine wpAny_bind (wpAny_field hT hdT h3 ?_)
  rw [if_neg (by rw [hne]; decide)]
  refine wpAny_bind (wpAny_setField hT hdT (Array.getElem?_eq_some_iff.mp h3).1 ?_)
  have oth : ∀ b, b ≠ T → (s.heap.update T (Obj.mapFields (·.setIfInBounds 3 Value.none))).get? b = s.heap.get? b := fun b n => Heap.get?_update_other _ _ (Ne.symm n)
  have nrec : ∀ b o, s.heap.get? b = some o → (∀ ws, o.data ≠ .fields ws) → b ≠ T := fun b o g nf q => by
    subst q; rw [hT] at g; cases g; exact nf ts hdT
  have keepB : B.StaysIn (s.heap.update T (Obj.mapFields (·.setIfInBounds 3 Value.none))) := fun b o g => by
    rw [oth b fun q => by subst q; rw [hnT] at g; cases g]
    exact hkb b o g
  have fr' : (s.heap.update T (Obj.mapFields (·.setIfInBounds 3 Value.none))).FunFrames B (env :: outer) := hl.of_keeps fun b o g nf => ⟨o, by rw [oth b (nrec b o g nf)]; exact g, rfl⟩
  have he' : (s.heap.update T (Obj.mapFields (·.setIfInBounds 3 Value.none))).get? e = some oe := by rw [oth e (Ne.symm hTe)]; exact he
  refine HandSPX.wpAny_entryZ hZ hfr fr' hf he' keepB hen hd (Array.getElem?_eq_some_iff.mp h1).1 hz fun h' ⟨x1, x2, x3, x4⟩ => hQ h' ⟨x1, hen, x2, x3⟩ fun b o g nf => ?_
  exact x4 b o (by rw [oth b (nrec b o g nf)]; exact g) nf
theorem rawInt_ne {i j : Addr} (h : i ≠ j) : ((rawInt i : Value) == rawInt j) = false := by
  rw [beq_eq_false_iff_ne]
  intro q
  simp only [rawInt, Value.int.injEq] at q
  exact h (Int.ofNat.inj q.1)
theorem note_frame {a : Addr} (h : env.frame = env0.frame) : noteFrame (.ref a) env = noteFrame (.ref a) env0 := by
  unfold noteFrame PySem.frameOf
  rw [h]
theorem note_held {Q : Unit → Shared → Prop} (hZ : HandSPX.Steady Zp) (hfr : A.frames = some (env0 :: outer)) (hf0 : env0.frame = some L) (hf : env.frame = some L) (x : SkyA B (env0 :: outer) e Zp s.heap)
    (hQ : ∀ h', HandSPX.HeldZ B (env0 :: outer) e Zp L h' → s.heap.UpToSlots h' → Q () { s with heap := h' }) : wpAny M A (noteFrame (.ref e) env) Q E s := by
  rw [note_frame (env0 := env0) (by rw [hf, hf0])]
  obtain ⟨x1, x2, x3, x4⟩ := x
  rcases x4 with ⟨oe, vs, he, hz, hd, h1⟩ | ⟨fr, tr⟩
  · exact HandSPX.look_newZ hZ hfr x3 hf0 he x1 x2 hd h1 hz hQ
  · cases fr with
    | none => exact HandSPX.looks_onZ hZ hfr hf0 ⟨x1, x2, x3, tr⟩ hQ
    | some L' =>
      by_cases q : L' = L
      · subst q
        exact HandSPX.againZ hf0 tr (hQ s.heap ⟨x1, x2, x3, tr⟩ (Heap.UpToSlots.refl _))
      · exact note_other hZ hfr hf0 x1 x2 x3 tr (rawInt_ne q) hQ
end

/-- an exception in the air of X, wherever in it -/
def XF (X : Cx) (W : WX) (u : Value) (s' : Shared) : Prop :=
  ∃ (a : Addr) (B : Heap) (sI : Shared) (pins : List (Addr × Obj)) (σ : L2.St) (H : Hp) (cls : Value) (d : Option Addr),
    u = .ref a ∧ L2.Inv X pins σ H sI ∧ (∀ b o, sI.heap.get? b = some o → b ∉ frs X.stack → B.get? b = some o) ∧ sI.heap.UpToSlots s'.heap ∧
      SkyA B X.stack a (Zc cls d) s'.heap ∧ H a = none ∧ s'.os = sI.os ∧ AllBare s'.gens ∧ W cls d σ H
def TakesF (X : Cx) (W : WX) : Prop := ∀ u s', XF X W u s' → X.xe u s'
theorem XF.of {X : Cx} {W : WX} {u : Value} {s' : Shared} (x : XE X W u s') : XF X W u s' := by
  obtain ⟨a, B, sI, pins, σ, H, cls, d, e, I, nb, up, sky, na, os, ag, w⟩ := x
  refine ⟨a, B, sI, pins, σ, H, cls, d, e, I, nb, up, ?_, na, os, ag, w⟩
  rcases sky with ⟨h1, h2, h3, h4⟩ | ⟨h1, h2, h3, h4⟩ | ⟨h1, h2, h3, h4⟩
  · exact ⟨h1, h2, h3, .inl h4⟩
  · exact ⟨h1, h2, h3, .inr ⟨none, h4⟩⟩
  · exact ⟨h1, h2, h3, .inr ⟨some _, h4⟩⟩
theorem TakesF.toE {X : Cx} {W : WX} (t : TakesF X W) : Takes X W := fun u s' x => t u s' (XF.of x)
theorem TakesF.pass {X : Cx} {W : WX} (t : TakesF X W) (σ : L2.St) : PassesAt (L2.CX X.prog X.w) X σ (WE W σ) := passAt t.toE σ
/-- the frame that the code runs in -/
def FrOk (X : Cx) : Prop := ∃ (e0 : PySem.Env) (o0 : List PySem.Env) (L : Addr), X.stack = e0 :: o0 ∧ e0.frame = some L ∧ X.env.frame = some L
theorem FrOk.blk {X : Cx} (f : FrOk X) {s : Shared} {H : Hp} {sc : Scope} {cl : List (Str × Addr)} {C : Addr} {fp : List Addr} {E : Value → Shared → Prop} : FrOk ((X.blk s H sc (compEnvC sc cl C X.env) fp).wish E) := f

/-- it leaves a def -/
theorem takesF_of {X : Cx} {E : XK} {E₁ : Value → Shared → Prop} (hs : X.stack = X.env :: X.outer) (hf : X.env.frame = some X.env.locals) (hex : X.ex = [])
    (hx : X.xe = fun e s' => wpAny (model X.prog X.w) X.A (leaving X.env e) (fun _ s'' => L2.CX X.prog X.w X.outer X.H_0 X.s_0 E e s'') E₁ s') : TakesF X (fun cls d _ H => E cls d H) := by
  intro u s' x
  rw [hx]
  obtain ⟨a, B, sI, pins, σ, H, cls, d, rfl, I, nb, up, sky, na, os, ag, w⟩ := x
  have hfr : X.A.frames = some (X.env :: X.outer) := by rw [I.ok.frames, hs]
  unfold leaving
  rw [hs] at sky
  refine wpAny_bind (note_held Zc.steady hfr hf hf sky fun h1 held up1 => HandSPX.landsZ held fun h' fl up' => ?_)
  have up2 := up1.trans up'
  obtain ⟨l1, l2, ⟨_, _, l3⟩, l4⟩ := fl
  have nex : ∀ b, b ∉ X.ex := fun b z => by rw [hex] at z; cases z
  have nst : ∀ b o, X.s_0.heap.get? b = some o → b ∉ X.fs → b ∉ frs X.stack := fun b o g nb z => by
    cases List.mem_cons.mp (I.stkSub b z) with
    | inl q =>
      have lt := Heap.lt_size g
      rw [q] at lt
      exact Nat.lt_irrefl _ (Nat.lt_of_lt_of_le lt I.ok.above)
    | inr q => exact nb q
  refine ⟨a, B, H, cls, d, rfl, ⟨l1, l2, l3, l4⟩, I.inGround nb, ?_, na, os.trans I.os, ag, w⟩
  constructor
  · exact fun b o g n z => nb b o (I.base.keep b o g n z (nex b)) (nst b o g z)
  · intro b o g z
    obtain ⟨_, oz, gz, nf⟩ := I.ok.funs.mem z
    rw [g] at gz; cases gz
    obtain ⟨s1, g1⟩ := I.base.slot b o g (I.ok.frf b z) z (nex b)
    obtain ⟨s2, g2⟩ := up b _ g1 nf
    obtain ⟨s3, g3⟩ := up2 b _ g2 nf
    exact ⟨s3, g3⟩
  · exact fun b o g n => I.base.free b o g n (nex b)
  · intro b o g z
    obtain ⟨ob, gb⟩ := I.base.there b o g (nex b)
    exact ⟨ob, nb b ob gb (nst b o g z)⟩
  · exact I.base.tups
  · exact I.base.frzs
  · exact I.base.tbls

/-! ### a block in a frame -/
/-- without the object at C -/
theorem hide1 (h : Heap) (C : Addr) : (∀ b o, b ≠ C → h.get? b = some o → (PySem.W.hideAll h [C]).get? b = some o) ∧ ∀ b o, (PySem.W.hideAll h [C]).get? b = some o → b ≠ C ∧ h.get? b = some o :=
  ⟨fun b o n g => PySem.W.hideAll_get _ g (by simpa using n), fun b o g => ⟨fun q => (by
    have z := PySem.W.hideAll_none (h := h) [C] (b := C) (by simp)
    rw [q, z] at g
    exact nomatch g), PySem.W.of_hideAll _ g⟩⟩
theorem hide1_none {h : Heap} {C b : Addr} (g : h.get? b = none) : (PySem.W.hideAll h [C]).get? b = none := by
  cases q : (PySem.W.hideAll h [C]).get? b with
  | none => rfl
  | some o =>
    have z := ((hide1 h C).2 b o q).2
    rw [g] at z
    cases z
/-- what a block lets out, behind its variables -/
abbrev blkE (X : Cx) (use : Option (Value → Sem Unit)) (Qf : Value → Shared → Prop) (acc : Value) (cenv : PySem.Env) : Value → Shared → Prop :=
  notedBy (model X.prog X.w) X.A cenv fun e s' => compPost (model X.prog X.w) X.A X.xe use Qf acc cenv.locals (.error e) s'
theorem blk_takes {X : Cx} {W : WX} {pins : List (Addr × Obj)} {σ : L2.St} {H3 : Hp} {s3 : Shared} {scope : Scope} {cenv : PySem.Env} {fp : List Addr} {use : Option (Value → Sem Unit)} {Qf : Value → Shared → Prop} {acc : Value} {L : Addr} {e0 : PySem.Env} {o0 : List PySem.Env}
    (tk : TakesF X W) (I3 : L2.Inv X pins σ H3 s3) (f3 : ∀ b ∈ fp, FpOk X pins H3 b) (hC : s3.heap.objs.size ≤ cenv.locals) (hs : X.stack = e0 :: o0) (hf0 : e0.frame = some L) (hf : cenv.frame = some L) :
    TakesF ((X.blk s3 H3 scope cenv fp).wish (blkE X use Qf acc cenv)) (fun cls d _ H => W cls d σ H) := by
  intro u s' x
  obtain ⟨a, B, sI, pinsB, σB, HB, cls, d, rfl, I, nb, up, sky, na, os, ag, w⟩ := x
  have nb : ∀ b o, sI.heap.get? b = some o → b ∉ frs X.stack → B.get? b = some o := nb
  have sky : SkyA B X.stack a (Zc cls d) s'.heap := sky
  rw [hs] at sky
  have hfr : X.A.frames = some (e0 :: o0) := by rw [I3.ok.frames, hs]
  show wpAny (model X.prog X.w) X.A (noteFrame (.ref a) cenv) (fun _ s'' => compPost (model X.prog X.w) X.A X.xe use Qf acc cenv.locals (.error (.ref a)) s'') _ s'
  refine note_held Zc.steady hfr hf0 hf sky fun h1 held up1 => ?_
  obtain ⟨m, hn, _⟩ := I.loc
  have hn : sI.heap.Ns cenv.locals m := hn
  obtain ⟨oC, es, ep, gC, dC, kC, mC⟩ := hn
  obtain ⟨sl, gC1⟩ := (up.trans up1) _ _ gC (fun ws q => by rw [dC] at q; cases q)
  have gC1 : h1.get? cenv.locals = some { oC with slots := sl } := gC1
  have nF : cenv.locals ∉ frs X.stack := fun z => by
    cases List.mem_cons.mp (I3.stkSub _ z) with
    | inl q =>
      have := I3.lt
      rw [← q] at this
      exact Nat.lt_irrefl _ (Nat.lt_of_lt_of_le this hC)
    | inr q => exact I3.nofs hC q
  obtain ⟨k1, k2, k3, oe, vs, T, oT, ts, g1, hz, d1, e1, nT, Te, gT, dT, e3⟩ := held
  have Ca : a ≠ cenv.locals := fun q => by rw [q, gC1] at g1; cases g1; rw [show oC.data = _ from dC] at d1; cases d1
  have CT : T ≠ cenv.locals := fun q => by rw [q, gC1] at gT; cases gT; rw [show oC.data = _ from dC] at dT; cases dT
  have done : ∀ h2, Heap.SameBut cenv.locals h1 h2 → ∀ cenv' : PySem.Env, wpAny (model X.prog X.w) X.A (passOn "comprehension.variables-let-go" (.ref a) cenv' : Sem Value) (fun _ _ => False) X.xe { s' with heap := h2 } := by
    intro h2 sb cenv'
    have at2 : ∀ b o, b ≠ cenv.locals → h1.get? b = some o → h2.get? b = some o := fun b o n g => by rw [sb.2 b n]; exact g
    unfold PySem.passOn
    refine wpAny_bind (wpAny_field (at2 a oe Ca g1) d1 e1 ?_)
    rw [if_neg (by simp : ¬ (Value.ref T == Value.none) = true)]
    have kB : (PySem.W.hideAll B [cenv.locals]).StaysIn h2 := fun b o g => at2 b o ((hide1 B _).2 b o g).1 (k1 b o ((hide1 B _).2 b o g).2)
    have fB : h2.FunFrames (PySem.W.hideAll B [cenv.locals]) X.stack := by
      have f1 : h1.FunFrames (PySem.W.hideAll B [cenv.locals]) X.stack := funFrames_none (by rw [hs]; exact k3) fun b hb => hide1_none (by rw [hs] at hb; exact (k3.mem hb).1)
      have go : ∀ (l : List PySem.Env), (∀ b ∈ frs l, b ≠ cenv.locals) → h1.FunFrames (PySem.W.hideAll B [cenv.locals]) l → h2.FunFrames (PySem.W.hideAll B [cenv.locals]) l := by
        intro l
        induction l with
        | nil => exact fun _ _ => trivial
        | cons e r ih =>
          rintro n ⟨c1, ⟨L', oL, c2, c3, c4, c5⟩, c6⟩
          exact ⟨c1, ⟨L', oL, c2, c3, at2 L' oL (n L' (List.mem_filterMap.mpr ⟨e, List.mem_cons_self, c2⟩)) c4, c5⟩, ih (fun b hb => n b (by
            obtain ⟨e', he', q⟩ := List.mem_filterMap.mp hb
            exact List.mem_filterMap.mpr ⟨e', List.mem_cons_of_mem _ he', q⟩)) c6⟩
      exact go X.stack (fun b hb q => nF (by rw [← q]; exact hb)) f1
    have tB : HandSPX.TracedZ h2 (PySem.W.hideAll B [cenv.locals]) a (Zc cls d) (rawInt L) := ⟨oe, vs, T, oT, ts, at2 a oe Ca g1, hz, d1, e1, hide1_none nT, Te, at2 T oT CT gT, dT, e3⟩
    refine wpAny_bind (HandSPX.setFlight_anyZ (fr := cenv'.frame) kB fB tB fun h3 q1 q2 q3 q4 => wpAny_throw (tk _ _ ?_))
    have I4 : L2.Inv X pins σ HB sI := I3.call' (ch := fp) I.os I.base I.hok I.bare fun b hb => ⟨(f3 b hb).2.2.2.1, (f3 b hb).2.1, (f3 b hb).2.2.2.2.1, (f3 b hb).2.2.2.2.2⟩
    have nC : HB cenv.locals = none := I.free
    obtain ⟨c0, c1, c2, c3, c4, c5⟩ := I3.fpOk (H' := HB) hC nC
    have I5 := I4.turned (h' := PySem.W.hideAll sI.heap [cenv.locals]) (t' := sI.toks) (fun b o n g => (hide1 sI.heap _).1 b o n g) c0 c1 c3 c4 c5
    refine ⟨a, PySem.W.hideAll B [cenv.locals], _, pins, σ, HB, cls, d, rfl, I5, fun b o g nf => ?_, fun b o g nf => ?_, ⟨q1, hide1_none k2, q2, .inr ⟨cenv'.frame, q3⟩⟩, na, os, ag, w⟩
    · obtain ⟨n, g'⟩ := (hide1 sI.heap _).2 b o g
      exact (hide1 B _).1 b o n (nb b o g' nf)
    · obtain ⟨n, g'⟩ := (hide1 sI.heap _).2 b o g
      obtain ⟨s1, g1'⟩ := (up.trans up1) b o g' nf
      obtain ⟨s2, g2'⟩ := q4 b _ (at2 b _ n g1') nf
      exact ⟨s2, g2'⟩
  have fin : ∃ m, h1.Ns cenv.locals m ∧ ∀ h', Heap.SameBut cenv.locals h1 h' → ∀ cenv' : PySem.Env, cenv'.locals = cenv.locals → wpAny (model X.prog X.w) X.A (passOn "comprehension.variables-let-go" (.ref a) cenv' : Sem Value) (fun _ _ => False) X.xe { s' with heap := h' } :=
    ⟨m, ⟨_, es, ep, gC1, dC, kC, mC⟩, fun h2 sb c' _ => done h2 sb c'⟩
  cases use <;> exact fin
end Fw

set_option Elab.async false
set_option linter.all false
set_option maxRecDepth 100000
set_option autoImplicit false
set_option maxHeartbeats 1000000
/-! Fw4: expressions: each form's reading from its parts' readings. -/
namespace Fw
open PySem PySem.Spec PyProof.Rows L2
abbrev St := L2.St

/-! ### readings -/
def tOf (G : Gd) (T : List FT) (W : WX) (m : ME) : TE := fun σ H Q => ∃ z env st, z.H = H ∧ Rel G z st ∧ EnvR G z env σ ∧ Post G z σ W (evalE G.pg T m env st) fun d _ z' => ∀ v, R G z' d v → Q v z'.H
def tTof (G : Gd) (T : List FT) (W : WX) (m : ME) : TT := fun σ H Q => ∃ z env st, z.H = H ∧ Rel G z st ∧ EnvR G z env σ ∧ Post G z σ W (evalE G.pg T m env st) fun d _ z' => ∃ b, d = .bl b ∧ Q b z'.H
def tAof (G : Gd) (T : List FT) (W : WX) (ms : MEs) : TA := fun σ H Q => ∃ z env st, z.H = H ∧ Rel G z st ∧ EnvR G z env σ ∧ Post G z σ W (evalEs G.pg T ms env st) fun ds _ z' => ∀ vs, Rs G z' ds vs → Q vs z'.H
theorem peImp {X : Cx} {e : Expr} {t t' : TE} (h : PE X e t) (f : ∀ σ H Q, t' σ H Q → t σ H Q) : PE X e t' := ⟨fun pins s σ H Q I q => h.run pins s σ H Q I (f σ H Q q)⟩
theorem ptImp {X : Cx} {e : Expr} {t t' : TT} (h : PT X e t) (f : ∀ σ H Q, t' σ H Q → t σ H Q) : PT X e t' := ⟨fun pins s σ H Q I q => h.run pins s σ H Q I (f σ H Q q)⟩
theorem pwImp {X : Cx} {e : Expr} {t t' : TT} (h : PW X e t) (f : ∀ σ H Q, t' σ H Q → t σ H Q) : PW X e t' := ⟨fun w pins s σ H Q I q => h.run w pins s σ H Q I (f σ H Q q)⟩
theorem paImp {X : Cx} {e : List Expr} {t t' : TA} (h : PA X e t) (f : ∀ σ H Q, t' σ H Q → t σ H Q) : PA X e t' := ⟨fun pos pins s σ H Q I q => h.run pos pins s σ H Q I (f σ H Q q)⟩

/-- names by their numbers: constants, defs, classes, exceptions; built-in names that are not hidden -/
structure Nm where
  globs : List Str
  fns : List Str
  cls : List Str
  excs : List Str
  blts : List Str
/-- a context: over the ground, its names, its scope, room for k calls, what is wished of an exception -/
structure In (G : Gd) (X : Cx) (N : List Str) (sc : Scope) (k : Nat) (W : WX) : Prop extends On G X where
  hN : X.N = N
  nd : N.Nodup
  hsc : X.env.scope = sc
  rm : Room k X.A
  fr : FrOk X
  tk : TakesF X W
theorem In.pass {G : Gd} {X : Cx} {N : List Str} {sc : Scope} {k : Nat} {W : WX} (c : In G X N sc k W) (σ : L2.St) : PassesAt (L2.CX X.prog X.w) X σ (WE W σ) := c.tk.pass σ

def visS (sc : Scope) (x : Str) : Bool := match sc.names.lookup x with
  | some .local | some .cell | some .free => true
  | _ => false
theorem visS_ok {sc : Scope} {x : Str} (h : visS sc x = true) : Vis sc x := by
  unfold visS at h
  split at h
  · exact .inl (by assumption)
  · exact .inr (.inl (by assumption))
  · exact .inr (.inr (by assumption))
  · cases h
def glS (sc : Scope) (x : Str) : Bool := match sc.names.lookup x with
  | some .globalImplicit => true
  | _ => false
theorem glS_ok {sc : Scope} {x : Str} (h : glS sc x = true) : sc.names.lookup x = some .globalImplicit := by
  unfold glS at h
  split at h
  · assumption
  · cases h
def okN (x : Str) : Bool := !(x == ("__debug__" : Str)) && !(x == ("__classdict__" : Str)) && !(x == ("__name__" : Str))
theorem okN_dbg {x : Str} (h : okN x = true) : (x == ("__debug__" : Str)) = false := by
  unfold okN at h; simp only [Bool.and_eq_true, Bool.not_eq_true'] at h; exact h.1.1
theorem okN_cd {x : Str} (h : okN x = true) : (x == ("__classdict__" : Str)) = false := by
  unfold okN at h; simp only [Bool.and_eq_true, Bool.not_eq_true'] at h; exact h.1.2
theorem okN_name {x : Str} (h : okN x = true) : x ≠ "__name__" := by
  unfold okN at h; simp only [Bool.and_eq_true, Bool.not_eq_true'] at h
  exact fun e => by have := h.2; rw [e] at this; simp at this
/-- no star, no slice, no set display -/
def plainE : Expr → Bool
  | .Starred _ _ | .Slice _ _ _ _ | .Set _ _ _ => false
  | _ => true
def plains : List Expr → Bool
  | [] => true
  | e :: es => plainE e && plains es
/-- no call without arguments (super()) -/
def notCall0 : Expr → Bool
  | .Call _ [] _ _ => false
  | _ => true
theorem star_of {e : Expr} (h : plainE e = true) (es : List Expr) (env : PySem.Env) : starEach (e :: es) env = (false, eval e env) :: starEach es env := by
  cases e <;> first | rfl | cases h
theorem backTo_any (pos : Pos) (env : PySem.Env) : ∀ {es : List Expr}, plains es = true → (backTo pos (starEach es env)).any (·.1) = false
  | [], _ => by rfl
  | e :: es, h => by
    simp only [plains, Bool.and_eq_true] at h
    have ih := backTo_any pos env h.2
    rw [star_of h.1]
    simpa [backTo] using ih
theorem marks_of {e : Expr} (h : plainE e = true) (op : CmpOp) : behindInMarks op e = false := by
  cases e <;> first | rfl | cases h
theorem plainIx_of {e : Expr} (h : plainE e = true) : PlainIx e := fun o i => by
  cases e <;> first | rfl | cases h
theorem abase_of {e : Expr} (h : notCall0 e = true) (f : Str) (env : PySem.Env) (w : Sem Value) : attributeBase e f env w = w := by
  cases e <;> try rfl
  rename_i fn args kws pos
  cases args with
  | nil => cases h
  | cons a r => cases fn <;> rfl

/-! ### the forms -/
section
variable {G : Gd} {X : Cx} {N : List Str} {sc : Scope} {k : Nat} {W : WX} {T : List FT}
theorem look_sc (c : In G X N sc k W) {x : Str} {kd : NameKind} (h : sc.names.lookup x = some kd) : X.env.kindOf x = some kd := by
  show X.env.scope.names.lookup x = some kd
  rw [c.hsc]; exact h
theorem gl_of (c : In G X N sc k W) {x : Str} (h : glS sc x = true) : Gl X x := look_sc c (glS_ok h)
theorem e_var (c : In G X N sc k W) {i : Nat} {x : Str} {pos : Pos} (h1 : N[i]? = some x) (h2 : visS sc x = true) (h3 : okN x = true) : PE X (.Name x pos) (tOf G T W (.var i)) := by
  refine peImp (pe_var (i := i) (by rw [c.hN]; exact h1) (by rw [c.hsc]; exact visS_ok h2) (okN_dbg h3) (okN_cd h3)) fun σ H Q q => ?_
  obtain ⟨z, env, st, rfl, rel, er, q⟩ := q
  obtain ⟨d, e, q⟩ := Post.ofO (by simpa only [evalE] using q) rel
  obtain ⟨v, hv, r⟩ := er.var e
  exact ⟨v, hv, q v r⟩
theorem e_const {d : D} {e : Expr} {v : V} (h : PE X e (tC v)) (r : ∀ z, R G z d v) : PE X e (tOf G T W (.lit d)) := by
  refine peImp h fun σ H Q q => ?_
  obtain ⟨z, env, st, rfl, rel, er, q⟩ := q
  simp only [evalE] at q
  exact Post.ok q rel v (r z)
theorem e_glob (c : In G X N sc k W) {g : Nat} {x : Str} {pos : Pos} (h2 : glS sc x = true) (h3 : okN x = true)
    (hg : ∃ d v u, G.pg.globs[g]? = some d ∧ G.mg x = some u ∧ RelV v u ∧ ∀ z, R G z d v) : PE X (.Name x pos) (tOf G T W (.glob g)) := by
  obtain ⟨d, v, u, e1, e2, e3, e4⟩ := hg
  refine peImp (pe_glob (gl_of c h2) (by rw [c.mg]; exact e2) e3 (okN_dbg h3)) fun σ H Q q => ?_
  obtain ⟨z, env, st, rfl, rel, er, q⟩ := q
  obtain ⟨d', e, q⟩ := Post.ofO (by simpa only [evalE] using q) rel
  rw [e1] at e; cases e
  exact q v (e4 z)
/-- two parts, then a plain operation -/
theorem two_of {ma mb : ME} {g : D → D → Option D} {σ : St} {H : Hp} {Q : VK} (q : ∃ z env st, z.H = H ∧ Rel G z st ∧ EnvR G z env σ ∧
      Post G z σ W ((evalE G.pg T ma env st).bind fun x st => (evalE G.pg T mb env st).bind fun y st => .ofO st (g x y)) fun d _ z' => ∀ v, R G z' d v → Q v z'.H) :
    tOp (rO2 G g) (tOf G T W ma) (tOf G T W mb) σ H Q := by
  obtain ⟨z, env, st, rfl, rel, er, q⟩ := q
  refine ⟨z, env, st, rfl, rel, er, (Post.bind q).imp fun dx st1 z1 e1 rel1 q1 v1 r1 => ?_⟩
  refine ⟨z1, env, st1, rfl, rel1, er.ext e1 rel.wf, (Post.bind q1).imp fun dy st2 z2 e2 rel2 q2 v2 r2 => ?_⟩
  obtain ⟨d, e, q3⟩ := Post.ofO q2 rel2
  refine ⟨z2, st2, dx, dy, d, rfl, rel2, r1.ext e2 rel1.wf, r2, e, fun z3 v e3 rel3 r3 => ?_⟩
  have q4 := Post.later q2 e3
  rw [e] at q4
  simp only [Out.ofO] at q4
  exact Post.ok q4 rel3 v r3
def opOf : Op2 → Operator
  | .add => .Add | .sub => .Sub | .mul => .Mult | .fdiv => .FloorDiv | .mod => .Mod | .pow => .Pow
theorem op_all (o : On G X) (op : Op2) : OpR X (binaryOp (opOf op)) (rO2 G (op2 op)) := by
  cases op
  · exact op_addD o
  · exact op_subD
  · exact op_mulD
  · exact op_fdivD
  · exact op_modD
  · exact op_powD
theorem e_bin (c : In G X N sc k W) {op : Op2} {a b : Expr} {pos : Pos} {ma mb : ME} (ha : PE X a (tOf G T W ma)) (hb : PE X b (tOf G T W mb)) : PE X (.BinOp a (opOf op) b pos) (tOf G T W (.bin op ma mb)) := by
  refine peImp (pe_op (op_all c.toOn op) ha hb) fun σ H Q q => two_of ?_
  obtain ⟨z, env, st, e, rel, er, q⟩ := q
  exact ⟨z, env, st, e, rel, er, by simpa only [evalE] using q⟩
def cmpOf : Cmp → CmpOp
  | .eq => .Eq | .ne => .NotEq | .lt => .Lt | .le => .LtE | .gt => .Gt | .ge => .GtE | .is_ => .Is | .isnt => .IsNot | .in_ => .In | .notin => .NotIn
theorem cmp_all (o : On G X) (op : Cmp) : OpR X (compareOp (cmpOf op)) (rO2 G fun a b => (cmp2 op a b).map .bl) := by
  cases op
  · exact op_eqD' o
  · exact op_neD' o
  · exact op_ltD
  · exact op_leD
  · exact op_gtD
  · exact op_geD
  · exact op_isD
  · exact op_isntD
  · exact op_inD o
  · exact op_notinD o
theorem e_cmp (c : In G X N sc k W) {op : Cmp} {a b : Expr} {pos : Pos} {ma mb : ME} (ha : PE X a (tOf G T W ma)) (hb : PE X b (tOf G T W mb)) (hp : plainE b = true) : PE X (.Compare a [cmpOf op] [b] pos) (tOf G T W (.cmp op ma mb)) := by
  refine peImp (pe_cmpR (cmp_all c.toOn op) ha hb (marks_of hp _)) fun σ H Q q => two_of ?_
  obtain ⟨z, env, st, e, rel, er, q⟩ := q
  exact ⟨z, env, st, e, rel, er, by simpa only [evalE] using q⟩
theorem t_cmp (c : In G X N sc k W) {op : Cmp} {a b : Expr} {pos : Pos} {ma mb : ME} (ha : PE X a (tOf G T W ma)) (hb : PE X b (tOf G T W mb)) (hp : plainE b = true) : PT X (.Compare a [cmpOf op] [b] pos) (tTof G T W (.cmp op ma mb)) := by
  refine ptImp (pt_cmpR (cmp_all c.toOn op) ha hb (marks_of hp _)) fun σ H Q q => two_of ?_
  obtain ⟨z, env, st, e, rel, er, q⟩ := q
  refine ⟨z, env, st, e, rel, er, (show Post G z σ W _ _ by simpa only [evalE] using q).imp fun d st' z' e' rel' q' v r => ?_⟩
  obtain ⟨b, rfl, q'⟩ := q'
  exact ⟨b, R.bl.mp r, q'⟩
/-- an expression of a plain kind, as a test -/
theorem t_val {e : Expr} {m : ME} (h : PE X e (tOf G T W m)) (he : ∀ whole, isTrue e X.env whole = (do let v ← whole; standAt e.pos; holding [v] (truthy v))) : PT X e (tTof G T W m) := by
  refine ptImp (pt_val h he) fun σ H Q q => ?_
  obtain ⟨z, env, st, e, rel, er, q⟩ := q
  refine ⟨z, env, st, e, rel, er, q.imp fun d st' z' e' rel' q' v r => ?_⟩
  obtain ⟨b, rfl, q'⟩ := q'
  exact ⟨b, R.bl.mp r, q'⟩
theorem e_neg {a : Expr} {pos : Pos} {ma : ME} (ha : PE X a (tOf G T W ma)) : PE X (.UnaryOp .USub a pos) (tOf G T W (.neg ma)) := by
  refine peImp (pe_un un_neg ha) fun σ H Q q => ?_
  obtain ⟨z, env, st, rfl, rel, er, q⟩ := q
  refine ⟨z, env, st, rfl, rel, er, (Post.bind (by simpa only [evalE] using q)).imp fun dx st1 z1 e1 rel1 q1 v1 r1 => ?_⟩
  obtain ⟨d, e, q2⟩ := Post.ofO q1 rel1
  cases dx <;> simp only [asI, Option.map_none, Option.map_some] at e <;> cases e
  exact ⟨_, R.int.mp r1, q2 _ (R.int.mpr rfl)⟩
theorem e_not {a : Expr} {pos : Pos} {ma : ME} (ha : PE X a (tOf G T W ma)) : PE X (.UnaryOp .Not a pos) (tOf G T W (.not ma)) := by
  refine peImp (pe_not ha) fun σ H Q q => ?_
  obtain ⟨z, env, st, rfl, rel, er, q⟩ := q
  refine ⟨z, env, st, rfl, rel, er, (Post.bind (by simpa only [evalE] using q)).imp fun dx st1 z1 e1 rel1 q1 v1 r1 => ?_⟩
  obtain ⟨d, e, q2⟩ := Post.ofO q1 rel1
  cases dx <;> simp only [asB, Option.map_none, Option.map_some] at e <;> cases e
  exact ⟨_, R.bl.mp r1, q2 _ (R.bl.mpr rfl)⟩
theorem t_not {a : Expr} {pos : Pos} {ma : ME} (ha : PT X a (tTof G T W ma)) : PT X (.UnaryOp .Not a pos) (tTof G T W (.not ma)) := by
  refine ptImp (pt_not ha) fun σ H Q q => ?_
  obtain ⟨z, env, st, rfl, rel, er, q⟩ := q
  refine ⟨z, env, st, rfl, rel, er, (Post.bind (by simpa only [evalE] using q)).imp fun dx st1 z1 e1 rel1 q1 => ?_⟩
  obtain ⟨d, e, q2⟩ := Post.ofO q1 rel1
  cases dx <;> simp only [asB, Option.map_none, Option.map_some] at e <;> cases e
  obtain ⟨b', e', q2⟩ := q2
  cases e'
  exact ⟨_, rfl, q2⟩
theorem ite_of {mc ma mb : ME} {α : Type} {f : α → D → Store → Z → Prop} {σ : St} {z : Z} {env : Fw.Env} {st : Store} {x : α} (q : Post G z σ W (evalE G.pg T (.ite mc ma mb) env st) (f x)) :
    Post G z σ W (evalE G.pg T mc env st) fun d st1 z1 => ∃ b, d = .bl b ∧ if b = true then Post G z1 σ W (evalE G.pg T ma env st1) (f x) else Post G z1 σ W (evalE G.pg T mb env st1) (f x) := by
  refine (Post.bind (by simpa only [evalE] using q)).imp fun d st1 z1 e1 rel1 q1 => ?_
  cases d <;> try exact q1.elim
  rename_i b
  cases b with
  | true => exact ⟨true, rfl, by rw [if_pos rfl]; exact q1⟩
  | false => exact ⟨false, rfl, by rw [if_neg (by decide)]; exact q1⟩
theorem e_ite {c a b : Expr} {pos : Pos} {mc ma mb : ME} (hc : PT X c (tTof G T W mc)) (ha : PE X a (tOf G T W ma)) (hb : PE X b (tOf G T W mb)) : PE X (.IfExp c a b pos) (tOf G T W (.ite mc ma mb)) := by
  refine peImp (pe_ifExp hc ha hb) fun σ H Q q => ?_
  obtain ⟨z, env, st, rfl, rel, er, q⟩ := q
  refine ⟨z, env, st, rfl, rel, er, (ite_of (f := fun _ d _ z' => ∀ v, R G z' d v → Q v z'.H) (x := ()) q).imp fun d st1 z1 e1 rel1 q1 => ?_⟩
  obtain ⟨b, rfl, q1⟩ := q1
  refine ⟨b, rfl, ?_⟩
  cases b with
  | true => rw [if_pos rfl] at q1 ⊢; exact ⟨z1, env, st1, rfl, rel1, er.ext e1 rel.wf, q1⟩
  | false => rw [if_neg (by decide)] at q1 ⊢; exact ⟨z1, env, st1, rfl, rel1, er.ext e1 rel.wf, q1⟩
theorem t_ite {c a b : Expr} {pos : Pos} {mc ma mb : ME} (hc : PT X c (tTof G T W mc)) (ha : PT X a (tTof G T W ma)) (hb : PT X b (tTof G T W mb)) : PT X (.IfExp c a b pos) (tTof G T W (.ite mc ma mb)) := by
  refine ⟨fun pins s σ H Q I q => ?_⟩
  obtain ⟨z, env, st, rfl, rel, er, q⟩ := q
  have q' := ite_of (f := fun _ d _ z' => ∃ b, d = .bl b ∧ Q b z'.H) (x := ()) q
  show wpAny _ _ (do
    if ← isTrue c X.env (eval c X.env) then isTrue a X.env (eval a X.env) else isTrue b X.env (eval b X.env)) _ _ _
  refine wpAny_bind (thn (hc.run pins s σ z.H (fun b H1 => if b = true then tTof G T W ma σ H1 Q else tTof G T W mb σ H1 Q) I ⟨z, env, st, rfl, rel, er, q'.imp fun d st1 z1 e1 rel1 q1 => ?_⟩) fun t s1 ⟨H1, I1, q1⟩ => ?_)
  · obtain ⟨b, rfl, q1⟩ := q1
    refine ⟨b, rfl, ?_⟩
    cases b with
    | true => rw [if_pos rfl] at q1 ⊢; exact ⟨z1, env, st1, rfl, rel1, er.ext e1 rel.wf, q1⟩
    | false => rw [if_neg (by decide)] at q1 ⊢; exact ⟨z1, env, st1, rfl, rel1, er.ext e1 rel.wf, q1⟩
  · cases t with
    | true => exact ha.run pins s1 σ H1 Q I1 q1
    | false => exact hb.run pins s1 σ H1 Q I1 q1

/-! ### and, or -/
def tAnds (G : Gd) (T : List FT) (W : WX) (es : MEs) : TE := fun σ H Q => ∃ z env st, z.H = H ∧ Rel G z st ∧ EnvR G z env σ ∧ Post G z σ W (evalA G.pg T es env st) fun d _ z' => ∀ v, R G z' d v → Q v z'.H
def tOrs (G : Gd) (T : List FT) (W : WX) (es : MEs) : TE := fun σ H Q => ∃ z env st, z.H = H ∧ Rel G z st ∧ EnvR G z env σ ∧ Post G z σ W (evalO G.pg T es env st) fun d _ z' => ∀ v, R G z' d v → Q v z'.H
def tAndsT (G : Gd) (T : List FT) (W : WX) (es : MEs) : TT := fun σ H Q => ∃ z env st, z.H = H ∧ Rel G z st ∧ EnvR G z env σ ∧ Post G z σ W (evalA G.pg T es env st) fun d _ z' => ∃ b, d = .bl b ∧ Q b z'.H
def tOrsT (G : Gd) (T : List FT) (W : WX) (es : MEs) : TT := fun σ H Q => ∃ z env st, z.H = H ∧ Rel G z st ∧ EnvR G z env σ ∧ Post G z σ W (evalO G.pg T es env st) fun d _ z' => ∃ b, d = .bl b ∧ Q b z'.H
theorem and_1 {a : Expr} {pos : Pos} {ma : ME} (ha : PE X a (tOf G T W ma)) : PE X (.BoolOp .And [a] pos) (tAnds G T W (.cons ma .nil)) := by
  refine peImp (pe_one ha) fun σ H Q q => ?_
  obtain ⟨z, env, st, e, rel, er, q⟩ := q
  exact ⟨z, env, st, e, rel, er, by simpa only [evalA] using q⟩
theorem or_1 {a : Expr} {pos : Pos} {ma : ME} (ha : PE X a (tOf G T W ma)) : PE X (.BoolOp .Or [a] pos) (tOrs G T W (.cons ma .nil)) := by
  refine peImp (pe_one ha) fun σ H Q q => ?_
  obtain ⟨z, env, st, e, rel, er, q⟩ := q
  exact ⟨z, env, st, e, rel, er, by simpa only [evalO] using q⟩
theorem and_2 {a b : Expr} {r : List Expr} {pos : Pos} {ma mb : ME} {ms : MEs} (ha : PE X a (tOf G T W ma)) (hr : PE X (.BoolOp .And (b :: r) pos) (tAnds G T W (.cons mb ms))) :
    PE X (.BoolOp .And (a :: b :: r) pos) (tAnds G T W (.cons ma (.cons mb ms))) := by
  refine peImp (pe_and ha hr) fun σ H Q q => ?_
  obtain ⟨z, env, st, rfl, rel, er, q⟩ := q
  refine ⟨z, env, st, rfl, rel, er, (Post.bind (by simpa only [evalA] using q)).imp fun d st1 z1 e1 rel1 q1 v r1 => ?_⟩
  cases d <;> try exact q1.elim
  rename_i b
  refine ⟨b, R.bl.mp r1, ?_⟩
  cases b with
  | true => rw [if_pos rfl]; exact ⟨z1, env, st1, rfl, rel1, er.ext e1 rel.wf, q1⟩
  | false => rw [if_neg (by decide)]; exact (Post.ok q1 rel1) _ (R.bl.mpr rfl)
theorem or_2 {a b : Expr} {r : List Expr} {pos : Pos} {ma mb : ME} {ms : MEs} (ha : PE X a (tOf G T W ma)) (hr : PE X (.BoolOp .Or (b :: r) pos) (tOrs G T W (.cons mb ms))) :
    PE X (.BoolOp .Or (a :: b :: r) pos) (tOrs G T W (.cons ma (.cons mb ms))) := by
  refine peImp (pe_or ha hr) fun σ H Q q => ?_
  obtain ⟨z, env, st, rfl, rel, er, q⟩ := q
  refine ⟨z, env, st, rfl, rel, er, (Post.bind (by simpa only [evalO] using q)).imp fun d st1 z1 e1 rel1 q1 v r1 => ?_⟩
  cases d <;> try exact q1.elim
  rename_i b
  refine ⟨b, R.bl.mp r1, ?_⟩
  cases b with
  | true => rw [if_pos rfl]; exact (Post.ok q1 rel1) _ (R.bl.mpr rfl)
  | false => rw [if_neg (by decide)]; exact ⟨z1, env, st1, rfl, rel1, er.ext e1 rel.wf, q1⟩
theorem andT_1 {a : Expr} {pos : Pos} {ma : ME} (ha : PT X a (tTof G T W ma)) : PW X (.BoolOp .And [a] pos) (tAndsT G T W (.cons ma .nil)) := by
  refine pwImp (pw_and1 ha) fun σ H Q q => ?_
  obtain ⟨z, env, st, e, rel, er, q⟩ := q
  exact ⟨z, env, st, e, rel, er, by simpa only [evalA] using q⟩
theorem orT_1 {a : Expr} {pos : Pos} {ma : ME} (ha : PT X a (tTof G T W ma)) : PW X (.BoolOp .Or [a] pos) (tOrsT G T W (.cons ma .nil)) := by
  refine pwImp (pw_or1 ha) fun σ H Q q => ?_
  obtain ⟨z, env, st, e, rel, er, q⟩ := q
  exact ⟨z, env, st, e, rel, er, by simpa only [evalO] using q⟩
theorem andT_2 {a b : Expr} {r : List Expr} {pos : Pos} {ma mb : ME} {ms : MEs} (ha : PT X a (tTof G T W ma)) (hr : PW X (.BoolOp .And (b :: r) pos) (tAndsT G T W (.cons mb ms))) :
    PW X (.BoolOp .And (a :: b :: r) pos) (tAndsT G T W (.cons ma (.cons mb ms))) := by
  refine pwImp (pw_and ha hr) fun σ H Q q => ?_
  obtain ⟨z, env, st, rfl, rel, er, q⟩ := q
  refine ⟨z, env, st, rfl, rel, er, (Post.bind (by simpa only [evalA] using q)).imp fun d st1 z1 e1 rel1 q1 => ?_⟩
  cases d <;> try exact q1.elim
  rename_i b
  refine ⟨b, rfl, ?_⟩
  cases b with
  | true => rw [if_pos rfl]; exact ⟨z1, env, st1, rfl, rel1, er.ext e1 rel.wf, q1⟩
  | false =>
    rw [if_neg (by decide)]
    obtain ⟨b, e, q⟩ := Post.ok q1 rel1
    cases e
    exact q
theorem orT_2 {a b : Expr} {r : List Expr} {pos : Pos} {ma mb : ME} {ms : MEs} (ha : PT X a (tTof G T W ma)) (hr : PW X (.BoolOp .Or (b :: r) pos) (tOrsT G T W (.cons mb ms))) :
    PW X (.BoolOp .Or (a :: b :: r) pos) (tOrsT G T W (.cons ma (.cons mb ms))) := by
  refine pwImp (pw_or ha hr) fun σ H Q q => ?_
  obtain ⟨z, env, st, rfl, rel, er, q⟩ := q
  refine ⟨z, env, st, rfl, rel, er, (Post.bind (by simpa only [evalO] using q)).imp fun d st1 z1 e1 rel1 q1 => ?_⟩
  cases d <;> try exact q1.elim
  rename_i b
  refine ⟨b, rfl, ?_⟩
  cases b with
  | true =>
    rw [if_pos rfl]
    obtain ⟨b, e, q⟩ := Post.ok q1 rel1
    cases e
    exact q
  | false => rw [if_neg (by decide)]; exact ⟨z1, env, st1, rfl, rel1, er.ext e1 rel.wf, q1⟩

/-! ### items, slices, displays, fields -/
theorem e_ix (c : In G X N sc k W) {a b : Expr} {pos : Pos} {ma mb : ME} (ha : PE X a (tOf G T W ma)) (hb : PE X b (tOf G T W mb)) (hp : plainE b = true) : PE X (.Subscript a b pos) (tOf G T W (.ix ma mb)) := by
  refine peImp (pe_ix (ixD c.toOn) ha hb (plainIx_of hp)) fun σ H Q q => two_of ?_
  obtain ⟨z, env, st, e, rel, er, q⟩ := q
  exact ⟨z, env, st, e, rel, er, by simpa only [evalE] using q⟩
/-- an item of a list that the frame alone holds -/
theorem e_ixO (c : In G X N sc k W) {i : Nat} {x : Str} {b : Expr} {pos p : Pos} {mb : ME} (h1 : N[i]? = some x) (h2 : visS sc x = true) (h3 : okN x = true) (hb : PE X b (tOf G T W mb)) (hp : plainE b = true) :
    PE X (.Subscript (.Name x p) b pos) (tOf G T W (.ixO i mb)) := by
  refine peImp (pe_ix ix_list (pe_var (i := i) (by rw [c.hN]; exact h1) (by rw [c.hsc]; exact visS_ok h2) (okN_dbg h3) (okN_cd h3)) hb (plainIx_of hp)) fun σ H Q q => ?_
  obtain ⟨z, env, st, rfl, rel, er, q⟩ := q
  simp only [evalE] at q
  cases he : env[i]? with
  | none => rw [he] at q; exact q.elim
  | some s =>
    rw [he] at q
    cases s <;> try exact q.elim
    rename_i ds
    obtain ⟨a, vs, hσ, hH, rs, nf, ni⟩ := er.at_ i _ he
    refine ⟨_, hσ, z, env, st, rfl, rel, er, (Post.bind q).imp fun dy st1 z1 e1 rel1 q1 v1 r1 => ?_⟩
    obtain ⟨d, e, q2⟩ := Post.ofO q1 rel1
    have al : Alone z a := ⟨⟨_, hH, by simp⟩, nf, ni⟩
    cases dy <;> simp only [atD] at e <;> try cases e
    obtain ⟨w, e3, r3⟩ := atI_of (rs.ext e1 rel.wf) e
    exact ⟨a, vs, _, w, rfl, R.int.mp r1, SqL.of ((al.ext e1).2 _ hH), e3, q2 w r3⟩
theorem e_slFrom (c : In G X N sc k W) {a lo : Expr} {pos p2 : Pos} {ma ml : ME} (ha : PE X a (tOf G T W ma)) (hl : PE X lo (tOf G T W ml)) : PE X (.Subscript a (.Slice (some lo) none none p2) pos) (tOf G T W (.slFrom ma ml)) := by
  refine peImp (pe_slice (slD c.toOn) ha (po_some hl) po_none) fun σ H Q q => ?_
  obtain ⟨z, env, st, rfl, rel, er, q⟩ := q
  refine ⟨z, env, st, rfl, rel, er, (Post.bind (by simpa only [evalE] using q)).imp fun dx st1 z1 e1 rel1 q1 v1 r1 => ?_⟩
  refine ⟨z1, env, st1, rfl, rel1, er.ext e1 rel.wf, (Post.bind q1).imp fun dy st2 z2 e2 rel2 q2 v2 r2 => ?_⟩
  obtain ⟨d, e, q3⟩ := Post.ofO q2 rel2
  cases dy <;> simp only [asI, Option.bind_none, Option.bind_some] at e <;> try cases e
  refine ⟨_, R.int.mp r2, ?_⟩
  refine ⟨z2, st2, dx, d, rfl, rel2, r1.ext e2 rel1.wf, e, fun z3 v e3 rel3 r3 => ?_⟩
  have q4 := Post.later q2 e3
  simp only [asI, Option.bind_some, e, Out.ofO] at q4
  exact (Post.ok q4 rel3) v r3
theorem e_slTo (c : In G X N sc k W) {a hi : Expr} {pos p2 : Pos} {ma mh : ME} (ha : PE X a (tOf G T W ma)) (hh : PE X hi (tOf G T W mh)) : PE X (.Subscript a (.Slice none (some hi) none p2) pos) (tOf G T W (.slTo ma mh)) := by
  refine peImp (pe_slice (slD c.toOn) ha po_none (po_some hh)) fun σ H Q q => ?_
  obtain ⟨z, env, st, rfl, rel, er, q⟩ := q
  refine ⟨z, env, st, rfl, rel, er, (Post.bind (by simpa only [evalE] using q)).imp fun dx st1 z1 e1 rel1 q1 v1 r1 => ?_⟩
  refine ⟨z1, env, st1, rfl, rel1, er.ext e1 rel.wf, (Post.bind q1).imp fun dy st2 z2 e2 rel2 q2 v2 r2 => ?_⟩
  obtain ⟨d, e, q3⟩ := Post.ofO q2 rel2
  cases dy <;> simp only [asI, Option.bind_none, Option.bind_some] at e <;> try cases e
  refine ⟨_, R.int.mp r2, ?_⟩
  refine ⟨z2, st2, dx, d, rfl, rel2, r1.ext e2 rel1.wf, e, fun z3 v e3 rel3 r3 => ?_⟩
  have q4 := Post.later q2 e3
  simp only [asI, Option.bind_some, e, Out.ofO] at q4
  exact (Post.ok q4 rel3) v r3
theorem e_slBoth (c : In G X N sc k W) {a lo hi : Expr} {pos p2 : Pos} {ma ml mh : ME} (ha : PE X a (tOf G T W ma)) (hl : PE X lo (tOf G T W ml)) (hh : PE X hi (tOf G T W mh)) : PE X (.Subscript a (.Slice (some lo) (some hi) none p2) pos) (tOf G T W (.slBoth ma ml mh)) := by
  refine peImp (pe_slice (slD c.toOn) ha (po_some hl) (po_some hh)) fun σ H Q q => ?_
  obtain ⟨z, env, st, rfl, rel, er, q⟩ := q
  refine ⟨z, env, st, rfl, rel, er, (Post.bind (by simpa only [evalE] using q)).imp fun dx st1 z1 e1 rel1 q1 v1 r1 => ?_⟩
  have er1 := er.ext e1 rel.wf
  refine ⟨z1, env, st1, rfl, rel1, er1, (Post.bind q1).imp fun dl st2 z2 e2 rel2 q2 v2 r2 => ?_⟩
  cases dl <;> simp only [asI] at q2 <;> try exact q2.elim
  refine ⟨_, R.int.mp r2, z2, env, st2, rfl, rel2, er1.ext e2 rel1.wf, (Post.bind q2).imp fun dh st3 z3 e3 rel3 q3 v3 r3 => ?_⟩
  obtain ⟨d, e, q4⟩ := Post.ofO q3 rel3
  cases dh <;> simp only [asI, Option.bind_none, Option.bind_some] at e <;> try cases e
  refine ⟨_, R.int.mp r3, ?_⟩
  refine ⟨z3, st3, dx, d, rfl, rel3, (r1.ext e2 rel1.wf).ext e3 rel2.wf, e, fun z4 v e4 rel4 r4 => ?_⟩
  have q5 := Post.later q3 e4
  simp only [asI, Option.bind_some, e, Out.ofO] at q5
  exact (Post.ok q5 rel4) v r4
end
end Fw

set_option Elab.async false
set_option linter.all false
set_option maxRecDepth 100000
set_option autoImplicit false
set_option maxHeartbeats 1000000
/-! Fw5: displays, fields, calls. -/
namespace Fw
open PySem PySem.Spec PyProof.Rows L2

/-! ### what a def promises -/
def PostF (G : Gd) (z : Z) (o : Out D) (Q : VK) (E : XK) : Prop :=
  match o with
  | .ok d st' => ∀ z', Ext z z' → Rel G z' st' → ∀ v, R G z' d v → Q v z'.H
  | .exc e st' => ∀ z' cls dd, Ext z z' → Rel G z' st' → ExcR G z' e cls dd → E cls dd z'.H
  | .bad => False
def spFn (G : Gd) (T : List FT) (f : Nat) : Sp := fun vs H Q E => ∃ z st ds, z.H = H ∧ Rel G z st ∧ Rs G z ds vs ∧ PostF G z (callT T f ds st) Q E
/-- an __init__: the instance stands at x, without fields -/
def spIni (G : Gd) (T : List FT) (c f : Nat) : Sp := fun vs H Q _ => ∃ z st ds x dx rest, vs = .ref x :: rest ∧ z.H x = none ∧ z.H dx = none ∧ dx ≠ x ∧ H = upd (upd z.H dx (.own x)) x (.ins (G.cA c) dx []) ∧ Rel G z st ∧ Rs G z ds rest ∧
  match callT T f ds st with
  | .ok (.tup fs) st' => ∀ z' ws k dx', Ext z z' → Rel G z' st' → Alone z' x → G.pg.cls[c]? = some k → z'.H x = some (.ins (G.cA c) dx' ((k.fs.map sOf).zip ws)) → ws.length = k.fs.length → Rs G z' fs ws → Q .non z'.H
  | _ => False
def spOf (G : Gd) (T : List FT) (f : Nat) : Sp := match (G.pg.defs[f]?).bind (·.ini) with
  | some c => spIni G T c f
  | none => spFn G T f
def FnsOk (G : Gd) (k : Nat) : Prop := ∀ f, f < G.pg.defs.length → FnOk G.P G.w G.K G.mg G.base (L2.CX G.P G.w) k (G.fA f) (G.fD f) (G.fP f) (spOf G (tabs G.pg k) f)
/-- what the machine's top has, for the small program -/
structure Static (G : Gd) (nm : Nm) : Prop where
  globs : ∀ (g : Nat) (x : Str), nm.globs[g]? = some x → ∃ d v u, G.pg.globs[g]? = some d ∧ G.mg x = some u ∧ RelV v u ∧ ∀ z, R G z d v
  fns : ∀ (f : Nat) (x : Str), nm.fns[f]? = some x → x ≠ "" → f < G.pg.defs.length ∧ G.mg x = some (.ref (G.fA f))
  kp : ∀ f, f < G.pg.defs.length → PySem.W.keepIn G.K (.ref (G.fA f)) = true
  bd : ∀ f, f < G.pg.defs.length → Binds G.K (G.fD f) (G.fP f) []
  cls : ∀ (c : Nat) (k : MCls), G.pg.cls[c]? = some k → Cls G.K (G.cA c) ∧ (∀ f ∈ k.fs, NoAttr G.K (G.cA c) (sOf f)) ∧ k.fs.Nodup ∧ k.fs.length < 1000
  ms : ∀ (c : Nat) (k : MCls) (m : Txt) (f : Nat), G.pg.cls[c]? = some k → k.ms.lookup m = some f → Meth G.K (G.cA c) (sOf m) (G.fA f) ∧ m ∉ k.fs ∧ f < G.pg.defs.length ∧ (G.pg.defs[f]?).bind (·.ini) = none
  mkC : ∀ (c : Nat) (k : MCls), G.pg.cls[c]? = some k → Mk G.K (G.cA c) (G.fA k.init) ∧ k.init < G.pg.defs.length ∧ (G.pg.defs[k.init]?).bind (·.ini) = some c
  clsN : ∀ (c : Nat) (x : Str), nm.cls[c]? = some x → G.mg x = some (.ref (G.cA c))
  blts : ∀ x ∈ nm.blts, G.mg x = none

section
variable {G : Gd} {nm : Nm} {X : Cx} {N : List Str} {sc : Scope} {k : Nat} {W : WX} {T : List FT}

/-! ### arguments, displays -/
theorem a_nil : PA X [] (tAof G T W .nil) := by
  refine paImp pa_nil fun σ H Q q => ?_
  obtain ⟨z, env, st, rfl, rel, er, q⟩ := q
  simp only [evalEs] at q
  exact Post.ok q rel _ (Rs.nil.mpr rfl)
theorem a_cons {e : Expr} {es : List Expr} {m : ME} {ms : MEs} (he : PE X e (tOf G T W m)) (hr : PA X es (tAof G T W ms)) (hp : plainE e = true) : PA X (e :: es) (tAof G T W (.cons m ms)) := by
  refine paImp (pa_cons he hr (star_of hp _ _)) fun σ H Q q => ?_
  obtain ⟨z, env, st, rfl, rel, er, q⟩ := q
  refine ⟨z, env, st, rfl, rel, er, (Post.bind (by simpa only [evalEs] using q)).imp fun dx st1 z1 e1 rel1 q1 v1 r1 => ?_⟩
  refine ⟨z1, env, st1, rfl, rel1, er.ext e1 rel.wf, (Post.bind q1).imp fun ds st2 z2 e2 rel2 q2 vs r2 => ?_⟩
  exact Post.ok q2 rel2 _ (Rs.mk _ _ (r1.ext e2 rel1.wf) r2)
theorem e_tup {es : List Expr} {ms : MEs} {kk : Nat} {pos : Pos} (h : PA X es (tAof G T W ms)) : PE X (.Tuple es kk pos) (tOf G T W (.tup ms)) := by
  refine peImp (pe_tup h) fun σ H Q q => ?_
  obtain ⟨z, env, st, rfl, rel, er, q⟩ := q
  refine ⟨z, env, st, rfl, rel, er, (Post.bind (by simpa only [evalE] using q)).imp fun ds st1 z1 e1 rel1 q1 vs r1 => ?_⟩
  split at q1
  · rename_i hl
    refine ⟨by rw [r1.len, ← big_eq]; exact hl, fun p np => ?_⟩
    exact q1 (z1.new p (.tup vs)) (Ext.new np) (rel1.new np (by simp)) _ (R.newT rel1 r1 np)
  · exact q1.elim
theorem e_lst {es : List Expr} {ms : MEs} {pos : Pos} (h : PA X es (tAof G T W ms)) : PE X (.List es pos) (tOf G T W (.lst ms)) := by
  refine peImp (pe_lst h) fun σ H Q q => ?_
  obtain ⟨z, env, st, rfl, rel, er, q⟩ := q
  refine ⟨z, env, st, rfl, rel, er, (Post.bind (by simpa only [evalE] using q)).imp fun ds st1 z1 e1 rel1 q1 vs r1 => ?_⟩
  split at q1
  · rename_i hl
    refine ⟨by rw [r1.len, ← big_eq]; exact hl, fun p np => ?_⟩
    exact q1 (z1.new p (.lst vs)) (Ext.new np) (rel1.new np (by simp)) _ (R.newL rel1 r1 np)
  · exact q1.elim
/-- a dict display: texts as keys -/
def pairTs (G : Gd) (T : List FT) (W : WX) : List Txt → MEs → List (TE × TE)
  | k :: ks, .cons m ms => (tC (.str (sOf k)), tOf G T W m) :: pairTs G T W ks ms
  | _, _ => []
theorem lookup_merge : ∀ (more kvs : List (Key × V)), (∀ p ∈ more, valV kvs p.1 = none) → (more.map (·.1)).Nodup → mergeK kvs more = kvs ++ more
  | [], kvs, _, _ => by simp [mergeK]
  | p :: r, kvs, h, nd => by
    have e : mergeK kvs (p :: r) = mergeK (putK kvs p.1 p.2) r := rfl
    rw [e, putK_new p.2 (h p List.mem_cons_self)]
    rw [List.map_cons, List.nodup_cons] at nd
    rw [lookup_merge r _ (fun q hq => ?_) nd.2]
    · simp
    · rw [valV_snoc _ _ _ _ (h p List.mem_cons_self)]
      have ne : ¬ q.1 = p.1 := fun e => nd.1 (by rw [← e]; exact List.mem_map.mpr ⟨q, hq, rfl⟩)
      rw [if_neg ne]
      exact h q (List.mem_cons_of_mem _ hq)
theorem merge_nil {kvs : List (Key × V)} (nd : (kvs.map (·.1)).Nodup) : mergeK [] kvs = kvs := by
  rw [lookup_merge kvs [] (fun _ _ => valV_nil) nd]; rfl
theorem nodup_kOf {ks : List Txt} (h : ks.Nodup) : (ks.map kOf).Nodup := by
  rw [List.Nodup, List.pairwise_map]
  exact h.imp fun ne e => ne (kOf_inj e)
theorem zip_RK {z : Z} : ∀ {ks : List Txt} {ds : List D} {vs : List V}, ks.all okT = true → Rs G z ds vs → ds.length = ks.length → RK G z (ks.zip ds) ((ks.map kOf).zip vs)
  | [], [], vs, _, h, _ => by rw [Rs.nil.mp h]; simp [RK]
  | k :: ks, d :: ds, vs, ok, h, e => by
    simp only [Rs] at h
    obtain ⟨v, r, rfl, h1, h2⟩ := h
    simp only [List.all_cons, Bool.and_eq_true] at ok
    simp only [List.zip_cons_cons, List.map_cons, RK]
    exact ⟨v, _, rfl, ok.1, h1, zip_RK ok.2 h2 (by simpa using e)⟩
  | [], _ :: _, _, _, _, e => by simp at e
  | _ :: _, [], _, _, _, e => by simp at e
def mesLen : MEs → Nat
  | .nil => 0
  | .cons _ r => mesLen r + 1
theorem pairs_run : ∀ {ks : List Txt} {ms : MEs} {σ : St} {H : Hp} {Q : List (V × V) → Hp → Prop}, mesLen ms = ks.length →
    (∃ z env st, z.H = H ∧ Rel G z st ∧ EnvR G z env σ ∧ Post G z σ W (evalEs G.pg T ms env st) fun ds _ z' => ∀ vs, Rs G z' ds vs → Q ((ks.map fun k => V.str (sOf k)).zip vs) z'.H) → tPairs (pairTs G T W ks ms) σ H Q
  | k :: ks, .cons m ms, σ, H, Q, hl, q => by
    obtain ⟨z, env, st, rfl, rel, er, q⟩ := q
    show tPairs ((tC (.str (sOf k)), tOf G T W m) :: pairTs G T W ks ms) σ z.H Q
    refine ⟨z, env, st, rfl, rel, er, (Post.bind (by simpa only [evalEs] using q)).imp fun dx st1 z1 e1 rel1 q1 v1 r1 => ?_⟩
    refine pairs_run (by simpa [mesLen] using hl) ⟨z1, env, st1, rfl, rel1, er.ext e1 rel.wf, (Post.bind q1).imp fun ds st2 z2 e2 rel2 q2 vs r2 => ?_⟩
    exact Post.ok q2 rel2 (v1 :: vs) (Rs.mk _ _ (r1.ext e2 rel1.wf) r2)
  | [], .nil, σ, H, Q, _, q => by
    obtain ⟨z, env, st, rfl, rel, er, q⟩ := q
    simp only [evalEs] at q
    exact Post.ok q rel [] (Rs.nil.mpr rfl)
  | k :: ks, .nil, σ, H, Q, hl, q => by simp [mesLen] at hl
  | [], .cons m ms, σ, H, Q, hl, q => by simp [mesLen] at hl
theorem zip_kV {z : Z} : ∀ {ks : List Txt} {vs : List V}, ((ks.map kOf).zip vs).map (fun kv => (kV kv.1, kv.2)) = (ks.map fun k => V.str (sOf k)).zip vs
  | [], vs => rfl
  | k :: ks, [] => rfl
  | k :: ks, v :: vs => by
    simp only [List.map_cons, List.zip_cons_cons]
    rw [zip_kV (z := z)]
    rfl
theorem zip_keys {α β : Type} : ∀ {ks : List α} {vs : List β}, vs.length = ks.length → (ks.zip vs).map (·.1) = ks
  | [], _, _ => by simp
  | k :: ks, v :: vs, h => by
    simp only [List.zip_cons_cons, List.map_cons]
    rw [zip_keys (by simpa using h)]
  | _ :: _, [], h => by simp at h
theorem pps_of : ∀ {ks : List Txt} {ms : MEs} {es : List Expr} {pos : Pos} {keys : List (Option Expr)}, PPs X pos keys es (pairTs G T W ks ms) → PPs X pos keys es (pairTs G T W ks ms) := fun h => h
theorem e_dict {ks : List Txt} {ms : MEs} {keys : List (Option Expr)} {es : List Expr} {pos : Pos} (h : PPs X pos keys es (pairTs G T W ks ms)) (hs : keys.all (·.isSome) = true) (hl : keys.length = es.length) (hn : keys ≠ []) (h15 : keys.length ≤ 15)
    (hm : mesLen ms = ks.length) (ok : ks.all okT = true) : PE X (.Dict keys es pos) (tOf G T W (.dict ks ms)) := by
  refine peImp (pe_disp h hs hl hn h15) fun σ H Q q => ?_
  obtain ⟨z, env, st, rfl, rel, er, q⟩ := q
  intro p np
  have q' := Post.bind0 (by simpa only [evalE] using q)
  have e0 : Ext z (z.put p (.dK [])) := (Ext.refl z).put np
  have rel0 := rel.put' (o := .dK []) (rel.notF np) (rel.notIn np)
  have al0 : Alone (z.put p (.dK [])) p := Alone.new rel np (by simp)
  refine pairs_run hm ⟨z.put p (.dK []), env, st, rfl, rel0, er.ext e0 rel.wf, (Post.later q' e0).imp fun ds st2 z2 e2 rel2 q2 vs rs => ?_⟩
  obtain ⟨al2, hp⟩ := al0.ext e2
  refine ⟨hp _ upd_same, (ks.map kOf).zip vs, (zip_kV (z := z)).symm, ?_⟩
  split at q2
  · rename_i c
    obtain ⟨c1, c2, c3⟩ := c
    have hv : vs.length = ks.length := by rw [rs.len, c1]
    have hk : (((ks.map kOf).zip vs).map (·.1)) = ks.map kOf := zip_keys (by rw [hv, List.length_map])
    refine ⟨by rw [List.length_zip, List.length_map, hv]; omega, ?_⟩
    rw [merge_nil (by rw [hk]; exact nodup_kOf c3)]
    have e3 : Ext z ((z2.put p (.dK ((ks.map kOf).zip vs))).fix p) := ((e0.trans e2).put np).fix np
    have al3 : Alone (z2.put p (.dK ((ks.map kOf).zip vs))) p := al2.put (by simp)
    refine Post.at q2 e3 ((rel2.put al2).fix al3) _ ?_
    simp only [R]
    refine ⟨p, _, rfl, ⟨.inr rfl, upd_same⟩, ?_⟩
    exact RK.keep (Keep.fix _ p) _ _ (RK.keep (Keep.put al2.nf) _ _ (zip_RK ok rs c1))
  · exact q2.elim

/-! ### fields -/
theorem zip_look {z : Z} : ∀ {fs : List Txt} {ds : List D} {vs : List V} {f : Txt} {d : D}, Rs G z ds vs → (fs.zip ds).lookup f = some d → ∃ v, ((fs.map sOf).zip vs).lookup (sOf f) = some v ∧ R G z d v
  | [], _, _, f, d, _, e => by simp at e
  | _ :: _, [], _, f, d, _, e => by simp at e
  | x :: fs, d' :: ds, vs, f, d, h, e => by
    simp only [Rs] at h
    obtain ⟨v, r, rfl, h1, h2⟩ := h
    simp only [List.zip_cons_cons, List.map_cons, List.lookup_cons] at e ⊢
    rw [strBeq]
    cases c : f == x with
    | true => rw [c] at e; cases e; exact ⟨v, rfl, h1⟩
    | false => rw [c] at e; exact zip_look h2 e
theorem look_mem : ∀ {l : List (Txt × D)} {f : Txt} {d : D}, l.lookup f = some d → (f, d) ∈ l
  | (x, d') :: r, f, d, e => by
    rw [List.lookup_cons] at e
    cases c : f == x with
    | true =>
      rw [c] at e
      cases e
      rw [eq_of_beq c]
      exact List.mem_cons_self
    | false => rw [c] at e; exact List.mem_cons_of_mem _ (look_mem e)
theorem e_fld (S : Static G nm) (c : In G X N sc k W) {a : Expr} {f : Txt} {pos : Pos} {ma : ME} (ha : PE X a (tOf G T W ma)) (hn : notCall0 a = true) : PE X (.Attribute a (sOf f) pos) (tOf G T W (.fld ma f)) := by
  refine peImp (pe_fld ha (abase_of hn _ _ _)) fun σ H Q q => ?_
  obtain ⟨z, env, st, rfl, rel, er, q⟩ := q
  refine ⟨z, env, st, rfl, rel, er, (Post.bind (by simpa only [evalE] using q)).imp fun dx st1 z1 e1 rel1 q1 v1 r1 => ?_⟩
  obtain ⟨d, e, q2⟩ := Post.ofO q1 rel1
  have go : ∀ (c' : Nat) (ds : List D) (kl : MCls) (a : Addr) (dx : Addr) (vs : List V), G.pg.cls[c']? = some kl → v1 = .ref a → z1.H a = some (.ins (G.cA c') dx ((kl.fs.map sOf).zip vs)) → Rs G z1 ds vs → getF G.pg c' ds f = some d →
      ∃ a C dx fs v, v1 = .ref a ∧ z1.H a = some (.ins C dx fs) ∧ Cls X.K C ∧ NoAttr X.K C (sOf f) ∧ fs.lookup (sOf f) = some v ∧ Q v z1.H := by
    intro c' ds kl a dx vs hk ev hH rs e
    unfold getF at e
    rw [hk] at e
    obtain ⟨v, e2, r2⟩ := zip_look rs e
    obtain ⟨s1, s2, s3, s4⟩ := S.cls c' kl hk
    have hf : f ∈ kl.fs := by
      have e : (kl.fs.zip ds).lookup f = some d := e
      exact (List.of_mem_zip (look_mem e)).1
    refine ⟨a, _, dx, _, v, ev, hH, by rw [c.K]; exact s1, by rw [c.K]; exact s2 f hf, e2, q2 v r2⟩
  cases dx <;> simp only [fldD] at e <;> try cases e
  · rename_i c' ds
    simp only [R] at r1
    obtain ⟨a, dx, vs, kl, ev, _, hk, hH, _, rs⟩ := r1
    exact go c' ds kl a dx vs hk ev hH rs e
  · rename_i i
    simp only [R] at r1
    obtain ⟨a, hi, ev⟩ := r1
    cases hs : st1[i]? with
    | none => rw [hs] at e; cases e
    | some cl =>
      rw [hs] at e
      cases cl with
      | lst ds => cases e
      | obj c' ds =>
        obtain ⟨a', ha', dx, vs, kl, hk, hH, _, rs⟩ := rel1.at_ i _ hs
        rw [hi] at ha'; cases ha'
        exact go c' ds kl a dx vs hk ev hH rs e

/-! ### calls -/
theorem PostF.of {z : Z} {σ : St} {o : Out D} {Q : VK} (h : Post G z σ W o fun d _ z' => ∀ v, R G z' d v → Q v z'.H) : PostF G z o Q (WE W σ) := by
  cases o with
  | ok d st => exact fun z' e r v rv => h z' e r v rv
  | exc e st => exact fun z' cls dd e1 r x => h z' cls dd e1 r x
  | bad => exact h
theorem fn_cast (c : In G X N sc k W) {j : Nat} {a : Addr} {fd : FuncData} {ps : List Str} {sp : Sp} (F : FnOk G.P G.w G.K G.mg G.base (L2.CX G.P G.w) j a fd ps sp) : FnOk X.prog X.w X.K X.mg X.base (L2.CX X.prog X.w) j a fd ps sp := by
  rw [c.P, c.w, c.K, c.mg, c.base]; exact F
theorem call0S {CX : CXT} {j : Nat} {f : Addr} {fd : FuncData} {ps : List Str} {sp : Sp} {E : St → XK} {x : Str} {p pos : Pos} (F : FnOk X.prog X.w X.K X.mg X.base CX j f fd ps sp) (hr : Room j X.A) (hg : Gl X x) (hm : X.mg x = some (.ref f))
    (hk : PySem.W.keepIn X.K (.ref f) = true) (hb : Binds X.K fd ps []) (hx : ∀ σ, PassesAt CX X σ (E σ)) (hdb : (x == ("__debug__" : Str)) = false) : PE X (.Call (.Name x p) [] [] pos) (tCallS sp E tNil) := by
  refine ⟨fun pins s σ H Q I h => wpAny_Call_Name_kw (ld_glob I hg hm ?_ hdb)⟩
  exact PySem.W.callWith_K0 I.kIn hk (run_fnS (us := []) F hr hb (hx σ) I .nil h)
theorem e_call (S : Static G nm) (c : In G X N sc k W) (L : FnsOk G k) {f : Nat} {x : Str} {es : List Expr} {ms : MEs} {p pos : Pos} (hf : nm.fns[f]? = some x) (hx : x ≠ "") (hg : glS sc x = true) (hn : okN x = true) (hi : (G.pg.defs[f]?).bind (·.ini) = none)
    (ha : PA X es (tAof G (tabs G.pg k) W ms)) (hp : plains es = true) (hlen : mesLen ms = es.length) : PE X (.Call (.Name x p) es [] pos) (tOf G (tabs G.pg k) W (.call f ms)) := by
  obtain ⟨hl, hm⟩ := S.fns f x hf hx
  have F := fn_cast c (L f hl)
  have hb : Binds X.K (G.fD f) (G.fP f) [] := by rw [c.K]; exact S.bd f hl
  have hk : PySem.W.keepIn X.K (.ref (G.fA f)) = true := by rw [c.K]; exact S.kp f hl
  have hm' : X.mg x = some (.ref (G.fA f)) := by rw [c.mg]; exact hm
  have hsp : ∀ vs H Q E, spFn G (tabs G.pg k) f vs H Q E → spOf G (tabs G.pg k) f vs H Q E := fun vs H Q E q => by unfold spOf; rw [hi]; exact q
  have key : ∀ σ H Q, tOf G (tabs G.pg k) W (.call f ms) σ H Q → tCallS (spOf G (tabs G.pg k) f) (WE W) (tAof G (tabs G.pg k) W ms) σ H Q := fun σ H Q q => by
    obtain ⟨z, env, st, rfl, rel, er, q⟩ := q
    refine ⟨z, env, st, rfl, rel, er, (Post.bind (by simpa only [evalE] using q)).imp fun ds st1 z1 e1 rel1 q1 vs rs => ?_⟩
    exact hsp _ _ _ _ ⟨z1, st1, ds, rfl, rel1, rs, PostF.of q1⟩
  cases es with
  | nil =>
    refine peImp (call0S F c.rm (gl_of c hg) hm' hk hb c.pass (okN_dbg hn)) fun σ H Q q => ?_
    obtain ⟨z, env, st, rfl, rel, er, q⟩ := q
    have q0 : tAof G (tabs G.pg k) W ms σ z.H _ := key σ z.H Q ⟨z, env, st, rfl, rel, er, q⟩
    cases ms with
    | nil =>
      obtain ⟨z', env', st', e', rel', er', q'⟩ := q0
      simp only [evalEs] at q'
      have := Post.ok q' rel' [] (Rs.nil.mpr rfl)
      rw [e'] at this
      exact this
    | cons m r => simp [mesLen] at hlen
  | cons e r =>
    simp only [plains, Bool.and_eq_true] at hp
    exact peImp (pe_callS F c.rm (gl_of c hg) hm' hk hb c.pass ha (okN_dbg hn) (star_of hp.1 _ _) (backTo_any _ _ hp.2)) key
theorem star_all (env : PySem.Env) (pos : Pos) : ∀ {es : List Expr}, plains es = true → (backTo pos (starEach es env)).all (!·.1) = true
  | [], _ => by rfl
  | e :: es, h => by
    simp only [plains, Bool.and_eq_true] at h
    have ih := star_all env pos h.2
    rw [star_of h.1]
    simpa [backTo] using ih
theorem meth_tree {o : Expr} (h : notCall0 o = true) (env : PySem.Env) (m : Str) (apos pos : Pos) {args : List Expr} (hp : plains args = true) (hl : args.length < 30) (hline : (apos.endLine == pos.line) = true) :
    eval (.Call (.Attribute o m apos) args [] pos) env = (do
      let ov ← eval o env
      standAt apos.atName
      let r ← holding [ov] (getMethod ov m (do return (← importBound o env).getD true))
      callWith pos r.1 r.2 (backTo pos (starEach args env)) (backToKw pos (keywordEach [] env))) := by
  have few : methodCallForm (args.length + ([] : List Keyword).length) (backTo pos (starEach args env)) (backToKw pos (keywordEach [] env)) = true := by
    unfold methodCallForm
    rw [star_all env pos hp]
    simp [keywordEach, backToKw]
    omega
  show (do
    let ov ← attributeBase o m env (eval o env)
    standAt apos.atName
    methodCall o m apos pos env ov (args.length + ([] : List Keyword).length) (backTo pos (starEach args env)) (backToKw pos (keywordEach [] env))) = _
  rw [abase_of h]
  unfold methodCall methodCallPos calleeOf
  rw [few, hline]
  rfl
theorem e_meth (S : Static G nm) (c : In G X N sc k W) (L : FnsOk G k) {m : Txt} {o : Expr} {es : List Expr} {mo : ME} {ms : MEs} {apos pos : Pos} (ho : PE X o (tOf G (tabs G.pg k) W mo)) (hn : notCall0 o = true)
    (ha : PA X es (tAof G (tabs G.pg k) W ms)) (hp : plains es = true) (hlen : mesLen ms = es.length) (h30 : es.length < 30) (hline : (apos.endLine == pos.line) = true) : PE X (.Call (.Attribute o (sOf m) apos) es [] pos) (tOf G (tabs G.pg k) W (.meth mo m ms)) := by
  refine ⟨fun pins s σ H Q I q => ?_⟩
  have ht := meth_tree hn X.env (sOf m) apos pos hp h30 hline
  obtain ⟨z, env, st, rfl, rel, er, q⟩ := q
  refine methcall_of ho I ⟨z, env, st, rfl, rel, er, (Post.bind (by simpa only [evalE] using q)).imp fun dx st1 z1 e1 rel1 q1 v1 r1 => ?_⟩ ht
  have er1 := er.ext e1 rel.wf
  have go : ∀ (c' : Nat) (kl : MCls) (f : Nat) (a dx' : Addr) (vs : List V), G.pg.cls[c']? = some kl → kl.ms.lookup m = some f → v1 = .ref a → z1.H a = some (.ins (G.cA c') dx' ((kl.fs.map sOf).zip vs)) →
      (Post G z1 σ W ((evalEs G.pg (tabs G.pg k) ms env st1).bind fun ds st => callT (tabs G.pg k) f (dx :: ds) st) fun d _ z' => ∀ v, R G z' d v → Q v z'.H) →
      ∃ a C dx' fs g, v1 = .ref a ∧ z1.H a = some (.ins C dx' fs) ∧ Cls X.K C ∧ Meth X.K C (sOf m) g ∧ fs.lookup (sOf m) = none ∧
        ∀ s1, L2.Inv X pins σ z1.H s1 → wpAny (model X.prog X.w) X.A (callWith pos (.ref g) [.ref a] (backTo pos (starEach es X.env)) (backToKw pos (keywordEach [] X.env))) (EP X pins σ Q) X.xe s1 := by
    intro c' kl f a dx' vs hk hm ev hH q2
    subst ev
    obtain ⟨s1, _, _, _⟩ := S.cls c' kl hk
    obtain ⟨hM, hnf, hfl, hi⟩ := S.ms c' kl m f hk hm
    have hM' : Meth X.K (G.cA c') (sOf m) (G.fA f) := by rw [c.K]; exact hM
    have hl : ((kl.fs.map sOf).zip vs).lookup (sOf m) = none := by
      rw [List.lookup_eq_none_iff]
      intro p hp'
      have := (List.of_mem_zip hp').1
      obtain ⟨x, hx, ex⟩ := List.mem_map.mp this
      simp only [bne_iff_ne, ne_eq, beq_eq_false_iff_ne]
      intro e
      rw [← ex] at e
      exact hnf (by rw [sOf_inj e]; exact hx)
    refine ⟨a, _, dx', _, _, rfl, hH, by rw [c.K]; exact s1, hM', hl, fun s2 I2 => ?_⟩
    have F := fn_cast c (L f hfl)
    have hb : Binds X.K (G.fD f) (G.fP f) [] := by rw [c.K]; exact S.bd f hfl
    have hsp : ∀ vs H Q E, spFn G (tabs G.pg k) f vs H Q E → spOf G (tabs G.pg k) f vs H Q E := fun vs H Q E q => by unfold spOf; rw [hi]; exact q
    cases es with
    | nil =>
      cases ms with
      | cons m r => simp [mesLen] at hlen
      | nil =>
        refine PySem.W.callWith_K0 (first := [.ref a]) I2.kIn hM'.kp (run_fnS (us := [.ref a]) (vs := [.ref a]) F c.rm hb (c.pass σ) I2 (.cons rfl .nil) (hsp _ _ _ _ ⟨z1, st1, [dx], rfl, rel1, ?_, PostF.of (σ := σ) (W := W) ?_⟩))
        · exact Rs.mk _ _ r1 (Rs.nil.mpr rfl)
        · simp only [evalEs, Out.bind_ok] at q2
          exact q2
    | cons e r =>
      simp only [plains, Bool.and_eq_true] at hp
      refine PySem.W.callWith_K (first := [.ref a]) (h₀ := X.base) I2.ok.mod.kin hM'.kp (thn (ha.run pos pins s2 σ z1.H (fun vs H2 => spOf G (tabs G.pg k) f (.ref a :: vs) H2 Q (WE W σ)) I2 ⟨z1, env, st1, rfl, rel1, er1, (Post.bind q2).imp fun ds st2 z2 e2 rel2 q3 vs rs => ?_⟩) fun us s3 ⟨vs, H2, I3, rv, q4⟩ => ⟨I3.kIn, ?_⟩) (star_of hp.1 _ _) (backTo_any _ _ hp.2)
      · exact hsp _ _ _ _ ⟨z2, st2, dx :: ds, rfl, rel2, Rs.mk _ _ (r1.ext e2 rel1.wf) rs, PostF.of q3⟩
      · exact run_fnS (us := .ref a :: us) (vs := .ref a :: vs) F c.rm hb (c.pass σ) I3 (.cons rfl rv) q4
  cases hmf : methF G.pg st1 m dx with
  | none => rw [hmf] at q1; exact q1.elim
  | some f =>
    rw [hmf] at q1
    cases dx <;> simp only [methF] at hmf <;> try cases hmf
    · rename_i c' ds
      obtain ⟨kl, hk, hm⟩ := Option.bind_eq_some_iff.mp hmf
      simp only [R] at r1
      obtain ⟨a, dx', vs, kl', ev, _, hk', hH, _, rs⟩ := r1
      rw [hk] at hk'; cases hk'
      exact go c' kl f a dx' vs hk hm ev hH q1
    · rename_i i
      simp only [R] at r1
      obtain ⟨a, hi, ev⟩ := r1
      cases hs : st1[i]? with
      | none => rw [hs] at hmf; cases hmf
      | some cl =>
        rw [hs] at hmf
        cases cl with
        | lst ds => cases hmf
        | obj c' ds =>
          obtain ⟨kl, hk, hm⟩ := Option.bind_eq_some_iff.mp hmf
          obtain ⟨a', ha', dx', vs, kl', hk', hH, _, rs⟩ := rel1.at_ i _ hs
          rw [hi] at ha'; cases ha'
          rw [hk] at hk'; cases hk'
          exact go c' kl f a dx' vs hk hm ev hH q1
theorem peNever {e : Expr} : PE X e fun _ _ _ => False := ⟨fun _ _ _ _ _ _ h => h.elim⟩
theorem ptNever {e : Expr} : PT X e fun _ _ _ => False := ⟨fun _ _ _ _ _ _ h => h.elim⟩
/-- a new cell -/
def Z.cell (z : Z) (p : Addr) : Z := ⟨z.H, z.F, z.io ++ [p]⟩
theorem Keep.cell (z : Z) (p : Addr) : Keep z (z.cell p) := ⟨fun _ h => h, fun _ _ _ h => h, fun i a h => by
  show (z.io ++ [p])[i]? = some a
  rw [List.getElem?_append_left (List.getElem?_eq_some_iff.mp h).1]
  exact h⟩
theorem Rel.cell {z : Z} {st : Store} (r : Rel G z st) {p : Addr} (al : Alone z p) {cl : Cell} (h : CellAt G (z.cell p) p cl) : Rel G (z.cell p) (st ++ [cl]) := by
  refine ⟨⟨fun a hm => ?_, ?_, r.wf.ft⟩, by simp [Z.cell, r.len], fun i c hc => ?_⟩
  · rcases List.mem_append.mp hm with hm | hm
    · exact r.wf.cf a hm
    · rw [List.mem_singleton.mp hm]; exact al.nf
  · show (z.io ++ [p]).Nodup
    rw [List.nodup_append]
    refine ⟨r.wf.nd, by simp, fun a ha b hb e => ?_⟩
    rw [List.mem_singleton.mp hb] at e
    exact al.ni (by rw [← e]; exact ha)
  · by_cases hi : i < st.length
    · rw [List.getElem?_append_left hi] at hc
      obtain ⟨a, q, k⟩ := r.at_ i c hc
      exact ⟨a, (Keep.cell z p).c i a q, CellAt.keep (Keep.cell z p) (fun _ h => h) k⟩
    · rw [List.getElem?_append_right (by omega)] at hc
      have e0 : i = st.length := by
        by_cases e : i - st.length = 0
        · omega
        · rw [List.getElem?_eq_none (by simp; omega)] at hc; cases hc
      subst e0
      simp at hc
      subst hc
      refine ⟨p, ?_, h⟩
      show (z.io ++ [p])[st.length]? = some p
      rw [← r.len]
      simp
theorem Ext.cell {z0 z : Z} (e : Ext z0 z) {p : Addr} (h : z0.H p = none) : Ext z0 (z.cell p) := by
  obtain ⟨m, em, n⟩ := e.c
  refine ⟨e.f, e.h, ⟨m ++ [p], by show z.io ++ [p] = _; rw [em, List.append_assoc], fun a ha => ?_⟩, e.nf, e.gr⟩
  rcases List.mem_append.mp ha with ha | ha
  · exact n a ha
  · rw [List.mem_singleton.mp ha]; exact h
theorem e_make (S : Static G nm) {k' : Nat} (c : In G X N sc (k' + 1) W) (L : FnsOk G k') {cl : Nat} {x : Str} {es : List Expr} {ms : MEs} {p pos : Pos} (hf : nm.cls[cl]? = some x) (hg : glS sc x = true) (hn : okN x = true) (hcl : (G.pg.cls[cl]?).isSome = true)
    (ha : PA X es (tAof G (tabs G.pg (k' + 1)) W ms)) (hp : plains es = true) (hlen : mesLen ms = es.length) : PE X (.Call (.Name x p) es [] pos) (tOf G (tabs G.pg (k' + 1)) W (.make cl ms)) := by
  obtain ⟨kl, hk⟩ := Option.isSome_iff_exists.mp hcl
  obtain ⟨M, hil, hini⟩ := S.mkC cl kl hk
  have F := fn_cast c (L kl.init hil)
  have hb : Binds X.K (G.fD kl.init) (G.fP kl.init) [] := by rw [c.K]; exact S.bd _ hil
  have hm : X.mg x = some (.ref (G.cA cl)) := by rw [c.mg]; exact S.clsN cl x hf
  have M' : Mk X.K (G.cA cl) (G.fA kl.init) := by rw [c.K]; exact M
  have key : ∀ σ H Q, tOf G (tabs G.pg (k' + 1)) W (.make cl ms) σ H Q → tMake (G.cA cl) (spOf G (tabs G.pg k') kl.init) [] E0 (tAof G (tabs G.pg (k' + 1)) W ms) σ H Q := fun σ H Q q => by
    obtain ⟨z, env, st, rfl, rel, er, q⟩ := q
    simp only [evalE, tabs] at q
    refine ⟨z, env, st, rfl, rel, er, (Post.bind q).imp fun ds st1 z1 e1 rel1 q1 vs rs => ?_⟩
    intro y dx hy hdx ne
    rw [hk] at q1
    show spOf G (tabs G.pg k') kl.init _ _ _ _
    unfold spOf
    rw [hini]
    refine ⟨z1, st1, ds, y, dx, vs, by simp, hy, hdx, ne, rfl, rel1, rs, ?_⟩
    simp only at q1
    cases ho : callT (tabs G.pg k') kl.init ds st1 with
    | exc e s => rw [ho] at q1; exact q1.elim
    | bad => rw [ho] at q1; exact q1.elim
    | ok d st2 =>
      rw [ho] at q1
      cases d <;> try exact q1.elim
      rename_i fs
      intro z2 ws k2 dx2 e2 rel2 al hk2 hH hl rf
      refine ⟨rfl, ?_⟩
      simp only at q1
      cases hmu : kl.mu with
      | false =>
        rw [hmu] at q1
        rw [if_neg (by decide)] at q1
        refine Post.at q1 (e2.fix hy) (rel2.fix al) _ ?_
        simp only [R]
        exact ⟨y, dx2, ws, k2, rfl, .inr rfl, hk2, hH, hl, Rs.keep (Keep.fix _ _) _ _ rf⟩
      | true =>
        rw [hmu] at q1
        rw [if_pos rfl] at q1
        refine Post.at q1 (e2.cell hy) (rel2.cell al ⟨dx2, ws, k2, hk2, hH, hl, Rs.keep (Keep.cell _ _) _ _ rf⟩) _ ?_
        simp only [R]
        refine ⟨y, ?_, rfl⟩
        show (z2.io ++ [y])[st2.length]? = some y
        rw [← rel2.len]
        simp
  cases es with
  | nil =>
    cases ms with
    | cons m r => simp [mesLen] at hlen
    | nil =>
      refine peImp (pe_make0 M' F c.rm (gl_of c hg) hm hb .nil passL (okN_dbg hn)) fun σ H Q q => ?_
      obtain ⟨z, env, st, e', rel, er, q'⟩ := key σ H Q q
      simp only [evalEs] at q'
      have := Post.ok q' rel [] (Rs.nil.mpr rfl)
      rw [e'] at this
      exact this
  | cons e r =>
    simp only [plains, Bool.and_eq_true] at hp
    exact peImp (pe_make M' F c.rm (gl_of c hg) hm hb .nil passL ha (okN_dbg hn) (star_of hp.1 _ _) (backTo_any _ _ hp.2)) key
end
end Fw

set_option Elab.async false
set_option linter.all false
set_option maxRecDepth 100000
set_option autoImplicit false
set_option maxHeartbeats 1000000
/-! Fw6: chains of comparisons, the built-in functions as expressions. -/
namespace Fw
open PySem PySem.Spec PyProof.Rows L2
section
variable {G : Gd} {nm : Nm} {X : Cx} {N : List Str} {sc : Scope} {k : Nat} {W : WX} {T : List FT}

/-! ### chains -/
inductive ChOk (G : Gd) (T : List FT) (W : WX) (X : Cx) : MC → List CmpOp → List Expr → Prop
  | last {op : Cmp} {m : ME} {b : Expr} : PE X b (tOf G T W m) → plainE b = true → ChOk G T W X (.last op m) [cmpOf op] [b]
  | more {op : Cmp} {m : ME} {b : Expr} {r : MC} {ops : List CmpOp} {es : List Expr} : PE X b (tOf G T W m) → plainE b = true → ChOk G T W X r ops es → ChOk G T W X (.more op m r) (cmpOf op :: ops) (b :: es)
theorem ChOk.marks {r : MC} {ops : List CmpOp} {es : List Expr} (h : ChOk G T W X r ops es) : lastMarks ops es = false := by
  induction h with
  | last _ hp => exact marks_of hp _
  | more _ _ h ih =>
    cases h with
    | last _ _ => exact ih
    | more _ _ _ => exact ih
theorem EP.mono {X : Cx} {pins : List (Addr × Obj)} {σ : St} {Q Q' : VK} {u : Value} {s : Shared} (h : EP X pins σ Q u s) (f : ∀ v H, Q v H → Q' v H) : EP X pins σ Q' u s := by
  obtain ⟨v, H, I, r, q⟩ := h
  exact ⟨v, H, I, r, f _ _ q⟩
/-- one link: the next value, the comparison's answer -/
theorem link_run (c : On G X) {op : Cmp} {m : ME} {b : Expr} (hb : PE X b (tOf G T W m)) {pins : List (Addr × Obj)} {s : Shared} {σ : St} {z : Z} {env : Fw.Env} {st : Store} {dx : D} {x : V} {v : Value} (I : L2.Inv X pins σ z.H s) (rv : RelV x v) (rel : Rel G z st) (er : EnvR G z env σ) (rx : R G z dx x)
    {C : D → Bool → Store → Z → Prop} (hC : ∀ dy t st1 z1 z2, Ext z1 z2 → C dy t st1 z1 → C dy t st1 z2) (q : Post G z σ W (evalE G.pg T m env st) fun dy st1 z1 => ∃ t, cmp2 op dx dy = some t ∧ C dy t st1 z1) {F : Value → Value → Shared → Prop}
    (hF : ∀ u s1 z1 st1 dy y t, L2.Inv X pins σ z1.H s1 → RelV y u → Ext z z1 → Rel G z1 st1 → R G z1 dy y → C dy t st1 z1 → F u (.bool t) s1) :
    wpAny (model X.prog X.w) X.A (eval b X.env) (fun u s1 => wpAny (model X.prog X.w) X.A (compareOp (cmpOf op) v u) (fun w s2 => F u w s2) X.xe s1) X.xe s := by
  refine thn (hb.run pins s σ z.H (fun y H1 => ∃ z1 st1 dy t, z1.H = H1 ∧ Ext z z1 ∧ Rel G z1 st1 ∧ R G z1 dy y ∧ cmp2 op dx dy = some t ∧ C dy t st1 z1) I ⟨z, env, st, rfl, rel, er, q.imp fun dy st1 z1 e1 rel1 q1 y ry => ?_⟩) fun u s1 ⟨y, H1, I1, ru, z1, st1, dy, t, e0, e1, rel1, ry, ec, q1⟩ => ?_
  · obtain ⟨t, ec, q1⟩ := q1
    exact ⟨z1, st1, dy, t, rfl, e1, rel1, ry, ec, q1⟩
  · subst e0
    have hd : (fun a b => (cmp2 op a b).map D.bl) dx dy = some (.bl t) := by show (cmp2 op dx dy).map D.bl = _; rw [ec]; rfl
    refine thn (cmp_all c op pins s1 σ z1.H x y v u (fun w H2 => ∃ z2, H2 = z2.H ∧ Ext z1 z2 ∧ Rel G z2 st1 ∧ w = .bl t) I1 rv ru ⟨z1, st1, dx, dy, .bl t, rfl, rel1, rx.ext e1 rel.wf, ry, hd, fun z2 w e2 rel2 rw2 => ⟨z2, rfl, e2, rel2, R.bl.mp rw2⟩⟩) fun w s2 ⟨w', H2, I2, r2, z2, eH, e2, rel2, ew⟩ => ?_
    subst eH ew
    cases r2
    exact hF u s2 z2 st1 dy y t I2 ru (e1.trans e2) rel2 (ry.ext e2 rel1.wf) (hC _ _ _ _ _ e2 q1)
theorem chain_run (c : On G X) {pos : Pos} {r : MC} {ops : List CmpOp} {es : List Expr} (h : ChOk G T W X r ops es) : ∀ {pins : List (Addr × Obj)} {s : Shared} {σ : St} {z : Z} {env : Fw.Env} {st : Store} {dx : D} {x : V} {v : Value} {Q : VK},
    L2.Inv X pins σ z.H s → RelV x v → Rel G z st → EnvR G z env σ → R G z dx x → Post G z σ W (evalC G.pg T dx r env st) (fun d _ z' => ∀ v, R G z' d v → Q v z'.H) →
    wpAny (model X.prog X.w) X.A (compareChain pos v ops (evalEach es X.env)) (EP X pins σ Q) X.xe s := by
  induction h with
  | last hb hp =>
    intro pins s σ z env st dx x v Q I rv rel er rx q
    rename_i op m b
    refine chain_last (link_run c hb I rv rel er rx (C := fun dy t st1 z1 => Post G z1 σ W (.ok (.bl t) st1) fun d _ z' => ∀ v, R G z' d v → Q v z'.H) (fun _ _ _ _ _ e p => Post.later p e) ((Post.bind (by simpa only [evalC] using q)).imp fun dy st1 z1 e1 rel1 q1 => ?_) fun u s1 z1 st1 dy y t I1 ru e1 rel1 ry q1 => ?_)
    · obtain ⟨d, e, _⟩ := Post.ofO q1 rel1
      obtain ⟨t, e2, rfl⟩ := Option.map_eq_some_iff.mp e
      refine ⟨t, e2, ?_⟩
      rw [e2] at q1
      exact q1
    · exact ⟨.bl t, z1.H, I1, rfl, Post.ok q1 rel1 _ (R.bl.mpr rfl)⟩
  | more hb hp hr ih =>
    intro pins s σ z env st dx x v Q I rv rel er rx q
    rename_i op m b r' ops' es'
    obtain ⟨op2, ops2, e2, es2, eo, ee⟩ : ∃ op2 ops2 e2 es2, ops' = op2 :: ops2 ∧ es' = e2 :: es2 := by
      cases hr with
      | last _ _ => exact ⟨_, _, _, _, rfl, rfl⟩
      | more _ _ _ => exact ⟨_, _, _, _, rfl, rfl⟩
    subst eo ee
    refine chain_link (link_run c hb I rv rel er rx (C := fun dy t st1 z1 => Post G z1 σ W (if t = true then evalC G.pg T dy r' env st1 else .ok (.bl false) st1) fun d _ z' => ∀ v, R G z' d v → Q v z'.H) (fun _ _ _ _ _ e p => Post.later p e) ((Post.bind (by simpa only [evalC] using q)).imp fun dy st1 z1 e1 rel1 q1 => ?_) fun u s1 z1 st1 dy y t I1 ru e1 rel1 ry q1 => ?_)
    · cases ec : cmp2 op dx dy with
      | none => rw [ec] at q1; exact q1.elim
      | some t =>
        rw [ec] at q1
        refine ⟨t, rfl, ?_⟩
        cases t with
        | true => exact q1
        | false => exact q1
    · refine wpAny_truthy_bool ?_
      cases t with
      | false => exact ⟨.bl false, z1.H, I1, rfl, Post.ok q1 rel1 _ (R.bl.mpr rfl)⟩
      | true => exact ih I1 ru rel1 (er.ext e1 rel.wf) ry q1
theorem chainT_run (c : On G X) {pos : Pos} {r : MC} {ops : List CmpOp} {es : List Expr} (h : ChOk G T W X r ops es) : ∀ {pins : List (Addr × Obj)} {s : Shared} {σ : St} {z : Z} {env : Fw.Env} {st : Store} {dx : D} {x : V} {v : Value} {Q : Bool → Hp → Prop},
    L2.Inv X pins σ z.H s → RelV x v → Rel G z st → EnvR G z env σ → R G z dx x → Post G z σ W (evalC G.pg T dx r env st) (fun d _ z' => ∃ b, d = .bl b ∧ Q b z'.H) →
    wpAny (model X.prog X.w) X.A (testChain pos v ops (evalEach es X.env)) (TP X pins σ Q) X.xe s := by
  induction h with
  | last hb hp =>
    intro pins s σ z env st dx x v Q I rv rel er rx q
    rename_i op m b
    refine test_last (link_run c hb I rv rel er rx (C := fun dy t st1 z1 => Post G z1 σ W (.ok (D.bl t) st1) fun d _ z' => ∃ b, d = D.bl b ∧ Q b z'.H) (fun _ _ _ _ _ e p => Post.later p e) ((Post.bind (by simpa only [evalC] using q)).imp fun dy st1 z1 e1 rel1 q1 => ?_) fun u s1 z1 st1 dy y t I1 ru e1 rel1 ry q1 => ?_)
    · obtain ⟨d, e, _⟩ := Post.ofO q1 rel1
      obtain ⟨t, e2, rfl⟩ := Option.map_eq_some_iff.mp e
      refine ⟨t, e2, ?_⟩
      rw [e2] at q1
      exact q1
    · refine wpAny_truthy_bool ?_
      obtain ⟨b', e', q2⟩ := Post.ok q1 rel1
      cases e'
      exact ⟨z1.H, I1, q2⟩
  | more hb hp hr ih =>
    intro pins s σ z env st dx x v Q I rv rel er rx q
    rename_i op m b r' ops' es'
    obtain ⟨op2, ops2, e2, es2, eo, ee⟩ : ∃ op2 ops2 e2 es2, ops' = op2 :: ops2 ∧ es' = e2 :: es2 := by
      cases hr with
      | last _ _ => exact ⟨_, _, _, _, rfl, rfl⟩
      | more _ _ _ => exact ⟨_, _, _, _, rfl, rfl⟩
    subst eo ee
    refine test_link (link_run c hb I rv rel er rx (C := fun dy t st1 z1 => Post G z1 σ W (if t = true then evalC G.pg T dy r' env st1 else .ok (.bl false) st1) fun d _ z' => ∃ b, d = .bl b ∧ Q b z'.H) (fun _ _ _ _ _ e p => Post.later p e) ((Post.bind (by simpa only [evalC] using q)).imp fun dy st1 z1 e1 rel1 q1 => ?_) fun u s1 z1 st1 dy y t I1 ru e1 rel1 ry q1 => ?_)
    · cases ec : cmp2 op dx dy with
      | none => rw [ec] at q1; exact q1.elim
      | some t =>
        rw [ec] at q1
        refine ⟨t, rfl, ?_⟩
        cases t with
        | true => exact q1
        | false => exact q1
    · refine wpAny_truthy_bool ?_
      cases t with
      | false =>
        obtain ⟨b', e', q2⟩ := Post.ok q1 rel1
        cases e'
        exact ⟨z1.H, I1, q2⟩
      | true => exact ih I1 ru rel1 (er.ext e1 rel.wf) ry q1
theorem ChOk.two {op : Cmp} {m : ME} {r : MC} {ops : List CmpOp} {es : List Expr} (h : ChOk G T W X (.more op m r) ops es) : ∃ o1 o2 os a b bs, ops = o1 :: o2 :: os ∧ es = a :: b :: bs := by
  cases h with
  | more _ _ h =>
    cases h with
    | last _ _ => exact ⟨_, _, _, _, _, _, rfl, rfl⟩
    | more _ _ _ => exact ⟨_, _, _, _, _, _, rfl, rfl⟩
theorem e_chain (c : On G X) {a : Expr} {ma : ME} {op : Cmp} {m : ME} {r : MC} {ops : List CmpOp} {es : List Expr} {pos : Pos} (ha : PE X a (tOf G T W ma)) (h : ChOk G T W X (.more op m r) ops es) : PE X (.Compare a ops es pos) (tOf G T W (.chain ma (.more op m r))) := by
  refine ⟨fun pins s σ H Q I q => ?_⟩
  obtain ⟨o1, o2, os, e1, e2, bs, eo, ee⟩ := h.two
  have hm := h.marks
  subst eo ee
  obtain ⟨z, env, st, rfl, rel, er, q⟩ := q
  refine Compare_chain (thn (ha.run pins s σ z.H (fun x H1 => ∃ z1 st1 dx, z1.H = H1 ∧ Ext z z1 ∧ Rel G z1 st1 ∧ R G z1 dx x ∧ Post G z1 σ W (evalC G.pg T dx (.more op m r) env st1) fun d _ z' => ∀ v, R G z' d v → Q v z'.H) I ⟨z, env, st, rfl, rel, er, (Post.bind (by simpa only [evalE] using q)).imp fun dx st1 z1 e1 rel1 q1 v1 r1 => ⟨z1, st1, dx, rfl, e1, rel1, r1, q1⟩⟩)
    fun v s1 ⟨x, H1, I1, rv, z1, st1, dx, e0, e1, rel1, r1, q1⟩ => ?_) hm
  subst e0
  exact chain_run c h I1 rv rel1 (er.ext e1 rel.wf) r1 q1
theorem t_chain (c : On G X) {a : Expr} {ma : ME} {op : Cmp} {m : ME} {r : MC} {ops : List CmpOp} {es : List Expr} {pos : Pos} (ha : PE X a (tOf G T W ma)) (h : ChOk G T W X (.more op m r) ops es) : PT X (.Compare a ops es pos) (tTof G T W (.chain ma (.more op m r))) := by
  refine ⟨fun pins s σ H Q I q => ?_⟩
  obtain ⟨o1, o2, os, e1, e2, bs, eo, ee⟩ := h.two
  have hm := h.marks
  subst eo ee
  obtain ⟨z, env, st, rfl, rel, er, q⟩ := q
  refine isTrue_chain (thn (ha.run pins s σ z.H (fun x H1 => ∃ z1 st1 dx, z1.H = H1 ∧ Ext z z1 ∧ Rel G z1 st1 ∧ R G z1 dx x ∧ Post G z1 σ W (evalC G.pg T dx (.more op m r) env st1) fun d _ z' => ∃ b, d = .bl b ∧ Q b z'.H) I ⟨z, env, st, rfl, rel, er, (Post.bind (by simpa only [evalE] using q)).imp fun dx st1 z1 e1 rel1 q1 v1 r1 => ⟨z1, st1, dx, rfl, e1, rel1, r1, q1⟩⟩)
    fun v s1 ⟨x, H1, I1, rv, z1, st1, dx, e0, e1, rel1, r1, q1⟩ => ?_) hm
  subst e0
  exact chainT_run c h I1 rv rel1 (er.ext e1 rel.wf) r1 q1

/-! ### built-in functions -/
theorem blt_of {b : Blt} {ms : MEs} {g : List D → Option D} (hg : blt b = g) {σ : St} {H : Hp} {Q : VK} (q : tOf G T W (.blt b ms) σ H Q) : tCB (rBl G g) (tAof G T W ms) σ H Q := by
  obtain ⟨z, env, st, rfl, rel, er, q⟩ := q
  refine ⟨z, env, st, rfl, rel, er, (Post.bind (by simpa only [evalE] using q)).imp fun ds st1 z1 e1 rel1 q1 vs rs => ?_⟩
  obtain ⟨d, e, _⟩ := Post.ofO q1 rel1
  rw [hg] at e q1
  rw [e] at q1
  exact ⟨z1, st1, ds, d, rfl, rel1, rs, e, fun z2 v e2 rel2 rv => Post.at q1 e2 rel2 v rv⟩
theorem e_bltB (S : Static G nm) (c : In G X N sc k W) {b : Blt} {id : String} {x : Str} {e : Expr} {es : List Expr} {ms : MEs} {p pos : Pos} (hr : CallR X (.builtin id) (rBl G (blt b))) (hg : glS sc x = true) (hx : x ∈ nm.blts) (hv : bootBuiltins x = some (.builtin id)) (hn : okN x = true)
    (ha : PA X (e :: es) (tAof G T W ms)) (hp : plains (e :: es) = true) : PE X (.Call (.Name x p) (e :: es) [] pos) (tOf G T W (.blt b ms)) := by
  simp only [plains, Bool.and_eq_true] at hp
  exact peImp (pe_callB hr (gl_of c hg) (by rw [c.mg]; exact S.blts x hx) hv ha (okN_name hn) (okN_dbg hn) (star_of hp.1 _ _) (backTo_any _ _ hp.2)) fun σ H Q q => blt_of rfl q
theorem e_bltT (S : Static G nm) (c : In G X N sc k W) {b : Blt} {ty : String} {x : Str} {e : Expr} {es : List Expr} {ms : MEs} {p pos : Pos} (hr : CallR X (.type ty) (rBl G (blt b))) (hg : glS sc x = true) (hx : x ∈ nm.blts) (hv : bootBuiltins x = some (.type ty)) (hn : okN x = true)
    (ha : PA X (e :: es) (tAof G T W ms)) (hp : plains (e :: es) = true) : PE X (.Call (.Name x p) (e :: es) [] pos) (tOf G T W (.blt b ms)) := by
  simp only [plains, Bool.and_eq_true] at hp
  exact peImp (pe_callTy hr (gl_of c hg) (by rw [c.mg]; exact S.blts x hx) hv ha (okN_name hn) (okN_dbg hn) (star_of hp.1 _ _) (backTo_any _ _ hp.2)) fun σ H Q q => blt_of rfl q
theorem e_isinst (S : Static G nm) (c : In G X N sc k W) {t : Ty} {x y : Str} {e : Expr} {m : ME} {p p2 pos : Pos} (hg : glS sc x = true) (hx : x ∈ nm.blts) (hv : bootBuiltins x = some (.builtin "isinstance")) (hn : okN x = true)
    (hg2 : glS sc y = true) (hx2 : y ∈ nm.blts) (hv2 : bootBuiltins y = some (.type (tyN t))) (hn2 : okN y = true) (he : PE X e (tOf G T W m)) (hp : plainE e = true) : PE X (.Call (.Name x p) [e, .Name y p2] [] pos) (tOf G T W (.blt (.isinst t) (.cons m .nil))) := by
  have ha : PA X [e, .Name y p2] (tCons (tOf G T W m) (tCons (tC (.ty (tyN t))) tNil)) := pa_cons he (pa_cons (pe_bltn (gl_of c hg2) (by rw [c.mg]; exact S.blts y hx2) hv2 rfl (okN_name hn2) (okN_dbg hn2)) pa_nil rfl) (star_of hp _ _)
  refine peImp (pe_callB (b_isinst c.toOn t) (gl_of c hg) (by rw [c.mg]; exact S.blts x hx) hv ha (okN_name hn) (okN_dbg hn) (star_of hp _ _) (backTo_any _ _ rfl)) fun σ H Q q => ?_
  obtain ⟨z, env, st, rfl, rel, er, q⟩ := q
  have q' : Post G z σ W ((evalE G.pg T m env st).bind fun dx st => Out.ofO st (blt (.isinst t) [dx])) fun d _ z' => ∀ v, R G z' d v → Q v z'.H := by
    simp only [evalE, evalEs] at q
    cases ho : evalE G.pg T m env st with
    | ok a b => rw [ho] at q; exact q
    | exc a b => rw [ho] at q; exact q
    | bad => rw [ho] at q; exact q
  refine ⟨z, env, st, rfl, rel, er, (Post.bind q').imp fun dx st1 z1 e1 rel1 q2 v1 r1 => ?_⟩
  obtain ⟨d, e, _⟩ := Post.ofO q2 rel1
  rw [e] at q2
  exact ⟨v1, rfl, z1, st1, [dx], d, rfl, rel1, Rs.mk _ _ r1 (Rs.nil.mpr rfl), e, fun z2 v e2 rel2 rv => Post.at q2 e2 rel2 v rv⟩
end
end Fw

set_option Elab.async false
set_option linter.all false
set_option maxRecDepth 100000
set_option autoImplicit false
set_option maxHeartbeats 1000000
/-! Fw7: targets, what is walked. -/
namespace Fw
open PySem PySem.Spec PyProof.Rows L2

/-! ### slots forgotten, slots set -/
theorem wipe_at (σ : St) (j : Nat) : ∀ vs : List Nat, (wipe σ vs)[j]? = if j ∈ vs then (if j < σ.length then some none else none) else σ[j]?
  | [] => by simp [wipe]
  | v :: vs => by
    have ih := wipe_at σ j vs
    unfold wipe
    rw [List.getElem?_set, wipe_length, ih]
    by_cases h : v = j
    · subst h; simp
    · have : ¬ j = v := fun e => h e.symm
      simp [h, this]
theorem wipe_set {σ : St} {i : Nat} {o : Option V} {vs : List Nat} (h : i ∈ vs) : wipe (σ.set i o) vs = wipe σ vs := by
  apply List.ext_getElem?
  intro j
  rw [wipe_at, wipe_at, List.length_set]
  by_cases c : j ∈ vs
  · simp [c]
  · simp only [c, if_false]
    rw [List.getElem?_set_ne]
    exact fun e => c (by rw [← e]; exact h)
theorem wipe_wipe (σ : St) (vs : List Nat) : wipe (wipe σ vs) vs = wipe σ vs := by
  apply List.ext_getElem?
  intro j
  rw [wipe_at, wipe_at, wipe_length]
  by_cases c : j ∈ vs <;> simp [c]
/-- the frame holds, but for the slots vs -/
structure EnvX (G : Gd) (z : Z) (vs : List Nat) (env : Env) (σ : St) : Prop where
  len : env.length = σ.length
  at_ : ∀ (i : Nat) (s : Slot), i ∉ vs → env[i]? = some s → SlotAt G z σ[i]? s
  apart : ∀ (i j : Nat) (s t : Slot) (a : Addr), i ∉ vs → j ∉ vs → env[i]? = some s → env[j]? = some t → s.alone = true → t.alone = true → σ[i]? = some (some (.ref a)) → σ[j]? = some (some (.ref a)) → i = j
section
variable {G : Gd} {z : Z} {vs : List Nat} {env env' : Env} {σ : St}
theorem EnvX.done (h : EnvX G z [] env σ) : EnvR G z env σ := ⟨h.len, fun i s e => h.at_ i s (by simp) e, fun i j s t a => h.apart i j s t a (by simp) (by simp)⟩
theorem EnvR.open_ (h : EnvR G z env σ) (vs : List Nat) : EnvX G z vs env σ := ⟨h.len, fun i s _ e => h.at_ i s e, fun i j s t a _ _ => h.apart i j s t a⟩
theorem EnvR.wiped (h : EnvR G z env σ) (vs : List Nat) : EnvX G z vs env (wipe σ vs) := by
  refine ⟨by rw [wipe_length]; exact h.len, fun i s n e => ?_, fun i j s t a n1 n2 e1 e2 a1 a2 q1 q2 => ?_⟩
  · rw [wipe_at, if_neg n]; exact h.at_ i s e
  · rw [wipe_at, if_neg n1] at q1
    rw [wipe_at, if_neg n2] at q2
    exact h.apart i j s t a e1 e2 a1 a2 q1 q2
theorem EnvX.set {i : Nat} {d : D} {v : V} (h : EnvX G z (i :: vs) env σ) (r : R G z d v) : EnvX G z vs (env.set i (.val d)) (σ.set i (some v)) := by
  refine ⟨by rw [List.length_set, List.length_set]; exact h.len, fun j s n e => ?_, fun j k s t a n1 n2 e1 e2 a1 a2 q1 q2 => ?_⟩
  · by_cases c : i = j
    · subst c
      have hl : i < env.length := by
        have := (List.getElem?_eq_some_iff.mp e).1
        rwa [List.length_set] at this
      rw [List.getElem?_set_self hl] at e
      cases e
      rw [List.getElem?_set_self (by rw [← h.len]; exact hl)]
      exact ⟨v, rfl, r⟩
    · rw [List.getElem?_set_ne c] at e ⊢
      exact h.at_ j s (by simp only [List.mem_cons, not_or]; exact ⟨fun q => c q.symm, n⟩) e
  · have ne : ∀ {j : Nat} {s : Slot}, (env.set i (.val d))[j]? = some s → s.alone = true → i ≠ j := fun {j s} e al q => by
      subst q
      have hl : i < env.length := by
        have := (List.getElem?_eq_some_iff.mp e).1
        rwa [List.length_set] at this
      rw [List.getElem?_set_self hl] at e
      cases e
      cases al
    have c1 := ne e1 a1
    have c2 := ne e2 a2
    rw [List.getElem?_set_ne c1] at e1 q1
    rw [List.getElem?_set_ne c2] at e2 q2
    exact h.apart j k s t a (by simp only [List.mem_cons, not_or]; exact ⟨fun q => c1 q.symm, n1⟩) (by simp only [List.mem_cons, not_or]; exact ⟨fun q => c2 q.symm, n2⟩) e1 e2 a1 a2 q1 q2
end

/-! ### targets -/
def gNames : List Nat → TGs
  | [] => gNil
  | i :: is => gCons (gName i) (gNames is)
def gOf (K : PySem.W.Frag) : Tg → TG
  | .one i => gName i
  | .many is => gTup K is.length (gNames is)
def tgVs : Tg → List Nat
  | .one i => [i]
  | .many is => is
theorem gNames_run {G : Gd} {z : Z} {Q : St → Hp → Prop} (P : List Nat → Env → St → Prop) (hP : ∀ i vs env σ d v, P (i :: vs) env σ → P vs (env.set i (.val d)) (σ.set i (some v))) : ∀ {is vs0 : List Nat} {ds : List D} {vs : List V} {env : Env} {σ : St}, Rs G z ds vs → is.length = ds.length → EnvX G z (is ++ vs0) env σ → P (is ++ vs0) env σ →
    (∀ σ', EnvX G z vs0 ((is.zip ds).foldl (fun e p => e.set p.1 (.val p.2)) env) σ' → P vs0 ((is.zip ds).foldl (fun e p => e.set p.1 (.val p.2)) env) σ' → (∀ ws : List Nat, (∀ i ∈ is, i ∈ ws) → wipe σ' ws = wipe σ ws) → Q σ' z.H) → gNames is vs σ z.H Q
  | [], vs0, [], vs, env, σ, h, _, ex, pp, q => ⟨Rs.nil.mp h, q σ ex pp fun _ _ => rfl⟩
  | i :: is, vs0, d :: ds, vs, env, σ, h, e, ex, pp, q => by
    simp only [Rs] at h
    obtain ⟨v, r, rfl, h1, h2⟩ := h
    refine ⟨v, r, rfl, ?_⟩
    show gNames is r (σ.set i (some v)) z.H Q
    refine gNames_run P hP h2 (by simpa using e) (ex.set h1) (hP _ _ _ _ d v pp) fun σ' e' p' w => q σ' e' p' fun ws hw => ?_
    rw [w ws fun j hj => hw j (List.mem_cons_of_mem _ hj), wipe_set (hw i List.mem_cons_self)]
  | [], _, _ :: _, _, _, _, _, e, _, _, _ => by simp at e
  | _ :: _, _, [], _, _, _, _, e, _, _, _ => by simp at e
theorem gOf_runP {G : Gd} {z : Z} {Q : St → Hp → Prop} (P : List Nat → Env → St → Prop) (hP : ∀ i vs env σ d v, P (i :: vs) env σ → P vs (env.set i (.val d)) (σ.set i (some v))) {t : Tg} {d : D} {v : V} {env env' : Env} {σ : St} (hb : bindTg t d env = some env') (r : R G z d v) (ex : EnvX G z (tgVs t) env σ) (pp : P (tgVs t) env σ)
    (q : ∀ σ', EnvR G z env' σ' → P [] env' σ' → (∀ ws : List Nat, (∀ i ∈ tgVs t, i ∈ ws) → wipe σ' ws = wipe σ ws) → Q σ' z.H) : gOf G.K t v σ z.H Q := by
  cases t with
  | one i =>
    simp only [bindTg] at hb
    split at hb
    · cases hb
      exact q _ (ex.set r).done (hP _ _ _ _ d v pp) fun ws hw => wipe_set (hw i (by simp [tgVs]))
    · cases hb
  | many is =>
    cases d <;> simp only [bindTg] at hb <;> try cases hb
    rename_i ds
    split at hb
    · rename_i c
      cases hb
      simp only [R] at r
      obtain ⟨a, vs, rfl, ha, rs⟩ := r
      refine ⟨a, vs, rfl, ?_, by rw [rs.len, c.1], ?_⟩
      · rcases ha with ⟨_, ha⟩ | ha
        · exact SqT.of ha
        · exact .inr ha
      · exact gNames_run P hP (vs0 := []) rs c.1 (by rw [List.append_nil]; exact ex) (by rw [List.append_nil]; exact pp) fun σ' e' p' w => q σ' e'.done p' w
    · cases hb
theorem gOf_run {G : Gd} {z : Z} {Q : St → Hp → Prop} {t : Tg} {d : D} {v : V} {env env' : Env} {σ : St} (hb : bindTg t d env = some env') (r : R G z d v) (ex : EnvX G z (tgVs t) env σ)
    (q : ∀ σ', EnvR G z env' σ' → (∀ ws : List Nat, (∀ i ∈ tgVs t, i ∈ ws) → wipe σ' ws = wipe σ ws) → Q σ' z.H) : gOf G.K t v σ z.H Q :=
  gOf_runP (fun _ _ _ => True) (fun _ _ _ _ _ _ _ => trivial) hb r ex trivial fun σ' e _ w => q σ' e w
theorem isNone_or {α : Type} (o : Option α) : o = none ∨ ∃ a, o = some a := by cases o <;> simp

/-! ### what is walked -/
structure Drives (G : Gd) (J : It) (z : Z) (ds : List D) : Prop where
  go : ∀ i z', Keep z z' → i < ds.length → J.go i z'.H
  stop : ∀ z', Keep z z' → J.stop ds.length z'.H
  yld : ∀ i d z' st x H', Keep z z' → Rel G z' st → ds[i]? = some d → J.yld i z'.H x H' → ∃ z2, z2.H = H' ∧ Ext z' z2 ∧ Rel G z2 st ∧ R G z2 d x
theorem sqT_of {G : Gd} {z z' : Z} {a : Addr} {vs : List V} (k : Keep z z') (h : (z.F a ∧ z.H a = some (.tup vs)) ∨ KTup G.K a vs) : SqT G.K z'.H a vs := by
  rcases h with ⟨f, h⟩ | h
  · exact SqT.of (k.h a _ f h)
  · exact .inr h
theorem drives_list {G : Gd} {z : Z} {ds : List D} {a : Addr} {vs : List V} (h : z.F a ∧ z.H a = some (.lst vs)) (rs : Rs G z ds vs) : Drives G (Itl G.K a) z ds := by
  have sq : ∀ {z'}, Keep z z' → SqL G.K z'.H a vs := fun k => SqL.of (k.h a _ h.1 h.2)
  refine ⟨fun i z' k hi => ⟨vs, vs[i]'(by rw [rs.len]; exact hi), sq k, by simp [rs.len, hi]⟩, fun z' k => ⟨vs, sq k, by rw [rs.len]; exact Nat.le_refl _⟩, fun i d z' st x H' k rel e y => ?_⟩
  obtain ⟨e1, y⟩ := y
  obtain ⟨v, e2, r⟩ := (Rs.keep k _ _ rs).get e
  rw [y vs (sq k)] at e2; cases e2
  exact ⟨z', e1.symm, Ext.refl _, rel, r⟩
theorem drives_tup {G : Gd} {z : Z} {ds : List D} {a : Addr} {vs : List V} (h : (z.F a ∧ z.H a = some (.tup vs)) ∨ KTup G.K a vs) (rs : Rs G z ds vs) : Drives G (Itt G.K a) z ds := by
  refine ⟨fun i z' k hi => ⟨vs, vs[i]'(by rw [rs.len]; exact hi), sqT_of k h, by simp [rs.len, hi]⟩, fun z' k => ⟨vs, sqT_of k h, by rw [rs.len]; exact Nat.le_refl _⟩, fun i d z' st x H' k rel e y => ?_⟩
  obtain ⟨e1, y⟩ := y
  obtain ⟨v, e2, r⟩ := (Rs.keep k _ _ rs).get e
  rw [y vs (sqT_of k h)] at e2; cases e2
  exact ⟨z', e1.symm, Ext.refl _, rel, r⟩
theorem drives_str {G : Gd} {z : Z} {s : Txt} (ok : okT s = true) : Drives G (Its (sOf s)) z (s.map fun c => .str [c]) := by
  have hs : (sOf s).cps.size = s.length := by simp [sOf]
  refine ⟨fun i z' k hi => ?_, fun z' k => ?_, fun i d z' st x H' k rel e y => ?_⟩
  · show i < (sOf s).cps.size
    rw [hs]; simpa using hi
  · show (sOf s).cps.size ≤ (s.map fun c => D.str [c]).length
    rw [hs]; simp
  · obtain ⟨e1, c, e2, e3⟩ := y
    have e2 : (s.toArray)[i]? = some c := e2
    rw [List.getElem?_toArray] at e2
    rw [List.getElem?_map, e2] at e
    cases e
    refine ⟨z', e1.symm, Ext.refl _, rel, R.str.mpr ⟨e3, ?_⟩⟩
    unfold okT at ok ⊢
    rw [List.all_eq_true] at ok
    simpa using ok c (List.mem_of_getElem? e2)
theorem upto_len (lo : Int) : ∀ n : Nat, (upto lo n).length = n
  | 0 => rfl
  | n + 1 => by unfold upto; rw [List.length_cons, upto_len]
theorem upto_at : ∀ (n : Nat) (lo : Int) (i : Nat), i < n → (upto lo n)[i]? = some (lo + i)
  | 0, _, _, h => by omega
  | n + 1, lo, 0, _ => by simp [upto]
  | n + 1, lo, i + 1, h => by
    unfold upto
    rw [List.getElem?_cons_succ, upto_at n (lo + 1) i (by omega)]
    congr 1
    push_cast
    omega
theorem drives_range {G : Gd} {z : Z} (lo : Int) (n : Nat) : Drives G (Itr lo n) z ((upto lo n).map .int) := by
  refine ⟨fun i z' k hi => ?_, fun z' k => ?_, fun i d z' st x H' k rel e y => ?_⟩
  · show i < n
    rw [List.length_map, upto_len] at hi; exact hi
  · show n ≤ _
    rw [List.length_map, upto_len]; exact Nat.le_refl _
  · obtain ⟨e1, e2⟩ := y
    have hi : i < n := by
      have := (List.getElem?_eq_some_iff.mp e).1
      rwa [List.length_map, upto_len] at this
    rw [List.getElem?_map, upto_at n lo i hi] at e
    cases e
    exact ⟨z', e1.symm, Ext.refl _, rel, R.int.mpr e2⟩
theorem drives_enum {G : Gd} {z : Z} {ds : List D} {a : Addr} {vs : List V} (h : z.F a ∧ z.H a = some (.lst vs)) (rs : Rs G z ds vs) : Drives G (Ite G.K a) z ((upto 0 ds.length).zipWith (fun i d => .tup [.int i, d]) ds) := by
  have sq : ∀ {z'}, Keep z z' → SqL G.K z'.H a vs := fun k => SqL.of (k.h a _ h.1 h.2)
  have hl : ((upto 0 ds.length).zipWith (fun i d => D.tup [.int i, d]) ds).length = ds.length := by rw [List.length_zipWith, upto_len, Nat.min_self]
  refine ⟨fun i z' k hi => ⟨vs, vs[i]'(by rw [rs.len, ← hl]; exact hi), sq k, by rw [hl] at hi; simp [rs.len, hi]⟩, fun z' k => ⟨vs, sq k, by rw [rs.len, hl]; exact Nat.le_refl _⟩, fun i d z' st x H' k rel e y => ?_⟩
  obtain ⟨p, v, e1, e2, e3, y⟩ := y
  have hi : i < ds.length := by
    have := (List.getElem?_eq_some_iff.mp e).1
    rwa [hl] at this
  obtain ⟨w, e4, r⟩ := (Rs.keep k _ _ rs).get (List.getElem?_eq_getElem hi)
  rw [y vs (sq k)] at e4; cases e4
  rw [List.getElem?_zipWith, upto_at _ _ _ hi, List.getElem?_eq_getElem hi] at e
  cases e
  refine ⟨z'.new p (.tup [.int i, v]), e3.symm, Ext.new e2, rel.new e2 (by simp), ?_⟩
  rw [e1]
  refine R.newT rel (Rs.mk _ _ (R.int.mpr ?_) (Rs.mk _ _ r (Rs.nil.mpr rfl))) e2
  simp
theorem drives_zip {G : Gd} {z : Z} {ds es : List D} {a b : Addr} {vs ws : List V} (h : z.F a ∧ z.H a = some (.lst vs)) (rs : Rs G z ds vs) (h' : z.F b ∧ z.H b = some (.lst ws)) (rs' : Rs G z es ws) : Drives G (Itz G.K a b) z (ds.zipWith (fun d e => .tup [d, e]) es) := by
  have sq : ∀ {z'}, Keep z z' → SqL G.K z'.H a vs := fun k => SqL.of (k.h a _ h.1 h.2)
  have sq' : ∀ {z'}, Keep z z' → SqL G.K z'.H b ws := fun k => SqL.of (k.h b _ h'.1 h'.2)
  have l1 := rs.len
  have l2 := rs'.len
  refine ⟨fun i z' k hi => ?_, fun z' k => ?_, fun i d z' st x H' k rel e y => ?_⟩
  · rw [List.length_zipWith] at hi
    exact ⟨vs, ws, vs[i]'(by omega), ws[i]'(by omega), sq k, sq' k, by rw [List.getElem?_eq_getElem], by rw [List.getElem?_eq_getElem]⟩
  · refine ⟨vs, ws, sq k, sq' k, ?_⟩
    rw [List.length_zipWith]; omega
  · obtain ⟨p, x1, x2, e1, e2, e3, y1, y2⟩ := y
    rw [List.getElem?_zipWith] at e
    rcases isNone_or ds[i]? with q | ⟨d1, q⟩
    · rw [q] at e; cases e
    rcases isNone_or es[i]? with q' | ⟨d2, q'⟩
    · rw [q, q'] at e; cases e
    rw [q, q'] at e
    cases e
    obtain ⟨w1, f1, r1⟩ := (Rs.keep k _ _ rs).get q
    obtain ⟨w2, f2, r2⟩ := (Rs.keep k _ _ rs').get q'
    rw [y1 vs (sq k)] at f1; cases f1
    rw [y2 ws (sq' k)] at f2; cases f2
    refine ⟨z'.new p (.tup [x1, x2]), e3.symm, Ext.new e2, rel.new e2 (by simp), ?_⟩
    rw [e1]
    exact R.newT rel (Rs.mk _ _ r1 (Rs.mk _ _ r2 (Rs.nil.mpr rfl))) e2

/-- a list, a tuple, a text, walked -/
def iVal (K : PySem.W.Frag) (tl : TE) : TI := fun σ H Rr => tl σ H fun x H1 => (∃ a, x = .ref a ∧ (∃ xs, SqL K H1 a xs) ∧ Rr (Itl K a) H1) ∨ (∃ a, x = .ref a ∧ (∃ xs, SqT K H1 a xs) ∧ Rr (Itt K a) H1) ∨ ∃ t, x = .str t ∧ Rr (Its t) H1
theorem pi_val {X : Cx} {tg l : Expr} {tl : TE} (hl : PE X l tl) : PI X tg l (iVal X.K tl) := by
  refine ⟨fun pins s σ H Rr I h => thn (hl.run pins s σ H _ I h) fun v s1 ⟨x, H1, I1, r1, q1⟩ => ?_⟩
  rcases q1 with ⟨a, rfl, ⟨xs, hq⟩, q⟩ | ⟨a, rfl, ⟨xs, hq⟩, q⟩ | ⟨t, rfl, q⟩
  · cases r1
    obtain ⟨its, rv, pl, hz⟩ := I1.list hq
    exact wpAny_pyIter_list pl.isList (pi_one (tk := s1.toks) I1 _ (turn_list a _) ⟨_, Heap.get?_push_size _ rfl, rfl, rfl⟩ q)
  · cases r1
    obtain ⟨its, rv, pl, hz⟩ := I1.tuple hq
    exact wpAny_pyIter_tuple (show s1.heap.IsTuple a its.toArray from pl) (pi_one (tk := s1.toks) I1 _ (turn_tuple a _) ⟨_, Heap.get?_push_size _ rfl, rfl, rfl⟩ q)
  · obtain ⟨tk, rfl⟩ := r1
    cases ha : t.cps.all (· < 128)
    · exact wpAny_pyIter_wide ha (pi_one (tk := s1.toks) I1 _ (turn_str _ t tk "str_iterator" (.inr rfl)) ⟨_, Heap.get?_push_size _ rfl, rfl, rfl⟩ q)
    · exact wpAny_pyIter_ascii ha (pi_one (tk := s1.toks) I1 _ (turn_str _ t tk "str_ascii_iterator" (.inl rfl)) ⟨_, Heap.get?_push_size _ rfl, rfl, rfl⟩ q)
def iOf (G : Gd) (T : List FT) (W : WX) (m : MI) : TI := fun σ H Rr => ∃ z env st, z.H = H ∧ Rel G z st ∧ EnvR G z env σ ∧ Post G z σ W (evalI G.pg T m env st) fun ds _ z' => ∀ J, Drives G J z' ds → Rr J z'.H
theorem piImp {X : Cx} {tg e : Expr} {t t' : TI} (h : PI X tg e t) (f : ∀ σ H Q, t' σ H Q → t σ H Q) : PI X tg e t' := ⟨fun pins s σ H Q I q => h.run pins s σ H Q I (f σ H Q q)⟩
section
variable {G : Gd} {nm : Nm} {X : Cx} {N : List Str} {sc : Scope} {k : Nat} {W : WX} {T : List FT}
theorem i_val (c : In G X N sc k W) {tg e : Expr} {m : ME} (h : PE X e (tOf G T W m)) : PI X tg e (iOf G T W (.val m)) := by
  refine piImp (pi_val h) fun σ H Rr q => ?_
  obtain ⟨z, env, st, rfl, rel, er, q⟩ := q
  refine ⟨z, env, st, rfl, rel, er, (Post.bind (by simpa only [evalI] using q)).imp fun dx st1 z1 e1 rel1 q1 v1 r1 => ?_⟩
  obtain ⟨ds, e, q2⟩ := Post.ofO q1 rel1
  cases dx <;> simp only [items] at e <;> cases e
  · obtain ⟨e, ok⟩ := R.str.mp r1
    exact .inr (.inr ⟨_, e, q2 _ (drives_str ok)⟩)
  · simp only [R] at r1
    obtain ⟨a, vs, rfl, h, rs⟩ := r1
    refine .inr (.inl ⟨a, rfl, ⟨vs, ?_⟩, ?_⟩)
    · rw [c.K]; exact sqT_of (Keep.refl _) h
    · rw [c.K]; exact q2 _ (drives_tup h rs)
  · simp only [R] at r1
    obtain ⟨a, vs, rfl, h, rs⟩ := r1
    exact .inl ⟨a, rfl, ⟨vs, by rw [c.K]; exact SqL.of h.2⟩, by rw [c.K]; exact q2 _ (drives_list h rs)⟩
theorem star1 {e : Expr} (hp : plainE e = true) (env : PySem.Env) : starEach [e] env = [(false, eval e env)] := by rw [star_of hp]; rfl
theorem star2 {a b : Expr} (ha : plainE a = true) (hb : plainE b = true) (env : PySem.Env) : starEach [a, b] env = [(false, eval a env), (false, eval b env)] := by rw [star_of ha, star_of hb]; rfl
theorem rangeD_some {lo hi : Int} {ds : List D} (h : rangeD lo hi = some ds) : lo.natAbs < 2 ^ 62 ∧ hi.natAbs < 2 ^ 62 ∧ ds = (upto lo (hi - lo).toNat).map .int := by
  unfold rangeD at h
  split at h
  · rename_i c
    cases h
    exact ⟨c.1, c.2.1, rfl⟩
  · cases h
theorem i_range1 (S : Static G nm) (c : In G X N sc k W) {tg e : Expr} {m : ME} {p pos : Pos} (hg : glS sc "range" = true) (hx : ("range" : Str) ∈ nm.blts) (h : PE X e (tOf G T W m)) (hp : plainE e = true) : PI X tg (.Call (.Name "range" p) [e] [] pos) (iOf G T W (.range1 m)) := by
  refine piImp (pi_range1 (gl_of c hg) (by rw [c.mg]; exact S.blts _ hx) (pa_cons h pa_nil (star_of hp _ _)) (star1 hp _)) fun σ H Rr q => ?_
  obtain ⟨z, env, st, rfl, rel, er, q⟩ := q
  refine ⟨z, env, st, rfl, rel, er, (Post.bind (by simpa only [evalI] using q)).imp fun dx st1 z1 e1 rel1 q1 v1 r1 => ?_⟩
  obtain ⟨ds, e, q2⟩ := Post.ofO q1 rel1
  cases dx <;> simp only [asI, Option.bind_none, Option.bind_some] at e <;> try cases e
  rename_i j
  obtain ⟨h1, h2, rfl⟩ := rangeD_some e
  rw [Int.sub_zero] at q2
  refine ⟨j, by rw [R.int.mp r1], by omega, by omega, q2 _ (drives_range 0 j.toNat)⟩
theorem i_range2 (S : Static G nm) (c : In G X N sc k W) {tg a b : Expr} {ma mb : ME} {p pos : Pos} (hg : glS sc "range" = true) (hx : ("range" : Str) ∈ nm.blts) (ha : PE X a (tOf G T W ma)) (hb : PE X b (tOf G T W mb)) (hp : plainE a = true) (hp2 : plainE b = true) :
    PI X tg (.Call (.Name "range" p) [a, b] [] pos) (iOf G T W (.range2 ma mb)) := by
  refine piImp (pi_range2 (gl_of c hg) (by rw [c.mg]; exact S.blts _ hx) (pa_cons ha (pa_cons hb pa_nil (star_of hp2 _ _)) (star_of hp _ _)) (star2 hp hp2 _) (star1 hp2 _)) fun σ H Rr q => ?_
  obtain ⟨z, env, st, rfl, rel, er, q⟩ := q
  refine ⟨z, env, st, rfl, rel, er, (Post.bind (by simpa only [evalI] using q)).imp fun dx st1 z1 e1 rel1 q1 v1 r1 => ?_⟩
  refine ⟨z1, env, st1, rfl, rel1, er.ext e1 rel.wf, (Post.bind q1).imp fun dy st2 z2 e2 rel2 q2 v2 r2 => ?_⟩
  obtain ⟨ds, e, q3⟩ := Post.ofO q2 rel2
  cases dx <;> simp only [asI, Option.bind_none, Option.bind_some] at e <;> try cases e
  cases dy <;> simp only [asI, Option.bind_none, Option.bind_some] at e <;> try cases e
  rename_i i j
  obtain ⟨h1, h2, rfl⟩ := rangeD_some e
  refine ⟨i, j, by rw [R.int.mp r1, R.int.mp r2], ⟨by omega, by omega, by omega, by omega⟩, q3 _ (drives_range i _)⟩
theorem i_enum (S : Static G nm) (c : In G X N sc k W) {elts : List Expr} {kk : Nat} {tpos : Pos} {e : Expr} {m : ME} {p pos : Pos} (hg : glS sc "enumerate" = true) (hx : ("enumerate" : Str) ∈ nm.blts) (h : PE X e (tOf G T W m)) (hp : plainE e = true) :
    PI X (.Tuple elts kk tpos) (.Call (.Name "enumerate" p) [e] [] pos) (iOf G T W (.enum m)) := by
  refine piImp (pi_enum (gl_of c hg) (by rw [c.mg]; exact S.blts _ hx) (pa_cons h pa_nil (star_of hp _ _)) (star1 hp _)) fun σ H Rr q => ?_
  obtain ⟨z, env, st, rfl, rel, er, q⟩ := q
  refine ⟨z, env, st, rfl, rel, er, (Post.bind (by simpa only [evalI] using q)).imp fun dx st1 z1 e1 rel1 q1 v1 r1 => ?_⟩
  obtain ⟨ds, e, q2⟩ := Post.ofO q1 rel1
  cases dx <;> simp only [itemsL, Option.map_none, Option.map_some] at e <;> try cases e
  simp only [R] at r1
  obtain ⟨a, vs, rfl, h, rs⟩ := r1
  exact ⟨a, vs, rfl, by rw [c.K]; exact SqL.of h.2, by rw [c.K]; exact q2 _ (drives_enum h rs)⟩
theorem i_zip (S : Static G nm) (c : In G X N sc k W) {elts : List Expr} {kk : Nat} {tpos : Pos} {a b : Expr} {ma mb : ME} {p pos : Pos} (hg : glS sc "zip" = true) (hx : ("zip" : Str) ∈ nm.blts) (ha : PE X a (tOf G T W ma)) (hb : PE X b (tOf G T W mb)) (hp : plainE a = true) (hp2 : plainE b = true) :
    PI X (.Tuple elts kk tpos) (.Call (.Name "zip" p) [a, b] [] pos) (iOf G T W (.zip ma mb)) := by
  refine piImp (pi_zip (gl_of c hg) (by rw [c.mg]; exact S.blts _ hx) (pa_cons ha (pa_cons hb pa_nil (star_of hp2 _ _)) (star_of hp _ _)) (star_of hp _ _) (backTo_any _ _ (by simp [plains, hp2]))) fun σ H Rr q => ?_
  obtain ⟨z, env, st, rfl, rel, er, q⟩ := q
  refine ⟨z, env, st, rfl, rel, er, (Post.bind (by simpa only [evalI] using q)).imp fun dx st1 z1 e1 rel1 q1 v1 r1 => ?_⟩
  refine ⟨z1, env, st1, rfl, rel1, er.ext e1 rel.wf, (Post.bind q1).imp fun dy st2 z2 e2 rel2 q2 v2 r2 => ?_⟩
  obtain ⟨ds, e, q3⟩ := Post.ofO q2 rel2
  cases dx <;> simp only [itemsL, Option.bind_none, Option.bind_some, Option.map_none, Option.map_some] at e <;> try cases e
  cases dy <;> simp only [itemsL, Option.bind_none, Option.bind_some, Option.map_none, Option.map_some] at e <;> try cases e
  simp only [R] at r1 r2
  obtain ⟨a, vs, rfl, h, rs⟩ := r1
  obtain ⟨b, ws, rfl, h', rs'⟩ := r2
  have k := e2.keep rel1.wf
  have h1 : z2.F a ∧ z2.H a = some (.lst vs) := ⟨k.f a h.1, k.h a _ h.1 h.2⟩
  exact ⟨a, b, vs, ws, rfl, by rw [c.K]; exact SqL.of h1.2, by rw [c.K]; exact SqL.of h'.2, by rw [c.K]; exact q3 _ (drives_zip h1 (rs.ext e2 rel1.wf) h' rs')⟩
end
end Fw

set_option Elab.async false
set_option linter.all false
set_option maxRecDepth 100000
set_option autoImplicit false
set_option maxHeartbeats 1000000
/-! Fw8: list comprehensions; an exception may leave. -/
namespace Fw
open PySem PySem.Spec PyProof.Rows L2

section
variable {X : Cx}
/-- the block's contexts -/
def BlkX (X : Cx) (scope : Scope) (W' : WX) (Xb : Cx) : Prop :=
  ∃ (s : Shared) (H : Hp) (C : Addr) (cl : List (Str × Addr)) (fp : List Addr) (E : Value → Shared → Prop), Xb = (X.blk s H scope (compEnvC scope cl C X.env) fp).wish E ∧ TakesF Xb W'
theorem pts1 {c : Expr} {t : TT} (h : PT X c t) : PTs X [c] t := pts_one h
/-- as HandS's rule of one clause, but what the block lets out is passed on -/
theorem lcF_core {W : WX} {pins : List (Addr × Obj)} {s : Shared} {σ : St} {H : Hp} {Q : VK} {elt tg iter : Expr} {ifs : List Expr} {scope : Scope} {own : List (Str × Nat)} {pos pos' : Pos} {wi : TI} {g : TG} {tt : TT} {te : TE} {use : Option (Value → Sem Unit)} {Qf : Value → Shared → Prop}
    (hc : X.calm = true) (hN : X.N.Nodup) (I : L2.Inv X pins σ H s) (hi : PI X tg iter wi) (ok : BlkOk X.N X.env.scope scope own) (tk : TakesF X W) (hfr : FrOk X)
    (hb : ∀ Xb, BlkX X scope (fun cls d _ H => W cls d σ H) Xb → PG Xb tg g ∧ PTs Xb ifs tt ∧ PE Xb elt te) (hs : ∀ x, foldedSetIterable iter X.env x = pure x)
    (h : tLc wi g tt te (own.map (·.2)) σ H Q)
    (hRR : ∀ D C s' m H', L2.Inv X pins σ H' s' → Q (.ref D) H' → s'.heap.Ns C m → FpOk X pins H' C → compPost (model X.prog X.w) X.A X.xe use Qf (.ref D) C (.ok .next) s') :
    wpAny (model X.prog X.w) X.A (comprehension (.ListComp elt [⟨tg, iter, ifs, 0⟩] scope pos) scope X.env pos' (newList []) false (eval iter X.env) use) Qf X.xe s := by
  have capt : ∀ y ∈ scope.names, y.2 = .free → ∃ c, X.env.cells.lookup y.1 = some c := fun y hy e => (ok.free y hy e).elim (fun q => I.ok.has _ (.inl q)) fun q => I.ok.has _ (.inr q)
  refine wpAny_comprehension_free (use := use) rfl hs (closure_ok capt) ok.kind (fun y hy e => by rw [← e]; exact ok.uniq y hy) ?_
  refine thn (hi.run pins s σ H _ I h) fun xv s1 hx => thn hx fun itv s2 h2 => ?_
  obtain ⟨it, fp, tn, J, H2, rfl, I2, T, st2, f2, q⟩ := h2
  refine wpAny_newObj_type (newEnv_comp ?_) (show 0 ≤ sizeLine by decide)
  obtain ⟨D, hD⟩ : ∃ D, D = s2.heap.objs.size := ⟨_, rfl⟩
  rw [← hD]
  obtain ⟨W0, ⟨m0, w0⟩, turn⟩ := q D (I2.hok.fresh (Nat.le_of_eq hD.symm))
  obtain ⟨s3, hs3⟩ : ∃ s3 : Shared, s3 = { s2 with heap := s2.heap.push { cls := .type "list", data := .seq ([] : List Value).toArray } } := ⟨_, rfl⟩
  obtain ⟨H3, hH3⟩ : ∃ H3, H3 = upd H2 D (.lst []) := ⟨_, rfl⟩
  have grow : ∀ b o, s2.heap.get? b = some o → s3.heap.get? b = some o := fun b o e => by rw [hs3]; exact Heap.get?_push_of_some _ e
  have size3 : s3.heap.objs.size = s2.heap.objs.size + 1 := by rw [hs3]; exact Heap.size_push ..
  have I3 : L2.Inv X pins σ H3 s3 := by
    rw [hH3, hs3]
    refine I2.laid (t' := s2.toks) (fun b o e => Heap.get?_push_of_some _ e) (Nat.le_of_eq hD.symm) ⟨Nat.zero_le _, [], 0, .nil, ?_⟩
    rw [hD]
    exact Heap.get?_push_size _ rfl
  rw [← hs3]
  have f3 : ∀ b ∈ fp, FpOk X pins H3 b ∧ b < s3.heap.objs.size := fun b hb => by
    obtain ⟨o, e, _⟩ := T.obj _ _ st2 b hb
    have lt := Heap.lt_size e
    refine ⟨⟨?_, (f2 b hb).2⟩, by rw [size3]; exact Nat.lt_succ_of_lt lt⟩
    rw [hH3, upd_ne (by rw [hD]; exact Nat.ne_of_lt lt)]
    exact (f2 b hb).1
  have I4 := block_start I3 ok hN f3
  obtain ⟨ce, hce⟩ : ∃ ce, ce = compEnvC scope (cellsFrom (s3.heap.objs.size + 1) scope.names (cloFrom X.env.cells scope.names [])) s3.heap.objs.size X.env := ⟨_, rfl⟩
  have cL : ce.locals = s3.heap.objs.size := by rw [hce]; rfl
  obtain ⟨s4, hs4⟩ : ∃ s4 : Shared, s4 = { s3 with heap := pushCells (s3.heap.push { cls := .type "dict", data := .dict #[] }) scope.names } := ⟨_, rfl⟩
  show codeAny _ _ (.compStart (.ListComp elt [⟨tg, iter, ifs, 0⟩] scope pos) 0 (.ref it) (.ref D) (compEnvC scope (cellsFrom (s3.heap.objs.size + 1) scope.names (cloFrom X.env.cells scope.names [])) s3.heap.objs.size X.env)) (compPost (model X.prog X.w) X.A X.xe use Qf (.ref D) s3.heap.objs.size) { s3 with heap := pushCells (s3.heap.push { cls := .type "dict", data := .dict #[] }) scope.names }
  rw [← hce, ← hs4, ← cL]
  rw [← hce, ← hs4] at I4
  have I4' := I4.wish (blkE X use Qf (.ref D) ce)
  -- the block's context
  obtain ⟨e0, o0, L, f1, f2', f3'⟩ := hfr
  have tb : TakesF ((X.blk s3 H3 scope ce fp).wish (blkE X use Qf (.ref D) ce)) (fun cls d _ H => W cls d σ H) :=
    blk_takes tk I3 (fun b hb => (f3 b hb).1) (by rw [cL]; exact Nat.le_refl _) f1 f2' (by rw [hce]; exact f3')
  obtain ⟨pg, pt, pe⟩ := hb _ ⟨s3, H3, s3.heap.objs.size, _, fp, _, by rw [hce], tb⟩
  have hXe : ((X.blk s3 H3 scope ce fp).wish (blkE X use Qf (.ref D) ce)).xe = notedBy (model X.prog X.w) X.A ce fun e s' => compPost (model X.prog X.w) X.A X.xe use Qf (.ref D) ce.locals (.error e) s' := rfl
  have st4 : tn 0 s4.heap := T.keep _ _ _ (T.keep _ _ _ st2 fun b _ o e => grow b o e) fun b _ o e => by rw [hs4]; exact pushCells_keeps _ _ _ _ (Heap.get?_push_of_some _ e)
  obtain ⟨Xb, hXb⟩ : ∃ Xb, Xb = (X.blk s3 H3 scope ce fp).wish (blkE X use Qf (.ref D) ce) := ⟨_, rfl⟩
  have n4 : ∀ b ∈ fp, H3 b = none := fun b hb => (f3 b hb).1.1
  rw [← hH3] at w0
  have stat : ∀ {σ' : St} {H' : Hp} {s' : Shared}, L2.Inv ((X.blk s3 H3 scope ce fp).wish (blkE X use Qf (.ref D) ce)) [] σ' H' s' → (∀ b ∈ fp, H' b = none) → ∀ b ∈ fp, FpOk ((X.blk s3 H3 scope ce fp).wish (blkE X use Qf (.ref D) ce)) [] H' b := fun {σ' H' s'} I' hn b hb =>
    ⟨hn b hb, (I'.ok.exf b hb).1, I'.ok.exfs b hb, .inl hb, fun x c e => (I'.ok.exf b hb).2 x c e, fun p hp => absurd (show p ∈ ([] : List (Addr × Obj)) ++ [] from hp) (by simp)⟩
  have loop : codeAny (model X.prog X.w) X.A (.compLoop (.ListComp elt [⟨tg, iter, ifs, 0⟩] scope pos) 0 (.ref it) (.ref D) ce) (compPost (model X.prog X.w) X.A X.xe use Qf (.ref D) ce.locals) s4 := by
    refine compLoop_any (fun n s' => ∃ i H', L2.Inv ((X.blk s3 H3 scope ce fp).wish (blkE X use Qf (.ref D) ce)) [] (wipe σ (own.map (·.2))) H' s' ∧ tn i s'.heap ∧ (∀ b ∈ fp, H' b = none) ∧ W0 i n H') ?_ m0 ⟨0, H3, I4', st4, n4, w0⟩
    rintro n s5 ⟨i, H5, I5, st5, n5, w5⟩
    rcases turn i n H5 w5 with ⟨stop, qq⟩ | ⟨go, Nx, hNx, step⟩
    · refine thn (T.done ((X.blk s3 H3 scope ce fp).wish (blkE X use Qf (.ref D) ce)) rfl rfl rfl hc i [] s5 _ H5 _ I5 (stat I5 n5) st5 stop) fun r s6 ⟨hr, I6⟩ => ?_
      subst hr
      have I7 : L2.Inv X pins σ H5 s6 := I3.call' (ch := fp) I6.os I6.base I6.hok I6.bare fun b hb => ⟨(f3 b hb).1.2.2.2.1, (f3 b hb).1.2.1, (f3 b hb).1.2.2.2.2.1, (f3 b hb).1.2.2.2.2.2⟩
      have nC : H5 ce.locals = none := I6.free
      obtain ⟨m, hn, _⟩ := I6.loc
      exact hRR D ce.locals s6 m H5 I7 qq hn (I3.fpOk (by rw [cL]; exact Nat.le_refl _) nC)
    · refine thn (T.item ((X.blk s3 H3 scope ce fp).wish (blkE X use Qf (.ref D) ce)) rfl rfl rfl hc i [] s5 _ H5 _ I5 (stat I5 n5) st5 go) fun r s6 ⟨u, hr, h6⟩ => ?_
      subst hr
      refine thn h6 fun _ s7 ⟨x, H7, I7, r7, y7, st7, n7⟩ => ?_
      have I7' := I7.pinned (stat I7 n7) (T.obj _ _ st7)
      refine thn (pg.run _ s7 _ H7 x u _ I7' r7 (step x H7 y7)) fun _ s8 ⟨σ8, H8, I8, hw8, q8⟩ => ?_
      refine thn (pt.run _ s8 σ8 H8 _ I8 q8) fun b s9 ⟨H9, I9, q9⟩ => ?_
      have fin : ∀ {s' : Shared} {H' : Hp}, L2.Inv ((X.blk s3 H3 scope ce fp).wish (blkE X use Qf (.ref D) ce)) ([] ++ pinsAt fp s7.heap) σ8 H' s' → Nx H' → ∃ m, m < n ∧ ∃ i H', L2.Inv ((X.blk s3 H3 scope ce fp).wish (blkE X use Qf (.ref D) ce)) [] (wipe σ (own.map (·.2))) H' s' ∧ tn i s'.heap ∧ (∀ b ∈ fp, H' b = none) ∧ W0 i m H' := fun {s' H'} I' nx => by
        obtain ⟨m', hm, w'⟩ := hNx H' nx
        have pin' : ∀ b ∈ fp, ∀ o, s7.heap.get? b = some o → s'.heap.get? b = some o ∧ H' b = none := fun b hb o e =>
          ⟨(I'.pin (b, o) (List.mem_append_right _ (List.mem_append_right _ (mem_pinsAt hb e)))).1, (I'.pin (b, o) (List.mem_append_right _ (List.mem_append_right _ (mem_pinsAt hb e)))).2.1⟩
        refine ⟨m', hm, i + 1, H', (I'.unpinned (pins := [])).weak (by rw [← hw8, wipe_length]) (fun j v e => ?_), T.keep _ _ _ st7 fun b hb o e => (pin' b hb o e).1, fun b hb => ?_, w'⟩
        · rw [← hw8] at e; exact (wipe_some e).1
        · obtain ⟨o, e, _⟩ := T.obj _ _ st7 b hb
          exact (pin' b hb o e).2
      cases b with
      | false =>
        simp only [Bool.false_eq_true, if_false] at q9 ⊢
        exact fin I9 q9
      | true =>
        simp only [if_true] at q9 ⊢
        refine thn (pe.run _ s9 σ8 H9 _ I9 q9) fun z s10 ⟨yv, H10, I10, r10, acc, hD10, hz10, nx⟩ => ?_
        exact app_ok (X := (X.blk s3 H3 scope ce fp).wish (blkE X use Qf (.ref D) ce)) I10 hD10 hz10 r10 fun s11 I11 => fin I11 nx
  exact codeAny_compStart_list loop (T.self X.A 0 _ _ _ st4 loop)
end

theorem Out.bind_assoc {α β γ : Type} (o : Out α) (f : α → Store → Out β) (g : β → Store → Out γ) : (o.bind f).bind g = o.bind fun a st => (f a st).bind g := by cases o <;> rfl
/-- a clause's tests -/
def ttOf (G : Gd) (T : List FT) (W : WX) : MEs → TT
  | .nil => tYes
  | .cons e .nil => tTof G T W e
  | .cons _ (.cons _ _) => fun _ _ _ => False
section
variable {G : Gd} {nm : Nm} {X : Cx} {N : List Str} {sc : Scope} {k : Nat} {W : WX} {T : List FT}
theorem tt_run {W' : WX} {cs : MEs} {z0 z : Z} {env : Env} {st : Store} {σ σ' : St} {α : Type} {f : Bool → Store → Out α} {kk : α → Store → Z → Prop} {Qb : Bool → Hp → Prop} (hW : ∀ cls d H, W' cls d σ' H ↔ W cls d σ H) (rel : Rel G z st) (er : EnvR G z env σ') (e0 : Ext z0 z)
    (q : Post G z0 σ W ((evalA1 G.pg T cs env st).bind f) kk) (h : ∀ b st' z', Ext z z' → Rel G z' st' → Post G z0 σ W (f b st') kk → Qb b z'.H) : ttOf G T W' cs σ' z.H Qb := by
  cases cs with
  | nil =>
    simp only [evalA1, Out.bind_ok] at q
    exact h true st z (Ext.refl z) rel q
  | cons e r =>
    cases r with
    | cons _ _ => simp only [evalA1, Out.bind_bad] at q; exact q.elim
    | nil =>
      simp only [evalA1, Out.bind_assoc] at q
      refine ⟨z, env, st, rfl, rel, er, ?_⟩
      have q1 := Post.bind0 q
      cases ho : evalE G.pg T e env st with
      | bad => rw [ho] at q1; exact q1.elim
      | exc x st1 =>
        rw [ho] at q1
        exact fun z' cls dd e' r' x' => (hW _ _ _).mpr (q1 z' cls dd (e0.trans e') r' x')
      | ok d st1 =>
        rw [ho] at q1
        intro z' e' rel'
        have q2 := q1 z' (e0.trans e') rel'
        cases d <;> simp only [asB, Out.ofO, Out.bind_bad, Out.bind_ok] at q2 <;> try exact q2.elim
        exact ⟨_, rfl, h _ st1 z' e' rel' q2⟩
theorem Post.w {W' : WX} {z : Z} {σ σ' : St} {α : Type} {o : Out α} {kk : α → Store → Z → Prop} (hW : ∀ cls d H, W' cls d σ' H ↔ W cls d σ H) (q : Post G z σ W o kk) : Post G z σ' W' o kk := by
  cases o with
  | ok a st => exact q
  | bad => exact q
  | exc e st => exact fun z' cls dd e' r' x' => (hW _ _ _).mpr (q z' cls dd e' r' x')
theorem comp_run {W' : WX} {t : Tg} {elt : ME} {it : MI} {cs : MEs} {z : Z} {env : Env} {st : Store} {σ : St} {Q : VK} (hW : ∀ cls d σ' H, W' cls d σ' H ↔ W cls d σ H) (rel : Rel G z st) (er : EnvR G z env σ)
    (q : Post G z σ W (evalE G.pg T (.comp t elt it cs) env st) fun d _ z' => ∀ v, R G z' d v → Q v z'.H) :
    tLc (iOf G T W it) (gOf G.K t) (ttOf G T W' cs) (tOf G T W' elt) (tgVs t) σ z.H Q := by
  obtain ⟨F, hF, q⟩ : ∃ F : D → Store → Out (Option D), (∀ x st, F x st = match bindTg t x env with
        | some env => (evalA1 G.pg T cs env st).bind fun b st => if b then (evalE G.pg T elt env st).bind fun d st => .ok (some d) st else .ok none st
        | none => .bad) ∧ Post G z σ W ((evalI G.pg T it env st).bind fun xs st => if xs.length ≤ big then (compGo F xs st).bind fun ds st => .ok (.lst ds) st else .bad) fun d _ z' => ∀ v, R G z' d v → Q v z'.H := ⟨_, fun _ _ => rfl, by simp only [evalE] at q; exact q⟩
  refine ⟨z, env, st, rfl, rel, er, (Post.bind q).imp fun xs st1 z1 e1 rel1 q1 J dr D hD => ?_⟩
  have er1 := er.ext e1 rel.wf
  split at q1
  rotate_left
  · exact q1.elim
  rename_i hbig
  refine ⟨fun i m H => ∃ z2 st2 ds acc, m = xs.length - i ∧ i ≤ xs.length ∧ z2.H = H ∧ Ext z1 z2 ∧ Rel G z2 st2 ∧ Alone z2 D ∧ z2.H D = some (.lst acc) ∧ Rs G z2 ds acc ∧ acc.length ≤ i ∧
    Post G z1 σ W ((compGo F (xs.drop i) st2).bind fun ds' st => .ok (.lst (ds ++ ds')) st) fun d _ z' => ∀ v, R G z' d v → Q v z'.H, ⟨xs.length, z1.put D (.lst []), st1, [], [], by simp, Nat.zero_le _, rfl, (Ext.refl z1).put hD, rel1.put' (rel1.notF hD) (rel1.notIn hD),
      Alone.new rel1 hD (by simp), upd_same, Rs.nil.mpr rfl, Nat.le_refl _, by simpa using q1⟩, ?_⟩
  rintro i m H ⟨z2, st2, ds, acc, rfl, hi, rfl, e2, rel2, al, hH, rs, hacc, p⟩
  by_cases hlt : i < xs.length
  · refine .inr ⟨dr.go i z2 (e2.keep rel1.wf) hlt, fun H' => ∃ m', m' < xs.length - i ∧ ∃ z2 st2 ds acc, m' = xs.length - (i + 1) ∧ i + 1 ≤ xs.length ∧ z2.H = H' ∧ Ext z1 z2 ∧ Rel G z2 st2 ∧ Alone z2 D ∧ z2.H D = some (.lst acc) ∧ Rs G z2 ds acc ∧ acc.length ≤ i + 1 ∧
    Post G z1 σ W ((compGo F (xs.drop (i + 1)) st2).bind fun ds' st => .ok (.lst (ds ++ ds')) st) fun d _ z' => ∀ v, R G z' d v → Q v z'.H, fun H' h => h, fun x H' hy => ?_⟩
    obtain ⟨z3, rfl, e3, rel3, r3⟩ := dr.yld i xs[i] z2 st2 x H' (e2.keep rel1.wf) rel2 (List.getElem?_eq_getElem hlt) hy
    rw [List.drop_eq_getElem_cons hlt] at p
    unfold compGo at p
    rw [Out.bind_assoc, hF] at p
    have er3 := (er1.ext e2 rel1.wf).ext e3 rel2.wf
    cases hbt : bindTg t xs[i] env with
    | none => rw [hbt] at p; exact p.elim
    | some env' =>
      rw [hbt] at p
      simp only [] at p
      rw [Out.bind_assoc] at p
      refine gOf_run hbt r3 (er3.wiped (tgVs t)) fun σ' e' w => ⟨by rw [w _ fun _ h => h, wipe_wipe], ?_⟩
      refine tt_run (fun cls d H => hW cls d σ' H) rel3 e' (e2.trans e3) p fun b st4 z4 e4 rel4 p4 => ?_
      have al4 := (al.ext e3).1.ext e4
      have hH4 := al4.2 _ ((al.ext e3).2 _ hH)
      have rs4 := (rs.ext e3 rel2.wf).ext e4 rel3.wf
      cases b with
      | false =>
        simp only [Bool.false_eq_true, if_false, Out.bind_ok] at p4 ⊢
        refine ⟨_, by omega, z4, st4, ds, acc, rfl, hlt, rfl, (e2.trans e3).trans e4, rel4, al4.1, hH4, rs4, by omega, ?_⟩
        rw [Out.bind_assoc] at p4
        exact p4
      | true =>
        simp only [if_true, Out.bind_assoc] at p4 ⊢
        refine ⟨z4, env', st4, rfl, rel4, e'.ext e4 rel3.wf, ((Post.w (fun cls d H => hW cls d σ' H) (Post.bind0 p4)).later ((e2.trans e3).trans e4)).imp fun d st5 z5 e5 rel5 p5 v5 r5 => ?_⟩
        have al5 := al4.1.ext e5
        refine ⟨acc, al5.2 _ hH4, by rw [← big_eq]; omega, _, by omega, z5.put D (.lst (acc ++ [v5])), st5, ds ++ [d], acc ++ [v5], rfl, hlt, rfl, (((e2.trans e3).trans e4).trans e5).put hD, rel5.put al5.1, al5.1.put (by simp), upd_same, ?_, by simp; omega, ?_⟩
        · exact Rs.keep (Keep.put al5.1.nf) _ _ ((rs4.ext e5 rel4.wf).app (Rs.mk _ _ r5 (Rs.nil.mpr rfl)))
        · simp only [Out.bind_ok] at p5
          simp only [List.append_assoc, List.singleton_append]
          exact p5
  · have ei : i = xs.length := by omega
    subst ei
    refine .inl ⟨dr.stop z2 (e2.keep rel1.wf), ?_⟩
    rw [List.drop_length] at p
    simp only [compGo, Out.bind_ok, List.append_nil] at p
    refine p (z2.fix D) (e2.fix hD) (rel2.fix al) _ ?_
    simp only [R]
    exact ⟨D, acc, rfl, ⟨.inr rfl, hH⟩, Rs.keep (Keep.fix z2 D) _ _ rs⟩
end
end Fw

set_option Elab.async false
set_option linter.all false
set_option maxRecDepth 100000
set_option autoImplicit false
set_option maxHeartbeats 1000000
/-! Fw9: further built-ins; targets and blocks checked; the comprehension as an expression. -/
namespace Fw
open PySem PySem.Spec PyProof.Rows L2
section
variable {G : Gd} {nm : Nm} {X : Cx} {N : List Str} {sc : Scope} {k : Nat} {W : WX} {T : List FT}

/-! ### dicts made -/
theorem pairs_R {z : Z} (hK : X.K = G.K) : ∀ {ds : List D} {kvs : List (Txt × D)} {vs : List V}, pairsOf ds = some kvs → Rs G z ds vs →
    ∃ (ps : List Addr) (ws : List (Key × V)), vs = ps.map V.ref ∧ Paired (fun p kv => SqT X.K z.H p [kV kv.1, kv.2]) ps ws ∧ RK G z kvs ws
  | [], kvs, vs, e, h => by
    simp only [pairsOf, Option.some.injEq] at e
    subst e
    rw [Rs.nil.mp h]
    exact ⟨[], [], rfl, .nil, by simp only [RK]⟩
  | d :: r, kvs, vs, e, h => by
    unfold pairsOf at e
    split at e
    · cases ‹_ :: _ = []›
    · rename_i kk d' r' e0
      cases e0
      obtain ⟨kr, er, rfl⟩ := Option.map_eq_some_iff.mp e
      simp only [Rs] at h
      obtain ⟨v, vr, rfl, hv, hr⟩ := h
      obtain ⟨ps, ws, rfl, hp, hk⟩ := pairs_R hK er hr
      simp only [R] at hv
      obtain ⟨a, xs, rfl, ha, hxs⟩ := hv
      obtain ⟨x1, x2, rfl, h1, h2⟩ := hxs.two
      obtain ⟨rfl, ok⟩ := R.str.mp h1
      refine ⟨a :: ps, (kOf kk, x2) :: ws, rfl, .cons ?_ hp, ?_⟩
      · rw [hK]
        rcases ha with ⟨_, ha⟩ | ha
        · exact SqT.of ha
        · exact .inr ha
      · simp only [RK]
        exact ⟨x2, ws, rfl, ok, h2, hk⟩
    · cases e
theorem RK.kOfs {z : Z} : ∀ {kvs : List (Txt × D)} {ws : List (Key × V)}, RK G z kvs ws → ws.map (·.1) = (kvs.map (·.1)).map kOf
  | [], ws, h => by
    simp only [RK] at h
    rw [h]; rfl
  | (x, d) :: r, ws, h => by
    simp only [RK] at h
    obtain ⟨v, w, rfl, _, _, h⟩ := h
    simp only [List.map_cons]
    rw [RK.kOfs h]
theorem R.newD {z : Z} {st : Store} {kvs : List (Txt × D)} {ws : List (Key × V)} (rel : Rel G z st) (rr : RK G z kvs ws) {p : Addr} (np : z.H p = none) : R G (z.new p (.dK ws)) (.dic kvs) (.ref p) := by
  simp only [R]
  exact ⟨p, _, rfl, ⟨z.new_F p _, z.new_at p _⟩, RK.keep ((Ext.new np).keep rel.wf) _ _ rr⟩
theorem b_dictPairs (o : On G X) : CallR X (.type "dict") (rBl G bDictPairs) := by
  refine CallR.mk' fun pins s σ z st vs us Q ds d I r rel rs e q => ?_
  unfold bDictPairs at e
  split at e
  · rename_i xs
    obtain ⟨v, rfl, h⟩ := rs.one
    obtain ⟨kvs, e1, e⟩ := Option.bind_eq_some_iff.mp e
    split at e <;> cases e
    rename_i nd
    simp only [R] at h
    obtain ⟨a, ys, rfl, ⟨_, ha⟩, hys⟩ := h
    obtain ⟨ps, ws, rfl, hp, hk⟩ := pairs_R o.K e1 hys
    refine call_dictP o.calm pins s σ z.H _ us Q I r ⟨a, ps, ws, rfl, SqL.of ha, hp, fun p np => ?_⟩
    rw [merge_nil (by rw [hk.kOfs]; exact nodup_kOf nd)]
    exact q (z.new p (.dK ws)) _ (Ext.new np) (rel.new np (by simp)) (R.newD rel hk np)
  · cases e
theorem b_dictCopy (o : On G X) : CallR X (.type "dict") (rBl G bDictCopy) := by
  refine CallR.mk' fun pins s σ z st vs us Q ds d I r rel rs e q => ?_
  unfold bDictCopy at e
  split at e
  · rename_i kvs
    cases e
    obtain ⟨v, rfl, h⟩ := rs.one
    simp only [R] at h
    obtain ⟨a, ws, rfl, ⟨_, ha⟩, hk⟩ := h
    refine call_dictD pins s σ z.H _ us Q I r ⟨a, ws, rfl, Rd.of ha, fun p np => ?_⟩
    exact q (z.new p (.dK ws)) _ (Ext.new np) (rel.new np (by simp)) (R.newD rel hk np)
  · cases e
theorem e_lenO (S : Static G nm) (c : In G X N sc k W) {i : Nat} {x y : Str} {p p2 pos : Pos} (hy : y = "len") (hg : glS sc y = true) (hx : y ∈ nm.blts) (h1 : N[i]? = some x) (h2 : visS sc x = true) (h3 : okN x = true) :
    PE X (.Call (.Name y p) [.Name x p2] [] pos) (tOf G T W (.lenO i)) := by
  subst hy
  have hv : PE X (.Name x p2) (tVar i) := pe_var (by rw [c.hN]; exact h1) (by rw [c.hsc]; exact visS_ok h2) (okN_dbg h3) (okN_cd h3)
  refine peImp (pe_callB call_len (gl_of c hg) (by rw [c.mg]; exact S.blts _ hx) boot_len (pa_cons hv pa_nil rfl) (by decide) (by decide) rfl rfl) fun σ H Q q => ?_
  obtain ⟨z, env, st, rfl, rel, er, q⟩ := q
  simp only [evalE] at q
  cases he : env[i]? with
  | none => rw [he] at q; exact q.elim
  | some s =>
    rw [he] at q
    cases s <;> try exact q.elim
    rename_i ds
    obtain ⟨a, vs, hσ, hH, rs, nf, ni⟩ := er.at_ i _ he
    have q1 := Post.ok q rel _ (R.int.mpr rfl)
    rw [← rs.len] at q1
    exact ⟨_, hσ, .ref a, vs.length, rfl, .inl ⟨vs, SqL.of hH, rfl⟩, q1⟩

/-! ### targets, blocks -/
def locS (sc : Scope) (x : Str) : Bool := match sc.names.lookup x with
  | some .local | some .cell => true
  | _ => false
theorem locS_ok {sc : Scope} {x : Str} (h : locS sc x = true) : sc.names.lookup x = some .local ∨ sc.names.lookup x = some .cell := by
  unfold locS at h
  split at h
  · exact .inl (by assumption)
  · exact .inr (by assumption)
  · cases h
def chkNs (N : List Str) (sc : Scope) : List Nat → List Expr → Bool
  | [], [] => true
  | i :: is, .Name x _ :: es => decide (N[i]? = some x) && locS sc x && chkNs N sc is es
  | _, _ => false
def chkTg (N : List Str) (sc : Scope) : Tg → Expr → Bool
  | .one i, .Name x _ => decide (N[i]? = some x) && locS sc x
  | .many is, .Tuple es _ _ => chkNs N sc is es
  | _, _ => false
theorem chkNs_each (env : PySem.Env) {sc : Scope} : ∀ {is : List Nat} {es : List Expr}, chkNs N sc is es = true → (assignEach es env).length = is.length ∧ (assignEach es env).findIdx? (·.1) = none
  | [], [], _ => ⟨rfl, rfl⟩
  | i :: is, .Name x p :: es, h => by
    simp only [chkNs, Bool.and_eq_true] at h
    obtain ⟨h1, h2⟩ := chkNs_each env h.2
    refine ⟨?_, ?_⟩
    · show (assignEach es env).length + 1 = _
      rw [h1]; rfl
    · show List.findIdx? (·.1) ((false, assign (.Name x p) env) :: assignEach es env) = none
      rw [List.findIdx?_cons, h2]
      rfl
  | [], _ :: _, h => by simp [chkNs] at h
  | i :: is, [], h => by simp [chkNs] at h
theorem pgs_of (hN : X.N.Nodup) {sc : Scope} (hl : ∀ x, locS sc x = true → Loc X.env.scope x ∧ (X.fn x = true ∨ X.env.scope.names.lookup x = some .local)) : ∀ {is : List Nat} {es : List Expr}, chkNs X.N sc is es = true → PGs X es (gNames is)
  | [], [], _ => pgs_nil
  | i :: is, .Name x p :: es, h => by
    simp only [chkNs, Bool.and_eq_true, decide_eq_true_eq] at h
    obtain ⟨a, b⟩ := hl x h.1.2
    exact pgs_cons (pg_name hN h.1.1 a b) (pgs_of hN hl h.2) rfl
  | [], _ :: _, h => by simp [chkNs] at h
  | i :: is, [], h => by simp [chkNs] at h
theorem pg_of (hc : X.calm = true) (hN : X.N.Nodup) {sc : Scope} (hl : ∀ x, locS sc x = true → Loc X.env.scope x ∧ (X.fn x = true ∨ X.env.scope.names.lookup x = some .local)) {t : Tg} {tg : Expr} (h : chkTg X.N sc t tg = true) : PG X tg (gOf X.K t) := by
  unfold chkTg at h
  split at h
  · simp only [Bool.and_eq_true, decide_eq_true_eq] at h
    obtain ⟨a, b⟩ := hl _ h.2
    exact pg_name hN h.1 a b
  · obtain ⟨h1, h2⟩ := chkNs_each X.env h
    exact pg_tup hc (pgs_of hN hl h) h1 h2
  · cases h
def ownOf (N : List Str) (t : Tg) : List (Str × Nat) := (tgVs t).map fun i => ((N[i]?).getD "", i)
theorem ownOf_vs (N : List Str) (t : Tg) : (ownOf N t).map (·.2) = tgVs t := by
  unfold ownOf
  rw [List.map_map]
  exact List.map_id _
def blkC (N : List Str) (sc scope : Scope) (t : Tg) : Bool :=
  decide (scope.kind = .function) && (scope.names.all fun y => decide (scope.names.lookup y.1 = some y.2)) && (tgVs t).all (fun i => (N[i]?).isSome) &&
    (scope.names.all fun y => decide (y.2 ≠ .free) || decide (sc.names.lookup y.1 = some .cell) || decide (sc.names.lookup y.1 = some .free)) &&
    (scope.names.all fun y => (decide (y.2 ≠ .local) && decide (y.2 ≠ .cell)) || ((ownOf N t).any fun p => decide (p.1 = y.1)) || !(N.any fun x => decide (x = y.1)))
theorem blk_of {N : List Str} {sc scope : Scope} {t : Tg} (h : blkC N sc scope t = true) : BlkOk N sc scope (ownOf N t) := by
  simp only [blkC, Bool.and_eq_true, decide_eq_true_eq, List.all_eq_true, Bool.or_eq_true, Bool.not_eq_true'] at h
  obtain ⟨⟨⟨⟨h1, h2⟩, h3⟩, h4⟩, h5⟩ := h
  refine ⟨h1, h2, fun p hp => ?_, fun y hy e => ?_, fun y hy e => ?_⟩
  · obtain ⟨i, hi, rfl⟩ := List.mem_map.mp hp
    obtain ⟨x, hx⟩ := Option.isSome_iff_exists.mp (h3 i hi)
    simp [hx]
  · rcases h4 y hy with (q | q) | q
    · exact absurd e q
    · exact .inl q
    · exact .inr q
  · rcases h5 y hy with (q | q) | q
    · rcases e with e | e
      · exact absurd e q.1
      · exact absurd e q.2
    · obtain ⟨p, hp, q⟩ := List.any_eq_true.mp q
      exact .inl (List.mem_map.mpr ⟨p, hp, by simpa using q⟩)
    · refine .inr fun hm => ?_
      have : (N.any fun x => decide (x = y.1)) = true := List.any_eq_true.mpr ⟨y.1, hm, by simp⟩
      rw [q] at this; cases this
theorem fold_of {e : Expr} (h : plainE e = true) (env : PySem.Env) (x : Value) : foldedSetIterable e env x = pure x := by
  cases e <;> first | rfl | cases h
/-- the context of a block is a context of ours -/
theorem In.blk (c : In G X N sc k W) {scope : Scope} {W' : WX} {Xb : Cx} (h : BlkX X scope W' Xb) : In G Xb N (relS scope sc) k W' := by
  obtain ⟨s, H, C, cl, fp, E, rfl, tk⟩ := h
  refine ⟨⟨c.P, c.w, c.K, c.mg, c.base, c.calm, c.room⟩, c.hN, c.nd, ?_, c.rm, c.fr, tk⟩
  show relabel scope X.env = relS scope sc
  rw [← c.hsc]
  rfl
theorem blk_tg (c : In G X N sc k W) {scope : Scope} {W' : WX} {Xb : Cx} (h : BlkX X scope W' Xb) {t : Tg} {tg : Expr} (ht : chkTg N scope t tg = true) : PG Xb tg (gOf G.K t) := by
  have cb := c.blk h
  rw [← cb.K]
  obtain ⟨s, H, C, cl, fp, E, rfl, tk⟩ := h
  refine pg_of cb.calm (by rw [cb.hN]; exact cb.nd) (sc := scope) (fun x hx => ?_) (by rw [cb.hN]; exact ht)
  rcases locS_ok hx with q | q
  · have q' : (relabel scope X.env).names.lookup x = some .local := lookup_relabel_local q
    exact ⟨.inl q', .inr q'⟩
  · have q' : (relS scope X.env.scope).names.lookup x = some .cell := lookup_relS_keep (by simp) q
    exact ⟨.inr q', .inl (by show (scope.names.lookup x == some NameKind.cell) = true; rw [q]; rfl)⟩
/-- [elt for target in iter ..] -/
theorem e_comp (c : In G X N sc k W) {t : Tg} {elt : ME} {it : MI} {cs : MEs} {e tg iter : Expr} {ifs : List Expr} {scope : Scope} {pos : Pos} (hb : blkC N sc scope t = true) (ht : chkTg N scope t tg = true) (hi : PI X tg iter (iOf G T W it)) (hp : plainE iter = true)
    (h : ∀ Xb W', In G Xb N (relS scope sc) k W' → PTs Xb ifs (ttOf G T W' cs) ∧ PE Xb e (tOf G T W' elt)) : PE X (.ListComp e [⟨tg, iter, ifs, 0⟩] scope pos) (tOf G T W (.comp t elt it cs)) := by
  refine ⟨fun pins s σ H Q I q => ?_⟩
  obtain ⟨z, env, st, rfl, rel, er, q⟩ := q
  rw [eval_ListComp]
  refine lcF_core (W := W) c.calm (by rw [c.hN]; exact c.nd) I hi (by rw [c.hN, c.hsc]; exact blk_of hb) c.tk c.fr (fun Xb hX => ?_) (fun x => fold_of hp _ x)
    (by rw [ownOf_vs]; exact comp_run (W' := fun cls d _ H => W cls d σ H) (fun _ _ _ _ => Iff.rfl) rel er q) fun D C s' m H' I' q hn f => ⟨m, hn, fun h'' sb => ?_⟩
  · have cb := c.blk hX
    obtain ⟨h1, h2⟩ := h Xb _ cb
    exact ⟨blk_tg c hX ht, h1, h2⟩
  · obtain ⟨f0, f1, f2, f3, f4, f5⟩ := f
    exact ⟨.ref D, H', I'.turned (t' := s'.toks) (fun b o hb e => (sb.2 b hb).trans e) f0 f1 f3 f4 f5, rfl, q⟩
end
end Fw

set_option Elab.async false
set_option linter.all false
set_option maxRecDepth 100000
set_option autoImplicit false
set_option maxHeartbeats 4000000
/-! Fw10: the checker of expressions: a tree of the program against a tree of ours. -/
namespace Fw
open PySem PySem.Spec PyProof.Rows L2

structure Ck where
  nm : Nm
  pg : Pg
  N : List Str
/-- a global name that no scope hides -/
def ckG (sc : Scope) (x : Str) : Bool := glS sc x && okN x
def ckB (C : Ck) (sc : Scope) (x : Str) : Bool := glS sc x && okN x && (C.nm.blts.any fun y => decide (y = x))
def ckV (C : Ck) (sc : Scope) (i : Nat) (x : Str) : Bool := decide (C.N[i]? = some x) && visS sc x && okN x
def noIni (C : Ck) (f : Nat) : Bool := ((C.pg.defs[f]?).bind (·.ini)).isNone
def litC : D → Const → Bool
  | .non, .none => true
  | .bl a, .bool b => a == b
  | .int a, .int b => decide (a = b)
  | .str t, .str s => decide (sOf t = s) && okT t
  | _, _ => false
/-- built-in functions of one name and plain arguments: is it a type, its name -/
def bltN : Blt → Option (Bool × String)
  | .len => some (false, "len")
  | .abs => some (false, "abs")
  | .min2 => some (false, "min")
  | .max2 => some (false, "max")
  | .int1 => some (true, "int")
  | .list1 => some (true, "list")
  | .tuple1 => some (true, "tuple")
  | .sum1 => some (false, "sum")
  | .all1 => some (false, "all")
  | .any1 => some (false, "any")
  | .min1 => some (false, "min")
  | .max1 => some (false, "max")
  | .dictCopy => some (true, "dict")
  | .dictPairs => some (true, "dict")
  | _ => none

mutual
/-- t: it stands as a test -/
def chk (C : Ck) : ME → Bool → Scope → Expr → Bool
  | .var i, _, sc, e => match e with
    | .Name x _ => ckV C sc i x
    | _ => false
  | .lit d, _, _, e => match e with
    | .Constant c _ _ => litC d c
    | _ => false
  | .glob g, _, sc, e => match e with
    | .Name x _ => decide (C.nm.globs[g]? = some x) && ckG sc x
    | _ => false
  | .bin op a b, t, sc, e => match e with
    | .BinOp x o y _ => !t && decide (o = opOf op) && chk C a false sc x && chk C b false sc y
    | _ => false
  | .neg a, t, sc, e => match e with
    | .UnaryOp .USub x _ => !t && chk C a false sc x
    | _ => false
  | .not a, t, sc, e => match e with
    | .UnaryOp .Not x _ => chk C a t sc x
    | _ => false
  | .cmp op a b, _, sc, e => match e with
    | .Compare x [o] [y] _ => decide (o = cmpOf op) && chk C a false sc x && chk C b false sc y && plainE y
    | _ => false
  | .chain a r, _, sc, e => match e with
    | .Compare x ops es _ => (match r with | .more _ _ _ => true | .last _ _ => false) && chk C a false sc x && chkC C r sc ops es
    | _ => false
  | .and es, t, sc, e => match e with
    | .BoolOp .And xs _ => chkB C es t sc xs
    | _ => false
  | .or es, t, sc, e => match e with
    | .BoolOp .Or xs _ => chkB C es t sc xs
    | _ => false
  | .ite c a b, t, sc, e => match e with
    | .IfExp x y z _ => chk C c true sc x && chk C a t sc y && chk C b t sc z
    | _ => false
  | .ix a b, _, sc, e => match e with
    | .Subscript x y _ => chk C a false sc x && chk C b false sc y && plainE y
    | _ => false
  | .ixO i b, _, sc, e => match e with
    | .Subscript (.Name x _) y _ => ckV C sc i x && chk C b false sc y && plainE y
    | _ => false
  | .lenO i, _, sc, e => match e with
    | .Call (.Name y _) [.Name x _] [] _ => decide (y = "len") && ckB C sc y && ckV C sc i x
    | _ => false
  | .slFrom a lo, t, sc, e => match e with
    | .Subscript x (.Slice (some l) none none _) _ => chk C a false sc x && chk C lo false sc l
    | _ => false
  | .slTo a hi, t, sc, e => match e with
    | .Subscript x (.Slice none (some h) none _) _ => chk C a false sc x && chk C hi false sc h
    | _ => false
  | .slBoth a lo hi, t, sc, e => match e with
    | .Subscript x (.Slice (some l) (some h) none _) _ => chk C a false sc x && chk C lo false sc l && chk C hi false sc h
    | _ => false
  | .tup es, t, sc, e => match e with
    | .Tuple xs _ _ => !t && chkEs C es sc xs
    | _ => false
  | .lst es, t, sc, e => match e with
    | .List xs _ => !t && chkEs C es sc xs
    | _ => false
  | .dict ks es, t, sc, e => match e with
    | .Dict keys vals _ => !t && chkK C es ks sc keys vals && decide (keys ≠ []) && decide (keys.length ≤ 15)
    | _ => false
  | .fld a f, _, sc, e => match e with
    | .Attribute x g _ => decide (g = sOf f) && chk C a false sc x && notCall0 x
    | _ => false
  | .call f es, _, sc, e => match e with
    | .Call (.Name x _) xs [] _ => decide (C.nm.fns[f]? = some x) && decide (x ≠ "") && ckG sc x && noIni C f && chkEs C es sc xs
    | _ => false
  | .meth a m es, _, sc, e => match e with
    | .Call (.Attribute x g apos) xs [] pos => decide (g = sOf m) && chk C a false sc x && notCall0 x && chkEs C es sc xs && decide (xs.length < 30) && (apos.endLine == pos.line)
    | _ => false
  | .make c es, _, sc, e => match e with
    | .Call (.Name x _) xs [] _ => decide (C.nm.cls[c]? = some x) && ckG sc x && (C.pg.cls[c]?).isSome && chkEs C es sc xs
    | _ => false
  | .blt (.isinst ty) es, _, sc, e => match e with
    | .Call (.Name x _) [a, .Name y _] [] _ => decide (x = "isinstance") && ckB C sc x && decide (y = Str.ofString (tyN ty)) && ckB C sc y && chkEs C es sc [a]
    | _ => false
  | .blt b es, _, sc, e => match e with
    | .Call (.Name x _) (y :: ys) [] _ => (match bltN b with | some (_, n) => decide (x = Str.ofString n) | none => false) && ckB C sc x && chkEs C es sc (y :: ys)
    | _ => false
  | .bm _ _ _, _, _, _ => false
  | .comp tt elt it cs, t, sc, e => match e with
    | .ListComp x [⟨tg, iter, ifs, a⟩] scope _ => !t && decide (a = 0) && blkC C.N sc scope tt && chkTg C.N scope tt tg && chkI C it sc tg iter && plainE iter && chkCs C cs (relS scope sc) ifs && chk C elt false (relS scope sc) x
    | _ => false
  | .told _, _, _, _ => false
  | .caught _ _, _, _, _ => false
def chkEs (C : Ck) : MEs → Scope → List Expr → Bool
  | .nil, _, es => match es with
    | [] => true
    | _ => false
  | .cons m ms, sc, es => match es with
    | e :: es => chk C m false sc e && plainE e && chkEs C ms sc es
    | [] => false
def chkB (C : Ck) : MEs → Bool → Scope → List Expr → Bool
  | .nil, _, _, _ => false
  | .cons m .nil, t, sc, es => match es with
    | [e] => chk C m t sc e
    | _ => false
  | .cons m (.cons m' ms), t, sc, es => match es with
    | e :: e' :: es => chk C m t sc e && chkB C (.cons m' ms) t sc (e' :: es)
    | _ => false
def chkK (C : Ck) : MEs → List Txt → Scope → List (Option Expr) → List Expr → Bool
  | .nil, ks, _, keys, vals => match ks, keys, vals with
    | [], [], [] => true
    | _, _, _ => false
  | .cons m ms, ks, sc, keys, vals => match ks, keys, vals with
    | k :: ks, some (.Constant (.str s) _ _) :: keys, v :: vals => decide (s = sOf k) && okT k && chk C m false sc v && chkK C ms ks sc keys vals
    | _, _, _ => false
def chkCs (C : Ck) : MEs → Scope → List Expr → Bool
  | .nil, _, es => match es with
    | [] => true
    | _ => false
  | .cons m .nil, sc, es => match es with
    | [e] => chk C m true sc e
    | _ => false
  | .cons _ (.cons _ _), _, _ => false
def chkC (C : Ck) : MC → Scope → List CmpOp → List Expr → Bool
  | .last op m, sc, ops, es => match ops, es with
    | [o], [e] => decide (o = cmpOf op) && chk C m false sc e && plainE e
    | _, _ => false
  | .more op m r, sc, ops, es => match ops, es with
    | o :: ops, e :: es => decide (o = cmpOf op) && chk C m false sc e && plainE e && chkC C r sc ops es
    | _, _ => false
def chkI (C : Ck) : MI → Scope → Expr → Expr → Bool
  | .val m, sc, _, e => chk C m false sc e
  | .range1 m, sc, _, e => match e with
    | .Call (.Name x _) [y] [] _ => decide (x = "range") && ckB C sc x && chk C m false sc y && plainE y
    | _ => false
  | .range2 a b, sc, _, e => match e with
    | .Call (.Name x _) [y, z] [] _ => decide (x = "range") && ckB C sc x && chk C a false sc y && plainE y && chk C b false sc z && plainE z
    | _ => false
  | .enum m, sc, tg, e => match tg, e with
    | .Tuple _ _ _, .Call (.Name x _) [y] [] _ => decide (x = "enumerate") && ckB C sc x && chk C m false sc y && plainE y
    | _, _ => false
  | .zip a b, sc, tg, e => match tg, e with
    | .Tuple _ _ _, .Call (.Name x _) [y, z] [] _ => decide (x = "zip") && ckB C sc x && chk C a false sc y && plainE y && chk C b false sc z && plainE z
    | _, _ => false
end

theorem ckG_ok {sc : Scope} {x : Str} (h : ckG sc x = true) : glS sc x = true ∧ okN x = true := by
  simpa only [ckG, Bool.and_eq_true] using h
theorem ckB_ok {C : Ck} {sc : Scope} {x : Str} (h : ckB C sc x = true) : glS sc x = true ∧ okN x = true ∧ x ∈ C.nm.blts := by
  simp only [ckB, Bool.and_eq_true] at h
  obtain ⟨y, hy, e⟩ := List.any_eq_true.mp h.2
  have : y = x := by simpa using e
  exact ⟨h.1.1, h.1.2, by rw [← this]; exact hy⟩
theorem ckV_ok {C : Ck} {sc : Scope} {i : Nat} {x : Str} (h : ckV C sc i x = true) : C.N[i]? = some x ∧ visS sc x = true ∧ okN x = true := by
  simp only [ckV, Bool.and_eq_true, decide_eq_true_eq] at h
  exact ⟨h.1.1, h.1.2, h.2⟩

section
variable {G : Gd} {C : Ck} {k : Nat}
theorem sim_blt {X : Cx} {sc : Scope} {W : WX} (S : Static G C.nm) (c : In G X C.N sc k W) {T : List FT} {b : Blt} {ty : Bool} {n : String} {y : Expr} {ys : List Expr} {es : MEs} {p pos : Pos} (hb : bltN b = some (ty, n)) (h1 : glS sc (Str.ofString n) = true) (h2 : okN (Str.ofString n) = true) (h3 : Str.ofString n ∈ C.nm.blts)
    (ha : PA X (y :: ys) (tAof G T W es)) (hp : plains (y :: ys) = true) : PE X (.Call (.Name (Str.ofString n) p) (y :: ys) [] pos) (tOf G T W (.blt b es)) := by
  cases b <;> simp only [bltN, Option.some.injEq, Prod.mk.injEq, reduceCtorEq] at hb <;> (obtain ⟨rfl, rfl⟩ := hb)
  · exact e_bltB S c (b_len c.toOn) h1 h3 boot_len h2 ha hp
  · exact e_bltB S c b_abs h1 h3 (by decide +kernel) h2 ha hp
  · exact e_bltB S c (b_min2 c.toOn) h1 h3 boot_min h2 ha hp
  · exact e_bltB S c (b_max2 c.toOn) h1 h3 boot_max h2 ha hp
  · exact e_bltT S c b_int1 h1 h3 (by decide +kernel) h2 ha hp
  · exact e_bltT S c (b_list c.toOn) h1 h3 (by decide +kernel) h2 ha hp
  · exact e_bltT S c (b_tuple c.toOn) h1 h3 (by decide +kernel) h2 ha hp
  · exact e_bltB S c (b_sum c.toOn) h1 h3 boot_sum h2 ha hp
  · exact e_bltB S c (b_all c.toOn) h1 h3 (by decide +kernel) h2 ha hp
  · exact e_bltB S c (b_any c.toOn) h1 h3 (by decide +kernel) h2 ha hp
  · exact e_bltB S c (b_min c.toOn) h1 h3 boot_min h2 ha hp
  · exact e_bltB S c (b_max c.toOn) h1 h3 boot_max h2 ha hp
  · exact e_bltT S c (b_dictCopy c.toOn) h1 h3 (by decide +kernel) h2 ha hp
  · exact e_bltT S c (b_dictPairs c.toOn) h1 h3 (by decide +kernel) h2 ha hp
theorem sim_lit {X : Cx} {W : WX} {T : List FT} {d : D} {cst : Const} {j : Nat} {p : Pos} (h : litC d cst = true) : PE X (.Constant cst j p) (tOf G T W (.lit d)) := by
  unfold litC at h
  split at h
  · exact e_const pe_non fun z => R.non.mpr rfl
  · rw [eq_of_beq h]; exact e_const pe_bl fun z => R.bl.mpr rfl
  · rw [of_decide_eq_true h]; exact e_const pe_int fun z => R.int.mpr rfl
  · simp only [Bool.and_eq_true, decide_eq_true_eq] at h
    obtain ⟨rfl, h⟩ := h
    exact e_const pe_str fun z => R.str.mpr ⟨rfl, h⟩
  · cases h
/-- what a check gives -/
def Sim (G : Gd) (T : List FT) (X : Cx) (W : WX) (t : Bool) (m : ME) (e : Expr) : Prop := PE X e (tOf G T W m) ∧ (t = true → PT X e (tTof G T W m))
theorem Sim.val {T : List FT} {X : Cx} {W : WX} {t : Bool} {m : ME} {e : Expr} (h : PE X e (tOf G T W m)) (he : ∀ whole, isTrue e X.env whole = (do let v ← whole; standAt e.pos; holding [v] (truthy v))) : Sim G T X W t m e := ⟨h, fun _ => t_val h he⟩
theorem Sim.no {T : List FT} {X : Cx} {W : WX} {t : Bool} {m : ME} {e : Expr} (h : PE X e (tOf G T W m)) (ht : (!t) = true) : Sim G T X W t m e := ⟨h, fun q => by rw [q] at ht; cases ht⟩

mutual
theorem sim (S : Static G C.nm) (hpg : C.pg = G.pg) (L : ∀ j, j ≤ k → FnsOk G j) {X : Cx} {sc : Scope} {W : WX} (c : In G X C.N sc k W) : ∀ (m : ME) {t : Bool} {e : Expr}, chk C m t sc e = true → Sim G (tabs G.pg k) X W t m e
  | .var i, t, e, h => by
    unfold chk at h; split at h <;> try cases h
    obtain ⟨h1, h2, h3⟩ := ckV_ok h
    exact .val (e_var c h1 h2 h3) fun _ => rfl
  | .lit d, t, e, h => by
    unfold chk at h; split at h <;> try cases h
    exact .val (sim_lit h) fun _ => rfl
  | .glob g, t, e, h => by
    unfold chk at h; split at h <;> try cases h
    simp only [Bool.and_eq_true, decide_eq_true_eq] at h
    obtain ⟨h2, h3⟩ := ckG_ok h.2
    exact .val (e_glob c h2 h3 (S.globs g _ h.1)) fun _ => rfl
  | .bin op a b, t, e, h => by
    unfold chk at h; split at h <;> try cases h
    simp only [Bool.and_eq_true, decide_eq_true_eq] at h
    obtain ⟨⟨⟨h0, rfl⟩, h1⟩, h2⟩ := h
    exact .no (e_bin c (sim S hpg L c a h1).1 (sim S hpg L c b h2).1) h0
  | .neg a, t, e, h => by
    unfold chk at h; split at h <;> try cases h
    simp only [Bool.and_eq_true] at h
    exact .no (e_neg (sim S hpg L c a h.2).1) h.1
  | .not a, t, e, h => by
    unfold chk at h; split at h <;> try cases h
    obtain ⟨h1, h2⟩ := sim S hpg L c a h
    exact ⟨e_not h1, fun q => t_not (h2 q)⟩
  | .cmp op a b, t, e, h => by
    unfold chk at h; split at h <;> try cases h
    simp only [Bool.and_eq_true, decide_eq_true_eq] at h
    obtain ⟨⟨⟨rfl, h1⟩, h2⟩, h3⟩ := h
    exact ⟨e_cmp c (sim S hpg L c a h1).1 (sim S hpg L c b h2).1 h3, fun _ => t_cmp c (sim S hpg L c a h1).1 (sim S hpg L c b h2).1 h3⟩
  | .chain a r, t, e, h => by
    unfold chk at h; split at h <;> try cases h
    simp only [Bool.and_eq_true] at h
    obtain ⟨⟨h0, h1⟩, h2⟩ := h
    have h3 := simC S hpg L c r h2
    cases r with
    | last _ _ => cases h0
    | more op m r => exact ⟨e_chain c.toOn (sim S hpg L c a h1).1 h3, fun _ => t_chain c.toOn (sim S hpg L c a h1).1 h3⟩
  | .and es, t, e, h => by
    unfold chk at h; split at h <;> try cases h
    obtain ⟨⟨h1, h2⟩, _⟩ := simB S hpg L c es h
    exact ⟨peImp h1 fun σ H Q q => by simpa only [tOf, tAnds, evalE] using q, fun q => ptImp (h2 q).pt fun σ H Q q => by simpa only [tTof, tAndsT, evalE] using q⟩
  | .or es, t, e, h => by
    unfold chk at h; split at h <;> try cases h
    obtain ⟨_, h1, h2⟩ := simB S hpg L c es h
    exact ⟨peImp h1 fun σ H Q q => by simpa only [tOf, tOrs, evalE] using q, fun q => ptImp (h2 q).pt fun σ H Q q => by simpa only [tTof, tOrsT, evalE] using q⟩
  | .ite cc a b, t, e, h => by
    unfold chk at h; split at h <;> try cases h
    simp only [Bool.and_eq_true] at h
    obtain ⟨⟨h1, h2⟩, h3⟩ := h
    have a1 := (sim S hpg L c cc h1).2 rfl
    have a2 := sim S hpg L c a h2
    have a3 := sim S hpg L c b h3
    exact ⟨e_ite a1 a2.1 a3.1, fun q => t_ite a1 (a2.2 q) (a3.2 q)⟩
  | .ix a b, t, e, h => by
    unfold chk at h; split at h <;> try cases h
    simp only [Bool.and_eq_true] at h
    exact .val (e_ix c (sim S hpg L c a h.1.1).1 (sim S hpg L c b h.1.2).1 h.2) fun _ => rfl
  | .ixO i b, t, e, h => by
    unfold chk at h; split at h <;> try cases h
    simp only [Bool.and_eq_true] at h
    obtain ⟨h1, h2, h3⟩ := ckV_ok h.1.1
    exact .val (e_ixO c h1 h2 h3 (sim S hpg L c b h.1.2).1 h.2) fun _ => rfl
  | .lenO i, t, e, h => by
    unfold chk at h; split at h <;> try cases h
    simp only [Bool.and_eq_true, decide_eq_true_eq] at h
    obtain ⟨⟨h0, h1⟩, h2⟩ := h
    obtain ⟨a1, a2, a3⟩ := ckB_ok h1
    obtain ⟨b1, b2, b3⟩ := ckV_ok h2
    exact .val (e_lenO S c h0 a1 a3 b1 b2 b3) fun _ => rfl
  | .slFrom a lo, t, e, h => by
    unfold chk at h; split at h <;> try cases h
    simp only [Bool.and_eq_true] at h
    exact .val (e_slFrom c (sim S hpg L c a h.1).1 (sim S hpg L c lo h.2).1) fun _ => rfl
  | .slTo a hi, t, e, h => by
    unfold chk at h; split at h <;> try cases h
    simp only [Bool.and_eq_true] at h
    exact .val (e_slTo c (sim S hpg L c a h.1).1 (sim S hpg L c hi h.2).1) fun _ => rfl
  | .slBoth a lo hi, t, e, h => by
    unfold chk at h; split at h <;> try cases h
    simp only [Bool.and_eq_true] at h
    exact .val (e_slBoth c (sim S hpg L c a h.1.1).1 (sim S hpg L c lo h.1.2).1 (sim S hpg L c hi h.2).1) fun _ => rfl
  | .tup es, t, e, h => by
    unfold chk at h; split at h <;> try cases h
    simp only [Bool.and_eq_true] at h
    exact .no (e_tup (simEs S hpg L c es h.2).1) h.1
  | .lst es, t, e, h => by
    unfold chk at h; split at h <;> try cases h
    simp only [Bool.and_eq_true] at h
    exact .no (e_lst (simEs S hpg L c es h.2).1) h.1
  | .dict ks es, t, e, h => by
    unfold chk at h; split at h <;> try cases h
    simp only [Bool.and_eq_true, decide_eq_true_eq] at h
    obtain ⟨⟨⟨h0, h1⟩, h2⟩, h3⟩ := h
    obtain ⟨p, q1, q2, q3, q4⟩ := simK S hpg L c es h1
    exact .no (e_dict p q1 q2 h2 h3 q3 q4) h0
  | .fld a f, t, e, h => by
    unfold chk at h; split at h <;> try cases h
    simp only [Bool.and_eq_true, decide_eq_true_eq] at h
    obtain ⟨⟨rfl, h1⟩, h2⟩ := h
    exact .val (e_fld S c (sim S hpg L c a h1).1 h2) fun _ => rfl
  | .call f es, t, e, h => by
    unfold chk at h; split at h <;> try cases h
    simp only [Bool.and_eq_true, decide_eq_true_eq] at h
    obtain ⟨⟨⟨⟨h1, h2⟩, h3⟩, h4⟩, h5⟩ := h
    obtain ⟨a1, a2⟩ := ckG_ok h3
    obtain ⟨b1, b2, b3⟩ := simEs S hpg L c es h5
    exact .val (e_call S c (L k (Nat.le_refl _)) h1 h2 a1 a2 (by unfold noIni at h4; rw [hpg] at h4; exact Option.isNone_iff_eq_none.mp h4) b1 b2 b3) fun _ => rfl
  | .meth a m es, t, e, h => by
    unfold chk at h; split at h <;> try cases h
    simp only [Bool.and_eq_true, decide_eq_true_eq] at h
    obtain ⟨⟨⟨⟨⟨rfl, h1⟩, h2⟩, h3⟩, h4⟩, h5⟩ := h
    obtain ⟨b1, b2, b3⟩ := simEs S hpg L c es h3
    exact .val (e_meth S c (L k (Nat.le_refl _)) (sim S hpg L c a h1).1 h2 b1 b2 b3 h4 h5) fun _ => rfl
  | .make cl es, t, e, h => by
    unfold chk at h; split at h <;> try cases h
    simp only [Bool.and_eq_true, decide_eq_true_eq] at h
    obtain ⟨⟨⟨h1, h2⟩, h3⟩, h4⟩ := h
    obtain ⟨a1, a2⟩ := ckG_ok h2
    obtain ⟨b1, b2, b3⟩ := simEs S hpg L c es h4
    rw [hpg] at h3
    cases k with
    | zero => exact .val (peImp peNever fun σ H Q q => by
        obtain ⟨z, env, st, rfl, rel, er, q⟩ := q
        simp only [evalE, tabs] at q
        exact q.elim) fun _ => rfl
    | succ k' => exact .val (e_make S c (L k' (Nat.le_succ _)) h1 a1 a2 h3 b1 b2 b3) fun _ => rfl
  | .blt b es, t, e, h => by
    by_cases hb : ∃ ty, b = .isinst ty
    · obtain ⟨ty, rfl⟩ := hb
      unfold chk at h; split at h <;> try cases h
      simp only [Bool.and_eq_true, decide_eq_true_eq] at h
      obtain ⟨⟨⟨⟨rfl, h1⟩, rfl⟩, h2⟩, h3⟩ := h
      obtain ⟨a1, a2, a3⟩ := ckB_ok h1
      obtain ⟨c1, c2, c3⟩ := ckB_ok h2
      cases es with
      | nil => unfold chkEs at h3; cases h3
      | cons m r =>
        unfold chkEs at h3
        simp only [Bool.and_eq_true] at h3
        cases r with
        | cons _ _ => have h4 := h3.2; unfold chkEs at h4; cases h4
        | nil =>
          refine .val (e_isinst S c a1 a3 boot_isinstance a2 c1 c3 ?_ c2 (sim S hpg L c m h3.1.1).1 h3.1.2) fun _ => rfl
          cases ty <;> decide +kernel
    · have h' : ∃ x p y ys pos, e = .Call (.Name x p) (y :: ys) [] pos ∧ ((match bltN b with | some (_, n) => decide (x = Str.ofString n) | none => false) && ckB C sc x && chkEs C es sc (y :: ys)) = true := by
        cases b <;> first
          | exact absurd ⟨_, rfl⟩ hb
          | (unfold chk at h; split at h <;> first | (cases h; done) | exact ⟨_, _, _, _, _, rfl, h⟩)
      obtain ⟨x, p, y, ys, pos, rfl, hq⟩ := h'
      rw [Bool.and_eq_true, Bool.and_eq_true] at hq
      obtain ⟨⟨h0, h1⟩, h2⟩ := hq
      obtain ⟨b1, b2, b3⟩ := simEs S hpg L c es h2
      obtain ⟨a1, a2, a3⟩ := ckB_ok h1
      cases hn : bltN b with
      | none => rw [hn] at h0; cases h0
      | some q =>
        obtain ⟨ty, n⟩ := q
        rw [hn] at h0
        have h0 : x = Str.ofString n := by simpa using h0
        subst h0
        exact .val (sim_blt S c hn a1 a2 a3 b1 b2) fun _ => rfl
  | .bm m a es, t, e, h => by unfold chk at h; cases h
  | .comp tt elt it cs, t, e, h => by
    unfold chk at h; split at h <;> try cases h
    simp only [Bool.and_eq_true, decide_eq_true_eq] at h
    obtain ⟨⟨⟨⟨⟨⟨⟨h0, rfl⟩, h1⟩, h2⟩, h3⟩, h4⟩, h5⟩, h6⟩ := h
    exact .no (e_comp c h1 h2 (simI S hpg L c it h3) h4 fun Xb W' cb => ⟨simCs S hpg L cb cs h5, (sim S hpg L cb elt h6).1⟩) h0
  | .told e', t, e, h => by unfold chk at h; cases h
  | .caught i e', t, e, h => by unfold chk at h; cases h
theorem simEs (S : Static G C.nm) (hpg : C.pg = G.pg) (L : ∀ j, j ≤ k → FnsOk G j) {X : Cx} {sc : Scope} {W : WX} (c : In G X C.N sc k W) : ∀ (ms : MEs) {es : List Expr}, chkEs C ms sc es = true → PA X es (tAof G (tabs G.pg k) W ms) ∧ plains es = true ∧ mesLen ms = es.length
  | .nil, es, h => by
    unfold chkEs at h; split at h <;> try cases h
    exact ⟨a_nil, rfl, rfl⟩
  | .cons m ms, es, h => by
    unfold chkEs at h; split at h <;> try cases h
    simp only [Bool.and_eq_true] at h
    obtain ⟨h1, h2, h3⟩ := simEs S hpg L c ms h.2
    exact ⟨a_cons (sim S hpg L c m h.1.1).1 h1 h.1.2, by simp only [plains, Bool.and_eq_true]; exact ⟨h.1.2, h2⟩, by simp [mesLen, h3]⟩
theorem simB (S : Static G C.nm) (hpg : C.pg = G.pg) (L : ∀ j, j ≤ k → FnsOk G j) {X : Cx} {sc : Scope} {W : WX} (c : In G X C.N sc k W) : ∀ (ms : MEs) {t : Bool} {es : List Expr} {pos : Pos}, chkB C ms t sc es = true →
    (PE X (.BoolOp .And es pos) (tAnds G (tabs G.pg k) W ms) ∧ (t = true → PW X (.BoolOp .And es pos) (tAndsT G (tabs G.pg k) W ms))) ∧ PE X (.BoolOp .Or es pos) (tOrs G (tabs G.pg k) W ms) ∧ (t = true → PW X (.BoolOp .Or es pos) (tOrsT G (tabs G.pg k) W ms))
  | .nil, t, es, pos, h => by unfold chkB at h; cases h
  | .cons m .nil, t, es, pos, h => by
    unfold chkB at h; split at h <;> try cases h
    obtain ⟨h1, h2⟩ := sim S hpg L c m h
    exact ⟨⟨and_1 h1, fun q => andT_1 (h2 q)⟩, or_1 h1, fun q => orT_1 (h2 q)⟩
  | .cons m (.cons m' ms), t, es, pos, h => by
    unfold chkB at h; split at h <;> try cases h
    simp only [Bool.and_eq_true] at h
    obtain ⟨h1, h2⟩ := sim S hpg L c m h.1
    obtain ⟨⟨a1, a2⟩, a3, a4⟩ := simB S hpg L c (.cons m' ms) (pos := pos) h.2
    exact ⟨⟨and_2 h1 a1, fun q => andT_2 (h2 q) (a2 q)⟩, or_2 h1 a3, fun q => orT_2 (h2 q) (a4 q)⟩
theorem simK (S : Static G C.nm) (hpg : C.pg = G.pg) (L : ∀ j, j ≤ k → FnsOk G j) {X : Cx} {sc : Scope} {W : WX} (c : In G X C.N sc k W) : ∀ (ms : MEs) {ks : List Txt} {keys : List (Option Expr)} {vals : List Expr} {pos : Pos}, chkK C ms ks sc keys vals = true →
    PPs X pos keys vals (pairTs G (tabs G.pg k) W ks ms) ∧ keys.all (·.isSome) = true ∧ keys.length = vals.length ∧ mesLen ms = ks.length ∧ ks.all okT = true
  | .nil, ks, keys, vals, pos, h => by
    unfold chkK at h; split at h <;> try cases h
    exact ⟨pps_nil, rfl, rfl, rfl, rfl⟩
  | .cons m ms, ks, keys, vals, pos, h => by
    unfold chkK at h; split at h <;> try cases h
    simp only [Bool.and_eq_true, decide_eq_true_eq] at h
    obtain ⟨⟨⟨rfl, h1⟩, h2⟩, h3⟩ := h
    obtain ⟨a1, a2, a3, a4, a5⟩ := simK S hpg L c ms (pos := pos) h3
    exact ⟨pps_cons pe_str (sim S hpg L c m h2).1 a1, by simpa using a2, by simp [a3], by simp [mesLen, a4], by simp only [List.all_cons, h1, a5]; rfl⟩
theorem simCs (S : Static G C.nm) (hpg : C.pg = G.pg) (L : ∀ j, j ≤ k → FnsOk G j) {X : Cx} {sc : Scope} {W : WX} (c : In G X C.N sc k W) : ∀ (ms : MEs) {es : List Expr}, chkCs C ms sc es = true → PTs X es (ttOf G (tabs G.pg k) W ms)
  | .nil, es, h => by
    unfold chkCs at h; split at h <;> try cases h
    exact pts_nil
  | .cons m .nil, es, h => by
    unfold chkCs at h; split at h <;> try cases h
    exact pts_one ((sim S hpg L c m h).2 rfl)
  | .cons _ (.cons _ _), es, h => by unfold chkCs at h; cases h
theorem simC (S : Static G C.nm) (hpg : C.pg = G.pg) (L : ∀ j, j ≤ k → FnsOk G j) {X : Cx} {sc : Scope} {W : WX} (c : In G X C.N sc k W) : ∀ (r : MC) {ops : List CmpOp} {es : List Expr}, chkC C r sc ops es = true → ChOk G (tabs G.pg k) W X r ops es
  | .last op m, ops, es, h => by
    unfold chkC at h; split at h <;> try cases h
    simp only [Bool.and_eq_true, decide_eq_true_eq] at h
    obtain ⟨⟨rfl, h1⟩, h2⟩ := h
    exact .last (sim S hpg L c m h1).1 h2
  | .more op m r, ops, es, h => by
    unfold chkC at h; split at h <;> try cases h
    simp only [Bool.and_eq_true, decide_eq_true_eq] at h
    obtain ⟨⟨⟨rfl, h1⟩, h2⟩, h3⟩ := h
    exact .more (sim S hpg L c m h1).1 h2 (simC S hpg L c r h3)
theorem simI (S : Static G C.nm) (hpg : C.pg = G.pg) (L : ∀ j, j ≤ k → FnsOk G j) {X : Cx} {sc : Scope} {W : WX} (c : In G X C.N sc k W) : ∀ (it : MI) {tg e : Expr}, chkI C it sc tg e = true → PI X tg e (iOf G (tabs G.pg k) W it)
  | .val m, tg, e, h => by
    unfold chkI at h
    exact i_val c (sim S hpg L c m h).1
  | .range1 m, tg, e, h => by
    unfold chkI at h; split at h <;> try cases h
    simp only [Bool.and_eq_true, decide_eq_true_eq] at h
    obtain ⟨⟨⟨rfl, h1⟩, h2⟩, h3⟩ := h
    obtain ⟨a1, a2, a3⟩ := ckB_ok h1
    exact i_range1 S c a1 a3 (sim S hpg L c m h2).1 h3
  | .range2 a b, tg, e, h => by
    unfold chkI at h; split at h <;> try cases h
    simp only [Bool.and_eq_true, decide_eq_true_eq] at h
    obtain ⟨⟨⟨⟨⟨rfl, h1⟩, h2⟩, h3⟩, h4⟩, h5⟩ := h
    obtain ⟨a1, a2, a3⟩ := ckB_ok h1
    exact i_range2 S c a1 a3 (sim S hpg L c a h2).1 (sim S hpg L c b h4).1 h3 h5
  | .enum m, tg, e, h => by
    unfold chkI at h; split at h <;> try cases h
    simp only [Bool.and_eq_true, decide_eq_true_eq] at h
    obtain ⟨⟨⟨rfl, h1⟩, h2⟩, h3⟩ := h
    obtain ⟨a1, a2, a3⟩ := ckB_ok h1
    exact i_enum S c a1 a3 (sim S hpg L c m h2).1 h3
  | .zip a b, tg, e, h => by
    unfold chkI at h; split at h <;> try cases h
    simp only [Bool.and_eq_true, decide_eq_true_eq] at h
    obtain ⟨⟨⟨⟨⟨rfl, h1⟩, h2⟩, h3⟩, h4⟩, h5⟩ := h
    obtain ⟨a1, a2, a3⟩ := ckB_ok h1
    exact i_zip S c a1 a3 (sim S hpg L c a h2).1 (sim S hpg L c b h4).1 h3 h5
end
end
end Fw

set_option Elab.async false
set_option linter.all false
set_option maxRecDepth 100000
set_option autoImplicit false
set_option maxHeartbeats 1000000
/-! Fw11: what is wanted behind a statement; the frame's own objects. -/
namespace Fw
open PySem PySem.Spec PyProof.Rows L2

/-- where a def began; where its self stands -/
structure Bs where
  z : Z
  x : Addr
/-- the frame's own objects are new; self stands where it stood -/
structure Inn (b : Bs) (vs : List Nat) (env : Env) (σ : St) : Prop where
  new : ∀ (i : Nat) (s : Slot) (a : Addr), i ∉ vs → env[i]? = some s → s.alone = true → σ[i]? = some (some (.ref a)) → b.z.H a = none
  self : ∀ (i : Nat) (c : Nat) (fs : List (Txt × D)), i ∉ vs → env[i]? = some (.self c fs) → σ[i]? = some (some (.ref b.x))
theorem set_look {α : Type} {l : List α} {i j : Nat} {a s : α} (h : (l.set i a)[j]? = some s) : (j = i ∧ s = a) ∨ (j ≠ i ∧ l[j]? = some s) := by
  by_cases c : i = j
  · subst c
    rw [List.getElem?_set_self] at h
    · exact .inl ⟨rfl, by cases h; rfl⟩
    · have := (List.getElem?_eq_some_iff.mp h).1
      rwa [List.length_set] at this
  · rw [List.getElem?_set_ne c] at h
    exact .inr ⟨fun e => c e.symm, h⟩
theorem Inn.set {b : Bs} (i : Nat) (vs : List Nat) (env : Env) (σ : St) (d : D) (v : V) (h : Inn b (i :: vs) env σ) : Inn b vs (env.set i (.val d)) (σ.set i (some v)) := by
  have ni : ∀ {j : Nat}, j ≠ i → j ∉ vs → j ∉ i :: vs := fun {j} a b => by simp only [List.mem_cons, not_or]; exact ⟨a, b⟩
  refine ⟨fun j s a n e al q => ?_, fun j c fs n e => ?_⟩
  · rcases set_look e with ⟨_, rfl⟩ | ⟨hj, e⟩
    · cases al
    · rw [List.getElem?_set_ne (fun q => hj q.symm)] at q
      exact h.new j s a (ni hj n) e al q
  · rcases set_look e with ⟨_, e⟩ | ⟨hj, e⟩
    · cases e
    · rw [List.getElem?_set_ne (fun q => hj q.symm)]
      exact h.self j c fs (ni hj n) e
theorem Inn.open_ {b : Bs} {env : Env} {σ : St} (h : Inn b [] env σ) (vs : List Nat) : Inn b vs env σ := ⟨fun i s a _ => h.new i s a (by simp), fun i c fs _ => h.self i c fs (by simp)⟩
theorem Keep.trans {z1 z2 z3 : Z} (a : Keep z1 z2) (b : Keep z2 z3) : Keep z1 z3 := ⟨fun x h => b.f x (a.f x h), fun x o f h => b.h x o (a.f x f) (a.h x o f h), fun i x h => b.c i x (a.c i x h)⟩

/-- what is wanted behind a statement, from the state z on -/
def PostS (G : Gd) (b : Bs) (z : Z) (o : SO) (W : WX) (D : Ends) : Prop :=
  match o with
  | .next env st => ∀ z' σ, Ext b.z z' → Keep z z' → Rel G z' st → EnvR G z' env σ → Inn b [] env σ → D.nx σ z'.H
  | .cont env st => ∀ z' σ, Ext b.z z' → Keep z z' → Rel G z' st → EnvR G z' env σ → Inn b [] env σ → D.ct σ z'.H
  | .ret d st => ∀ z' v, Ext b.z z' → Rel G z' st → R G z' d v → D.rt v z'.H
  | .exc e st => ∀ z' cls dd σ, Ext b.z z' → Rel G z' st → ExcR G z' e cls dd → W cls dd σ z'.H
  | .bad => False
section
variable {G : Gd} {b : Bs} {z z' : Z} {W : WX} {D : Ends}
theorem PostS.later {o : SO} (h : PostS G b z o W D) (k : Keep z z') : PostS G b z' o W D := by
  cases o with
  | next env st => exact fun z2 σ e k2 r er nn => h z2 σ e (k.trans k2) r er nn
  | cont env st => exact fun z2 σ e k2 r er nn => h z2 σ e (k.trans k2) r er nn
  | ret d st => exact h
  | exc e st => exact h
  | bad => exact h
/-- an expression first -/
theorem PostS.so {α : Type} {o : Out α} {f : α → Store → SO} {σ : St} (h : PostS G b z (o.so f) W D) (e0 : Ext b.z z) (w : Wf z) : Post G z σ W o fun a st z' => PostS G b z' (f a st) W D := by
  cases o with
  | ok a st => exact fun z' e r => PostS.later h (e.keep w)
  | exc e st => exact fun z' cls dd e r x => h z' cls dd σ (e0.trans e) r x
  | bad => exact h
theorem PostS.next {env : Env} {st : Store} {σ : St} (h : PostS G b z (.next env st) W D) (e : Ext b.z z) (r : Rel G z st) (er : EnvR G z env σ) (nn : Inn b [] env σ) : D.nx σ z.H := h z σ e (Keep.refl z) r er nn
theorem PostS.nextO {o : Option Env} {st : Store} (h : PostS G b z (nextO st o) W D) : ∃ env, o = some env ∧ PostS G b z (.next env st) W D := by
  cases o with
  | some env => exact ⟨env, rfl, h⟩
  | none => exact h.elim
end
/-- where a statement starts -/
structure At (G : Gd) (b : Bs) (z : Z) (env : Env) (st : Store) (σ : St) : Prop where
  ex : Ext b.z z
  rel : Rel G z st
  er : EnvR G z env σ
  inn : Inn b [] env σ
def stOf (G : Gd) (T : List FT) (W : WX) (m : MS) : TS := fun D σ H => ∃ b z env st, z.H = H ∧ At G b z env st σ ∧ PostS G b z (execS G.pg T m env st) W D
def sstOf (G : Gd) (T : List FT) (W : WX) (m : MSs) : TS := fun D σ H => ∃ b z env st, z.H = H ∧ At G b z env st σ ∧ PostS G b z (execSs G.pg T m env st) W D
theorem At.step {G : Gd} {b : Bs} {z z' : Z} {env : Env} {st st' : Store} {σ : St} (h : At G b z env st σ) (e : Ext z z') (r : Rel G z' st') : At G b z' env st' σ := ⟨h.ex.trans e, r, h.er.ext e h.rel.wf, h.inn⟩
theorem psImp {X : Cx} {s : Stmt} {t t' : TS} (h : PS X s t) (f : ∀ D σ H, t' D σ H → t D σ H) : PS X s t' := ⟨fun pins s σ H D I q => h.run pins s σ H D I (f D σ H q)⟩
theorem pssImp {X : Cx} {s : List Stmt} {t t' : TS} (h : PSs X s t) (f : ∀ D σ H, t' D σ H → t D σ H) : PSs X s t' := ⟨fun pins s σ H D I q => h.run pins s σ H D I (f D σ H q)⟩

/-! ### own objects -/
/-- a slot's object written -/
theorem EnvR.putO {G : Gd} {z : Z} {env : Env} {σ : St} {i : Nat} {a : Addr} {o : HO} {s s' : Slot} (er : EnvR G z env σ) (hi : env[i]? = some s) (al : s.alone = true) (hσ : σ[i]? = some (some (.ref a))) (nf : ¬ z.F a) (ni : a ∉ z.io) (al' : s'.alone = true)
    (h : SlotAt G (z.put a o) σ[i]? s') : EnvR G (z.put a o) (env.set i s') σ := by
  have k : Keep z (z.put a o) := Keep.put nf
  have get : ∀ b, b ≠ a → (z.put a o).H b = z.H b := fun b n => upd_ne n
  refine ⟨by rw [List.length_set]; exact er.len, fun j t e => ?_, fun j l t u c e1 e2 a1 a2 q1 q2 => ?_⟩
  · rcases set_look e with ⟨rfl, rfl⟩ | ⟨hj, e⟩
    · exact h
    · have q := er.at_ j t e
      cases t with
      | un => trivial
      | val d =>
        obtain ⟨v, q1, r⟩ := q
        exact ⟨v, q1, R.keep k _ _ r⟩
      | own ds =>
        obtain ⟨c, vs, q1, q2, r, f, m⟩ := q
        have ne : c ≠ a := fun e' => hj (er.apart j i _ _ a e hi rfl al (by rw [q1, e']) hσ)
        exact ⟨c, vs, q1, by rw [get c ne]; exact q2, Rs.keep k _ _ r, f, m⟩
      | ownD kvs =>
        obtain ⟨c, vs, q1, q2, r, f, m⟩ := q
        have ne : c ≠ a := fun e' => hj (er.apart j i _ _ a e hi rfl al (by rw [q1, e']) hσ)
        exact ⟨c, vs, q1, by rw [get c ne]; exact q2, RK.keep k _ _ r, f, m⟩
      | self cl fs =>
        obtain ⟨c, dx, vs, kl, q1, hk, q2, hl, r, f, m⟩ := q
        have ne : c ≠ a := fun e' => hj (er.apart j i _ _ a e hi rfl al (by rw [q1, e']) hσ)
        exact ⟨c, dx, vs, kl, q1, hk, by rw [get c ne]; exact q2, hl, Rs.keep k _ _ r, f, m⟩
  · have hl : ∀ {j : Nat} {t : Slot}, (env.set i s')[j]? = some t → t.alone = true → ∃ t', env[j]? = some t' ∧ t'.alone = true := fun {j t} e a1 => by
      rcases set_look e with ⟨rfl, rfl⟩ | ⟨_, e⟩
      · exact ⟨s, hi, al⟩
      · exact ⟨t, e, a1⟩
    obtain ⟨t', e1', b1⟩ := hl e1 a1
    obtain ⟨u', e2', b2⟩ := hl e2 a2
    exact er.apart j l t' u' c e1' e2' b1 b2 q1 q2
theorem Inn.putO {b : Bs} {env : Env} {σ : St} {i : Nat} {s s' : Slot} (h : Inn b [] env σ) (hi : env[i]? = some s) (al : s.alone = true) (hs : ∀ c fs, s' = .self c fs → ∃ fs0, s = .self c fs0) : Inn b [] (env.set i s') σ := by
  refine ⟨fun j t a n e a1 q => ?_, fun j c fs n e => ?_⟩
  · rcases set_look e with ⟨rfl, rfl⟩ | ⟨_, e⟩
    · exact h.new j s a n hi al q
    · exact h.new j t a n e a1 q
  · rcases set_look e with ⟨rfl, e3⟩ | ⟨_, e⟩
    · obtain ⟨fs0, e'⟩ := hs c fs e3.symm
      subst e'
      exact h.self j c fs0 n hi
    · exact h.self j c fs n e
/-- a new own object in a slot -/
theorem EnvR.newO {G : Gd} {z : Z} {env : Env} {σ : St} {st : Store} {i : Nat} {p : Addr} {o : HO} {s' : Slot} (er : EnvR G z env σ) (rel : Rel G z st) (np : z.H p = none) (h : SlotAt G (z.put p o) (some (some (.ref p))) s') (hi : i < env.length) : EnvR G (z.put p o) (env.set i s') (σ.set i (some (.ref p))) := by
  have er' := er.ext ((Ext.refl z).put (o := o) np) rel.wf
  have old : ∀ {j : Nat} {t : Slot}, env[j]? = some t → t.alone = true → σ[j]? = some (some (.ref p)) → False := fun {j t} e al q => by
    have w := er.at_ j t e
    cases t with
    | un => cases al
    | val d => cases al
    | own ds => obtain ⟨c, vs, q1, q2, _⟩ := w; rw [q1] at q; cases q; rw [np] at q2; cases q2
    | ownD ds => obtain ⟨c, vs, q1, q2, _⟩ := w; rw [q1] at q; cases q; rw [np] at q2; cases q2
    | self cl fs => obtain ⟨c, dx, vs, kl, q1, _, q2, _⟩ := w; rw [q1] at q; cases q; rw [np] at q2; cases q2
  have hl : i < σ.length := by rw [← er.len]; exact hi
  refine ⟨by rw [List.length_set, List.length_set]; exact er.len, fun j t e => ?_, fun j l t u c e1 e2 a1 a2 q1 q2 => ?_⟩
  · rcases set_look e with ⟨rfl, rfl⟩ | ⟨hj, e⟩
    · rw [List.getElem?_set_self hl]; exact h
    · rw [List.getElem?_set_ne (fun q => hj q.symm)]; exact er'.at_ j t e
  · rcases set_look e1 with ⟨rfl, rfl⟩ | ⟨h1, f1⟩
    · rw [List.getElem?_set_self hl] at q1
      cases q1
      rcases set_look e2 with ⟨rfl, _⟩ | ⟨h2, f2⟩
      · rfl
      · rw [List.getElem?_set_ne (fun q => h2 q.symm)] at q2
        exact (old f2 a2 q2).elim
    · rw [List.getElem?_set_ne (fun q => h1 q.symm)] at q1
      rcases set_look e2 with ⟨rfl, _⟩ | ⟨h2, f2⟩
      · rw [List.getElem?_set_self hl] at q2
        cases q2
        exact (old f1 a1 q1).elim
      · rw [List.getElem?_set_ne (fun q => h2 q.symm)] at q2
        exact er.apart j l t u c f1 f2 a1 a2 q1 q2
theorem Inn.newO {b : Bs} {env : Env} {σ : St} {i : Nat} {p : Addr} {s' : Slot} (h : Inn b [] env σ) (np : b.z.H p = none) (hi : i < σ.length) (hs : ∀ c fs, s' ≠ .self c fs) : Inn b [] (env.set i s') (σ.set i (some (.ref p))) := by
  refine ⟨fun j t a n e a1 q => ?_, fun j c fs n e => ?_⟩
  · rcases set_look e with ⟨rfl, rfl⟩ | ⟨hj, e⟩
    · rw [List.getElem?_set_self hi] at q; cases q; exact np
    · rw [List.getElem?_set_ne (fun q => hj q.symm)] at q
      exact h.new j t a n e a1 q
  · rcases set_look e with ⟨rfl, e3⟩ | ⟨hj, e⟩
    · exact absurd e3.symm (hs c fs)
    · rw [List.getElem?_set_ne (fun q => hj q.symm)]
      exact h.self j c fs n e
/-- own lists and dicts, never to be changed again -/
def Z.fixes (z : Z) (env : Env) (σ : St) : Z := ⟨z.H, fun a => z.F a ∨ ∃ (i : Nat) (s : Slot), env[i]? = some s ∧ s.alone = true ∧ (∀ c fs, s ≠ Slot.self c fs) ∧ σ[i]? = some (some (V.ref a)), z.io⟩
theorem fixes_at {G : Gd} {z : Z} {env : Env} {σ : St} (er : EnvR G z env σ) {i : Nat} {s : Slot} {a : Addr} (e : env[i]? = some s) (al : s.alone = true) (q : σ[i]? = some (some (.ref a))) : (∃ o, z.H a = some o ∧ ∀ ps, o ≠ .tbl ps) ∧ ¬ z.F a ∧ a ∉ z.io := by
  have w := er.at_ i s e
  cases s with
  | un => cases al
  | val d => cases al
  | own ds => obtain ⟨c, vs, q1, q2, _, f, m⟩ := w; rw [q1] at q; cases q; exact ⟨⟨_, q2, by simp⟩, f, m⟩
  | ownD ds => obtain ⟨c, vs, q1, q2, _, f, m⟩ := w; rw [q1] at q; cases q; exact ⟨⟨_, q2, by simp⟩, f, m⟩
  | self cl fs => obtain ⟨c, dx, vs, kl, q1, _, q2, _, _, f, m⟩ := w; rw [q1] at q; cases q; exact ⟨⟨_, q2, by simp⟩, f, m⟩
theorem At.freeze {G : Gd} {b : Bs} {z : Z} {env : Env} {st : Store} {σ : St} (h : At G b z env st σ) : Ext b.z (z.fixes env σ) ∧ Rel G (z.fixes env σ) st ∧ EnvR G (z.fixes env σ) (env.map freezeS) σ := by
  have k : Keep z (z.fixes env σ) := ⟨fun _ f => .inl f, fun _ _ _ e => e, fun _ _ e => e⟩
  refine ⟨⟨fun a f => .inl (h.ex.f a f), h.ex.h, h.ex.c, fun a f => ?_, h.ex.gr⟩, ⟨⟨fun a hm f => ?_, h.rel.wf.nd, fun a f => ?_⟩, h.rel.len, fun i c hc => ?_⟩, ⟨by rw [List.length_map]; exact h.er.len, fun i s e => ?_, fun i j s t a e1 e2 a1 a2 q1 q2 => ?_⟩⟩
  · rcases f with f | ⟨i, s, e, al, _, q⟩
    · exact h.ex.nf a f
    · exact .inr (h.inn.new i s a (by simp) e al q)
  · rcases f with f | ⟨i, s, e, al, _, q⟩
    · exact h.rel.wf.cf a hm f
    · exact (fixes_at h.er e al q).2.2 hm
  · rcases f with f | ⟨i, s, e, al, _, q⟩
    · exact h.rel.wf.ft a f
    · exact (fixes_at h.er e al q).1
  · obtain ⟨a, q, kk⟩ := h.rel.at_ i c hc
    exact ⟨a, q, CellAt.keep k (fun _ e => e) kk⟩
  · rw [List.getElem?_map] at e
    obtain ⟨t, e1, e2⟩ := Option.map_eq_some_iff.mp e
    have w := h.er.at_ i t e1
    cases t with
    | un => subst e2; trivial
    | val d =>
      subst e2
      obtain ⟨v, q, r⟩ := w
      exact ⟨v, q, R.keep k _ _ r⟩
    | own ds =>
      subst e2
      obtain ⟨a, vs, q1, q2, r, f, m⟩ := w
      refine ⟨.ref a, q1, ?_⟩
      simp only [R]
      exact ⟨a, vs, rfl, ⟨.inr ⟨i, _, e1, rfl, by simp, q1⟩, q2⟩, Rs.keep k _ _ r⟩
    | ownD kvs =>
      subst e2
      obtain ⟨a, vs, q1, q2, r, f, m⟩ := w
      refine ⟨.ref a, q1, ?_⟩
      simp only [R]
      exact ⟨a, vs, rfl, ⟨.inr ⟨i, _, e1, rfl, by simp, q1⟩, q2⟩, RK.keep k _ _ r⟩
    | self c fs =>
      subst e2
      obtain ⟨a, dx, vs, kl, q1, hk, q2, hl, r, f, m⟩ := w
      refine ⟨a, dx, vs, kl, q1, hk, q2, hl, Rs.keep k _ _ r, fun f' => ?_, m⟩
      rcases f' with f' | ⟨j, t, e3, al, ns, q3⟩
      · exact f f'
      · have := h.er.apart i j _ t a e1 e3 rfl al q1 q3
        subst this
        rw [e1] at e3
        cases e3
        exact ns c fs rfl
  · rw [List.getElem?_map] at e1 e2
    obtain ⟨s', f1, f2⟩ := Option.map_eq_some_iff.mp e1
    obtain ⟨t', g1, g2⟩ := Option.map_eq_some_iff.mp e2
    have al : ∀ {x y : Slot}, freezeS x = y → y.alone = true → x.alone = true := fun {x y} e h => by
      cases x <;> simp only [freezeS] at e <;> subst e <;> first | exact h | (cases h; done) | rfl
    exact h.er.apart i j s' t' a f1 g1 (al f2 a1) (al g2 a2) q1 q2
end Fw

set_option Elab.async false
set_option linter.all false
set_option maxRecDepth 100000
set_option autoImplicit false
set_option maxHeartbeats 1000000
/-! Fw12: statements: each form. -/
namespace Fw
open PySem PySem.Spec PyProof.Rows L2

structure InS (G : Gd) (X : Cx) (N : List Str) (sc : Scope) (k : Nat) (W : WX) : Prop extends In G X N sc k W where
  hfn : ∀ x, X.fn x = true
  own : PassesOwn (model X.prog X.w) X.A X.env X.xe
  kd : sc.kind = .function
def isComp : Expr → Bool
  | .ListComp _ _ _ _ | .SetComp _ _ _ _ | .DictComp _ _ _ _ _ => true
  | _ => false
theorem sw_plain {e : Expr} (h : isComp e = false) (t : Option Expr) (l : Nat) (env : PySem.Env) : swapsWith e t l env = pure false := by
  cases e <;> first | rfl | cases h
def swapC (sc scope : Scope) (x : Str) (a b : Nat) : Bool := decide (sc.names.lookup x = some .local) && (a == b) && !(scope.names.any fun (n, k) => n == x && (k == .local || k == .cell))
theorem sw_false {elt : Expr} {gs : List Comprehension} {scope : Scope} {pos py : Pos} {y : Str} {l : Nat} {env : PySem.Env} (hk : env.scope.kind = .function) (h : swapC env.scope scope y py.line pos.line = false) : swapsWith (.ListComp elt gs scope pos) (some (.Name y py)) l env = pure false := by
  have hb : env.blockKind = .function := by unfold Env.blockKind; rw [hk]; rfl
  unfold swapsWith
  simp only [hb, Expr.pos]
  have e : (env.kindOf y == some NameKind.local) = decide (env.scope.names.lookup y = some .local) := by
    show (env.scope.names.lookup y == some NameKind.local) = _
    rw [Bool.eq_iff_iff]; simp
  unfold swapC at h
  rw [e]
  simp only [beq_self_eq_true, Bool.true_and]
  rw [h]
section
variable {G : Gd} {nm : Nm} {X : Cx} {N : List Str} {sc : Scope} {k : Nat} {W : WX} {T : List FT}
theorem InS.loc (c : InS G X N sc k W) : ∀ x, locS sc x = true → Loc X.env.scope x ∧ (X.fn x = true ∨ X.env.scope.names.lookup x = some .local) := fun x h => by
  rw [c.hsc]
  exact ⟨locS_ok h, .inl (c.hfn x)⟩
theorem s_expr {e : Expr} {m : ME} {pos : Pos} (h : PE X e (tOf G T W m)) (hc : isComp e = false) : PS X (.Expr e pos) (stOf G T W (.expr m)) := by
  refine psImp (ps_expr h (sw_plain hc _ _ _)) fun D σ H q => ?_
  obtain ⟨b, z, env, st, rfl, a, q⟩ := q
  simp only [execS] at q
  exact ⟨z, env, st, rfl, a.rel, a.er, (PostS.so q a.ex a.rel.wf).imp fun d st' z' e r p v rv => p.next (a.step e r).ex r (a.step e r).er a.inn⟩
theorem set_run {t : Tg} {m : ME} {D : Ends} {σ : St} {H : Hp} (q : stOf G T W (.set t m) D σ H) : tAsg (tOf G T W m) (gOf G.K t) D σ H := by
  obtain ⟨b, z, env, st, rfl, a, q⟩ := q
  simp only [execS] at q
  refine ⟨z, env, st, rfl, a.rel, a.er, (PostS.so q a.ex a.rel.wf).imp fun d st' z' e r p v rv => ?_⟩
  obtain ⟨env', hb, p'⟩ := p.nextO
  have a' := a.step e r
  exact gOf_runP (Inn b) Inn.set hb rv (a'.er.open_ _) (a'.inn.open_ _) fun σ' er' nn' _ => p' z' σ' a'.ex (Keep.refl _) r er' nn'
theorem s_set (c : InS G X N sc k W) {t : Tg} {tg e : Expr} {m : ME} {pos : Pos} (ht : chkTg N sc t tg = true) (h : PE X e (tOf G T W m)) (hc : isComp e = false) (htp : (∃ i, t = .one i) ∨ (∀ es kk p, e ≠ .Tuple es kk p)) : PS X (.Assign [tg] e pos) (stOf G T W (.set t m)) := by
  have pg := pg_of c.calm (by rw [c.hN]; exact c.nd) c.loc (t := t) (tg := tg) (by rw [c.hN]; exact ht)
  rw [c.K] at pg
  refine psImp (ps_asg h pg ?_ ?_ ?_) fun D σ H q => set_run q
  · show swapsWith e (some tg) pos.line X.env = pure false
    exact sw_plain hc _ _ _
  · unfold chkTg at ht
    split at ht
    · rfl
    · rcases htp with ⟨i, q⟩ | q
      · cases q
      · cases e <;> first | rfl | exact absurd rfl (q _ _ _)
    · cases ht
  · unfold chkTg at ht
    split at ht
    · rfl
    · rfl
    · cases ht
/-- x = [..] -/
theorem s_setComp (c : InS G X N sc k W) {i : Nat} {y : Str} {py : Pos} {t : Tg} {elt : ME} {it : MI} {cs : MEs} {e tg iter : Expr} {ifs : List Expr} {scope : Scope} {pos spos : Pos} (hy : N[i]? = some y) (hl : locS sc y = true)
    (hb : blkC N sc scope t = true) (ht : chkTg N scope t tg = true) (hi : PI X tg iter (iOf G T W it)) (hp : plainE iter = true)
    (h : ∀ Xb W', In G Xb N (relS scope sc) k W' → PTs Xb ifs (ttOf G T W' cs) ∧ PE Xb e (tOf G T W' elt)) :
    PS X (.Assign [.Name y py] (.ListComp e [⟨tg, iter, ifs, 0⟩] scope pos) spos) (stOf G T W (.set (.one i) (.comp t elt it cs))) := by
  have hN : X.N.Nodup := by rw [c.hN]; exact c.nd
  have hk : X.env.scope.kind = .function := by rw [c.hsc]; exact c.kd
  cases hsw : swapC sc scope y py.line pos.line with
  | false =>
    refine psImp (ps_set hN (by rw [c.hN]; exact hy) (c.loc y hl).1 (e_comp c.toIn hb ht hi hp h) (sw_false hk (by rw [c.hsc]; exact hsw)) (c.loc y hl).2) fun D σ H q => set_run q
  | true =>
    simp only [swapC, Bool.and_eq_true, decide_eq_true_eq, Bool.not_eq_true'] at hsw
    obtain ⟨⟨s1, s2⟩, s3⟩ := hsw
    have hyl : X.env.scope.names.lookup y = some .local := by rw [c.hsc]; exact s1
    refine psImp (t := tAsg (tOf G T W (.comp t elt it cs)) (gName i)) ⟨fun pins s σ H D I h0 => ?_⟩ fun D σ H q => set_run q
    rw [exec_Assign_Name_used _ _ _ _ (sw_true hk hyl s2 s3)]
    refine wpAny_bind (wpAny_standAt (wpAny_bind ?_))
    show wpAny _ X.A (do let _ ← comprehension (.ListComp e [⟨tg, iter, ifs, 0⟩] scope pos) scope X.env (firstIterPos [⟨tg, iter, ifs, 0⟩] pos) (newList []) false (eval iter X.env) (some (assign (.Name y py) X.env))) _ _ s
    obtain ⟨z, env, st, rfl, rel, er, q⟩ := h0
    have q : Post G z σ W (evalE G.pg T (.comp t elt it cs) env st) fun d _ z' => ∀ v, R G z' d v → (fun x H1 => gName i x σ H1 D.nx) v z'.H := q
    refine wpAny_bind (thn (lcF_core (W := W) (Qf := fun _ s' => SP X pins D .next s') c.calm hN I hi (by rw [c.hN, c.hsc]; exact blk_of hb) c.tk c.fr (fun Xb hX => ?_) (fun x => fold_of hp _ x)
      (by rw [ownOf_vs]; exact comp_run (W' := fun cls d _ H => W cls d σ H) (fun _ _ _ _ => Iff.rfl) rel er q) fun L C s' m H' I' q' hn f => ?_) fun _ s' hq => wpAny_pure (wpAny_pure hq))
    · obtain ⟨h1, h2⟩ := h Xb _ (c.toIn.blk hX)
      exact ⟨blk_tg c.toIn hX ht, h1, h2⟩
    · show wpAny _ _ (assign (.Name y py) X.env (.ref L)) _ _ _
      refine wpAny_assign_Name (store_ok2 (v := V.ref L) I' hN (by rw [c.hN]; exact hy) (.inl hyl) rfl (fun s2 I2 ⟨a, sb, ha⟩ => ?_) (.inr hyl))
      obtain ⟨f0, f1, f2, f3, f4, f5⟩ := f
      have haC : C ≠ a := by
        rcases ha with z | z
        · rw [z]; exact f1
        · exact fun e => f4 y a z e.symm
      refine ⟨m, hn.sameBut sb haC, fun h3 sb3 => ?_⟩
      exact ⟨_, H', I2.turned (t' := s2.toks) (fun b o hb e => (sb3.2 b hb).trans e) f0 f1 f3 f4 f5, q'⟩
/-- a, b = e, f: stored from the right -/
def par2C (sc : Scope) (x y : Str) (px py : Nat) (a b : Expr) : Bool :=
  decide (sc.names.lookup x = some .local) && decide (sc.names.lookup y = some .local) && (py == px) && plainE a && plainE b && !(foldedForSure 8 a && foldedForSure 8 b) && !(constantsAlone 8 a && constantsAlone 8 b) && !decide (x = y)
theorem par2_stores {x y : Str} {px py pt pt2 : Pos} {kt k2 : Nat} {a b : Expr} {env : PySem.Env} (hk : env.scope.kind = .function) (h : par2C env.scope x y px.line py.line a b = true) :
    swappedStores [.Tuple [.Name x px, .Name y py] kt pt] (.Tuple [a, b] k2 pt2) env = pure (some [x, y]) := by
  simp only [par2C, Bool.and_eq_true, decide_eq_true_eq, Bool.not_eq_true', decide_eq_false_iff_not] at h
  obtain ⟨⟨⟨⟨⟨⟨⟨h1, h2⟩, h3⟩, h4⟩, h5⟩, h6⟩, h7⟩, h8⟩ := h
  have hb : env.blockKind = .function := by unfold Env.blockKind; rw [hk]; rfl
  have k1 : env.kindOf x = some NameKind.local := h1
  have k2 : env.kindOf y = some NameKind.local := h2
  have k3 : py.line = px.line := by simpa using h3
  have hxy : (x == y) = false := by simpa using h8
  have hyx : (y == x) = false := by simpa using fun e => h8 e.symm
  have nm : ([Expr.Name x px, Expr.Name y py].filterMap fun
    | .Name id pos => if env.kindOf id == some .local && pos.line == (Option.map (fun x => x.pos.line) [Expr.Name x px, Expr.Name y py].head?).getD 0 then some id else none
    | _ => none) = [x, y] := by simp [Expr.pos, k1, k2, k3, List.filterMap_cons]
  have c1 : ([a, b].all (foldedForSure 8)) = false := by simpa [List.all_cons] using h6
  have c2 : ([a, b].all (constantsAlone 8)) = false := by simpa [List.all_cons] using h7
  have dd : ([x, y].eraseDups.length != [x, y].length) = false := by simp [List.eraseDups, List.eraseDupsBy, List.eraseDupsBy.loop, hxy, hyx]
  unfold swappedStores
  simp only [hb]
  refine (if_neg (by simp)).trans ?_
  refine (if_neg ?_).trans ?_
  · rw [List.any_cons, List.any_cons, List.any_nil, Bool.or_false, Bool.or_eq_true]
    rintro (q | q)
    · cases a <;> first | (cases q; done) | (cases h4; done)
    · cases b <;> first | (cases q; done) | (cases h5; done)
  generalize hn : List.filterMap _ [Expr.Name x px, Expr.Name y py] = names
  have hn' : names = [x, y] := hn.symm.trans nm
  subst hn'
  rw [if_neg (by rw [dd]; simp), if_neg (by rw [c1]; decide), if_neg (by rw [c2]; decide)]
theorem s_par2 (c : InS G X N sc k W) {i j : Nat} {x y : Str} {a b : Expr} {ma mb : ME} {px py pt pt2 pos : Pos} {kt k2 : Nat} (hi : N[i]? = some x) (hj : N[j]? = some y) (hC : par2C sc x y px.line py.line a b = true) (ha : PE X a (tOf G T W ma)) (hb : PE X b (tOf G T W mb)) :
    PS X (.Assign [.Tuple [.Name x px, .Name y py] kt pt] (.Tuple [a, b] k2 pt2) pos) (stOf G T W (.par2 i j ma mb)) := by
  have hC' := hC
  simp only [par2C, Bool.and_eq_true, decide_eq_true_eq, Bool.not_eq_true', decide_eq_false_iff_not] at hC'
  obtain ⟨⟨⟨⟨⟨⟨⟨h1, h2⟩, h3⟩, h4⟩, h5⟩, h6⟩, h7⟩, h8⟩ := hC'
  have hij : i ≠ j := fun e => by rw [e, hj] at hi; exact h8 (Option.some.inj hi).symm
  refine psImp (ps_par c.calm (by rw [c.hN]; exact c.nd) (by rw [c.hN]; exact hi) (by rw [c.hN]; exact hj) hij (by rw [c.hsc]; exact h1) (by rw [c.hsc]; exact h2) (pa_cons ha (pa_cons hb pa_nil (star_of h5 _ _)) (star_of h4 _ _))
    (par2_stores (by rw [c.hsc]; exact c.kd) (by rw [c.hsc]; exact hC))) fun D σ H q => ?_
  obtain ⟨b, z, env, st, rfl, at0, q⟩ := q
  simp only [execS] at q
  refine ⟨z, env, st, rfl, at0.rel, at0.er, (PostS.so q at0.ex at0.rel.wf).imp fun d1 st1 z1 e1 r1 p1 v1 rv1 => ?_⟩
  have a1 := at0.step e1 r1
  refine ⟨z1, env, st1, rfl, r1, a1.er, (PostS.so p1 a1.ex r1.wf).imp fun d2 st2 z2 e2 r2 p2 v2 rv2 => ⟨v1, v2, rfl, ?_⟩⟩
  have a2 := a1.step e2 r2
  split at p2
  · rename_i hc
    have er : EnvR G z2 ((env.set i (.val d1)).set j (.val d2)) ((σ.set i (some v1)).set j (some v2)) := ((EnvX.set (vs := []) ((a2.er.open_ [i, j]).set (rv1.ext e2 r1.wf)) rv2)).done
    exact p2 z2 _ a2.ex (Keep.refl _) r2 er (Inn.set _ _ _ _ _ _ (Inn.set _ _ _ _ _ _ (a2.inn.open_ [i, j])))
  · exact p2.elim
/-- x = [a, ..], a list that the frame alone holds -/
theorem s_own (c : InS G X N sc k W) {i : Nat} {x : Str} {es : List Expr} {ms : MEs} {px lp pos : Pos} (hi : N[i]? = some x) (hl : locS sc x = true) (h : PA X es (tAof G T W ms)) : PS X (.Assign [.Name x px] (.List es lp) pos) (stOf G T W (.own i ms)) := by
  refine psImp (ps_set (by rw [c.hN]; exact c.nd) (by rw [c.hN]; exact hi) (c.loc x hl).1 (pe_lst h) (sw_plain rfl _ _ _) (c.loc x hl).2) fun D σ H q => ?_
  obtain ⟨b, z, env, st, rfl, a, q⟩ := q
  simp only [execS] at q
  refine ⟨z, env, st, rfl, a.rel, a.er, (PostS.so q a.ex a.rel.wf).imp fun ds st1 z1 e1 r1 p1 vs rs => ?_⟩
  have a1 := a.step e1 r1
  split at p1
  · rename_i hc
    refine ⟨by rw [rs.len, ← big_eq]; exact hc.1, fun p np => ?_⟩
    have np0 : b.z.H p = none := a1.ex.gr p np
    refine p1 (z1.put p (.lst vs)) _ (a1.ex.put np0) (Keep.put (r1.notF np)) (r1.put' (r1.notF np) (r1.notIn np)) (a1.er.newO r1 np ?_ hc.2) (a1.inn.newO np0 (by rw [← a1.er.len]; exact hc.2) (by simp))
    exact ⟨p, vs, rfl, upd_same, Rs.keep (Keep.put (r1.notF np)) _ _ rs, r1.notF np, r1.notIn np⟩
  · exact p1.elim
theorem own_at {b : Bs} {z : Z} {env : Env} {st : Store} {σ : St} {i : Nat} {ds : List D} (a : At G b z env st σ) (e : env[i]? = some (.own ds)) : ∃ p vs, σ[i]? = some (some (.ref p)) ∧ z.H p = some (.lst vs) ∧ Rs G z ds vs ∧ ¬ z.F p ∧ p ∉ z.io ∧ b.z.H p = none := by
  obtain ⟨p, vs, q1, q2, r, f, m⟩ := a.er.at_ i _ e
  exact ⟨p, vs, q1, q2, r, f, m, a.inn.new i _ p (by simp) e rfl q1⟩
theorem few1 {cpos : Pos} {e : Expr} {env : PySem.Env} (hp : plainE e = true) : ((backTo cpos (starEach [e] env)).all (fun x => !x.1) && (backToKw cpos (keywordEach [] env)).all (fun x => x.1.isSome) && decide ([e].length + ([] : List Keyword).length + (if ([] : List Keyword).isEmpty then 0 else 1) < 30)) = true := by
  rw [star_of hp]
  rfl
theorem s_app (c : InS G X N sc k W) {i : Nat} {x y : Str} {e : Expr} {m : ME} {px apos cpos pos : Pos} (hy : y = "append") (hi : N[i]? = some x) (h2 : visS sc x = true) (h3 : okN x = true) (h : PE X e (tOf G T W m)) (hp : plainE e = true) (hline : (apos.endLine == cpos.line) = true) :
    PS X (.Expr (.Call (.Attribute (.Name x px) y apos) [e] [] cpos) pos) (stOf G T W (.app i m)) := by
  subst hy
  refine psImp (ps_expr (pe_bm PySem.F.plainAttrs_list PySem.F.slot_list_append PySem.F.type_list_append mt_append (pe_var (i := i) (by rw [c.hN]; exact hi) (by rw [c.hsc]; exact visS_ok h2) (okN_dbg h3) (okN_cd h3)) (pa_cons h pa_nil (star_of hp _ _)) rfl (few1 hp) hline (star_of hp _ _) rfl) rfl) fun D σ H q => ?_
  obtain ⟨b, z, env, st, rfl, a, q⟩ := q
  simp only [execS] at q
  split at q
  · rename_i ds he
    obtain ⟨p, vs, e1, e2, rs, nf, ni, np⟩ := own_at a he
    refine ⟨.ref p, e1, .inl ⟨rfl, vs, SqL.of e2⟩, z, env, st, rfl, a.rel, a.er, (PostS.so q a.ex a.rel.wf).imp fun d st1 z1 x1 r1 p1 v rv => ?_⟩
    have a1 := a.step x1 r1
    have al : Alone z p := ⟨⟨_, e2, by simp⟩, nf, ni⟩
    have al1 := al.ext x1
    split at p1
    · rename_i hc
      refine ⟨p, vs, v, rfl, rfl, al1.2 _ e2, by rw [rs.len, ← big_eq]; exact hc, ?_⟩
      refine p1 (z1.put p (.lst (vs ++ [v]))) σ (a1.ex.put np) (Keep.put al1.1.nf) (r1.put al1.1) (a1.er.putO he rfl e1 al1.1.nf al1.1.ni rfl ?_) (a1.inn.putO he rfl (by simp))
      exact ⟨p, vs ++ [v], e1, upd_same, Rs.keep (Keep.put al1.1.nf) _ _ ((rs.ext x1 a.rel.wf).app (Rs.mk _ _ rv (Rs.nil.mpr rfl))), al1.1.nf, al1.1.ni⟩
    · exact p1.elim
  · exact q.elim
theorem s_ext (c : InS G X N sc k W) {i : Nat} {x y : Str} {e : Expr} {m : ME} {px apos cpos pos : Pos} (hy : y = "extend") (hi : N[i]? = some x) (h2 : visS sc x = true) (h3 : okN x = true) (h : PE X e (tOf G T W m)) (hp : plainE e = true) (hline : (apos.endLine == cpos.line) = true) :
    PS X (.Expr (.Call (.Attribute (.Name x px) y apos) [e] [] cpos) pos) (stOf G T W (.ext i m)) := by
  subst hy
  refine psImp (ps_expr (pe_bm PySem.F.plainAttrs_list PySem.F.slot_list_extend PySem.F.type_list_extend mt_extend (pe_var (i := i) (by rw [c.hN]; exact hi) (by rw [c.hsc]; exact visS_ok h2) (okN_dbg h3) (okN_cd h3)) (pa_cons h pa_nil (star_of hp _ _)) rfl (few1 hp) hline (star_of hp _ _) rfl) rfl) fun D σ H q => ?_
  obtain ⟨b, z, env, st, rfl, a, q⟩ := q
  simp only [execS] at q
  split at q
  · rename_i ds he
    obtain ⟨p, vs, e1, e2, rs, nf, ni, np⟩ := own_at a he
    refine ⟨.ref p, e1, .inl ⟨rfl, vs, SqL.of e2⟩, z, env, st, rfl, a.rel, a.er, (PostS.so q a.ex a.rel.wf).imp fun d st1 z1 x1 r1 p1 v rv => ?_⟩
    have a1 := a.step x1 r1
    have al : Alone z p := ⟨⟨_, e2, by simp⟩, nf, ni⟩
    have al1 := al.ext x1
    cases d <;> simp only [] at p1 <;> try exact p1.elim
    rename_i es
    simp only [R] at rv
    obtain ⟨w, ws, rfl, ⟨hw, hH⟩, rw'⟩ := rv
    split at p1
    · rename_i hc
      refine ⟨p, w, vs, ws, rfl, rfl, al1.2 _ e2, hH, by rw [rs.len, rw'.len, ← big_eq]; exact hc, ?_⟩
      refine p1 (z1.put p (.lst (vs ++ ws))) σ (a1.ex.put np) (Keep.put al1.1.nf) (r1.put al1.1) (a1.er.putO he rfl e1 al1.1.nf al1.1.ni rfl ?_) (a1.inn.putO he rfl (by simp))
      exact ⟨p, vs ++ ws, e1, upd_same, Rs.keep (Keep.put al1.1.nf) _ _ ((rs.ext x1 a.rel.wf).app rw'), al1.1.nf, al1.1.ni⟩
    · exact p1.elim
  · exact q.elim
theorem s_if {cc : Expr} {ba bb : List Stmt} {m : ME} {ma mb : MSs} {pos : Pos} (hc : PT X cc (tTof G T W m)) (ha : PSs X ba (sstOf G T W ma)) (hb : PSs X bb (sstOf G T W mb)) : PS X (.If cc ba bb pos) (stOf G T W (.if_ m ma mb)) := by
  refine psImp (ps_if hc ha hb) fun D σ H q => ?_
  obtain ⟨b, z, env, st, rfl, a, q⟩ := q
  simp only [execS] at q
  refine ⟨z, env, st, rfl, a.rel, a.er, (PostS.so q a.ex a.rel.wf).imp fun d st1 z1 x1 r1 p1 => ?_⟩
  have a1 := a.step x1 r1
  cases d <;> try exact p1.elim
  rename_i t
  refine ⟨t, rfl, ?_⟩
  cases t with
  | true => simp only [if_true]; exact ⟨b, z1, env, st1, rfl, a1, p1⟩
  | false => simp only [Bool.false_eq_true, if_false]; exact ⟨b, z1, env, st1, rfl, a1, p1⟩
theorem s_ret {e : Expr} {m : ME} {pos : Pos} (h : PE X e (tOf G T W m)) : PS X (.Return (some e) pos) (stOf G T W (.ret m)) := by
  refine psImp (ps_ret h) fun D σ H q => ?_
  obtain ⟨b, z, env, st, rfl, a, q⟩ := q
  simp only [execS] at q
  obtain ⟨f1, f2, f3⟩ := a.freeze
  refine ⟨z.fixes env σ, env.map freezeS, st, rfl, f2, f3, ?_⟩
  cases ho : evalE G.pg T m (env.map freezeS) st with
  | ok d st1 =>
    rw [ho] at q
    exact fun z' e' r' v rv => q z' v (f1.trans e') r' rv
  | exc x st1 =>
    rw [ho] at q
    exact fun z' cls dd e' r' xr => q z' cls dd σ (f1.trans e') r' xr
  | bad => rw [ho] at q; exact q.elim
theorem s_retN {pos : Pos} : PS X (.Return none pos) (stOf G T W (.ret (.lit .non))) := by
  refine psImp ps_retN fun D σ H q => ?_
  obtain ⟨b, z, env, st, rfl, a, q⟩ := q
  simp only [execS, evalE, Out.so_ok] at q
  exact q z .non a.ex a.rel (R.non.mpr rfl)
theorem s_cont {pos : Pos} : PS X (.Continue pos) (stOf G T W .cont) := by
  refine psImp ps_continue fun D σ H q => ?_
  obtain ⟨b, z, env, st, rfl, a, q⟩ := q
  simp only [execS] at q
  exact q z σ a.ex (Keep.refl _) a.rel a.er a.inn
theorem s_pass {pos : Pos} : PS X (.Pass pos) (stOf G T W .pass) := by
  refine psImp ps_pass fun D σ H q => ?_
  obtain ⟨b, z, env, st, rfl, a, q⟩ := q
  simp only [execS] at q
  exact q z σ a.ex (Keep.refl _) a.rel a.er a.inn
theorem ss_nil : PSs X [] (sstOf G T W .nil) := by
  refine pssImp pss_nil fun D σ H q => ?_
  obtain ⟨b, z, env, st, rfl, a, q⟩ := q
  simp only [execSs] at q
  exact q z σ a.ex (Keep.refl _) a.rel a.er a.inn
theorem ss_cons {s : Stmt} {r : List Stmt} {m : MS} {ms : MSs} (h1 : PS X s (stOf G T W m)) (h2 : PSs X r (sstOf G T W ms)) : PSs X (s :: r) (sstOf G T W (.cons m ms)) := by
  refine pssImp (pss_cons h1 h2) fun D σ H q => ?_
  obtain ⟨b, z, env, st, rfl, a, q⟩ := q
  refine ⟨b, z, env, st, rfl, a, ?_⟩
  unfold execSs at q
  cases ho : execS G.pg T m env st with
  | next env' st' =>
    rw [ho] at q
    exact fun z' σ' e' k' r' er' nn' => ⟨b, z', env', st', rfl, ⟨e', r', er', nn'⟩, PostS.later q k'⟩
  | cont env' st' => rw [ho] at q; exact q
  | ret d st' => rw [ho] at q; exact q
  | exc e st' => rw [ho] at q; exact q
  | bad => rw [ho] at q; exact q
end
end Fw

set_option Elab.async false
set_option linter.all false
set_option maxRecDepth 100000
set_option autoImplicit false
set_option maxHeartbeats 1000000
/-! Fw13: loops; a field of self; the checker of statements. -/
namespace Fw
open PySem PySem.Spec PyProof.Rows L2
section
variable {G : Gd} {nm : Nm} {X : Cx} {N : List Str} {sc : Scope} {k : Nat} {W : WX} {T : List FT}
/-- what follows a turn -/
theorem turn_post {b : Bs} {z : Z} {o : SO} {f : Env → Store → SO} {D : Ends} {Nx : St → Hp → Prop}
    (q : PostS G b z (match (generalizing := false) o with | .next env st => f env st | .cont env st => f env st | o => o) W D)
    (h : ∀ env st z' σ, PostS G b z' (f env st) W D → Keep z z' → At G b z' env st σ → Nx σ z'.H) : PostS G b z o W { D with nx := Nx, ct := Nx, bk := D.nx } := by
  cases o with
  | next env st => exact fun z' σ e k r er nn => h env st z' σ (PostS.later q k) k ⟨e, r, er, nn⟩
  | cont env st => exact fun z' σ e k r er nn => h env st z' σ (PostS.later q k) k ⟨e, r, er, nn⟩
  | ret d st => exact q
  | exc e st => exact q
  | bad => exact q
theorem s_for (c : InS G X N sc k W) {t : Tg} {it : MI} {mb : MSs} {tg iter : Expr} {body : List Stmt} {pos : Pos} (ht : chkTg N sc t tg = true) (hi : PI X tg iter (iOf G T W it)) (hp : plainE iter = true) (hb : PSs X body (sstOf G T W mb)) : PS X (.For tg iter body [] pos) (stOf G T W (.for_ t it mb)) := by
  have pg := pg_of c.calm (by rw [c.hN]; exact c.nd) c.loc (t := t) (tg := tg) (by rw [c.hN]; exact ht)
  rw [c.K] at pg
  refine psImp (ps_for c.own c.calm hi pg hb (fun x => fold_of hp _ x)) fun D σ H q => ?_
  obtain ⟨b, z, env, st, rfl, a, q⟩ := q
  obtain ⟨F, hF, q⟩ : ∃ F : Fw.D → Env → Store → SO, (∀ x env st, F x env st = match bindTg t x env with | some env => execSs G.pg T mb env st | none => .bad) ∧ PostS G b z ((evalI G.pg T it env st).so fun xs st => forGo F xs env st) W D := ⟨_, fun _ _ _ => rfl, by simp only [execS] at q; exact q⟩
  refine ⟨z, env, st, rfl, a.rel, a.er, (PostS.so q a.ex a.rel.wf).imp fun xs st1 z1 x1 r1 p1 J dr => ?_⟩
  have a1 := a.step x1 r1
  refine ⟨fun i m σ H => ∃ z2 env2 st2, m = xs.length - i ∧ i ≤ xs.length ∧ z2.H = H ∧ Keep z1 z2 ∧ At G b z2 env2 st2 σ ∧ PostS G b z2 (forGo F (xs.drop i) env2 st2) W D, ⟨xs.length, z1, env, st1, by simp, Nat.zero_le _, rfl, Keep.refl _, a1, p1⟩, ?_⟩
  rintro i m σ2 H ⟨z2, env2, st2, rfl, hi', rfl, k2, a2, p2⟩
  by_cases hlt : i < xs.length
  · refine .inr ⟨dr.go i z2 k2 hlt, fun σ' H' => ∃ m', m' < xs.length - i ∧ ∃ z2 env2 st2, m' = xs.length - (i + 1) ∧ i + 1 ≤ xs.length ∧ z2.H = H' ∧ Keep z1 z2 ∧ At G b z2 env2 st2 σ' ∧ PostS G b z2 (forGo F (xs.drop (i + 1)) env2 st2) W D, fun _ _ h => h, fun x H' hy => ?_⟩
    obtain ⟨z3, rfl, e3, r3, rx⟩ := dr.yld i xs[i] z2 st2 x H' k2 a2.rel (List.getElem?_eq_getElem hlt) hy
    have a3 := a2.step e3 r3
    have k3 := e3.keep a2.rel.wf
    rw [List.drop_eq_getElem_cons hlt] at p2
    unfold forGo at p2
    have p3 := PostS.later p2 k3
    cases hbt : bindTg t xs[i] env2 with
    | none =>
      rw [hF, hbt] at p3
      exact p3.elim
    | some env3 =>
      refine gOf_runP (Inn b) Inn.set hbt rx (a3.er.open_ _) (a3.inn.open_ _) fun σ' er' nn' _ => ?_
      have e4 : F xs[i] env2 st2 = execSs G.pg T mb env3 st2 := by rw [hF, hbt]
      rw [e4] at p3
      refine ⟨b, z3, env3, st2, rfl, ⟨a3.ex, r3, er', nn'⟩, ?_⟩
      cases ho : execSs G.pg T mb env3 st2 with
      | next env4 st4 =>
        rw [ho] at p3
        exact fun z' σ4 x4 k4 r4 er4 nn4 => ⟨_, by omega, z', env4, st4, rfl, hlt, rfl, (k2.trans k3).trans k4, ⟨x4, r4, er4, nn4⟩, PostS.later p3 k4⟩
      | cont env4 st4 =>
        rw [ho] at p3
        exact fun z' σ4 x4 k4 r4 er4 nn4 => ⟨_, by omega, z', env4, st4, rfl, hlt, rfl, (k2.trans k3).trans k4, ⟨x4, r4, er4, nn4⟩, PostS.later p3 k4⟩
      | ret d st4 => rw [ho] at p3; exact p3
      | exc e st4 => rw [ho] at p3; exact p3
      | bad => rw [ho] at p3; exact p3
  · have ei : i = xs.length := by omega
    subst ei
    refine .inl ⟨dr.stop z2 k2, ?_⟩
    rw [List.drop_length] at p2
    exact p2 z2 σ2 a2.ex (Keep.refl _) a2.rel a2.er a2.inn
theorem s_while (c : InS G X N sc k W) {m : ME} {mb : MSs} {cc : Expr} {body : List Stmt} {pos : Pos} (hc : PT X cc (tTof G T W m)) (hb : PSs X body (sstOf G T W mb)) : PS X (.While cc body [] pos) (stOf G T W (.while_ m mb)) := by
  refine psImp (ps_while c.own hc hb) fun D σ H q => ?_
  obtain ⟨b, z, env, st, rfl, a, q⟩ := q
  simp only [execS] at q
  refine ⟨fun n σ H => ∃ z2 env2 st2, z2.H = H ∧ At G b z2 env2 st2 σ ∧ PostS G b z2 (whileGo (evalE G.pg T m) (execSs G.pg T mb) n env2 st2) W D, ⟨_, z, env, st, rfl, a, q⟩, ?_⟩
  rintro n σ2 H ⟨z2, env2, st2, rfl, a2, p2⟩
  cases n with
  | zero => exact p2.elim
  | succ n =>
    unfold whileGo at p2
    refine ⟨z2, env2, st2, rfl, a2.rel, a2.er, (PostS.so p2 a2.ex a2.rel.wf).imp fun d st3 z3 e3 r3 p3 => ?_⟩
    have a3 := a2.step e3 r3
    cases d <;> try exact p3.elim
    rename_i t
    refine ⟨t, rfl, ?_⟩
    cases t with
    | false =>
      simp only [Bool.false_eq_true, if_false]
      exact p3 z3 σ2 a3.ex (Keep.refl _) r3 a3.er a3.inn
    | true =>
      simp only [if_true]
      refine ⟨fun σ' H' => ∃ m', m' < n + 1 ∧ ∃ z2 env2 st2, z2.H = H' ∧ At G b z2 env2 st2 σ' ∧ PostS G b z2 (whileGo (evalE G.pg T m) (execSs G.pg T mb) m' env2 st2) W D, fun _ _ h => h, b, z3, env2, st3, rfl, a3, ?_⟩
      have p3 : PostS G b z3 (match (execSs G.pg T mb env2 st3) with
        | .next env st => whileGo (evalE G.pg T m) (execSs G.pg T mb) n env st
        | .cont env st => whileGo (evalE G.pg T m) (execSs G.pg T mb) n env st
        | o => o) W D := p3
      cases ho : execSs G.pg T mb env2 st3 with
      | next env4 st4 =>
        rw [ho] at p3
        exact fun z' σ4 x4 k4 r4 er4 nn4 => ⟨n, by omega, z', env4, st4, rfl, ⟨x4, r4, er4, nn4⟩, PostS.later p3 k4⟩
      | cont env4 st4 =>
        rw [ho] at p3
        exact fun z' σ4 x4 k4 r4 er4 nn4 => ⟨n, by omega, z', env4, st4, rfl, ⟨x4, r4, er4, nn4⟩, PostS.later p3 k4⟩
      | ret d st4 => rw [ho] at p3; exact p3
      | exc e st4 => rw [ho] at p3; exact p3
      | bad => rw [ho] at p3; exact p3
theorem putF_new (f : Str) (v : V) : ∀ {fs : List (Str × V)}, fs.lookup f = none → putF f v fs = fs ++ [(f, v)]
  | [], _ => rfl
  | (g, x) :: r, h => by
    rw [List.lookup_cons] at h
    cases c : f == g with
    | true => rw [c] at h; cases h
    | false =>
      rw [c] at h
      have ne : ¬ g = f := fun e => by rw [e] at c; simp at c
      unfold putF
      rw [if_neg ne, putF_new f v h]
      rfl
theorem zip_none {f : Txt} : ∀ {fs : List (Txt × D)} {vs : List V}, fs.lookup f = none → (((fs.map fun p => sOf p.1).zip vs)).lookup (sOf f) = none
  | [], vs, _ => by simp
  | p :: r, [], _ => by simp
  | p :: r, v :: vs, h => by
    rw [List.lookup_cons] at h
    simp only [List.map_cons, List.zip_cons_cons, List.lookup_cons, strBeq]
    cases c : f == p.1 with
    | true => rw [c] at h; cases h
    | false => rw [c] at h; exact zip_none h
theorem s_finit (S : Static G nm) (c : InS G X N sc k W) {i : Nat} {x : Str} {f : Txt} {e : Expr} {m : ME} {px ap pos : Pos} (hi : N[i]? = some x) (h2 : visS sc x = true) (h3 : okN x = true) (h : PE X e (tOf G T W m)) (hc : isComp e = false) :
    PS X (.Assign [.Attribute (.Name x px) (sOf f) ap] e pos) (stOf G T W (.finit i f m)) := by
  refine psImp (ps_fld (pe_var (i := i) (by rw [c.hN]; exact hi) (by rw [c.hsc]; exact visS_ok h2) (okN_dbg h3) (okN_cd h3)) h (sw_plain hc _ _ _)) fun D σ H q => ?_
  obtain ⟨b, z, env, st, rfl, a, q⟩ := q
  simp only [execS] at q
  split at q
  · rename_i cl fs he
    refine ⟨z, env, st, rfl, a.rel, a.er, (PostS.so q a.ex a.rel.wf).imp fun d st1 z1 x1 r1 p1 v rv => ?_⟩
    have a1 := a.step x1 r1
    split at p1
    · rename_i hc
      obtain ⟨c1, c2, c3⟩ := hc
      obtain ⟨p, dx, vs, kl, e1, hk, hH, hl, rs, nf, ni⟩ := a1.er.at_ i _ he
      have np : b.z.H p = none := a.inn.new i _ p (by simp) he rfl e1
      have hnone : fs.lookup f = none := by simpa using c2
      obtain ⟨s1, s2, s3, s4⟩ := S.cls cl kl hk
      rw [hk] at c3
      have hf : f ∈ kl.fs := by simpa using c3
      refine ⟨.ref p, e1, p, _, dx, _, rfl, hH, by rw [c.K]; exact s1, by rw [c.K]; exact s2 f hf, by rw [List.length_zip, List.length_map, hl]; omega, ?_⟩
      rw [putF_new (sOf f) v (zip_none hnone)]
      have al : Alone z1 p := ⟨⟨_, hH, by simp⟩, nf, ni⟩
      refine p1 (z1.put p _) σ (a1.ex.put np) (Keep.put nf) (r1.put al) (a1.er.putO he rfl e1 nf ni rfl ?_) (a1.inn.putO he rfl (fun c' fs' e => by cases e; exact ⟨fs, rfl⟩))
      refine ⟨p, dx, vs ++ [v], kl, e1, hk, ?_, by simp [hl], ?_, nf, ni⟩
      · rw [show (z1.put p _).H p = some _ from upd_same, List.map_append, List.zip_append (by rw [List.length_map, hl])]
        rfl
      · rw [List.map_append]
        exact Rs.keep (Keep.put nf) _ _ (rs.app (Rs.mk _ _ rv (Rs.nil.mpr rfl)))
    · exact p1.elim
  · exact q.elim
end

/-! ### the checker of statements -/
def notTup : Expr → Bool
  | .Tuple _ _ _ => false
  | _ => true
mutual
def chkS (C : Ck) (sc : Scope) : MS → Stmt → Bool
  | .expr m, s => match s with
    | .Expr e _ => chk C m false sc e && !isComp e
    | _ => false
  | .set t m, s => match s with
    | .Assign [tg] e _ => chkTg C.N sc t tg && chk C m false sc e && (!isComp e || (match t, tg with | .one _, .Name _ _ => true | _, _ => false)) && ((match t with | .one _ => true | .many _ => false) || notTup e)
    | _ => false
  | .par2 i j a b, s => match s with
    | .Assign [.Tuple [.Name x px, .Name y py] _ _] (.Tuple [e, f] _ _) _ => decide (C.N[i]? = some x) && decide (C.N[j]? = some y) && par2C sc x y px.line py.line e f && chk C a false sc e && chk C b false sc f
    | _ => false
  | .own i es, s => match s with
    | .Assign [.Name x _] (.List xs _) _ => decide (C.N[i]? = some x) && locS sc x && chkEs C es sc xs
    | _ => false
  | .app i m, s => match s with
    | .Expr (.Call (.Attribute (.Name x _) y apos) [e] [] cpos) _ => decide (y = "append") && ckV C sc i x && chk C m false sc e && plainE e && (apos.endLine == cpos.line)
    | _ => false
  | .ext i m, s => match s with
    | .Expr (.Call (.Attribute (.Name x _) y apos) [e] [] cpos) _ => decide (y = "extend") && ckV C sc i x && chk C m false sc e && plainE e && (apos.endLine == cpos.line)
    | _ => false
  | .finit i f m, s => match s with
    | .Assign [.Attribute (.Name x _) g _] e _ => ckV C sc i x && decide (g = sOf f) && chk C m false sc e && !isComp e
    | _ => false
  | .if_ m a b, s => match s with
    | .If e xs ys _ => chk C m true sc e && chkSs C sc a xs && chkSs C sc b ys
    | _ => false
  | .for_ t it mb, s => match s with
    | .For tg iter body [] _ => chkTg C.N sc t tg && chkI C it sc tg iter && plainE iter && chkSs C sc mb body
    | _ => false
  | .while_ m mb, s => match s with
    | .While e body [] _ => chk C m true sc e && chkSs C sc mb body
    | _ => false
  | .ret m, s => match s with
    | .Return (some e) _ => chk C m false sc e
    | .Return none _ => (match m with | .lit .non => true | _ => false)
    | _ => false
  | .cont, s => match s with
    | .Continue _ => true
    | _ => false
  | .pass, s => match s with
    | .Pass _ => true
    | _ => false
  | .ownD _ _ _, _ => false
  | .newCell _, _ => false
  | .setD _ _ _, _ => false
  | .appC _ _, _ => false
  | .fset _ _ _, _ => false
  | .raise _ _, _ => false
  | .tryE _ _ _, _ => false
def chkSs (C : Ck) (sc : Scope) : MSs → List Stmt → Bool
  | .nil, ss => match ss with
    | [] => true
    | _ => false
  | .cons m ms, ss => match ss with
    | s :: ss => chkS C sc m s && chkSs C sc ms ss
    | [] => false
end
section
variable {G : Gd} {C : Ck} {k : Nat}
/-- a comprehension, checked -/
theorem comp_inv (S : Static G C.nm) (hpg : C.pg = G.pg) (L : ∀ j, j ≤ k → FnsOk G j) {X : Cx} {sc : Scope} {W : WX} (c : InS G X C.N sc k W) {i : Nat} {y : Str} {py pos : Pos} (hy : C.N[i]? = some y) (hl : locS sc y = true) {m : ME} {e : Expr} (h : chk C m false sc e = true) (hc : isComp e = true) :
    PS X (.Assign [.Name y py] e pos) (stOf G (tabs G.pg k) W (.set (.one i) m)) := by
  have key : ∃ tt elt it cs x tg iter ifs scope p, m = .comp tt elt it cs ∧ e = .ListComp x [⟨tg, iter, ifs, 0⟩] scope p ∧ (blkC C.N sc scope tt && chkTg C.N scope tt tg && chkI C it sc tg iter && plainE iter && chkCs C cs (relS scope sc) ifs && chk C elt false (relS scope sc) x) = true := by
    cases m
    case comp tt elt it cs =>
      unfold chk at h; split at h <;> try cases h
      simp only [Bool.and_eq_true, decide_eq_true_eq, Bool.not_false, true_and] at h
      obtain ⟨⟨⟨⟨⟨⟨rfl, h1⟩, h2⟩, h3⟩, h4⟩, h5⟩, h6⟩ := h
      refine ⟨_, _, _, _, _, _, _, _, _, _, rfl, rfl, ?_⟩
      simp only [Bool.and_eq_true]
      exact ⟨⟨⟨⟨⟨h1, h2⟩, h3⟩, h4⟩, h5⟩, h6⟩
    all_goals first
      | (unfold chk at h; split at h <;> first | (cases h; done) | (cases hc; done))
      | (unfold chk at h; cases h; done)
      | (rename_i bb es; cases bb <;> (unfold chk at h; split at h <;> first | (cases h; done) | (cases hc; done)))
  obtain ⟨tt, elt, it, cs, x, tg, iter, ifs, scope, p, rfl, rfl, hq⟩ := key
  simp only [Bool.and_eq_true] at hq
  obtain ⟨⟨⟨⟨⟨h1, h2⟩, h3⟩, h4⟩, h5⟩, h6⟩ := hq
  exact s_setComp c hy hl h1 h2 (simI S hpg L c.toIn it h3) h4 fun Xb W' cb => ⟨simCs S hpg L cb cs h5, (sim S hpg L cb elt h6).1⟩
mutual
theorem simS (S : Static G C.nm) (hpg : C.pg = G.pg) (L : ∀ j, j ≤ k → FnsOk G j) {X : Cx} {sc : Scope} {W : WX} (c : InS G X C.N sc k W) : ∀ (m : MS) {s : Stmt}, chkS C sc m s = true → PS X s (stOf G (tabs G.pg k) W m)
  | .expr m, s, h => by
    unfold chkS at h; split at h <;> try cases h
    simp only [Bool.and_eq_true, Bool.not_eq_true'] at h
    exact s_expr (sim S hpg L c.toIn m h.1).1 h.2
  | .set t m, s, h => by
    unfold chkS at h; split at h <;> try cases h
    rename_i tg e pos
    simp only [Bool.and_eq_true, Bool.or_eq_true, Bool.not_eq_true'] at h
    obtain ⟨⟨⟨h1, h2⟩, h3⟩, h4⟩ := h
    cases hc : isComp e with
    | false =>
      refine s_set c h1 (sim S hpg L c.toIn m h2).1 hc ?_
      cases t with
      | one j => exact .inl ⟨j, rfl⟩
      | many is =>
        rcases h4 with h4 | h4
        · cases h4
        · exact .inr fun es kk p e' => by rw [e'] at h4; cases h4
    | true =>
      rcases h3 with h3 | h3
      · rw [hc] at h3; cases h3
      · split at h3
        · rename_i i x p
          simp only [chkTg, Bool.and_eq_true, decide_eq_true_eq] at h1
          exact comp_inv S hpg L c h1.1 h1.2 h2 hc
        · cases h3
  | .par2 i j a b, s, h => by
    unfold chkS at h; split at h <;> try cases h
    simp only [Bool.and_eq_true, decide_eq_true_eq] at h
    obtain ⟨⟨⟨⟨h1, h2⟩, h3⟩, h4⟩, h5⟩ := h
    exact s_par2 c h1 h2 h3 (sim S hpg L c.toIn a h4).1 (sim S hpg L c.toIn b h5).1
  | .own i es, s, h => by
    unfold chkS at h; split at h <;> try cases h
    simp only [Bool.and_eq_true, decide_eq_true_eq] at h
    exact s_own c h.1.1 h.1.2 (simEs S hpg L c.toIn es h.2).1
  | .app i m, s, h => by
    unfold chkS at h; split at h <;> try cases h
    simp only [Bool.and_eq_true, decide_eq_true_eq] at h
    obtain ⟨⟨⟨⟨h0, h1⟩, h2⟩, h3⟩, h4⟩ := h
    obtain ⟨a1, a2, a3⟩ := ckV_ok h1
    exact s_app c h0 a1 a2 a3 (sim S hpg L c.toIn m h2).1 h3 h4
  | .ext i m, s, h => by
    unfold chkS at h; split at h <;> try cases h
    simp only [Bool.and_eq_true, decide_eq_true_eq] at h
    obtain ⟨⟨⟨⟨h0, h1⟩, h2⟩, h3⟩, h4⟩ := h
    obtain ⟨a1, a2, a3⟩ := ckV_ok h1
    exact s_ext c h0 a1 a2 a3 (sim S hpg L c.toIn m h2).1 h3 h4
  | .finit i f m, s, h => by
    unfold chkS at h; split at h <;> try cases h
    simp only [Bool.and_eq_true, decide_eq_true_eq, Bool.not_eq_true'] at h
    obtain ⟨⟨⟨h1, rfl⟩, h2⟩, h3⟩ := h
    obtain ⟨a1, a2, a3⟩ := ckV_ok h1
    exact s_finit S c a1 a2 a3 (sim S hpg L c.toIn m h2).1 h3
  | .if_ m a b, s, h => by
    unfold chkS at h; split at h <;> try cases h
    simp only [Bool.and_eq_true] at h
    exact s_if ((sim S hpg L c.toIn m h.1.1).2 rfl) (simSs S hpg L c a h.1.2) (simSs S hpg L c b h.2)
  | .for_ t it mb, s, h => by
    unfold chkS at h; split at h <;> try cases h
    simp only [Bool.and_eq_true] at h
    obtain ⟨⟨⟨h1, h2⟩, h3⟩, h4⟩ := h
    exact s_for c h1 (simI S hpg L c.toIn it h2) h3 (simSs S hpg L c mb h4)
  | .while_ m mb, s, h => by
    unfold chkS at h; split at h <;> try cases h
    simp only [Bool.and_eq_true] at h
    exact s_while c ((sim S hpg L c.toIn m h.1).2 rfl) (simSs S hpg L c mb h.2)
  | .ret m, s, h => by
    unfold chkS at h; split at h <;> try cases h
    · exact s_ret (sim S hpg L c.toIn m h).1
    · split at h <;> try cases h
      exact s_retN
  | .cont, s, h => by
    unfold chkS at h; split at h <;> try cases h
    exact s_cont
  | .pass, s, h => by
    unfold chkS at h; split at h <;> try cases h
    exact s_pass
  | .ownD _ _ _, s, h => by unfold chkS at h; cases h
  | .newCell _, s, h => by unfold chkS at h; cases h
  | .setD _ _ _, s, h => by unfold chkS at h; cases h
  | .appC _ _, s, h => by unfold chkS at h; cases h
  | .fset _ _ _, s, h => by unfold chkS at h; cases h
  | .raise _ _, s, h => by unfold chkS at h; cases h
  | .tryE _ _ _, s, h => by unfold chkS at h; cases h
theorem simSs (S : Static G C.nm) (hpg : C.pg = G.pg) (L : ∀ j, j ≤ k → FnsOk G j) {X : Cx} {sc : Scope} {W : WX} (c : InS G X C.N sc k W) : ∀ (ms : MSs) {ss : List Stmt}, chkSs C sc ms ss = true → PSs X ss (sstOf G (tabs G.pg k) W ms)
  | .nil, ss, h => by
    unfold chkSs at h; split at h <;> try cases h
    exact ss_nil
  | .cons m ms, ss, h => by
    unfold chkSs at h; split at h <;> try cases h
    simp only [Bool.and_eq_true] at h
    exact ss_cons (simS S hpg L c m h.1) (simSs S hpg L c ms h.2)
end
end
end Fw

set_option Elab.async false
set_option linter.all false
set_option maxRecDepth 100000
set_option autoImplicit false
set_option maxHeartbeats 1000000
/-! Fw14: the defs keep their promises, level by level. -/
namespace Fw
open PySem PySem.Spec PyProof.Rows L2

/-- a def of the text is the def of ours -/
structure DefOk (G : Gd) (nm : Nm) (f : Nat) : Prop where
  ex : ∃ (d : MDef) (N : List Str) (x qual : Str) (st : Stmt), G.pg.defs[f]? = some d ∧ C8.Fun G.K x qual st (G.fA f) (G.fD f) ∧ C8.scC N (G.fP f) (C8.fnScope st) = true ∧ chkSs ⟨nm, G.pg, N⟩ (C8.fnScope st) d.body (C8.fnBody st) = true ∧ N.length = d.n ∧ (G.fP f).length = d.np ∧ d.np ≤ d.n

section
variable {G : Gd} {nm : Nm}
theorem start_at {N : List Str} {vs : List V} (hl : vs.length ≤ N.length) (i : Nat) : (L2.start N vs)[i]? = if i < vs.length then (vs[i]?).map some else if i < N.length then some none else none := by
  unfold L2.start
  by_cases h : i < vs.length
  · rw [if_pos h, List.getElem?_append_left (by simpa using h), List.getElem?_map]
  · rw [if_neg h, List.getElem?_append_right (by simpa using h), List.length_map, List.getElem?_replicate]
    by_cases h2 : i < N.length
    · rw [if_pos (by omega), if_pos h2]
    · rw [if_neg (by omega), if_neg h2]
theorem start_len {N : List Str} {vs : List V} (hl : vs.length ≤ N.length) : (L2.start N vs).length = N.length := by
  unfold L2.start
  simp
  omega
theorem startEnv_R {z : Z} {N : List Str} {n : Nat} {ds : List D} {vs : List V} (h : Rs G z ds vs) (hn : N.length = n) (hl : ds.length ≤ n) : EnvR G z (startEnv n ds) (L2.start N vs) := by
  have hvs := h.len
  have at_ : ∀ (i : Nat) (s : Slot), (startEnv n ds)[i]? = some s → (∃ d, ds[i]? = some d ∧ s = Slot.val d) ∨ s = Slot.un := fun i s e => by
    unfold startEnv at e
    by_cases c : i < ds.length
    · rw [List.getElem?_append_left (by simpa using c), List.getElem?_map] at e
      obtain ⟨d, e1, e2⟩ := Option.map_eq_some_iff.mp e
      exact .inl ⟨d, e1, e2.symm⟩
    · rw [List.getElem?_append_right (by simpa using c), List.getElem?_replicate] at e
      split at e <;> cases e
      exact .inr rfl
  refine ⟨?_, fun i s e => ?_, fun i j s t a e1 e2 a1 a2 q1 q2 => ?_⟩
  · rw [start_len (by omega)]
    unfold startEnv
    simp
    omega
  · rcases at_ i s e with ⟨d, e1, rfl⟩ | rfl
    · obtain ⟨v, e2, r⟩ := h.get e1
      refine ⟨v, ?_, r⟩
      rw [start_at (by omega), if_pos (List.getElem?_eq_some_iff.mp e2).1, e2]
      rfl
    · trivial
  · rcases at_ i s e1 with ⟨d, _, rfl⟩ | rfl <;> cases a1
theorem startEnv_inn {b : Bs} {n : Nat} {ds : List D} {σ : St} : Inn b [] (startEnv n ds) σ := by
  have at_ : ∀ (i : Nat) (s : Slot), (startEnv n ds)[i]? = some s → (∃ d, s = Slot.val d) ∨ s = Slot.un := fun i s e => by
    unfold startEnv at e
    by_cases c : i < ds.length
    · rw [List.getElem?_append_left (by simpa using c), List.getElem?_map] at e
      obtain ⟨d, e1, e2⟩ := Option.map_eq_some_iff.mp e
      exact .inl ⟨d, e2.symm⟩
    · rw [List.getElem?_append_right (by simpa using c), List.getElem?_replicate] at e
      split at e <;> cases e
      exact .inr rfl
  refine ⟨fun i s a _ e al _ => ?_, fun i c fs _ e => ?_⟩
  · rcases at_ i s e with ⟨d, rfl⟩ | rfl <;> cases al
  · rcases at_ i _ e with ⟨d, q⟩ | q <;> cases q
/-- the context of a def's body is a context of ours -/
theorem inS_of {N ps : List Str} {qual : Str} {scope : Scope} {f : Addr} {cd : Value} {A : Around} {outer : List PySem.Env} {s : Shared} {H : Hp} {E : XK} {k : Nat} (sc : FnScope N ps scope) (rm : Room k (A.deeper (envOfC qual scope s.heap.objs.size f cd))) :
    InS G (cxOf (L2.CX G.P G.w) G.P G.w G.K G.mg G.base N qual scope f cd A outer s H E) N scope k (fun cls d _ H => E cls d H) where
  P := rfl
  w := rfl
  K := rfl
  mg := rfl
  base := rfl
  calm := rfl
  room := ⟨k, rm⟩
  hN := rfl
  nd := sc.nd
  hsc := rfl
  rm := rm
  fr := ⟨_, outer, s.heap.objs.size, rfl, rfl, rfl⟩
  tk := takesF_of (E₁ := fun e' s'' => L2.CX G.P G.w outer H s E e' s'') rfl rfl rfl rfl
  hfn := fun _ => rfl
  own := passes_of (K := fun e s'' => L2.CX G.P G.w outer H s E e s'') (E₁ := fun e' s'' => L2.CX G.P G.w outer H s E e' s'') rfl
  kd := sc.kind
theorem spOf_cases (T : List FT) (f : Nat) : (∃ c, (G.pg.defs[f]?).bind (·.ini) = some c ∧ spOf G T f = spIni G T c f) ∨ ((G.pg.defs[f]?).bind (·.ini) = none ∧ spOf G T f = spFn G T f) := by
  unfold spOf
  cases h : (G.pg.defs[f]?).bind (·.ini) with
  | none => exact .inr ⟨rfl, rfl⟩
  | some c => exact .inl ⟨c, rfl, rfl⟩
theorem fns0 : FnsOk G 0 := by
  intro f hf
  have no : ∀ vs H Q E, ¬ spOf G (tabs G.pg 0) f vs H Q E := fun vs H Q E h => by
    rcases spOf_cases (G := G) (tabs G.pg 0) f with ⟨c, _, e⟩ | ⟨_, e⟩ <;> rw [e] at h
    · obtain ⟨z, st, ds, x, dx, rest, _, _, _, _, _, _, _, q⟩ := h
      exact q
    · obtain ⟨z, st, ds, _, _, _, q⟩ := h
      exact q
  exact ⟨fun vs H Q E h => (no _ _ _ _ h).elim, fun A outer s H args us vs Q E _ _ _ _ h => (no _ _ _ _ h).elim⟩
theorem fns_succ (S : Static G nm) (hd : ∀ f, f < G.pg.defs.length → DefOk G nm f) {k : Nat} (L : ∀ j, j ≤ k → FnsOk G j) : FnsOk G (k + 1) := by
  intro f hf
  obtain ⟨d, N, x, qual, stm, hdf, F, hsc, hck, hN, hP, hnp⟩ := (hd f hf).ex
  obtain ⟨oc, od, dV, kV, doc, pm, an, cdv, ct, osl, efd, lk, hcd⟩ := F.ex
  have sc := C8.fnScope_by hsc
  rw [efd] at lk ⊢
  have hrun : ∀ ds st, callT (tabs G.pg (k + 1)) f ds st = runDef G.pg (tabs G.pg k) f ds st := fun _ _ => rfl
  refine fn_of lk hcd sc (fun vs H Q E h => ?_) fun A outer s H vs Q E hr hsp => ⟨_, simSs (C := ⟨nm, G.pg, N⟩) S rfl L (inS_of sc hr) d.body hck, ?_⟩
  · rcases spOf_cases (G := G) (tabs G.pg (k + 1)) f with ⟨c, hc, e⟩ | ⟨hc, e⟩ <;> rw [e] at h <;> rw [hdf] at hc <;> simp only [Option.bind_some] at hc
    · obtain ⟨z, st, ds, y, dx, rest, rfl, _, _, _, _, _, rs, q⟩ := h
      rw [hrun] at q
      unfold runDef at q
      rw [hdf] at q
      simp only [hc] at q
      split at q
      · rename_i heq
        split at heq
        · rename_i hlen
          rw [List.length_cons, rs.len, hlen, hP]
        · cases heq
      · exact q.elim
    · obtain ⟨z, st, ds, _, _, rs, q⟩ := h
      rw [hrun] at q
      unfold runDef at q
      rw [hdf] at q
      simp only [hc] at q
      split at q
      · rename_i hlen
        rw [rs.len, hlen, hP]
      · exact q.elim
  · rcases spOf_cases (G := G) (tabs G.pg (k + 1)) f with ⟨c, hc, e⟩ | ⟨hc, e⟩ <;> rw [e] at hsp <;> rw [hdf] at hc <;> simp only [Option.bind_some] at hc
    · obtain ⟨z, st, ds, y, dx, rest, rfl, hy, hdx, ne, rfl, rel, rs, q⟩ := hsp
      rw [hrun] at q
      unfold runDef at q
      rw [hdf] at q
      simp only [hc] at q
      split at q
      rotate_left
      · exact q.elim
      rename_i fs st' heq
      split at heq
      rotate_left
      · cases heq
      rename_i hlen
      -- the state at the entry
      have e1 : Ext z (z.put dx (.own y)) := (Ext.refl z).put hdx
      have e2 : Ext z ((z.put dx (.own y)).put y (.ins (G.cA c) dx [])) := e1.put hy
      have nfy : ¬ z.F y := rel.notF hy
      have niy : y ∉ z.io := rel.notIn hy
      have r1 : Rel G (z.put dx (.own y)) st := rel.put' (rel.notF hdx) (rel.notIn hdx)
      have r2 : Rel G ((z.put dx (.own y)).put y (.ins (G.cA c) dx [])) st := r1.put' nfy niy
      have er0 := startEnv_R (N := N.drop 1) (n := d.n - 1) (rs.ext e2 rel.wf) (by rw [List.length_drop, hN]) (by omega)
      have hl1 := rs.len
      cases hb : execSs G.pg (tabs G.pg k) d.body (startIni c d.n ds) st with
      | cont _ _ => rw [hb] at heq; cases heq
      | ret _ _ => rw [hb] at heq; cases heq
      | bad => rw [hb] at heq; cases heq
      | exc _ _ => rw [hb] at heq; cases heq
      | next env' st2 =>
        rw [hb] at heq
        cases env' with
        | nil => cases heq
        | cons s0 er' =>
          cases s0 with
          | un => cases heq
          | val _ => cases heq
          | own _ => cases heq
          | ownD _ => cases heq
          | self c' fs' =>
            simp only [] at heq
            split at heq
            rotate_left
            · cases heq
            rename_i hcc
            cases heq
            obtain ⟨rfl, hfs⟩ := hcc
            obtain ⟨kl, hk⟩ : ∃ kl, G.pg.cls[c']? = some kl := by
              cases hq : G.pg.cls[c']? with
              | none => rw [hq] at hfs; cases hfs
              | some kl => exact ⟨kl, rfl⟩
            rw [hk] at hfs
            have hfs : fs'.map (·.1) = kl.fs := by simpa using hfs
            have hstart : L2.start N (.ref y :: rest) = some (.ref y) :: L2.start (N.drop 1) rest := by
              unfold L2.start
              rw [List.map_cons, List.length_cons, List.length_drop, List.cons_append]
              congr 2
              congr 1
              omega
            have hini : startIni c' d.n ds = .self c' [] :: startEnv (d.n - 1) ds := by
              unfold startIni startEnv
              rfl
            have a0 : At G ⟨z, y⟩ ((z.put dx (.own y)).put y (.ins (G.cA c') dx [])) (startIni c' d.n ds) st (L2.start N (.ref y :: rest)) := by
              refine ⟨e2, r2, ?_, ?_⟩
              · rw [hstart, hini]
                refine ⟨by rw [List.length_cons, List.length_cons, er0.len], fun i s0 e => ?_, fun i j s0 t a q1 q2 a1 a2 p1 p2 => ?_⟩
                · cases i with
                  | zero =>
                    cases e
                    exact ⟨y, dx, [], kl, rfl, hk, upd_same, rfl, Rs.nil.mpr rfl, nfy, niy⟩
                  | succ i => exact er0.at_ i s0 (by simpa using e)
                · have no : ∀ {i : Nat} {s0 : Slot}, (Slot.self c' [] :: startEnv (d.n - 1) ds)[i + 1]? = some s0 → s0.alone = true → False := fun {i s0} q al => by
                    have q : (startEnv (d.n - 1) ds)[i]? = some s0 := by simpa using q
                    unfold startEnv at q
                    by_cases cc : i < ds.length
                    · rw [List.getElem?_append_left (by simpa using cc), List.getElem?_map] at q
                      obtain ⟨d', _, rfl⟩ := Option.map_eq_some_iff.mp q
                      cases al
                    · rw [List.getElem?_append_right (by simpa using cc), List.getElem?_replicate] at q
                      split at q <;> cases q
                      cases al
                  cases i with
                  | zero =>
                    cases j with
                    | zero => rfl
                    | succ j => exact (no q2 a2).elim
                  | succ i => exact (no q1 a1).elim
              · rw [hstart, hini]
                refine ⟨fun i s0 a _ e al q => ?_, fun i c2 fs2 _ e => ?_⟩
                · cases i with
                  | zero => cases q; exact hy
                  | succ i => exact (startEnv_inn (b := ⟨z, y⟩) (σ := L2.start (N.drop 1) rest)).new i s0 a (by simp) (by simpa using e) al (by simpa using q)
                · cases i with
                  | zero => rfl
                  | succ i => exact (startEnv_inn (b := ⟨z, y⟩) (σ := L2.start (N.drop 1) rest)).self i c2 fs2 (by simp) (by simpa using e)
            refine ⟨⟨z, y⟩, _, _, st, rfl, a0, ?_⟩
            rw [hb]
            intro z' σ' ez kz rz erz innz
            obtain ⟨a, dx', ws, k2, p1, hk2, hH, hl, rw', nf, ni⟩ := erz.at_ 0 _ rfl
            have p2 := innz.self 0 c' fs' (by simp) rfl
            rw [p1] at p2
            cases p2
            rw [hk] at hk2
            cases hk2
            have hmap : (fs'.map fun p => sOf p.1) = kl.fs.map sOf := by rw [← hfs, List.map_map]; rfl
            rw [hmap] at hH
            exact q z' ws kl dx' ez rz ⟨⟨_, hH, by simp⟩, nf, ni⟩ hk hH (by rw [hl, ← hfs, List.length_map]) rw'
    · obtain ⟨z, st, ds, rfl, rel, rs, q⟩ := hsp
      rw [hrun] at q
      unfold runDef at q
      rw [hdf] at q
      simp only [hc] at q
      split at q
      rotate_left
      · exact q.elim
      rename_i hlen
      refine ⟨⟨z, 0⟩, z, startEnv d.n ds, st, rfl, ⟨Ext.refl z, rel, startEnv_R rs hN (by omega), startEnv_inn⟩, ?_⟩
      cases hb : execSs G.pg (tabs G.pg k) d.body (startEnv d.n ds) st with
      | next env' st' => rw [hb] at q; exact fun z' σ' e _ r _ _ => q z' e r _ (R.non.mpr rfl)
      | cont _ _ => rw [hb] at q; exact q.elim
      | ret x st' => rw [hb] at q; exact fun z' v e r rv => q z' e r v rv
      | exc x st' => rw [hb] at q; exact fun z' cls dd _ e r xr => q z' cls dd e r xr
      | bad => rw [hb] at q; exact q.elim
theorem fns_ok (S : Static G nm) (hd : ∀ f, f < G.pg.defs.length → DefOk G nm f) : ∀ k, FnsOk G k := by
  intro k
  induction k using Nat.strongRecOn with
  | _ k ih =>
    cases k with
    | zero => exact fns0
    | succ k => exact fns_succ S hd fun j hj => ih j (by omega)
end
end Fw

set_option Elab.async false
set_option linter.all false
set_option maxRecDepth 100000
set_option autoImplicit false
set_option maxHeartbeats 1000000
/-! Fw15: a law's end. -/
namespace Fw
open PySem PySem.Spec PyProof.Rows L2
def AllFrom {α : Type} (P : Nat → α → Prop) : Nat → List α → Prop
  | _, [] => True
  | n, x :: r => P n x ∧ AllFrom P (n + 1) r
theorem allFrom {α : Type} {P : Nat → α → Prop} : ∀ {l : List α} {n : Nat}, AllFrom P n l → ∀ (i : Nat) (x : α), l[i]? = some x → P (n + i) x
  | y :: r, n, h, 0, x, e => by cases e; exact h.1
  | y :: r, n, h, i + 1, x, e => by
    have := allFrom h.2 i x (by simpa using e)
    rw [show n + (i + 1) = n + 1 + i by omega]
    exact this
theorem allAt {α : Type} {P : Nat → α → Prop} {l : List α} (h : AllFrom P 0 l) (i : Nat) (x : α) (e : l[i]? = some x) : P i x := by
  have := allFrom h i x e
  rwa [Nat.zero_add] at this
/-- what a law's script is, for the walk -/
def spScr (K : PySem.W.Frag) : Sp := fun vs H Q _ => ∃ (a : Addr) (ns : List Int), vs = [.ref a] ∧ SqL K H a (ns.map V.int) ∧ ns.length ≤ 63 ∧ Only H ∧ ∀ H', Q (.bl true) H'
theorem scr_of {G : Gd} {k f : Nat} (hi : (G.pg.defs[f]?).bind (·.ini) = none) (hlaw : ∀ ns : List Int, ns.length ≤ 63 → ∃ st, callT (tabs G.pg k) f [.scr ns] [] = .ok (.bl true) st) (vs : List V) (H : Hp) (Q : VK) (E : XK) (h : spScr G.K vs H Q E) : spOf G (tabs G.pg k) f vs H Q E := by
  obtain ⟨a, ns, rfl, hS, hl, hO, q⟩ := h
  rcases spOf_cases (G := G) (tabs G.pg k) f with ⟨c, hc, _⟩ | ⟨_, es⟩
  · rw [hi] at hc; cases hc
  rw [es]
  obtain ⟨st, e⟩ := hlaw ns hl
  refine ⟨⟨H, fun b => b = a ∧ (H a).isSome = true, []⟩, [], [.scr ns], rfl, ⟨⟨fun b hb => (nomatch hb), List.nodup_nil, fun b hb => ?_⟩, rfl, fun i c hc => (by simp at hc)⟩, Rs.mk _ _ ?_ (Rs.nil.mpr rfl), ?_⟩
  · obtain ⟨rfl, hs⟩ := hb
    obtain ⟨o, ho⟩ := Option.isSome_iff_exists.mp hs
    refine ⟨o, ho, fun ps e => ?_⟩
    rcases hO b with z | ⟨o', xs, z⟩
    · rw [ho] at z; cases z
    · rw [ho] at z; cases z; cases e
  · simp only [R]
    refine ⟨a, rfl, ?_⟩
    rcases hS with z | z
    · refine .inl ⟨⟨rfl, ?_⟩, z⟩
      rcases z with z | ⟨o, z⟩
      · show (H a).isSome = true
        rw [z]; rfl
      · show (H a).isSome = true
        rw [z]; rfl
    · exact .inr z
  · unfold PostF
    rw [e]
    exact fun z' _ _ v rv => by rw [R.bl.mp rv]; exact q _
theorem cx_false {P : Program} {w : World} {H : Hp} {s : Shared} {e : Value} {s' : Shared} (h : L2.CX P w [] H s (fun _ _ _ => False) e s') : False := by
  obtain ⟨_, _, _, _, _, _, _, _, _, _, _, _, hE⟩ := h
  exact hE
end Fw

set_option maxHeartbeats 0
namespace K20
open Fw
/-- inner: 0 term -/
def d_inner : MDef := ⟨1, 1, none,
  (.cons (.ret (.ite (.cmp .in_ (.ix (.var 0) (.lit (.int 0))) (.tup (.cons (.lit (.str [110, 117, 109])) (.cons (.lit (.str [110, 97, 109, 101])) .nil)))) (.lst .nil) (.blt .list1 (.cons (.slFrom (.var 0) (.lit (.int 1))) .nil)))) .nil)⟩
/-- all_in: 0 term 1 found 2 one -/
def d_all_in : MDef := ⟨3, 1, none,
  (.cons (.set (.one 1) (.lst (.cons (.var 0) .nil))) (.cons (.for_ (.one 2) (.val (.call 0 (.cons (.var 0) .nil))) (.cons (.set (.one 1) (.bin .add (.var 1) (.call 1 (.cons (.var 2) .nil)))) .nil)) (.cons (.ret (.var 1)) .nil)))⟩
/-- cut: 0 low 1 high 2 found -/
def d_cut : MDef := ⟨3, 2, none,
  (.cons (.set (.one 2) (.tup (.cons (.blt .max2 (.cons (.var 0) (.cons (.bin .sub (.lit (.int 0)) (.glob 0)) .nil))) (.cons (.blt .min2 (.cons (.var 1) (.cons (.glob 0) .nil))) .nil)))) (.cons (.ret (.ite (.cmp .le (.ix (.var 2) (.lit (.int 0))) (.ix (.var 2) (.lit (.int 1)))) (.var 2) (.glob 1))) .nil))⟩
/-- hull: 0 one 1 other -/
def d_hull : MDef := ⟨2, 2, none,
  (.cons (.ret (.tup (.cons (.blt .min2 (.cons (.ix (.var 0) (.lit (.int 0))) (.cons (.ix (.var 1) (.lit (.int 0))) .nil))) (.cons (.blt .max2 (.cons (.ix (.var 0) (.lit (.int 1))) (.cons (.ix (.var 1) (.lit (.int 1))) .nil))) .nil)))) .nil)⟩
/-- is_fit: 0 low 1 high -/
def d_is_fit : MDef := ⟨2, 2, none,
  (.cons (.ret (.and (.cons (.cmp .le (.bin .sub (.lit (.int 0)) (.glob 0)) (.var 0)) (.cons (.cmp .le (.var 1) (.glob 0)) .nil)))) .nil)⟩
/-- products: 0 one 1 other 2 found -/
def d_products : MDef := ⟨3, 2, none,
  (.cons (.set (.one 2) (.lst (.cons (.bin .mul (.ix (.var 0) (.lit (.int 0))) (.ix (.var 1) (.lit (.int 0)))) (.cons (.bin .mul (.ix (.var 0) (.lit (.int 0))) (.ix (.var 1) (.lit (.int 1)))) (.cons (.bin .mul (.ix (.var 0) (.lit (.int 1))) (.ix (.var 1) (.lit (.int 0)))) (.cons (.bin .mul (.ix (.var 0) (.lit (.int 1))) (.ix (.var 1) (.lit (.int 1)))) .nil)))))) (.cons (.ret (.tup (.cons (.blt .min1 (.cons (.var 2) .nil)) (.cons (.blt .max1 (.cons (.var 2) .nil)) .nil)))) .nil))⟩
/-- part_bounds: 0 one 1 other 2 found -/
def d_part_bounds : MDef := ⟨3, 2, none,
  (.cons (.set (.one 2) (.lst (.cons (.bin .fdiv (.ix (.var 0) (.lit (.int 0))) (.ix (.var 1) (.lit (.int 0)))) (.cons (.bin .fdiv (.ix (.var 0) (.lit (.int 0))) (.ix (.var 1) (.lit (.int 1)))) (.cons (.bin .fdiv (.ix (.var 0) (.lit (.int 1))) (.ix (.var 1) (.lit (.int 0)))) (.cons (.bin .fdiv (.ix (.var 0) (.lit (.int 1))) (.ix (.var 1) (.lit (.int 1)))) .nil)))))) (.cons (.ret (.tup (.cons (.blt .min1 (.cons (.var 2) .nil)) (.cons (.blt .max1 (.cons (.var 2) .nil)) .nil)))) .nil))⟩
/-- rest_bounds: 0 one 1 other 2 low 3 high -/
def d_rest_bounds : MDef := ⟨4, 2, none,
  (.cons (.if_ (.cmp .gt (.ix (.var 1) (.lit (.int 0))) (.lit (.int 0))) (.cons (.par2 2 3 (.lit (.int 0)) (.bin .sub (.ix (.var 1) (.lit (.int 1))) (.lit (.int 1)))) (.cons (.ret (.ite (.and (.cons (.cmp .le (.lit (.int 0)) (.ix (.var 0) (.lit (.int 0)))) (.cons (.cmp .lt (.ix (.var 0) (.lit (.int 1))) (.ix (.var 1) (.lit (.int 0)))) .nil))) (.tup (.cons (.ix (.var 0) (.lit (.int 0))) (.cons (.ix (.var 0) (.lit (.int 1))) .nil))) (.tup (.cons (.var 2) (.cons (.var 3) .nil))))) .nil)) .nil) (.cons (.ret (.tup (.cons (.bin .add (.ix (.var 1) (.lit (.int 0))) (.lit (.int 1))) (.cons (.lit (.int 0)) .nil)))) .nil))⟩
/-- sum_facts: 0 word 1 one 2 other 3 low 4 high -/
def d_sum_facts : MDef := ⟨5, 3, none,
  (.cons (.if_ (.cmp .eq (.var 0) (.lit (.str [112, 108, 117, 115]))) (.cons (.par2 3 4 (.bin .add (.ix (.var 1) (.lit (.int 0))) (.ix (.var 2) (.lit (.int 0)))) (.bin .add (.ix (.var 1) (.lit (.int 1))) (.ix (.var 2) (.lit (.int 1))))) .nil) (.cons (.if_ (.cmp .eq (.var 0) (.lit (.str [108, 101, 115, 115]))) (.cons (.par2 3 4 (.bin .sub (.ix (.var 1) (.lit (.int 0))) (.ix (.var 2) (.lit (.int 1)))) (.bin .sub (.ix (.var 1) (.lit (.int 1))) (.ix (.var 2) (.lit (.int 0))))) .nil) (.cons (.set (.many [3, 4]) (.call 5 (.cons (.var 1) (.cons (.var 2) .nil)))) .nil)) .nil)) (.cons (.ret (.make 0 (.cons (.call 2 (.cons (.var 3) (.cons (.var 4) .nil))) (.cons (.call 4 (.cons (.var 3) (.cons (.var 4) .nil))) .nil)))) .nil))⟩
/-- compared: 0 word 1 one 2 other -/
def d_compared : MDef := ⟨3, 3, none,
  (.cons (.if_ (.cmp .eq (.var 0) (.lit (.str [98, 101, 108, 111, 119]))) (.cons (.if_ (.cmp .lt (.ix (.var 1) (.lit (.int 1))) (.ix (.var 2) (.lit (.int 0)))) (.cons (.ret (.tup (.cons (.lit (.int 1)) (.cons (.lit (.int 1)) .nil)))) .nil) .nil) (.cons (.ret (.ite (.cmp .ge (.ix (.var 1) (.lit (.int 0))) (.ix (.var 2) (.lit (.int 1)))) (.tup (.cons (.lit (.int 0)) (.cons (.lit (.int 0)) .nil))) (.glob 2))) .nil)) .nil) (.cons (.if_ (.or (.cons (.cmp .lt (.ix (.var 1) (.lit (.int 1))) (.ix (.var 2) (.lit (.int 0)))) (.cons (.cmp .lt (.ix (.var 2) (.lit (.int 1))) (.ix (.var 1) (.lit (.int 0)))) .nil))) (.cons (.ret (.tup (.cons (.lit (.int 0)) (.cons (.lit (.int 0)) .nil)))) .nil) .nil) (.cons (.ret (.ite (.chain (.ix (.var 1) (.lit (.int 0))) (.more .eq (.ix (.var 1) (.lit (.int 1))) (.more .eq (.ix (.var 2) (.lit (.int 0))) (.last .eq (.ix (.var 2) (.lit (.int 1))))))) (.tup (.cons (.lit (.int 1)) (.cons (.lit (.int 1)) .nil))) (.glob 2))) .nil)))⟩
/-- two_facts: 0 word 1 one 2 other -/
def d_two_facts : MDef := ⟨3, 3, none,
  (.cons (.if_ (.cmp .in_ (.var 0) (.tup (.cons (.lit (.str [112, 108, 117, 115])) (.cons (.lit (.str [108, 101, 115, 115])) (.cons (.lit (.str [116, 105, 109, 101, 115])) .nil))))) (.cons (.ret (.call 8 (.cons (.var 0) (.cons (.var 1) (.cons (.var 2) .nil))))) .nil) .nil) (.cons (.if_ (.cmp .in_ (.var 0) (.tup (.cons (.lit (.str [115, 97, 109, 101])) (.cons (.lit (.str [98, 101, 108, 111, 119])) .nil)))) (.cons (.ret (.make 0 (.cons (.call 9 (.cons (.var 0) (.cons (.var 1) (.cons (.var 2) .nil)))) (.cons (.lit (.bl true)) .nil)))) .nil) .nil) (.cons (.if_ (.chain (.ix (.var 2) (.lit (.int 0))) (.more .le (.lit (.int 0)) (.last .le (.ix (.var 2) (.lit (.int 1)))))) (.cons (.ret (.make 0 (.cons (.glob 1) (.cons (.lit (.bl false)) .nil)))) .nil) .nil) (.cons (.ret (.make 0 (.cons (.ite (.cmp .eq (.var 0) (.lit (.str [112, 97, 114, 116]))) (.call 6 (.cons (.var 1) (.cons (.var 2) .nil))) (.call 7 (.cons (.var 1) (.cons (.var 2) .nil)))) (.cons (.lit (.bl true)) .nil)))) .nil))))⟩
/-- facts_of: 0 term 1 names 2 word 3 found 4 made 5 asked 6 one -/
def d_facts_of : MDef := ⟨7, 2, none,
  (.cons (.set (.one 2) (.ix (.var 0) (.lit (.int 0)))) (.cons (.if_ (.cmp .eq (.var 2) (.lit (.str [110, 117, 109]))) (.cons (.ret (.make 0 (.cons (.tup (.cons (.ix (.var 0) (.lit (.int 1))) (.cons (.ix (.var 0) (.lit (.int 1))) .nil))) (.cons (.lit (.bl true)) .nil)))) .nil) .nil) (.cons (.if_ (.cmp .eq (.var 2) (.lit (.str [110, 97, 109, 101]))) (.cons (.ret (.make 0 (.cons (.ix (.var 1) (.ix (.var 0) (.lit (.int 1)))) (.cons (.lit (.bl true)) .nil)))) .nil) .nil) (.cons (.set (.one 3) (.comp (.one 6) (.call 11 (.cons (.var 6) (.cons (.var 1) .nil))) (.val (.slFrom (.var 0) (.lit (.int 1)))) .nil)) (.cons (.if_ (.cmp .eq (.var 2) (.lit (.str [115, 97, 121]))) (.cons (.ret (.ix (.var 3) (.lit (.int 0)))) .nil) .nil) (.cons (.if_ (.cmp .eq (.var 2) (.lit (.str [119, 104, 101, 110]))) (.cons (.set (.one 5) (.fld (.ix (.var 3) (.lit (.int 0))) [98, 111, 117, 110, 100, 115])) (.cons (.if_ (.cmp .eq (.var 5) (.tup (.cons (.lit (.int 0)) (.cons (.lit (.int 0)) .nil)))) (.cons (.ret (.make 0 (.cons (.fld (.ix (.var 3) (.lit (.int 2))) [98, 111, 117, 110, 100, 115]) (.cons (.and (.cons (.fld (.ix (.var 3) (.lit (.int 0))) [105, 115, 95, 115, 97, 102, 101]) (.cons (.fld (.ix (.var 3) (.lit (.int 2))) [105, 115, 95, 115, 97, 102, 101]) .nil))) .nil)))) .nil) .nil) (.cons (.if_ (.or (.cons (.cmp .gt (.ix (.var 5) (.lit (.int 0))) (.lit (.int 0))) (.cons (.cmp .lt (.ix (.var 5) (.lit (.int 1))) (.lit (.int 0))) .nil))) (.cons (.ret (.make 0 (.cons (.fld (.ix (.var 3) (.lit (.int 1))) [98, 111, 117, 110, 100, 115]) (.cons (.and (.cons (.fld (.ix (.var 3) (.lit (.int 0))) [105, 115, 95, 115, 97, 102, 101]) (.cons (.fld (.ix (.var 3) (.lit (.int 1))) [105, 115, 95, 115, 97, 102, 101]) .nil))) .nil)))) .nil) .nil) (.cons (.ret (.make 0 (.cons (.call 3 (.cons (.fld (.ix (.var 3) (.lit (.int 1))) [98, 111, 117, 110, 100, 115]) (.cons (.fld (.ix (.var 3) (.lit (.int 2))) [98, 111, 117, 110, 100, 115]) .nil))) (.cons (.blt .all1 (.cons (.comp (.one 6) (.fld (.var 6) [105, 115, 95, 115, 97, 102, 101]) (.val (.var 3)) .nil) .nil)) .nil)))) .nil)))) .nil) (.cons (.set (.one 4) (.call 10 (.cons (.var 2) (.cons (.fld (.ix (.var 3) (.lit (.int 0))) [98, 111, 117, 110, 100, 115]) (.cons (.fld (.ix (.var 3) (.lit (.int 1))) [98, 111, 117, 110, 100, 115]) .nil))))) (.cons (.ret (.make 0 (.cons (.fld (.var 4) [98, 111, 117, 110, 100, 115]) (.cons (.and (.cons (.fld (.var 4) [105, 115, 95, 115, 97, 102, 101]) (.cons (.fld (.ix (.var 3) (.lit (.int 0))) [105, 115, 95, 115, 97, 102, 101]) (.cons (.fld (.ix (.var 3) (.lit (.int 1))) [105, 115, 95, 115, 97, 102, 101]) .nil)))) .nil)))) .nil))))))))⟩
/-- bounds_of: 0 term 1 names -/
def d_bounds_of : MDef := ⟨2, 2, none,
  (.cons (.ret (.fld (.call 11 (.cons (.var 0) (.cons (.var 1) .nil))) [98, 111, 117, 110, 100, 115])) .nil)⟩
/-- is_safe: 0 term 1 names -/
def d_is_safe : MDef := ⟨2, 2, none,
  (.cons (.ret (.fld (.call 11 (.cons (.var 0) (.cons (.var 1) .nil))) [105, 115, 95, 115, 97, 102, 101])) .nil)⟩
/-- is_quiet: 0 term 1 one -/
def d_is_quiet : MDef := ⟨2, 1, none,
  (.cons (.ret (.blt .all1 (.cons (.comp (.one 1) (.cmp .ne (.ix (.var 1) (.lit (.int 0))) (.lit (.str [115, 97, 121]))) (.val (.call 1 (.cons (.var 0) .nil))) .nil) .nil))) .nil)⟩
/-- is_still: 0 term 1 names -/
def d_is_still : MDef := ⟨2, 2, none,
  (.cons (.ret (.and (.cons (.call 14 (.cons (.var 0) .nil)) (.cons (.call 13 (.cons (.var 0) (.cons (.var 1) .nil))) .nil)))) .nil)⟩
/-- _law_cell: 0 _law_script 1 _law_k -/
def d__law_cell : MDef := ⟨2, 2, none,
  (.cons (.if_ (.cmp .eq (.var 0) (.lst .nil)) (.cons (.ret (.bin .mul (.var 1) (.lit (.int 7919)))) .nil) .nil) (.cons (.ret (.bin .add (.ix (.var 0) (.bin .mod (.var 1) (.blt .len (.cons (.var 0) .nil)))) (.bin .mul (.bin .fdiv (.var 1) (.blt .len (.cons (.var 0) .nil))) (.lit (.int 104729))))) .nil))⟩
/-- _law_drawn: 0 _law_cell_here 1 _law_k 2 _law_more -/
def d__law_drawn : MDef := ⟨3, 2, none,
  (.cons (.set (.one 2) (.bin .mod (.bin .add (.bin .mul (.var 0) (.lit (.int 6364136223846793005))) (.bin .mul (.bin .add (.var 1) (.lit (.int 1))) (.lit (.int 1442695040888963407)))) (.lit (.int 340282366920938463463374607431768211507)))) (.cons (.set (.one 2) (.bin .mod (.bin .mul (.var 2) (.var 2)) (.lit (.int 340282366920938463463374607431768211297)))) (.cons (.set (.one 2) (.bin .mul (.bin .mul (.bin .add (.bin .mod (.var 2) (.lit (.int 18446744073709551557))) (.lit (.int 1))) (.bin .add (.bin .fdiv (.var 2) (.lit (.int 18446744073709551557))) (.lit (.int 1)))) (.var 2))) (.cons (.ret (.bin .mod (.var 2) (.lit (.int 340282366920938463463374607431768211507)))) .nil))))⟩
/-- _law_number: 0 _law_more 1 _law_here -/
def d__law_number : MDef := ⟨2, 1, none,
  (.cons (.set (.one 1) (.bin .fdiv (.var 0) (.lit (.int 8)))) (.cons (.ret (.ix (.lst (.cons (.bin .mod (.var 1) (.lit (.int 12))) (.cons (.bin .sub (.lit (.int 0)) (.bin .mod (.var 1) (.lit (.int 9)))) (.cons (.bin .mod (.var 1) (.lit (.int 3))) (.cons (.lit (.int 999999999)) (.cons (.neg (.lit (.int 999999999))) (.cons (.bin .sub (.bin .mod (.var 1) (.lit (.int 2000))) (.lit (.int 1000))) .nil))))))) (.bin .fdiv (.bin .mod (.var 0) (.lit (.int 64))) (.lit (.int 11))))) .nil))⟩
/-- _law_leaf: 0 _law_more 1 _law_names -/
def d__law_leaf : MDef := ⟨2, 2, none,
  (.cons (.if_ (.and (.cons (.cmp .ne (.var 1) (.tup .nil)) (.cons (.cmp .gt (.bin .mod (.var 0) (.lit (.int 5))) (.lit (.int 1))) .nil))) (.cons (.ret (.tup (.cons (.lit (.str [110, 97, 109, 101])) (.cons (.ix (.var 1) (.bin .mod (.bin .fdiv (.var 0) (.lit (.int 8))) (.blt .len (.cons (.var 1) .nil)))) .nil)))) .nil) .nil) (.cons (.ret (.tup (.cons (.lit (.str [110, 117, 109])) (.cons (.call 18 (.cons (.bin .fdiv (.var 0) (.lit (.int 64))) .nil)) .nil)))) .nil))⟩
/-- _law_term: 0 _law_more 1 _law_deep 2 _law_names 3 _law_here 4 _law_row 5 _law_way 6 _law_words 7 _law_j -/
def d__law_term : MDef := ⟨8, 3, none,
  (.cons (.if_ (.or (.cons (.cmp .eq (.var 1) (.lit (.int 0))) (.cons (.cmp .eq (.bin .mod (.var 0) (.lit (.int 5))) (.lit (.int 0))) .nil))) (.cons (.ret (.call 19 (.cons (.bin .fdiv (.var 0) (.lit (.int 8))) (.cons (.var 2) .nil)))) .nil) .nil) (.cons (.set (.one 3) (.bin .fdiv (.var 0) (.lit (.int 16)))) (.cons (.set (.one 4) (.comp (.one 7) (.call 20 (.cons (.call 17 (.cons (.var 3) (.cons (.var 7) .nil))) (.cons (.bin .sub (.var 1) (.lit (.int 1))) (.cons (.var 2) .nil)))) (.range1 (.lit (.int 3))) .nil)) (.cons (.set (.one 5) (.bin .mod (.var 3) (.lit (.int 14)))) (.cons (.if_ (.cmp .lt (.var 5) (.lit (.int 10))) (.cons (.set (.one 6) (.lst (.cons (.lit (.str [112, 108, 117, 115])) (.cons (.lit (.str [108, 101, 115, 115])) (.cons (.lit (.str [116, 105, 109, 101, 115])) (.cons (.lit (.str [112, 97, 114, 116])) (.cons (.lit (.str [114, 101, 115, 116])) (.cons (.lit (.str [115, 97, 109, 101])) (.cons (.lit (.str [98, 101, 108, 111, 119])) (.cons (.lit (.str [112, 108, 117, 115])) (.cons (.lit (.str [116, 105, 109, 101, 115])) (.cons (.lit (.str [98, 101, 108, 111, 119])) .nil)))))))))))) (.cons (.ret (.tup (.cons (.ix (.var 6) (.var 5)) (.cons (.ix (.var 4) (.lit (.int 0))) (.cons (.ix (.var 4) (.lit (.int 1))) .nil))))) .nil)) .nil) (.cons (.if_ (.cmp .lt (.var 5) (.lit (.int 12))) (.cons (.ret (.tup (.cons (.lit (.str [119, 104, 101, 110])) (.cons (.ix (.var 4) (.lit (.int 0))) (.cons (.ix (.var 4) (.lit (.int 1))) (.cons (.ix (.var 4) (.lit (.int 2))) .nil)))))) .nil) .nil) (.cons (.ret (.ite (.cmp .eq (.var 5) (.lit (.int 12))) (.tup (.cons (.lit (.str [115, 97, 121])) (.cons (.ix (.var 4) (.lit (.int 0))) .nil))) (.ix (.var 4) (.lit (.int 0))))) .nil)))))))⟩
/-- _law_ends: 0 _law_one 1 _law_other 2 _law_word 3 _law_found 4 _law_a 5 _law_b 6 _law_sums -/
def d__law_ends : MDef := ⟨7, 3, none,
  (.cons (.own 3 .nil) (.cons (.for_ (.one 4) (.val (.var 0)) (.cons (.for_ (.one 5) (.val (.var 1)) (.cons (.set (.one 6) (.dict [[112, 108, 117, 115], [108, 101, 115, 115], [116, 105, 109, 101, 115]] (.cons (.bin .add (.var 4) (.var 5)) (.cons (.bin .sub (.var 4) (.var 5)) (.cons (.bin .mul (.var 4) (.var 5)) .nil))))) (.cons (.app 3 (.ite (.cmp .ne (.var 2) (.lit (.str [112, 97, 114, 116]))) (.ix (.var 6) (.var 2)) (.bin .fdiv (.var 4) (.var 5)))) .nil))) .nil)) (.cons (.ret (.tup (.cons (.blt .min1 (.cons (.var 3) .nil)) (.cons (.blt .max1 (.cons (.var 3) .nil)) .nil)))) .nil)))⟩
/-- _law_cut: 0 _law_pair_here -/
def d__law_cut : MDef := ⟨1, 1, none,
  (.cons (.if_ (.or (.cons (.cmp .gt (.ix (.var 0) (.lit (.int 0))) (.lit (.int 999999999))) (.cons (.cmp .lt (.ix (.var 0) (.lit (.int 1))) (.neg (.lit (.int 999999999)))) .nil))) (.cons (.ret (.tup (.cons (.neg (.lit (.int 999999999))) (.cons (.lit (.int 999999999)) .nil)))) .nil) .nil) (.cons (.ret (.tup (.cons (.blt .max2 (.cons (.ix (.var 0) (.lit (.int 0))) (.cons (.neg (.lit (.int 999999999))) .nil))) (.cons (.blt .min2 (.cons (.ix (.var 0) (.lit (.int 1))) (.cons (.lit (.int 999999999)) .nil))) .nil)))) .nil))⟩
/-- _law_compared: 0 _law_word 1 _law_one 2 _law_other -/
def d__law_compared : MDef := ⟨3, 3, none,
  (.cons (.if_ (.cmp .eq (.var 0) (.lit (.str [115, 97, 109, 101]))) (.cons (.if_ (.and (.cons (.cmp .eq (.ix (.var 1) (.lit (.int 0))) (.ix (.var 1) (.lit (.int 1)))) (.cons (.cmp .eq (.var 1) (.var 2)) .nil))) (.cons (.ret (.tup (.cons (.lit (.int 1)) (.cons (.lit (.int 1)) .nil)))) .nil) .nil) (.cons (.ret (.ite (.cmp .gt (.blt .max2 (.cons (.ix (.var 1) (.lit (.int 0))) (.cons (.ix (.var 2) (.lit (.int 0))) .nil))) (.blt .min2 (.cons (.ix (.var 1) (.lit (.int 1))) (.cons (.ix (.var 2) (.lit (.int 1))) .nil)))) (.tup (.cons (.lit (.int 0)) (.cons (.lit (.int 0)) .nil))) (.tup (.cons (.lit (.int 0)) (.cons (.lit (.int 1)) .nil))))) .nil)) .nil) (.cons (.if_ (.cmp .lt (.ix (.var 1) (.lit (.int 1))) (.ix (.var 2) (.lit (.int 0)))) (.cons (.ret (.tup (.cons (.lit (.int 1)) (.cons (.lit (.int 1)) .nil)))) .nil) .nil) (.cons (.ret (.ite (.not (.cmp .lt (.ix (.var 1) (.lit (.int 0))) (.ix (.var 2) (.lit (.int 1))))) (.tup (.cons (.lit (.int 0)) (.cons (.lit (.int 0)) .nil))) (.tup (.cons (.lit (.int 0)) (.cons (.lit (.int 1)) .nil))))) .nil)))⟩
/-- _law_bounds: 0 _law_term_here 1 _law_names 2 _law_word 3 _law_some 4 _law_second 5 _law_is_well 6 _law_first 7 _law_both 8 _law_ends_here 9 _law_one -/
def d__law_bounds : MDef := ⟨10, 2, none,
  (.cons (.set (.one 2) (.ix (.var 0) (.lit (.int 0)))) (.cons (.if_ (.cmp .eq (.var 2) (.lit (.str [110, 117, 109]))) (.cons (.ret (.tup (.cons (.tup (.cons (.ix (.var 0) (.lit (.int 1))) (.cons (.ix (.var 0) (.lit (.int 1))) .nil))) (.cons (.lit (.bl true)) .nil)))) .nil) .nil) (.cons (.if_ (.cmp .eq (.var 2) (.lit (.str [110, 97, 109, 101]))) (.cons (.ret (.tup (.cons (.ix (.var 1) (.ix (.var 0) (.lit (.int 1)))) (.cons (.lit (.bl true)) .nil)))) .nil) .nil) (.cons (.set (.one 3) (.comp (.one 9) (.call 24 (.cons (.var 9) (.cons (.var 1) .nil))) (.val (.slFrom (.var 0) (.lit (.int 1)))) .nil)) (.cons (.set (.many [6, 5]) (.ix (.var 3) (.lit (.int 0)))) (.cons (.if_ (.cmp .eq (.var 2) (.lit (.str [115, 97, 121]))) (.cons (.ret (.ix (.var 3) (.lit (.int 0)))) .nil) .nil) (.cons (.if_ (.cmp .eq (.var 2) (.lit (.str [119, 104, 101, 110]))) (.cons (.if_ (.cmp .eq (.var 6) (.tup (.cons (.lit (.int 0)) (.cons (.lit (.int 0)) .nil)))) (.cons (.ret (.tup (.cons (.ix (.ix (.var 3) (.lit (.int 2))) (.lit (.int 0))) (.cons (.and (.cons (.var 5) (.cons (.ix (.ix (.var 3) (.lit (.int 2))) (.lit (.int 1))) .nil))) .nil)))) .nil) .nil) (.cons (.if_ (.or (.cons (.cmp .gt (.ix (.var 6) (.lit (.int 0))) (.lit (.int 0))) (.cons (.cmp .lt (.ix (.var 6) (.lit (.int 1))) (.lit (.int 0))) .nil))) (.cons (.ret (.tup (.cons (.ix (.ix (.var 3) (.lit (.int 1))) (.lit (.int 0))) (.cons (.and (.cons (.var 5) (.cons (.ix (.ix (.var 3) (.lit (.int 1))) (.lit (.int 1))) .nil))) .nil)))) .nil) .nil) (.cons (.set (.one 7) (.lst (.cons (.ix (.ix (.var 3) (.lit (.int 1))) (.lit (.int 0))) (.cons (.ix (.ix (.var 3) (.lit (.int 2))) (.lit (.int 0))) .nil)))) (.cons (.ret (.tup (.cons (.tup (.cons (.blt .min2 (.cons (.ix (.ix (.var 7) (.lit (.int 0))) (.lit (.int 0))) (.cons (.ix (.ix (.var 7) (.lit (.int 1))) (.lit (.int 0))) .nil))) (.cons (.blt .max2 (.cons (.ix (.ix (.var 7) (.lit (.int 0))) (.lit (.int 1))) (.cons (.ix (.ix (.var 7) (.lit (.int 1))) (.lit (.int 1))) .nil))) .nil))) (.cons (.blt .all1 (.cons (.comp (.one 9) (.ix (.var 9) (.lit (.int 1))) (.val (.var 3)) .nil) .nil)) .nil)))) .nil)))) .nil) (.cons (.set (.one 4) (.ix (.ix (.var 3) (.lit (.int 1))) (.lit (.int 0)))) (.cons (.set (.one 5) (.and (.cons (.var 5) (.cons (.ix (.ix (.var 3) (.lit (.int 1))) (.lit (.int 1))) .nil)))) (.cons (.if_ (.cmp .in_ (.var 2) (.tup (.cons (.lit (.str [115, 97, 109, 101])) (.cons (.lit (.str [98, 101, 108, 111, 119])) .nil)))) (.cons (.ret (.tup (.cons (.call 23 (.cons (.var 2) (.cons (.var 6) (.cons (.var 4) .nil)))) (.cons (.var 5) .nil)))) .nil) .nil) (.cons (.if_ (.cmp .in_ (.var 2) (.tup (.cons (.lit (.str [112, 108, 117, 115])) (.cons (.lit (.str [108, 101, 115, 115])) (.cons (.lit (.str [116, 105, 109, 101, 115])) .nil))))) (.cons (.set (.one 8) (.call 21 (.cons (.var 6) (.cons (.var 4) (.cons (.var 2) .nil))))) (.cons (.ret (.tup (.cons (.call 22 (.cons (.var 8) .nil)) (.cons (.and (.cons (.var 5) (.cons (.cmp .eq (.call 22 (.cons (.var 8) .nil)) (.var 8)) .nil))) .nil)))) .nil)) .nil) (.cons (.if_ (.chain (.ix (.var 4) (.lit (.int 0))) (.more .le (.lit (.int 0)) (.last .le (.ix (.var 4) (.lit (.int 1)))))) (.cons (.ret (.tup (.cons (.tup (.cons (.neg (.lit (.int 999999999))) (.cons (.lit (.int 999999999)) .nil))) (.cons (.lit (.bl false)) .nil)))) .nil) .nil) (.cons (.if_ (.cmp .eq (.var 2) (.lit (.str [112, 97, 114, 116]))) (.cons (.ret (.tup (.cons (.call 21 (.cons (.var 6) (.cons (.var 4) (.cons (.lit (.str [112, 97, 114, 116])) .nil)))) (.cons (.var 5) .nil)))) .nil) .nil) (.cons (.if_ (.cmp .lt (.ix (.var 4) (.lit (.int 1))) (.lit (.int 0))) (.cons (.ret (.tup (.cons (.tup (.cons (.bin .add (.ix (.var 4) (.lit (.int 0))) (.lit (.int 1))) (.cons (.lit (.int 0)) .nil))) (.cons (.var 5) .nil)))) .nil) .nil) (.cons (.if_ (.and (.cons (.cmp .ge (.ix (.var 6) (.lit (.int 0))) (.lit (.int 0))) (.cons (.cmp .lt (.ix (.var 6) (.lit (.int 1))) (.ix (.var 4) (.lit (.int 0)))) .nil))) (.cons (.ret (.tup (.cons (.var 6) (.cons (.var 5) .nil)))) .nil) .nil) (.cons (.ret (.tup (.cons (.tup (.cons (.lit (.int 0)) (.cons (.bin .sub (.ix (.var 4) (.lit (.int 1))) (.lit (.int 1))) .nil))) (.cons (.var 5) .nil)))) .nil))))))))))))))))⟩
/-- _law_quiet: 0 _law_term_here 1 _law_one -/
def d__law_quiet : MDef := ⟨2, 1, none,
  (.cons (.ret (.and (.cons (.cmp .ne (.ix (.var 0) (.lit (.int 0))) (.lit (.str [115, 97, 121]))) (.cons (.blt .all1 (.cons (.comp (.one 1) (.call 25 (.cons (.var 1) .nil)) (.val (.slFrom (.var 0) (.lit (.int 1)))) (.cons (.blt (.isinst .tuple) (.cons (.var 1) .nil)) .nil)) .nil)) .nil)))) .nil)⟩
/-- _law_pair: 0 _law_more 1 _law_one 2 _law_other -/
def d__law_pair : MDef := ⟨3, 1, none,
  (.cons (.par2 1 2 (.call 18 (.cons (.var 0) .nil)) (.call 18 (.cons (.bin .fdiv (.var 0) (.bin .pow (.lit (.int 2)) (.lit (.int 20)))) .nil))) (.cons (.if_ (.cmp .eq (.bin .mod (.var 0) (.lit (.int 3))) (.lit (.int 0))) (.cons (.ret (.tup (.cons (.var 1) (.cons (.blt .min2 (.cons (.lit (.int 999999999)) (.cons (.bin .add (.var 1) (.bin .mod (.bin .fdiv (.var 0) (.lit (.int 4))) (.lit (.int 5)))) .nil))) .nil)))) .nil) .nil) (.cons (.ret (.tup (.cons (.blt .min2 (.cons (.var 1) (.cons (.var 2) .nil))) (.cons (.blt .max2 (.cons (.var 1) (.cons (.var 2) .nil))) .nil)))) .nil)))⟩
/-- law: 0 _law_script 1 _law_k 2 _law_more 3 _law_j 4 _law_here 5 _law_names 6 _law_term_here 7 _law_due 8 _law_is_well 9 _law_n 10 _law_name -/
def d_law : MDef := ⟨11, 1, none,
  (.cons (.for_ (.one 1) (.range1 (.blt .max2 (.cons (.lit (.int 1)) (.cons (.blt .min2 (.cons (.lit (.int 4)) (.cons (.blt .len (.cons (.var 0) .nil)) .nil))) .nil)))) (.cons (.set (.one 2) (.call 17 (.cons (.call 16 (.cons (.var 0) (.cons (.var 1) .nil))) (.cons (.var 1) .nil)))) (.cons (.for_ (.one 3) (.range1 (.lit (.int 8))) (.cons (.set (.one 4) (.call 17 (.cons (.var 2) (.cons (.var 3) .nil)))) (.cons (.set (.one 5) (.blt .dictPairs (.cons (.comp (.many [9, 10]) (.tup (.cons (.var 10) (.cons (.call 26 (.cons (.call 17 (.cons (.var 4) (.cons (.var 9) .nil))) .nil)) .nil))) (.enum (.lst (.cons (.lit (.str [120])) (.cons (.lit (.str [97, 99, 99])) (.cons (.lit (.str [97, 116])) .nil))))) .nil) .nil))) (.cons (.set (.one 6) (.call 20 (.cons (.call 17 (.cons (.var 4) (.cons (.lit (.int 9)) .nil))) (.cons (.bin .mod (.var 4) (.lit (.int 5))) (.cons (.tup (.cons (.lit (.str [120])) (.cons (.lit (.str [97, 99, 99])) (.cons (.lit (.str [97, 116])) .nil)))) .nil))))) (.cons (.set (.many [7, 8]) (.call 24 (.cons (.var 6) (.cons (.var 5) .nil)))) (.cons (.if_ (.or (.cons (.cmp .ne (.call 12 (.cons (.var 6) (.cons (.var 5) .nil))) (.var 7)) (.cons (.cmp .ne (.call 13 (.cons (.var 6) (.cons (.var 5) .nil))) (.var 8)) .nil))) (.cons (.ret (.lit (.bl false))) .nil) .nil) (.cons (.if_ (.or (.cons (.cmp .ne (.call 14 (.cons (.var 6) .nil)) (.call 25 (.cons (.var 6) .nil))) (.cons (.cmp .ne (.call 15 (.cons (.var 6) (.cons (.var 5) .nil))) (.and (.cons (.var 8) (.cons (.call 25 (.cons (.var 6) .nil)) .nil)))) .nil))) (.cons (.ret (.lit (.bl false))) .nil) .nil) .nil))))))) .nil))) (.cons (.ret (.lit (.bl true))) .nil))⟩
/-- Facts.__init__: 0 self 1 bounds 2 is_safe -/
def d_Facts___init__ : MDef := ⟨3, 3, (some 0),
  (.cons (.finit 0 [98, 111, 117, 110, 100, 115] (.var 1)) (.cons (.finit 0 [105, 115, 95, 115, 97, 102, 101] (.var 2)) .nil))⟩
def prog : Pg := ⟨[d_inner, d_all_in, d_cut, d_hull, d_is_fit, d_products, d_part_bounds, d_rest_bounds, d_sum_facts, d_compared, d_two_facts, d_facts_of, d_bounds_of, d_is_safe, d_is_quiet, d_is_still, d__law_cell, d__law_drawn, d__law_number, d__law_leaf, d__law_term, d__law_ends, d__law_cut, d__law_compared, d__law_bounds, d__law_quiet, d__law_pair, d_law, d_Facts___init__],
  [(.int 999999999), (.tup [(.int (-999999999)), (.int 999999999)]), (.tup [(.int 0), (.int 1)])],
  [⟨false, [[98, 111, 117, 110, 100, 115], [105, 115, 95, 115, 97, 102, 101]], 28, []⟩],
  [], 0, 1000000000⟩
abbrev f_inner : Nat := 0
abbrev f_all_in : Nat := 1
abbrev f_cut : Nat := 2
abbrev f_hull : Nat := 3
abbrev f_is_fit : Nat := 4
abbrev f_products : Nat := 5
abbrev f_part_bounds : Nat := 6
abbrev f_rest_bounds : Nat := 7
abbrev f_sum_facts : Nat := 8
abbrev f_compared : Nat := 9
abbrev f_two_facts : Nat := 10
abbrev f_facts_of : Nat := 11
abbrev f_bounds_of : Nat := 12
abbrev f_is_safe : Nat := 13
abbrev f_is_quiet : Nat := 14
abbrev f_is_still : Nat := 15
abbrev f__law_cell : Nat := 16
abbrev f__law_drawn : Nat := 17
abbrev f__law_number : Nat := 18
abbrev f__law_leaf : Nat := 19
abbrev f__law_term : Nat := 20
abbrev f__law_ends : Nat := 21
abbrev f__law_cut : Nat := 22
abbrev f__law_compared : Nat := 23
abbrev f__law_bounds : Nat := 24
abbrev f__law_quiet : Nat := 25
abbrev f__law_pair : Nat := 26
abbrev f_law : Nat := 27
abbrev f_Facts___init__ : Nat := 28

end K20

set_option maxRecDepth 100000
set_option linter.all false
set_option maxHeartbeats 1000000
namespace K20
open Fw
theorem dq_ss (x y : Txt) : deq (.str x) (.str y) = (x == y) := by simp only [deq]
theorem dq_ii (x y : Int) : deq (.int x) (.int y) = (x == y) := by simp only [deq]
theorem dq_tt (x y : List D) : deq (.tup x) (.tup y) = deqs x y := by simp only [deq]
theorem dq_nil : deqs [] [] = true := by simp only [deqs]
theorem dq_cons (x y : D) (r s : List D) : deqs (x :: r) (y :: s) = (deq x y && deqs r s) := by simp only [deqs]
theorem dq_scr0 : deq (.scr []) (.lst []) = true := by simp [deq]
theorem dq_scr1 (i : Int) (r : List Int) : deq (.scr (i :: r)) (.lst []) = false := by simp [deq]
abbrev pr (a b : Int) : D := .tup [.int a, .int b]
def cutF (lo hi : Int) : Int × Int :=
  if (if lo < -999999999 then -999999999 else lo) ≤ (if 999999999 < hi then 999999999 else hi) then ((if lo < -999999999 then -999999999 else lo), (if 999999999 < hi then 999999999 else hi)) else (-999999999, 999999999)
theorem r_cut (T : List FT) (lo hi : Int) (st : Store) : runDef prog T f_cut [.int lo, .int hi] st = .ok (pr (cutF lo hi).1 (cutF lo hi).2) st := by
  unfold cutF
  by_cases h : (if lo < -999999999 then -999999999 else lo) ≤ (if 999999999 < hi then 999999999 else hi) <;> simp [runDef, prog, startEnv, startIni, execSs, execS, evalE, evalEs, evalA, evalO, evalA1, evalC, evalI, Out.bind, Out.so, Out.ofO, varD, bindTg, nextO, blt, bLen, bAbs, bMax2, bMin2, bInt, bList, bTuple, bSum, bAll, bAny, bMin1, bMax1, bIsinst, bDictPairs, bDictCopy, op2, cmp2, atD, ixN, cutD, cutL, sIx, asI, asB, asIs, asBs, big, freezeS, compGo, forGo, items, itemsL, rangeD, upto, lookT, isIn, eqO, scrOk, isData, isDatas, dep, deps, dq_ss, dq_ii, dq_tt, dq_nil, dq_cons, dq_scr0, dq_scr1, flat, fldD, getF, methF, tyIs, pairsOf, mulOk, minI, maxI, d_cut, h]
theorem r_is_fit (T : List FT) (lo hi : Int) (st : Store) : runDef prog T f_is_fit [.int lo, .int hi] st = .ok (.bl (decide (-999999999 ≤ lo) && decide (hi ≤ 999999999))) st := by
  by_cases h : -999999999 ≤ lo <;> simp [runDef, prog, startEnv, startIni, execSs, execS, evalE, evalEs, evalA, evalO, evalA1, evalC, evalI, Out.bind, Out.so, Out.ofO, varD, bindTg, nextO, blt, bLen, bAbs, bMax2, bMin2, bInt, bList, bTuple, bSum, bAll, bAny, bMin1, bMax1, bIsinst, bDictPairs, bDictCopy, op2, cmp2, atD, ixN, cutD, cutL, sIx, asI, asB, asIs, asBs, big, freezeS, compGo, forGo, items, itemsL, rangeD, upto, lookT, isIn, eqO, scrOk, isData, isDatas, dep, deps, dq_ss, dq_ii, dq_tt, dq_nil, dq_cons, dq_scr0, dq_scr1, flat, fldD, getF, methF, tyIs, pairsOf, mulOk, minI, maxI, d_is_fit, h]
def mn (a b : Int) : Int := if b < a then b else a
def mx (a b : Int) : Int := if b > a then b else a
theorem r_hull (T : List FT) (a b c d : Int) (st : Store) : runDef prog T f_hull [pr a b, pr c d] st = .ok (pr (mn a c) (mx b d)) st := by
  simp [runDef, prog, startEnv, startIni, execSs, execS, evalE, evalEs, evalA, evalO, evalA1, evalC, evalI, Out.bind, Out.so, Out.ofO, varD, bindTg, nextO, blt, bLen, bAbs, bMax2, bMin2, bInt, bList, bTuple, bSum, bAll, bAny, bMin1, bMax1, bIsinst, bDictPairs, bDictCopy, op2, cmp2, atD, ixN, cutD, cutL, sIx, asI, asB, asIs, asBs, big, freezeS, compGo, forGo, items, itemsL, rangeD, upto, lookT, isIn, eqO, scrOk, isData, isDatas, dep, deps, dq_ss, dq_ii, dq_tt, dq_nil, dq_cons, dq_scr0, dq_scr1, flat, fldD, getF, methF, tyIs, pairsOf, mulOk, minI, maxI, d_hull, mn, mx]
theorem r_init (T : List FT) (b s : D) (st : Store) : runDef prog T f_Facts___init__ [b, s] st = .ok (.tup [b, s]) st := by
  simp [runDef, prog, startEnv, startIni, execSs, execS, evalE, evalEs, evalA, evalO, evalA1, evalC, evalI, Out.bind, Out.so, Out.ofO, varD, bindTg, nextO, blt, bLen, bAbs, bMax2, bMin2, bInt, bList, bTuple, bSum, bAll, bAny, bMin1, bMax1, bIsinst, bDictPairs, bDictCopy, op2, cmp2, atD, ixN, cutD, cutL, sIx, asI, asB, asIs, asBs, big, freezeS, compGo, forGo, items, itemsL, rangeD, upto, lookT, isIn, eqO, scrOk, isData, isDatas, dep, deps, dq_ss, dq_ii, dq_tt, dq_nil, dq_cons, dq_scr0, dq_scr1, flat, fldD, getF, methF, tyIs, pairsOf, mulOk, minI, maxI, d_Facts___init__]
def mn4 (a b c d : Int) : Int := min (min (min a b) c) d
def mx4 (a b c d : Int) : Int := max (max (max a b) c) d
def small (i : Int) : Prop := -999999999 ≤ i ∧ i ≤ 999999999
theorem small64 {i : Int} (h : small i) : i.natAbs < 2 ^ 64 := by unfold small at h; omega
theorem r_products (T : List FT) (a b c d : Int) (st : Store) (ha : small a) (hb : small b) : runDef prog T f_products [pr a b, pr c d] st = .ok (pr (mn4 (a*c) (a*d) (b*c) (b*d)) (mx4 (a*c) (a*d) (b*c) (b*d))) st := by
  have h1 := small64 ha
  have h2 := small64 hb
  simp [runDef, prog, startEnv, startIni, execSs, execS, evalE, evalEs, evalA, evalO, evalA1, evalC, evalI, Out.bind, Out.so, Out.ofO, varD, bindTg, nextO, blt, bLen, bAbs, bMax2, bMin2, bInt, bList, bTuple, bSum, bAll, bAny, bMin1, bMax1, bIsinst, bDictPairs, bDictCopy, op2, cmp2, atD, ixN, cutD, cutL, sIx, asI, asB, asIs, asBs, big, freezeS, compGo, forGo, items, itemsL, rangeD, upto, lookT, isIn, eqO, scrOk, isData, isDatas, dep, deps, dq_ss, dq_ii, dq_tt, dq_nil, dq_cons, dq_scr0, dq_scr1, flat, fldD, getF, methF, tyIs, pairsOf, mulOk, minI, maxI, d_products, h1, h2, mn4, mx4]
theorem r_part (T : List FT) (a b c d : Int) (st : Store) (hc : small c) (hd : small d) (c0 : c ≠ 0) (d0 : d ≠ 0) : runDef prog T f_part_bounds [pr a b, pr c d] st = .ok (pr (mn4 (a.fdiv c) (a.fdiv d) (b.fdiv c) (b.fdiv d)) (mx4 (a.fdiv c) (a.fdiv d) (b.fdiv c) (b.fdiv d))) st := by
  have h1 : c.natAbs < 1073741824 := by unfold small at hc; omega
  have h2 : d.natAbs < 1073741824 := by unfold small at hd; omega
  simp [runDef, prog, startEnv, startIni, execSs, execS, evalE, evalEs, evalA, evalO, evalA1, evalC, evalI, Out.bind, Out.so, Out.ofO, varD, bindTg, nextO, blt, bLen, bAbs, bMax2, bMin2, bInt, bList, bTuple, bSum, bAll, bAny, bMin1, bMax1, bIsinst, bDictPairs, bDictCopy, op2, cmp2, atD, ixN, cutD, cutL, sIx, asI, asB, asIs, asBs, big, freezeS, compGo, forGo, items, itemsL, rangeD, upto, lookT, isIn, eqO, scrOk, isData, isDatas, dep, deps, dq_ss, dq_ii, dq_tt, dq_nil, dq_cons, dq_scr0, dq_scr1, flat, fldD, getF, methF, tyIs, pairsOf, mulOk, minI, maxI, d_part_bounds, h1, h2, c0, d0, mn4, mx4]
end K20

set_option maxRecDepth 100000
set_option linter.all false
set_option maxHeartbeats 4000000
namespace K20
open Fw
theorem callT_s (k f : Nat) (ds : List D) (st : Store) : callT (tabs prog (k+1)) f ds st = runDef prog (tabs prog k) f ds st := rfl
theorem callT_c (F : FT) (T : List FT) (f : Nat) (ds : List D) (st : Store) : callT (F :: T) f ds st = F f ds st := rfl
theorem tabs_s (k : Nat) : tabs prog (k+1) = runDef prog (tabs prog k) :: tabs prog k := rfl
theorem pg0 : prog.globs[0]? = some (.int 999999999) := rfl
theorem pg1 : prog.globs[1]? = some (.tup [.int (-999999999), .int 999999999]) := rfl
theorem pg2 : prog.globs[2]? = some (.tup [.int 0, .int 1]) := rfl
theorem pc0 : prog.cls[0]? = some ⟨false, [[98, 111, 117, 110, 100, 115], [105, 115, 95, 115, 97, 102, 101]], 28, []⟩ := rfl
def finO : SO → Out D
  | .next _ st => .ok .non st
  | .ret x st => .ok x st
  | .exc e st => .exc e st
  | _ => .bad
theorem run_eq {f : Nat} {ds : List D} {st : Store} {T : List FT} (d : MDef) (h : prog.defs[f]? = some d) (hi : d.ini = none) (hl : ds.length = d.np) : runDef prog T f ds st = finO (execSs prog T d.body (startEnv d.n ds) st) := by
  unfold runDef
  rw [h]
  simp only [hi, hl, if_true]
  cases execSs prog T d.body (startEnv d.n ds) st <;> rfl
abbrev facts (b : Int × Int) (s : Bool) : D := .obj 0 [pr b.1 b.2, .bl s]
def fit (lo hi : Int) : Bool := decide (-999999999 ≤ lo) && decide (hi ≤ 999999999)
inductive Op where
  | plus | less | times | part | rest | same | below
def txt : Op → Txt
  | .plus => [112, 108, 117, 115]
  | .less => [108, 101, 115, 115]
  | .times => [116, 105, 109, 101, 115]
  | .part => [112, 97, 114, 116]
  | .rest => [114, 101, 115, 116]
  | .same => [115, 97, 109, 101]
  | .below => [98, 101, 108, 111, 119]
def restF (a b c d : Int) : Int × Int := if 0 < c then (if 0 ≤ a ∧ b < c then (a, b) else (0, d - 1)) else (c + 1, 0)
def belowF (a b c d : Int) : Int × Int := if b < c then (1, 1) else if d ≤ a then (0, 0) else (0, 1)
def sameF (a b c d : Int) : Int × Int := if b < c ∨ d < a then (0, 0) else if a = b ∧ b = c ∧ c = d then (1, 1) else (0, 1)
theorem r_rest (T : List FT) (a b c d : Int) (st : Store) : runDef prog T f_rest_bounds [pr a b, pr c d] st = .ok (pr (restF a b c d).1 (restF a b c d).2) st := by
  rw [run_eq d_rest_bounds rfl rfl rfl]
  unfold restF
  by_cases h : 0 < c
  · by_cases h2 : 0 ≤ a
    · by_cases h3 : b < c <;> simp [startEnv, startIni, execSs, execS, evalE, evalEs, evalA, evalO, evalA1, evalC, evalI, Out.bind, Out.so, Out.ofO, varD, bindTg, nextO, blt, bLen, bAbs, bMax2, bMin2, bInt, bList, bTuple, bSum, bAll, bAny, bMin1, bMax1, bIsinst, bDictPairs, bDictCopy, op2, cmp2, atD, ixN, cutD, cutL, sIx, asI, asB, asIs, asBs, big, freezeS, compGo, forGo, items, itemsL, rangeD, upto, lookT, isIn, eqO, scrOk, isData, isDatas, dep, deps, dq_ss, dq_ii, dq_tt, dq_nil, dq_cons, dq_scr0, dq_scr1, flat, fldD, getF, methF, tyIs, pairsOf, mulOk, minI, maxI, finO, callT_c, callT_s, pg0, pg1, pg2, pc0, d_rest_bounds, h, h2, h3]
    · simp [startEnv, startIni, execSs, execS, evalE, evalEs, evalA, evalO, evalA1, evalC, evalI, Out.bind, Out.so, Out.ofO, varD, bindTg, nextO, blt, bLen, bAbs, bMax2, bMin2, bInt, bList, bTuple, bSum, bAll, bAny, bMin1, bMax1, bIsinst, bDictPairs, bDictCopy, op2, cmp2, atD, ixN, cutD, cutL, sIx, asI, asB, asIs, asBs, big, freezeS, compGo, forGo, items, itemsL, rangeD, upto, lookT, isIn, eqO, scrOk, isData, isDatas, dep, deps, dq_ss, dq_ii, dq_tt, dq_nil, dq_cons, dq_scr0, dq_scr1, flat, fldD, getF, methF, tyIs, pairsOf, mulOk, minI, maxI, finO, callT_c, callT_s, pg0, pg1, pg2, pc0, d_rest_bounds, h, h2]
  · simp [startEnv, startIni, execSs, execS, evalE, evalEs, evalA, evalO, evalA1, evalC, evalI, Out.bind, Out.so, Out.ofO, varD, bindTg, nextO, blt, bLen, bAbs, bMax2, bMin2, bInt, bList, bTuple, bSum, bAll, bAny, bMin1, bMax1, bIsinst, bDictPairs, bDictCopy, op2, cmp2, atD, ixN, cutD, cutL, sIx, asI, asB, asIs, asBs, big, freezeS, compGo, forGo, items, itemsL, rangeD, upto, lookT, isIn, eqO, scrOk, isData, isDatas, dep, deps, dq_ss, dq_ii, dq_tt, dq_nil, dq_cons, dq_scr0, dq_scr1, flat, fldD, getF, methF, tyIs, pairsOf, mulOk, minI, maxI, finO, callT_c, callT_s, pg0, pg1, pg2, pc0, d_rest_bounds, h]
theorem r_below (T : List FT) (a b c d : Int) (st : Store) : runDef prog T f_compared [.str (txt .below), pr a b, pr c d] st = .ok (pr (belowF a b c d).1 (belowF a b c d).2) st := by
  rw [run_eq d_compared rfl rfl rfl]
  unfold belowF
  by_cases h : b < c
  · simp [startEnv, startIni, execSs, execS, evalE, evalEs, evalA, evalO, evalA1, evalC, evalI, Out.bind, Out.so, Out.ofO, varD, bindTg, nextO, blt, bLen, bAbs, bMax2, bMin2, bInt, bList, bTuple, bSum, bAll, bAny, bMin1, bMax1, bIsinst, bDictPairs, bDictCopy, op2, cmp2, atD, ixN, cutD, cutL, sIx, asI, asB, asIs, asBs, big, freezeS, compGo, forGo, items, itemsL, rangeD, upto, lookT, isIn, eqO, scrOk, isData, isDatas, dep, deps, dq_ss, dq_ii, dq_tt, dq_nil, dq_cons, dq_scr0, dq_scr1, flat, fldD, getF, methF, tyIs, pairsOf, mulOk, minI, maxI, finO, callT_c, callT_s, pg0, pg1, pg2, pc0, d_compared, txt, h]
  · by_cases h2 : d ≤ a <;> simp [startEnv, startIni, execSs, execS, evalE, evalEs, evalA, evalO, evalA1, evalC, evalI, Out.bind, Out.so, Out.ofO, varD, bindTg, nextO, blt, bLen, bAbs, bMax2, bMin2, bInt, bList, bTuple, bSum, bAll, bAny, bMin1, bMax1, bIsinst, bDictPairs, bDictCopy, op2, cmp2, atD, ixN, cutD, cutL, sIx, asI, asB, asIs, asBs, big, freezeS, compGo, forGo, items, itemsL, rangeD, upto, lookT, isIn, eqO, scrOk, isData, isDatas, dep, deps, dq_ss, dq_ii, dq_tt, dq_nil, dq_cons, dq_scr0, dq_scr1, flat, fldD, getF, methF, tyIs, pairsOf, mulOk, minI, maxI, finO, callT_c, callT_s, pg0, pg1, pg2, pc0, d_compared, txt, h, h2]
theorem r_same (T : List FT) (a b c d : Int) (st : Store) : runDef prog T f_compared [.str (txt .same), pr a b, pr c d] st = .ok (pr (sameF a b c d).1 (sameF a b c d).2) st := by
  rw [run_eq d_compared rfl rfl rfl]
  unfold sameF
  by_cases h : b < c
  · simp [startEnv, startIni, execSs, execS, evalE, evalEs, evalA, evalO, evalA1, evalC, evalI, Out.bind, Out.so, Out.ofO, varD, bindTg, nextO, blt, bLen, bAbs, bMax2, bMin2, bInt, bList, bTuple, bSum, bAll, bAny, bMin1, bMax1, bIsinst, bDictPairs, bDictCopy, op2, cmp2, atD, ixN, cutD, cutL, sIx, asI, asB, asIs, asBs, big, freezeS, compGo, forGo, items, itemsL, rangeD, upto, lookT, isIn, eqO, scrOk, isData, isDatas, dep, deps, dq_ss, dq_ii, dq_tt, dq_nil, dq_cons, dq_scr0, dq_scr1, flat, fldD, getF, methF, tyIs, pairsOf, mulOk, minI, maxI, finO, callT_c, callT_s, pg0, pg1, pg2, pc0, d_compared, txt, h]
  · by_cases h2 : d < a
    · simp [startEnv, startIni, execSs, execS, evalE, evalEs, evalA, evalO, evalA1, evalC, evalI, Out.bind, Out.so, Out.ofO, varD, bindTg, nextO, blt, bLen, bAbs, bMax2, bMin2, bInt, bList, bTuple, bSum, bAll, bAny, bMin1, bMax1, bIsinst, bDictPairs, bDictCopy, op2, cmp2, atD, ixN, cutD, cutL, sIx, asI, asB, asIs, asBs, big, freezeS, compGo, forGo, items, itemsL, rangeD, upto, lookT, isIn, eqO, scrOk, isData, isDatas, dep, deps, dq_ss, dq_ii, dq_tt, dq_nil, dq_cons, dq_scr0, dq_scr1, flat, fldD, getF, methF, tyIs, pairsOf, mulOk, minI, maxI, finO, callT_c, callT_s, pg0, pg1, pg2, pc0, d_compared, txt, h, h2]
    · by_cases h3 : a = b
      · subst h3
        by_cases h4 : a = c
        · subst h4
          by_cases h5 : a = d
          · simp [startEnv, startIni, execSs, execS, evalE, evalEs, evalA, evalO, evalA1, evalC, evalI, Out.bind, Out.so, Out.ofO, varD, bindTg, nextO, blt, bLen, bAbs, bMax2, bMin2, bInt, bList, bTuple, bSum, bAll, bAny, bMin1, bMax1, bIsinst, bDictPairs, bDictCopy, op2, cmp2, atD, ixN, cutD, cutL, sIx, asI, asB, asIs, asBs, big, freezeS, compGo, forGo, items, itemsL, rangeD, upto, lookT, isIn, eqO, scrOk, isData, isDatas, dep, deps, dq_ss, dq_ii, dq_tt, dq_nil, dq_cons, dq_scr0, dq_scr1, flat, fldD, getF, methF, tyIs, pairsOf, mulOk, minI, maxI, finO, callT_c, callT_s, pg0, pg1, pg2, pc0, d_compared, txt, h, h2, h5]
          · have b5 : (a == d) = false := by simpa using h5
            simp [startEnv, startIni, execSs, execS, evalE, evalEs, evalA, evalO, evalA1, evalC, evalI, Out.bind, Out.so, Out.ofO, varD, bindTg, nextO, blt, bLen, bAbs, bMax2, bMin2, bInt, bList, bTuple, bSum, bAll, bAny, bMin1, bMax1, bIsinst, bDictPairs, bDictCopy, op2, cmp2, atD, ixN, cutD, cutL, sIx, asI, asB, asIs, asBs, big, freezeS, compGo, forGo, items, itemsL, rangeD, upto, lookT, isIn, eqO, scrOk, isData, isDatas, dep, deps, dq_ss, dq_ii, dq_tt, dq_nil, dq_cons, dq_scr0, dq_scr1, flat, fldD, getF, methF, tyIs, pairsOf, mulOk, minI, maxI, finO, callT_c, callT_s, pg0, pg1, pg2, pc0, d_compared, txt, h, h2, h5, b5]
        · have b4 : (a == c) = false := by simpa using h4
          simp [startEnv, startIni, execSs, execS, evalE, evalEs, evalA, evalO, evalA1, evalC, evalI, Out.bind, Out.so, Out.ofO, varD, bindTg, nextO, blt, bLen, bAbs, bMax2, bMin2, bInt, bList, bTuple, bSum, bAll, bAny, bMin1, bMax1, bIsinst, bDictPairs, bDictCopy, op2, cmp2, atD, ixN, cutD, cutL, sIx, asI, asB, asIs, asBs, big, freezeS, compGo, forGo, items, itemsL, rangeD, upto, lookT, isIn, eqO, scrOk, isData, isDatas, dep, deps, dq_ss, dq_ii, dq_tt, dq_nil, dq_cons, dq_scr0, dq_scr1, flat, fldD, getF, methF, tyIs, pairsOf, mulOk, minI, maxI, finO, callT_c, callT_s, pg0, pg1, pg2, pc0, d_compared, txt, h, h2, h4, b4]
      · have b3 : (a == b) = false := by simpa using h3
        simp [startEnv, startIni, execSs, execS, evalE, evalEs, evalA, evalO, evalA1, evalC, evalI, Out.bind, Out.so, Out.ofO, varD, bindTg, nextO, blt, bLen, bAbs, bMax2, bMin2, bInt, bList, bTuple, bSum, bAll, bAny, bMin1, bMax1, bIsinst, bDictPairs, bDictCopy, op2, cmp2, atD, ixN, cutD, cutL, sIx, asI, asB, asIs, asBs, big, freezeS, compGo, forGo, items, itemsL, rangeD, upto, lookT, isIn, eqO, scrOk, isData, isDatas, dep, deps, dq_ss, dq_ii, dq_tt, dq_nil, dq_cons, dq_scr0, dq_scr1, flat, fldD, getF, methF, tyIs, pairsOf, mulOk, minI, maxI, finO, callT_c, callT_s, pg0, pg1, pg2, pc0, d_compared, txt, h, h2, h3, b3]
theorem r_plus (k : Nat) (a b c d : Int) (st : Store) : runDef prog (tabs prog (k+2)) f_sum_facts [.str (txt .plus), pr a b, pr c d] st = .ok (facts (cutF (a + c) (b + d)) (fit (a + c) (b + d))) st := by
  rw [run_eq d_sum_facts rfl rfl rfl, tabs_s]
  simp [startEnv, startIni, execSs, execS, evalE, evalEs, evalA, evalO, evalA1, evalC, evalI, Out.bind, Out.so, Out.ofO, varD, bindTg, nextO, blt, bLen, bAbs, bMax2, bMin2, bInt, bList, bTuple, bSum, bAll, bAny, bMin1, bMax1, bIsinst, bDictPairs, bDictCopy, op2, cmp2, atD, ixN, cutD, cutL, sIx, asI, asB, asIs, asBs, big, freezeS, compGo, forGo, items, itemsL, rangeD, upto, lookT, isIn, eqO, scrOk, isData, isDatas, dep, deps, dq_ss, dq_ii, dq_tt, dq_nil, dq_cons, dq_scr0, dq_scr1, flat, fldD, getF, methF, tyIs, pairsOf, mulOk, minI, maxI, finO, callT_c, callT_s, pg0, pg1, pg2, pc0, d_sum_facts, txt, r_cut, r_is_fit, r_init, fit]
theorem r_less (k : Nat) (a b c d : Int) (st : Store) : runDef prog (tabs prog (k+2)) f_sum_facts [.str (txt .less), pr a b, pr c d] st = .ok (facts (cutF (a - d) (b - c)) (fit (a - d) (b - c))) st := by
  rw [run_eq d_sum_facts rfl rfl rfl, tabs_s]
  simp [startEnv, startIni, execSs, execS, evalE, evalEs, evalA, evalO, evalA1, evalC, evalI, Out.bind, Out.so, Out.ofO, varD, bindTg, nextO, blt, bLen, bAbs, bMax2, bMin2, bInt, bList, bTuple, bSum, bAll, bAny, bMin1, bMax1, bIsinst, bDictPairs, bDictCopy, op2, cmp2, atD, ixN, cutD, cutL, sIx, asI, asB, asIs, asBs, big, freezeS, compGo, forGo, items, itemsL, rangeD, upto, lookT, isIn, eqO, scrOk, isData, isDatas, dep, deps, dq_ss, dq_ii, dq_tt, dq_nil, dq_cons, dq_scr0, dq_scr1, flat, fldD, getF, methF, tyIs, pairsOf, mulOk, minI, maxI, finO, callT_c, callT_s, pg0, pg1, pg2, pc0, d_sum_facts, txt, r_cut, r_is_fit, r_init, fit]
theorem r_times (k : Nat) (a b c d : Int) (st : Store) (ha : small a) (hb : small b) : runDef prog (tabs prog (k+2)) f_sum_facts [.str (txt .times), pr a b, pr c d] st = .ok (facts (cutF (mn4 (a*c) (a*d) (b*c) (b*d)) (mx4 (a*c) (a*d) (b*c) (b*d))) (fit (mn4 (a*c) (a*d) (b*c) (b*d)) (mx4 (a*c) (a*d) (b*c) (b*d)))) st := by
  rw [run_eq d_sum_facts rfl rfl rfl, tabs_s]
  simp [startEnv, startIni, execSs, execS, evalE, evalEs, evalA, evalO, evalA1, evalC, evalI, Out.bind, Out.so, Out.ofO, varD, bindTg, nextO, blt, bLen, bAbs, bMax2, bMin2, bInt, bList, bTuple, bSum, bAll, bAny, bMin1, bMax1, bIsinst, bDictPairs, bDictCopy, op2, cmp2, atD, ixN, cutD, cutL, sIx, asI, asB, asIs, asBs, big, freezeS, compGo, forGo, items, itemsL, rangeD, upto, lookT, isIn, eqO, scrOk, isData, isDatas, dep, deps, dq_ss, dq_ii, dq_tt, dq_nil, dq_cons, dq_scr0, dq_scr1, flat, fldD, getF, methF, tyIs, pairsOf, mulOk, minI, maxI, finO, callT_c, callT_s, pg0, pg1, pg2, pc0, d_sum_facts, txt, r_cut, r_is_fit, r_init, fit, r_products, ha, hb]
end K20

set_option maxRecDepth 100000
set_option linter.all false
set_option maxHeartbeats 4000000
namespace K20
open Fw
def partF (a b c d : Int) : Int × Int := (mn4 (a.fdiv c) (a.fdiv d) (b.fdiv c) (b.fdiv d), mx4 (a.fdiv c) (a.fdiv d) (b.fdiv c) (b.fdiv d))
def all9 : Int × Int := (-999999999, 999999999)
def twoB : Op → Int → Int → Int → Int → Int × Int
  | .plus, a, b, c, d => cutF (a + c) (b + d)
  | .less, a, b, c, d => cutF (a - d) (b - c)
  | .times, a, b, c, d => cutF (mn4 (a*c) (a*d) (b*c) (b*d)) (mx4 (a*c) (a*d) (b*c) (b*d))
  | .part, a, b, c, d => if c ≤ 0 ∧ 0 ≤ d then all9 else partF a b c d
  | .rest, a, b, c, d => if c ≤ 0 ∧ 0 ≤ d then all9 else restF a b c d
  | .same, a, b, c, d => sameF a b c d
  | .below, a, b, c, d => belowF a b c d
def twoS : Op → Int → Int → Int → Int → Bool
  | .plus, a, b, c, d => fit (a + c) (b + d)
  | .less, a, b, c, d => fit (a - d) (b - c)
  | .times, a, b, c, d => fit (mn4 (a*c) (a*d) (b*c) (b*d)) (mx4 (a*c) (a*d) (b*c) (b*d))
  | .part, _, _, c, d => !(decide (c ≤ 0) && decide (0 ≤ d))
  | .rest, _, _, c, d => !(decide (c ≤ 0) && decide (0 ≤ d))
  | .same, _, _, _, _ => true
  | .below, _, _, _, _ => true
theorem r_two (k : Nat) (op : Op) (a b c d : Int) (st : Store) (ha : small a) (hb : small b) (hc : small c) (hd : small d) (cd : c ≤ d) : runDef prog (tabs prog (k+3)) f_two_facts [.str (txt op), pr a b, pr c d] st = .ok (facts (twoB op a b c d) (twoS op a b c d)) st := by
  rw [run_eq d_two_facts rfl rfl rfl, tabs_s]
  cases op with
  | plus =>
    have h := r_plus k a b c d st
    simp only [txt] at h ⊢
    simp [startEnv, startIni, execSs, execS, evalE, evalEs, evalA, evalO, evalA1, evalC, evalI, Out.bind, Out.so, Out.ofO, varD, bindTg, nextO, blt, bLen, bAbs, bMax2, bMin2, bInt, bList, bTuple, bSum, bAll, bAny, bMin1, bMax1, bIsinst, bDictPairs, bDictCopy, op2, cmp2, atD, ixN, cutD, cutL, sIx, asI, asB, asIs, asBs, big, freezeS, compGo, forGo, items, itemsL, rangeD, upto, lookT, isIn, eqO, scrOk, isData, isDatas, dep, deps, dq_ss, dq_ii, dq_tt, dq_nil, dq_cons, dq_scr0, dq_scr1, flat, fldD, getF, methF, tyIs, pairsOf, mulOk, minI, maxI, finO, callT_c, callT_s, List.lookup, pg0, pg1, pg2, pc0, d_two_facts, h, twoB, twoS]
  | less =>
    have h := r_less k a b c d st
    simp only [txt] at h ⊢
    simp [startEnv, startIni, execSs, execS, evalE, evalEs, evalA, evalO, evalA1, evalC, evalI, Out.bind, Out.so, Out.ofO, varD, bindTg, nextO, blt, bLen, bAbs, bMax2, bMin2, bInt, bList, bTuple, bSum, bAll, bAny, bMin1, bMax1, bIsinst, bDictPairs, bDictCopy, op2, cmp2, atD, ixN, cutD, cutL, sIx, asI, asB, asIs, asBs, big, freezeS, compGo, forGo, items, itemsL, rangeD, upto, lookT, isIn, eqO, scrOk, isData, isDatas, dep, deps, dq_ss, dq_ii, dq_tt, dq_nil, dq_cons, dq_scr0, dq_scr1, flat, fldD, getF, methF, tyIs, pairsOf, mulOk, minI, maxI, finO, callT_c, callT_s, List.lookup, pg0, pg1, pg2, pc0, d_two_facts, h, twoB, twoS]
  | times =>
    have h := r_times k a b c d st ha hb
    simp only [txt] at h ⊢
    simp [startEnv, startIni, execSs, execS, evalE, evalEs, evalA, evalO, evalA1, evalC, evalI, Out.bind, Out.so, Out.ofO, varD, bindTg, nextO, blt, bLen, bAbs, bMax2, bMin2, bInt, bList, bTuple, bSum, bAll, bAny, bMin1, bMax1, bIsinst, bDictPairs, bDictCopy, op2, cmp2, atD, ixN, cutD, cutL, sIx, asI, asB, asIs, asBs, big, freezeS, compGo, forGo, items, itemsL, rangeD, upto, lookT, isIn, eqO, scrOk, isData, isDatas, dep, deps, dq_ss, dq_ii, dq_tt, dq_nil, dq_cons, dq_scr0, dq_scr1, flat, fldD, getF, methF, tyIs, pairsOf, mulOk, minI, maxI, finO, callT_c, callT_s, List.lookup, pg0, pg1, pg2, pc0, d_two_facts, h, twoB, twoS]
  | same =>
    have h := r_same (tabs prog (k+2)) a b c d st
    simp only [txt] at h ⊢
    simp [startEnv, startIni, execSs, execS, evalE, evalEs, evalA, evalO, evalA1, evalC, evalI, Out.bind, Out.so, Out.ofO, varD, bindTg, nextO, blt, bLen, bAbs, bMax2, bMin2, bInt, bList, bTuple, bSum, bAll, bAny, bMin1, bMax1, bIsinst, bDictPairs, bDictCopy, op2, cmp2, atD, ixN, cutD, cutL, sIx, asI, asB, asIs, asBs, big, freezeS, compGo, forGo, items, itemsL, rangeD, upto, lookT, isIn, eqO, scrOk, isData, isDatas, dep, deps, dq_ss, dq_ii, dq_tt, dq_nil, dq_cons, dq_scr0, dq_scr1, flat, fldD, getF, methF, tyIs, pairsOf, mulOk, minI, maxI, finO, callT_c, callT_s, List.lookup, pg0, pg1, pg2, pc0, d_two_facts, h, r_init, twoB, twoS]
  | below =>
    have h := r_below (tabs prog (k+2)) a b c d st
    simp only [txt] at h ⊢
    simp [startEnv, startIni, execSs, execS, evalE, evalEs, evalA, evalO, evalA1, evalC, evalI, Out.bind, Out.so, Out.ofO, varD, bindTg, nextO, blt, bLen, bAbs, bMax2, bMin2, bInt, bList, bTuple, bSum, bAll, bAny, bMin1, bMax1, bIsinst, bDictPairs, bDictCopy, op2, cmp2, atD, ixN, cutD, cutL, sIx, asI, asB, asIs, asBs, big, freezeS, compGo, forGo, items, itemsL, rangeD, upto, lookT, isIn, eqO, scrOk, isData, isDatas, dep, deps, dq_ss, dq_ii, dq_tt, dq_nil, dq_cons, dq_scr0, dq_scr1, flat, fldD, getF, methF, tyIs, pairsOf, mulOk, minI, maxI, finO, callT_c, callT_s, List.lookup, pg0, pg1, pg2, pc0, d_two_facts, h, r_init, twoB, twoS]
  | part =>
    simp only [txt]
    by_cases h1 : c ≤ 0
    · by_cases h2 : 0 ≤ d
      · simp [startEnv, startIni, execSs, execS, evalE, evalEs, evalA, evalO, evalA1, evalC, evalI, Out.bind, Out.so, Out.ofO, varD, bindTg, nextO, blt, bLen, bAbs, bMax2, bMin2, bInt, bList, bTuple, bSum, bAll, bAny, bMin1, bMax1, bIsinst, bDictPairs, bDictCopy, op2, cmp2, atD, ixN, cutD, cutL, sIx, asI, asB, asIs, asBs, big, freezeS, compGo, forGo, items, itemsL, rangeD, upto, lookT, isIn, eqO, scrOk, isData, isDatas, dep, deps, dq_ss, dq_ii, dq_tt, dq_nil, dq_cons, dq_scr0, dq_scr1, flat, fldD, getF, methF, tyIs, pairsOf, mulOk, minI, maxI, finO, callT_c, callT_s, List.lookup, pg0, pg1, pg2, pc0, d_two_facts, r_init, twoB, twoS, h1, h2, all9]
      · have c0 : c ≠ 0 := by omega
        have d0 : d ≠ 0 := by omega
        have h := r_part (tabs prog (k+2)) a b c d st hc hd c0 d0
        simp [startEnv, startIni, execSs, execS, evalE, evalEs, evalA, evalO, evalA1, evalC, evalI, Out.bind, Out.so, Out.ofO, varD, bindTg, nextO, blt, bLen, bAbs, bMax2, bMin2, bInt, bList, bTuple, bSum, bAll, bAny, bMin1, bMax1, bIsinst, bDictPairs, bDictCopy, op2, cmp2, atD, ixN, cutD, cutL, sIx, asI, asB, asIs, asBs, big, freezeS, compGo, forGo, items, itemsL, rangeD, upto, lookT, isIn, eqO, scrOk, isData, isDatas, dep, deps, dq_ss, dq_ii, dq_tt, dq_nil, dq_cons, dq_scr0, dq_scr1, flat, fldD, getF, methF, tyIs, pairsOf, mulOk, minI, maxI, finO, callT_c, callT_s, List.lookup, pg0, pg1, pg2, pc0, d_two_facts, r_init, twoB, twoS, h1, h2, h, partF]
    · have c0 : c ≠ 0 := by omega
      have d0 : d ≠ 0 := by omega
      have h := r_part (tabs prog (k+2)) a b c d st hc hd c0 d0
      simp [startEnv, startIni, execSs, execS, evalE, evalEs, evalA, evalO, evalA1, evalC, evalI, Out.bind, Out.so, Out.ofO, varD, bindTg, nextO, blt, bLen, bAbs, bMax2, bMin2, bInt, bList, bTuple, bSum, bAll, bAny, bMin1, bMax1, bIsinst, bDictPairs, bDictCopy, op2, cmp2, atD, ixN, cutD, cutL, sIx, asI, asB, asIs, asBs, big, freezeS, compGo, forGo, items, itemsL, rangeD, upto, lookT, isIn, eqO, scrOk, isData, isDatas, dep, deps, dq_ss, dq_ii, dq_tt, dq_nil, dq_cons, dq_scr0, dq_scr1, flat, fldD, getF, methF, tyIs, pairsOf, mulOk, minI, maxI, finO, callT_c, callT_s, List.lookup, pg0, pg1, pg2, pc0, d_two_facts, r_init, twoB, twoS, h1, h, partF]
  | rest =>
    simp only [txt]
    by_cases h1 : c ≤ 0
    · by_cases h2 : 0 ≤ d
      · simp [startEnv, startIni, execSs, execS, evalE, evalEs, evalA, evalO, evalA1, evalC, evalI, Out.bind, Out.so, Out.ofO, varD, bindTg, nextO, blt, bLen, bAbs, bMax2, bMin2, bInt, bList, bTuple, bSum, bAll, bAny, bMin1, bMax1, bIsinst, bDictPairs, bDictCopy, op2, cmp2, atD, ixN, cutD, cutL, sIx, asI, asB, asIs, asBs, big, freezeS, compGo, forGo, items, itemsL, rangeD, upto, lookT, isIn, eqO, scrOk, isData, isDatas, dep, deps, dq_ss, dq_ii, dq_tt, dq_nil, dq_cons, dq_scr0, dq_scr1, flat, fldD, getF, methF, tyIs, pairsOf, mulOk, minI, maxI, finO, callT_c, callT_s, List.lookup, pg0, pg1, pg2, pc0, d_two_facts, r_init, twoB, twoS, h1, h2, all9]
      · simp [startEnv, startIni, execSs, execS, evalE, evalEs, evalA, evalO, evalA1, evalC, evalI, Out.bind, Out.so, Out.ofO, varD, bindTg, nextO, blt, bLen, bAbs, bMax2, bMin2, bInt, bList, bTuple, bSum, bAll, bAny, bMin1, bMax1, bIsinst, bDictPairs, bDictCopy, op2, cmp2, atD, ixN, cutD, cutL, sIx, asI, asB, asIs, asBs, big, freezeS, compGo, forGo, items, itemsL, rangeD, upto, lookT, isIn, eqO, scrOk, isData, isDatas, dep, deps, dq_ss, dq_ii, dq_tt, dq_nil, dq_cons, dq_scr0, dq_scr1, flat, fldD, getF, methF, tyIs, pairsOf, mulOk, minI, maxI, finO, callT_c, callT_s, List.lookup, pg0, pg1, pg2, pc0, d_two_facts, r_init, twoB, twoS, h1, h2, r_rest]
    · simp [startEnv, startIni, execSs, execS, evalE, evalEs, evalA, evalO, evalA1, evalC, evalI, Out.bind, Out.so, Out.ofO, varD, bindTg, nextO, blt, bLen, bAbs, bMax2, bMin2, bInt, bList, bTuple, bSum, bAll, bAny, bMin1, bMax1, bIsinst, bDictPairs, bDictCopy, op2, cmp2, atD, ixN, cutD, cutL, sIx, asI, asB, asIs, asBs, big, freezeS, compGo, forGo, items, itemsL, rangeD, upto, lookT, isIn, eqO, scrOk, isData, isDatas, dep, deps, dq_ss, dq_ii, dq_tt, dq_nil, dq_cons, dq_scr0, dq_scr1, flat, fldD, getF, methF, tyIs, pairsOf, mulOk, minI, maxI, finO, callT_c, callT_s, List.lookup, pg0, pg1, pg2, pc0, d_two_facts, r_init, twoB, twoS, h1, r_rest]
inductive Tm where
  | num (i : Int)
  | nam (x : Txt)
  | two (o : Op) (a b : Tm)
  | when_ (a b c : Tm)
  | say (a : Tm)
def toD : Tm → D
  | .num i => .tup [.str [110, 117, 109], .int i]
  | .nam x => .tup [.str [110, 97, 109, 101], .str x]
  | .two o a b => .tup [.str (txt o), toD a, toD b]
  | .when_ a b c => .tup [.str [119, 104, 101, 110], toD a, toD b, toD c]
  | .say a => .tup [.str [115, 97, 121], toD a]
def hgt : Tm → Nat
  | .num _ => 0
  | .nam _ => 0
  | .two _ a b => max (hgt a) (hgt b) + 1
  | .when_ a b c => max (max (hgt a) (hgt b)) (hgt c) + 1
  | .say a => hgt a + 1
def bnd (N : Txt → Int × Int) : Tm → (Int × Int) × Bool
  | .num i => ((i, i), true)
  | .nam x => (N x, true)
  | .two o a b => (twoB o (bnd N a).1.1 (bnd N a).1.2 (bnd N b).1.1 (bnd N b).1.2, twoS o (bnd N a).1.1 (bnd N a).1.2 (bnd N b).1.1 (bnd N b).1.2 && (bnd N a).2 && (bnd N b).2)
  | .when_ a b c => if (bnd N a).1.1 = 0 ∧ (bnd N a).1.2 = 0 then ((bnd N c).1, (bnd N a).2 && (bnd N c).2) else
      if 0 < (bnd N a).1.1 ∨ (bnd N a).1.2 < 0 then ((bnd N b).1, (bnd N a).2 && (bnd N b).2) else
      ((mn (bnd N b).1.1 (bnd N c).1.1, mx (bnd N b).1.2 (bnd N c).1.2), (bnd N a).2 && (bnd N b).2 && (bnd N c).2)
  | .say a => bnd N a
def rng (p : Int × Int) : Prop := small p.1 ∧ small p.2 ∧ p.1 ≤ p.2
def wf (kvs : List (Txt × D)) (N : Txt → Int × Int) : Tm → Prop
  | .num i => small i
  | .nam x => lookT x kvs = some (pr (N x).1 (N x).2) ∧ rng (N x)
  | .two _ a b => wf kvs N a ∧ wf kvs N b
  | .when_ a b c => wf kvs N a ∧ wf kvs N b ∧ wf kvs N c
  | .say a => wf kvs N a
theorem rng_cut (lo hi : Int) (h : lo ≤ hi) : rng (cutF lo hi) := by
  unfold rng cutF small
  (repeat' split) <;> first | omega | (simp; done) | (simp only []; omega) | (simp; omega)
theorem mn4_le (a b c d : Int) : mn4 a b c d ≤ mx4 a b c d := by unfold mn4 mx4; omega
theorem fdiv_pos {a c : Int} (ha : small a) (c0 : 0 < c) : small (a.fdiv c) := by
  unfold small at *
  rw [Int.fdiv_eq_ediv_of_nonneg a (Int.le_of_lt c0)]
  refine ⟨(Int.le_ediv_iff_mul_le c0).mpr (by omega), ?_⟩
  have : a / c < 1000000000 := (Int.ediv_lt_iff_lt_mul c0).mpr (by omega)
  omega
theorem fdiv_small {a c : Int} (ha : small a) (c0 : c ≠ 0) : small (a.fdiv c) := by
  by_cases h : 0 < c
  · exact fdiv_pos ha h
  · rw [← Int.neg_fdiv_neg]
    exact fdiv_pos (by unfold small at *; omega) (by omega)
theorem rng_two (o : Op) (a b c d : Int) (h1 : rng (a, b)) (h2 : rng (c, d)) : rng (twoB o a b c d) := by
  obtain ⟨a1, b1, ab⟩ := h1
  obtain ⟨c1, d1, cd⟩ := h2
  simp only [] at a1 b1 ab c1 d1 cd
  cases o with
  | plus => exact rng_cut _ _ (by omega)
  | less => exact rng_cut _ _ (by omega)
  | times => exact rng_cut _ _ (mn4_le _ _ _ _)
  | part =>
    simp only [twoB]
    split
    · unfold rng all9 small; simp
    · rename_i h
      have c0 : c ≠ 0 := by omega
      have d0 : d ≠ 0 := by omega
      have q1 := fdiv_small a1 c0
      have q2 := fdiv_small a1 d0
      have q3 := fdiv_small b1 c0
      have q4 := fdiv_small b1 d0
      unfold small at *
      unfold rng partF mn4 mx4 small
      simp only []
      omega
  | rest =>
    simp only [twoB]
    split
    · unfold rng all9 small; simp
    · unfold small at *
      unfold rng restF small
      (repeat' split) <;> simp only [] <;> omega
  | same => simp only [twoB]; unfold rng sameF small; (repeat' split) <;> simp
  | below => simp only [twoB]; unfold rng belowF small; (repeat' split) <;> simp
theorem rng_bnd {kvs : List (Txt × D)} {N : Txt → Int × Int} : ∀ (t : Tm), wf kvs N t → rng (bnd N t).1
  | .num i, h => ⟨h, h, Int.le_refl _⟩
  | .nam x, h => h.2
  | .two o a b, h => rng_two o _ _ _ _ (rng_bnd a h.1) (rng_bnd b h.2)
  | .when_ a b c, h => by
    have r2 := rng_bnd b h.2.1
    have r3 := rng_bnd c h.2.2
    unfold bnd
    split
    · exact r3
    · split
      · exact r2
      · obtain ⟨x1, x2, x3⟩ := r2
        obtain ⟨y1, y2, y3⟩ := r3
        unfold small at *
        unfold rng small mn mx
        simp only []
        (repeat' split) <;> omega
  | .say a, h => rng_bnd a h
end K20

set_option maxRecDepth 100000
set_option linter.all false
set_option maxHeartbeats 4000000
namespace K20
open Fw
theorem r_facts {kvs : List (Txt × D)} {N : Txt → Int × Int} : ∀ (t : Tm), wf kvs N t → ∀ (k : Nat), hgt t ≤ k → ∀ st, runDef prog (tabs prog (k+4)) f_facts_of [toD t, .dic kvs] st = .ok (facts (bnd N t).1 (bnd N t).2) st
  | .num i, h, k, hk, st => by
    rw [run_eq d_facts_of rfl rfl rfl, tabs_s]
    simp [startEnv, startIni, execSs, execS, evalE, evalEs, evalA, evalO, evalA1, evalC, evalI, Out.bind, Out.so, Out.ofO, varD, bindTg, nextO, blt, bLen, bAbs, bMax2, bMin2, bInt, bList, bTuple, bSum, bAll, bAny, bMin1, bMax1, bIsinst, bDictPairs, bDictCopy, op2, cmp2, atD, ixN, cutD, cutL, sIx, asI, asB, asIs, asBs, big, freezeS, compGo, forGo, items, itemsL, rangeD, upto, lookT, isIn, eqO, scrOk, isData, isDatas, dep, deps, dq_ss, dq_ii, dq_tt, dq_nil, dq_cons, dq_scr0, dq_scr1, flat, fldD, getF, methF, tyIs, pairsOf, mulOk, minI, maxI, finO, callT_c, callT_s, List.lookup, pg0, pg1, pg2, pc0, d_facts_of, toD, r_init, bnd]
  | .nam x, h, k, hk, st => by
    rw [run_eq d_facts_of rfl rfl rfl, tabs_s]
    simp [startEnv, startIni, execSs, execS, evalE, evalEs, evalA, evalO, evalA1, evalC, evalI, Out.bind, Out.so, Out.ofO, varD, bindTg, nextO, blt, bLen, bAbs, bMax2, bMin2, bInt, bList, bTuple, bSum, bAll, bAny, bMin1, bMax1, bIsinst, bDictPairs, bDictCopy, op2, cmp2, atD, ixN, cutD, cutL, sIx, asI, asB, asIs, asBs, big, freezeS, compGo, forGo, items, itemsL, rangeD, upto, lookT, isIn, eqO, scrOk, isData, isDatas, dep, deps, dq_ss, dq_ii, dq_tt, dq_nil, dq_cons, dq_scr0, dq_scr1, flat, fldD, getF, methF, tyIs, pairsOf, mulOk, minI, maxI, finO, callT_c, callT_s, List.lookup, pg0, pg1, pg2, pc0, d_facts_of, toD, r_init, bnd, h.1]
  | .two o a b, h, k, hk, st => by
    simp only [hgt] at hk
    obtain ⟨k, rfl⟩ : ∃ j, k = j + 1 := ⟨k - 1, by omega⟩
    have ia := r_facts a h.1 k (by omega) st
    have ib := r_facts b h.2 k (by omega) st
    obtain ⟨a1, a2, a3⟩ := rng_bnd a h.1
    obtain ⟨b1, b2, b3⟩ := rng_bnd b h.2
    have i2 := r_two (k + 1) o _ _ _ _ st a1 a2 b1 b2 b3
    rw [run_eq d_facts_of rfl rfl rfl, tabs_s]
    have n1 : (txt o == [110, 117, 109]) = false := by cases o <;> rfl
    have n2 : (txt o == [110, 97, 109, 101]) = false := by cases o <;> rfl
    have n3 : (txt o == [115, 97, 121]) = false := by cases o <;> rfl
    have n4 : (txt o == [119, 104, 101, 110]) = false := by cases o <;> rfl
    cases h1 : twoS o (bnd N a).1.1 (bnd N a).1.2 (bnd N b).1.1 (bnd N b).1.2 <;> cases h2 : (bnd N a).2 <;> simp [startEnv, startIni, execSs, execS, evalE, evalEs, evalA, evalO, evalA1, evalC, evalI, Out.bind, Out.so, Out.ofO, varD, bindTg, nextO, blt, bLen, bAbs, bMax2, bMin2, bInt, bList, bTuple, bSum, bAll, bAny, bMin1, bMax1, bIsinst, bDictPairs, bDictCopy, op2, cmp2, atD, ixN, cutD, cutL, sIx, asI, asB, asIs, asBs, big, freezeS, compGo, forGo, items, itemsL, rangeD, upto, lookT, isIn, eqO, scrOk, isData, isDatas, dep, deps, dq_ss, dq_ii, dq_tt, dq_nil, dq_cons, dq_scr0, dq_scr1, flat, fldD, getF, methF, tyIs, pairsOf, mulOk, minI, maxI, finO, callT_c, callT_s, List.lookup, pg0, pg1, pg2, pc0, d_facts_of, toD, r_init, bnd, ia, ib, n1, n2, n3, n4, i2, h1, h2]
  | .when_ a b c, h, k, hk, st => by
    simp only [hgt] at hk
    obtain ⟨k, rfl⟩ : ∃ j, k = j + 1 := ⟨k - 1, by omega⟩
    have ia := r_facts a h.1 k (by omega) st
    have ib := r_facts b h.2.1 k (by omega) st
    have ic := r_facts c h.2.2 k (by omega) st
    rw [run_eq d_facts_of rfl rfl rfl, tabs_s]
    by_cases h1 : (bnd N a).1.1 = 0
    · by_cases h2 : (bnd N a).1.2 = 0
      · cases h3 : (bnd N a).2 <;> simp [startEnv, startIni, execSs, execS, evalE, evalEs, evalA, evalO, evalA1, evalC, evalI, Out.bind, Out.so, Out.ofO, varD, bindTg, nextO, blt, bLen, bAbs, bMax2, bMin2, bInt, bList, bTuple, bSum, bAll, bAny, bMin1, bMax1, bIsinst, bDictPairs, bDictCopy, op2, cmp2, atD, ixN, cutD, cutL, sIx, asI, asB, asIs, asBs, big, freezeS, compGo, forGo, items, itemsL, rangeD, upto, lookT, isIn, eqO, scrOk, isData, isDatas, dep, deps, dq_ss, dq_ii, dq_tt, dq_nil, dq_cons, dq_scr0, dq_scr1, flat, fldD, getF, methF, tyIs, pairsOf, mulOk, minI, maxI, finO, callT_c, callT_s, List.lookup, pg0, pg1, pg2, pc0, d_facts_of, toD, r_init, bnd, ia, ib, ic, h1, h2, h3]
      · have b2 : ((bnd N a).1.2 == 0) = false := by simpa using h2
        by_cases h4 : (bnd N a).1.2 < 0
        · cases h3 : (bnd N a).2 <;> simp [startEnv, startIni, execSs, execS, evalE, evalEs, evalA, evalO, evalA1, evalC, evalI, Out.bind, Out.so, Out.ofO, varD, bindTg, nextO, blt, bLen, bAbs, bMax2, bMin2, bInt, bList, bTuple, bSum, bAll, bAny, bMin1, bMax1, bIsinst, bDictPairs, bDictCopy, op2, cmp2, atD, ixN, cutD, cutL, sIx, asI, asB, asIs, asBs, big, freezeS, compGo, forGo, items, itemsL, rangeD, upto, lookT, isIn, eqO, scrOk, isData, isDatas, dep, deps, dq_ss, dq_ii, dq_tt, dq_nil, dq_cons, dq_scr0, dq_scr1, flat, fldD, getF, methF, tyIs, pairsOf, mulOk, minI, maxI, finO, callT_c, callT_s, List.lookup, pg0, pg1, pg2, pc0, d_facts_of, toD, r_init, bnd, ia, ib, ic, h1, h2, b2, h3, h4]
        · cases h3 : (bnd N a).2 <;> cases h5 : (bnd N b).2 <;> simp [startEnv, startIni, execSs, execS, evalE, evalEs, evalA, evalO, evalA1, evalC, evalI, Out.bind, Out.so, Out.ofO, varD, bindTg, nextO, blt, bLen, bAbs, bMax2, bMin2, bInt, bList, bTuple, bSum, bAll, bAny, bMin1, bMax1, bIsinst, bDictPairs, bDictCopy, op2, cmp2, atD, ixN, cutD, cutL, sIx, asI, asB, asIs, asBs, big, freezeS, compGo, forGo, items, itemsL, rangeD, upto, lookT, isIn, eqO, scrOk, isData, isDatas, dep, deps, dq_ss, dq_ii, dq_tt, dq_nil, dq_cons, dq_scr0, dq_scr1, flat, fldD, getF, methF, tyIs, pairsOf, mulOk, minI, maxI, finO, callT_c, callT_s, List.lookup, pg0, pg1, pg2, pc0, d_facts_of, toD, r_init, r_hull, bnd, ia, ib, ic, h1, h2, b2, h3, h4, h5]
    · have b1 : ((bnd N a).1.1 == 0) = false := by simpa using h1
      by_cases h2 : 0 < (bnd N a).1.1
      · cases h3 : (bnd N a).2 <;> simp [startEnv, startIni, execSs, execS, evalE, evalEs, evalA, evalO, evalA1, evalC, evalI, Out.bind, Out.so, Out.ofO, varD, bindTg, nextO, blt, bLen, bAbs, bMax2, bMin2, bInt, bList, bTuple, bSum, bAll, bAny, bMin1, bMax1, bIsinst, bDictPairs, bDictCopy, op2, cmp2, atD, ixN, cutD, cutL, sIx, asI, asB, asIs, asBs, big, freezeS, compGo, forGo, items, itemsL, rangeD, upto, lookT, isIn, eqO, scrOk, isData, isDatas, dep, deps, dq_ss, dq_ii, dq_tt, dq_nil, dq_cons, dq_scr0, dq_scr1, flat, fldD, getF, methF, tyIs, pairsOf, mulOk, minI, maxI, finO, callT_c, callT_s, List.lookup, pg0, pg1, pg2, pc0, d_facts_of, toD, r_init, bnd, ia, ib, ic, h1, b1, h2, h3]
      · by_cases h4 : (bnd N a).1.2 < 0
        · cases h3 : (bnd N a).2 <;> simp [startEnv, startIni, execSs, execS, evalE, evalEs, evalA, evalO, evalA1, evalC, evalI, Out.bind, Out.so, Out.ofO, varD, bindTg, nextO, blt, bLen, bAbs, bMax2, bMin2, bInt, bList, bTuple, bSum, bAll, bAny, bMin1, bMax1, bIsinst, bDictPairs, bDictCopy, op2, cmp2, atD, ixN, cutD, cutL, sIx, asI, asB, asIs, asBs, big, freezeS, compGo, forGo, items, itemsL, rangeD, upto, lookT, isIn, eqO, scrOk, isData, isDatas, dep, deps, dq_ss, dq_ii, dq_tt, dq_nil, dq_cons, dq_scr0, dq_scr1, flat, fldD, getF, methF, tyIs, pairsOf, mulOk, minI, maxI, finO, callT_c, callT_s, List.lookup, pg0, pg1, pg2, pc0, d_facts_of, toD, r_init, bnd, ia, ib, ic, h1, b1, h2, h3, h4]
        · cases h3 : (bnd N a).2 <;> cases h5 : (bnd N b).2 <;> simp [startEnv, startIni, execSs, execS, evalE, evalEs, evalA, evalO, evalA1, evalC, evalI, Out.bind, Out.so, Out.ofO, varD, bindTg, nextO, blt, bLen, bAbs, bMax2, bMin2, bInt, bList, bTuple, bSum, bAll, bAny, bMin1, bMax1, bIsinst, bDictPairs, bDictCopy, op2, cmp2, atD, ixN, cutD, cutL, sIx, asI, asB, asIs, asBs, big, freezeS, compGo, forGo, items, itemsL, rangeD, upto, lookT, isIn, eqO, scrOk, isData, isDatas, dep, deps, dq_ss, dq_ii, dq_tt, dq_nil, dq_cons, dq_scr0, dq_scr1, flat, fldD, getF, methF, tyIs, pairsOf, mulOk, minI, maxI, finO, callT_c, callT_s, List.lookup, pg0, pg1, pg2, pc0, d_facts_of, toD, r_init, r_hull, bnd, ia, ib, ic, h1, b1, h2, h3, h4, h5]
  | .say a, h, k, hk, st => by
    simp only [hgt] at hk
    obtain ⟨k, rfl⟩ : ∃ j, k = j + 1 := ⟨k - 1, by omega⟩
    have ia := r_facts a h k (by omega) st
    rw [run_eq d_facts_of rfl rfl rfl, tabs_s]
    simp [startEnv, startIni, execSs, execS, evalE, evalEs, evalA, evalO, evalA1, evalC, evalI, Out.bind, Out.so, Out.ofO, varD, bindTg, nextO, blt, bLen, bAbs, bMax2, bMin2, bInt, bList, bTuple, bSum, bAll, bAny, bMin1, bMax1, bIsinst, bDictPairs, bDictCopy, op2, cmp2, atD, ixN, cutD, cutL, sIx, asI, asB, asIs, asBs, big, freezeS, compGo, forGo, items, itemsL, rangeD, upto, lookT, isIn, eqO, scrOk, isData, isDatas, dep, deps, dq_ss, dq_ii, dq_tt, dq_nil, dq_cons, dq_scr0, dq_scr1, flat, fldD, getF, methF, tyIs, pairsOf, mulOk, minI, maxI, finO, callT_c, callT_s, List.lookup, pg0, pg1, pg2, pc0, d_facts_of, toD, r_init, bnd, ia]
end K20

set_option maxRecDepth 100000
set_option linter.all false
set_option maxHeartbeats 4000000
namespace K20
open Fw
theorem l_plus (T : List FT) (a b c d : Int) (st : Store) (ha : small a) (hb : small b) : runDef prog T f__law_ends [pr a b, pr c d, .str (txt .plus)] st = .ok (pr (mn4 (a+c) (a+d) (b+c) (b+d)) (mx4 (a+c) (a+d) (b+c) (b+d))) st := by
  have h1 := small64 ha
  have h2 := small64 hb
  rw [run_eq d__law_ends rfl rfl rfl]
  simp [startEnv, startIni, execSs, execS, evalE, evalEs, evalA, evalO, evalA1, evalC, evalI, Out.bind, Out.so, Out.ofO, varD, bindTg, nextO, blt, bLen, bAbs, bMax2, bMin2, bInt, bList, bTuple, bSum, bAll, bAny, bMin1, bMax1, bIsinst, bDictPairs, bDictCopy, op2, cmp2, atD, ixN, cutD, cutL, sIx, asI, asB, asIs, asBs, big, freezeS, compGo, forGo, items, itemsL, rangeD, upto, lookT, isIn, eqO, scrOk, isData, isDatas, dep, deps, dq_ss, dq_ii, dq_tt, dq_nil, dq_cons, dq_scr0, dq_scr1, flat, fldD, getF, methF, tyIs, pairsOf, mulOk, minI, maxI, finO, callT_c, callT_s, List.lookup, pg0, pg1, pg2, pc0, d__law_ends, txt, h1, h2, mn4, mx4]
theorem l_less (T : List FT) (a b c d : Int) (st : Store) (ha : small a) (hb : small b) : runDef prog T f__law_ends [pr a b, pr c d, .str (txt .less)] st = .ok (pr (mn4 (a-c) (a-d) (b-c) (b-d)) (mx4 (a-c) (a-d) (b-c) (b-d))) st := by
  have h1 := small64 ha
  have h2 := small64 hb
  rw [run_eq d__law_ends rfl rfl rfl]
  simp [startEnv, startIni, execSs, execS, evalE, evalEs, evalA, evalO, evalA1, evalC, evalI, Out.bind, Out.so, Out.ofO, varD, bindTg, nextO, blt, bLen, bAbs, bMax2, bMin2, bInt, bList, bTuple, bSum, bAll, bAny, bMin1, bMax1, bIsinst, bDictPairs, bDictCopy, op2, cmp2, atD, ixN, cutD, cutL, sIx, asI, asB, asIs, asBs, big, freezeS, compGo, forGo, items, itemsL, rangeD, upto, lookT, isIn, eqO, scrOk, isData, isDatas, dep, deps, dq_ss, dq_ii, dq_tt, dq_nil, dq_cons, dq_scr0, dq_scr1, flat, fldD, getF, methF, tyIs, pairsOf, mulOk, minI, maxI, finO, callT_c, callT_s, List.lookup, pg0, pg1, pg2, pc0, d__law_ends, txt, h1, h2, mn4, mx4]
theorem l_times (T : List FT) (a b c d : Int) (st : Store) (ha : small a) (hb : small b) : runDef prog T f__law_ends [pr a b, pr c d, .str (txt .times)] st = .ok (pr (mn4 (a*c) (a*d) (b*c) (b*d)) (mx4 (a*c) (a*d) (b*c) (b*d))) st := by
  have h1 := small64 ha
  have h2 := small64 hb
  rw [run_eq d__law_ends rfl rfl rfl]
  simp [startEnv, startIni, execSs, execS, evalE, evalEs, evalA, evalO, evalA1, evalC, evalI, Out.bind, Out.so, Out.ofO, varD, bindTg, nextO, blt, bLen, bAbs, bMax2, bMin2, bInt, bList, bTuple, bSum, bAll, bAny, bMin1, bMax1, bIsinst, bDictPairs, bDictCopy, op2, cmp2, atD, ixN, cutD, cutL, sIx, asI, asB, asIs, asBs, big, freezeS, compGo, forGo, items, itemsL, rangeD, upto, lookT, isIn, eqO, scrOk, isData, isDatas, dep, deps, dq_ss, dq_ii, dq_tt, dq_nil, dq_cons, dq_scr0, dq_scr1, flat, fldD, getF, methF, tyIs, pairsOf, mulOk, minI, maxI, finO, callT_c, callT_s, List.lookup, pg0, pg1, pg2, pc0, d__law_ends, txt, h1, h2, mn4, mx4]
theorem l_part (T : List FT) (a b c d : Int) (st : Store) (ha : small a) (hb : small b) (hc : small c) (hd : small d) (c0 : c ≠ 0) (d0 : d ≠ 0) : runDef prog T f__law_ends [pr a b, pr c d, .str (txt .part)] st = .ok (pr (partF a b c d).1 (partF a b c d).2) st := by
  have h1 := small64 ha
  have h2 := small64 hb
  have h3 : c.natAbs < 1073741824 := by unfold small at hc; omega
  have h4 : d.natAbs < 1073741824 := by unfold small at hd; omega
  rw [run_eq d__law_ends rfl rfl rfl]
  simp [startEnv, startIni, execSs, execS, evalE, evalEs, evalA, evalO, evalA1, evalC, evalI, Out.bind, Out.so, Out.ofO, varD, bindTg, nextO, blt, bLen, bAbs, bMax2, bMin2, bInt, bList, bTuple, bSum, bAll, bAny, bMin1, bMax1, bIsinst, bDictPairs, bDictCopy, op2, cmp2, atD, ixN, cutD, cutL, sIx, asI, asB, asIs, asBs, big, freezeS, compGo, forGo, items, itemsL, rangeD, upto, lookT, isIn, eqO, scrOk, isData, isDatas, dep, deps, dq_ss, dq_ii, dq_tt, dq_nil, dq_cons, dq_scr0, dq_scr1, flat, fldD, getF, methF, tyIs, pairsOf, mulOk, minI, maxI, finO, callT_c, callT_s, List.lookup, pg0, pg1, pg2, pc0, d__law_ends, txt, h1, h2, h3, h4, c0, d0, mn4, mx4, partF]
def cutL' (a b : Int) : Int × Int := if 999999999 < a ∨ b < -999999999 then all9 else (mx a (-999999999), mn b 999999999)
theorem l_cut (T : List FT) (a b : Int) (st : Store) : runDef prog T f__law_cut [pr a b] st = .ok (pr (cutL' a b).1 (cutL' a b).2) st := by
  rw [run_eq d__law_cut rfl rfl rfl]
  unfold cutL'
  by_cases h1 : 999999999 < a
  · simp [startEnv, startIni, execSs, execS, evalE, evalEs, evalA, evalO, evalA1, evalC, evalI, Out.bind, Out.so, Out.ofO, varD, bindTg, nextO, blt, bLen, bAbs, bMax2, bMin2, bInt, bList, bTuple, bSum, bAll, bAny, bMin1, bMax1, bIsinst, bDictPairs, bDictCopy, op2, cmp2, atD, ixN, cutD, cutL, sIx, asI, asB, asIs, asBs, big, freezeS, compGo, forGo, items, itemsL, rangeD, upto, lookT, isIn, eqO, scrOk, isData, isDatas, dep, deps, dq_ss, dq_ii, dq_tt, dq_nil, dq_cons, dq_scr0, dq_scr1, flat, fldD, getF, methF, tyIs, pairsOf, mulOk, minI, maxI, finO, callT_c, callT_s, List.lookup, pg0, pg1, pg2, pc0, d__law_cut, h1, all9]
  · by_cases h2 : b < -999999999 <;> simp [startEnv, startIni, execSs, execS, evalE, evalEs, evalA, evalO, evalA1, evalC, evalI, Out.bind, Out.so, Out.ofO, varD, bindTg, nextO, blt, bLen, bAbs, bMax2, bMin2, bInt, bList, bTuple, bSum, bAll, bAny, bMin1, bMax1, bIsinst, bDictPairs, bDictCopy, op2, cmp2, atD, ixN, cutD, cutL, sIx, asI, asB, asIs, asBs, big, freezeS, compGo, forGo, items, itemsL, rangeD, upto, lookT, isIn, eqO, scrOk, isData, isDatas, dep, deps, dq_ss, dq_ii, dq_tt, dq_nil, dq_cons, dq_scr0, dq_scr1, flat, fldD, getF, methF, tyIs, pairsOf, mulOk, minI, maxI, finO, callT_c, callT_s, List.lookup, pg0, pg1, pg2, pc0, d__law_cut, h1, h2, all9, mx, mn]
theorem cut_same {a b : Int} (h : a ≤ b) : cutL' a b = cutF a b := by
  unfold cutL' cutF all9 mx mn
  (repeat' split) <;> first | rfl | (exfalso; omega) | (congr 1 <;> omega)
def belowL (a b c d : Int) : Int × Int := if b < c then (1, 1) else if ¬ a < d then (0, 0) else (0, 1)
theorem l_below (T : List FT) (a b c d : Int) (st : Store) : runDef prog T f__law_compared [.str (txt .below), pr a b, pr c d] st = .ok (pr (belowF a b c d).1 (belowF a b c d).2) st := by
  rw [run_eq d__law_compared rfl rfl rfl]
  unfold belowF
  by_cases h : b < c
  · simp [startEnv, startIni, execSs, execS, evalE, evalEs, evalA, evalO, evalA1, evalC, evalI, Out.bind, Out.so, Out.ofO, varD, bindTg, nextO, blt, bLen, bAbs, bMax2, bMin2, bInt, bList, bTuple, bSum, bAll, bAny, bMin1, bMax1, bIsinst, bDictPairs, bDictCopy, op2, cmp2, atD, ixN, cutD, cutL, sIx, asI, asB, asIs, asBs, big, freezeS, compGo, forGo, items, itemsL, rangeD, upto, lookT, isIn, eqO, scrOk, isData, isDatas, dep, deps, dq_ss, dq_ii, dq_tt, dq_nil, dq_cons, dq_scr0, dq_scr1, flat, fldD, getF, methF, tyIs, pairsOf, mulOk, minI, maxI, finO, callT_c, callT_s, List.lookup, pg0, pg1, pg2, pc0, d__law_compared, txt, h]
  · by_cases h2 : a < d
    · have h3 : ¬ d ≤ a := by omega
      simp [startEnv, startIni, execSs, execS, evalE, evalEs, evalA, evalO, evalA1, evalC, evalI, Out.bind, Out.so, Out.ofO, varD, bindTg, nextO, blt, bLen, bAbs, bMax2, bMin2, bInt, bList, bTuple, bSum, bAll, bAny, bMin1, bMax1, bIsinst, bDictPairs, bDictCopy, op2, cmp2, atD, ixN, cutD, cutL, sIx, asI, asB, asIs, asBs, big, freezeS, compGo, forGo, items, itemsL, rangeD, upto, lookT, isIn, eqO, scrOk, isData, isDatas, dep, deps, dq_ss, dq_ii, dq_tt, dq_nil, dq_cons, dq_scr0, dq_scr1, flat, fldD, getF, methF, tyIs, pairsOf, mulOk, minI, maxI, finO, callT_c, callT_s, List.lookup, pg0, pg1, pg2, pc0, d__law_compared, txt, h, h2, h3]
    · have h3 : d ≤ a := by omega
      simp [startEnv, startIni, execSs, execS, evalE, evalEs, evalA, evalO, evalA1, evalC, evalI, Out.bind, Out.so, Out.ofO, varD, bindTg, nextO, blt, bLen, bAbs, bMax2, bMin2, bInt, bList, bTuple, bSum, bAll, bAny, bMin1, bMax1, bIsinst, bDictPairs, bDictCopy, op2, cmp2, atD, ixN, cutD, cutL, sIx, asI, asB, asIs, asBs, big, freezeS, compGo, forGo, items, itemsL, rangeD, upto, lookT, isIn, eqO, scrOk, isData, isDatas, dep, deps, dq_ss, dq_ii, dq_tt, dq_nil, dq_cons, dq_scr0, dq_scr1, flat, fldD, getF, methF, tyIs, pairsOf, mulOk, minI, maxI, finO, callT_c, callT_s, List.lookup, pg0, pg1, pg2, pc0, d__law_compared, txt, h, h2, h3]
theorem l_same (T : List FT) (a b c d : Int) (st : Store) (ab : a ≤ b) (cd : c ≤ d) : runDef prog T f__law_compared [.str (txt .same), pr a b, pr c d] st = .ok (pr (sameF a b c d).1 (sameF a b c d).2) st := by
  rw [run_eq d__law_compared rfl rfl rfl]
  unfold sameF
  have key : (b < c ∨ d < a) ↔ (if d < b then d else b) < (if a < c then c else a) := by (repeat' split) <;> omega
  by_cases hq : b < c ∨ d < a
  · have hm := key.mp hq
    have n3 : ¬ (a = b ∧ b = c ∧ c = d) := by omega
    by_cases h3 : a = b
    · subst h3
      by_cases h4 : a = c
      · exfalso; omega
      · have b4 : (a == c) = false := by simpa using h4
        simp [startEnv, startIni, execSs, execS, evalE, evalEs, evalA, evalO, evalA1, evalC, evalI, Out.bind, Out.so, Out.ofO, varD, bindTg, nextO, blt, bLen, bAbs, bMax2, bMin2, bInt, bList, bTuple, bSum, bAll, bAny, bMin1, bMax1, bIsinst, bDictPairs, bDictCopy, op2, cmp2, atD, ixN, cutD, cutL, sIx, asI, asB, asIs, asBs, big, freezeS, compGo, forGo, items, itemsL, rangeD, upto, lookT, isIn, eqO, scrOk, isData, isDatas, dep, deps, dq_ss, dq_ii, dq_tt, dq_nil, dq_cons, dq_scr0, dq_scr1, flat, fldD, getF, methF, tyIs, pairsOf, mulOk, minI, maxI, finO, callT_c, callT_s, List.lookup, pg0, pg1, pg2, pc0, d__law_compared, txt, b4, hq, hm]
    · have b3 : (a == b) = false := by simpa using h3
      simp [startEnv, startIni, execSs, execS, evalE, evalEs, evalA, evalO, evalA1, evalC, evalI, Out.bind, Out.so, Out.ofO, varD, bindTg, nextO, blt, bLen, bAbs, bMax2, bMin2, bInt, bList, bTuple, bSum, bAll, bAny, bMin1, bMax1, bIsinst, bDictPairs, bDictCopy, op2, cmp2, atD, ixN, cutD, cutL, sIx, asI, asB, asIs, asBs, big, freezeS, compGo, forGo, items, itemsL, rangeD, upto, lookT, isIn, eqO, scrOk, isData, isDatas, dep, deps, dq_ss, dq_ii, dq_tt, dq_nil, dq_cons, dq_scr0, dq_scr1, flat, fldD, getF, methF, tyIs, pairsOf, mulOk, minI, maxI, finO, callT_c, callT_s, List.lookup, pg0, pg1, pg2, pc0, d__law_compared, txt, b3, hq, hm]
  · have hm : ¬ (if d < b then d else b) < (if a < c then c else a) := fun h => hq (key.mpr h)
    by_cases h3 : a = b
    · subst h3
      by_cases h4 : a = c
      · subst h4
        by_cases h5 : a = d
        · subst h5
          simp [startEnv, startIni, execSs, execS, evalE, evalEs, evalA, evalO, evalA1, evalC, evalI, Out.bind, Out.so, Out.ofO, varD, bindTg, nextO, blt, bLen, bAbs, bMax2, bMin2, bInt, bList, bTuple, bSum, bAll, bAny, bMin1, bMax1, bIsinst, bDictPairs, bDictCopy, op2, cmp2, atD, ixN, cutD, cutL, sIx, asI, asB, asIs, asBs, big, freezeS, compGo, forGo, items, itemsL, rangeD, upto, lookT, isIn, eqO, scrOk, isData, isDatas, dep, deps, dq_ss, dq_ii, dq_tt, dq_nil, dq_cons, dq_scr0, dq_scr1, flat, fldD, getF, methF, tyIs, pairsOf, mulOk, minI, maxI, finO, callT_c, callT_s, List.lookup, pg0, pg1, pg2, pc0, d__law_compared, txt]
        · have b5 : (a == d) = false := by simpa using h5
          have x1 : ¬ d < a := by omega
          simp [startEnv, startIni, execSs, execS, evalE, evalEs, evalA, evalO, evalA1, evalC, evalI, Out.bind, Out.so, Out.ofO, varD, bindTg, nextO, blt, bLen, bAbs, bMax2, bMin2, bInt, bList, bTuple, bSum, bAll, bAny, bMin1, bMax1, bIsinst, bDictPairs, bDictCopy, op2, cmp2, atD, ixN, cutD, cutL, sIx, asI, asB, asIs, asBs, big, freezeS, compGo, forGo, items, itemsL, rangeD, upto, lookT, isIn, eqO, scrOk, isData, isDatas, dep, deps, dq_ss, dq_ii, dq_tt, dq_nil, dq_cons, dq_scr0, dq_scr1, flat, fldD, getF, methF, tyIs, pairsOf, mulOk, minI, maxI, finO, callT_c, callT_s, List.lookup, pg0, pg1, pg2, pc0, d__law_compared, txt, h5, b5, x1]
      · have b4 : (a == c) = false := by simpa using h4
        simp [startEnv, startIni, execSs, execS, evalE, evalEs, evalA, evalO, evalA1, evalC, evalI, Out.bind, Out.so, Out.ofO, varD, bindTg, nextO, blt, bLen, bAbs, bMax2, bMin2, bInt, bList, bTuple, bSum, bAll, bAny, bMin1, bMax1, bIsinst, bDictPairs, bDictCopy, op2, cmp2, atD, ixN, cutD, cutL, sIx, asI, asB, asIs, asBs, big, freezeS, compGo, forGo, items, itemsL, rangeD, upto, lookT, isIn, eqO, scrOk, isData, isDatas, dep, deps, dq_ss, dq_ii, dq_tt, dq_nil, dq_cons, dq_scr0, dq_scr1, flat, fldD, getF, methF, tyIs, pairsOf, mulOk, minI, maxI, finO, callT_c, callT_s, List.lookup, pg0, pg1, pg2, pc0, d__law_compared, txt, h4, b4, hq, hm]
    · have b3 : (a == b) = false := by simpa using h3
      simp [startEnv, startIni, execSs, execS, evalE, evalEs, evalA, evalO, evalA1, evalC, evalI, Out.bind, Out.so, Out.ofO, varD, bindTg, nextO, blt, bLen, bAbs, bMax2, bMin2, bInt, bList, bTuple, bSum, bAll, bAny, bMin1, bMax1, bIsinst, bDictPairs, bDictCopy, op2, cmp2, atD, ixN, cutD, cutL, sIx, asI, asB, asIs, asBs, big, freezeS, compGo, forGo, items, itemsL, rangeD, upto, lookT, isIn, eqO, scrOk, isData, isDatas, dep, deps, dq_ss, dq_ii, dq_tt, dq_nil, dq_cons, dq_scr0, dq_scr1, flat, fldD, getF, methF, tyIs, pairsOf, mulOk, minI, maxI, finO, callT_c, callT_s, List.lookup, pg0, pg1, pg2, pc0, d__law_compared, txt, h3, b3, hq, hm]
theorem cut_eq {a b : Int} (h : a ≤ b) : ((cutF a b).1 == a && (cutF a b).2 == b) = fit a b := by
  rw [← cut_same h, Bool.eq_iff_iff]
  unfold cutL' all9 mx mn fit
  simp only [Bool.and_eq_true, beq_iff_eq, decide_eq_true_eq]
  (repeat' split) <;> omega
theorem ends_plus {a b c d : Int} (ab : a ≤ b) (cd : c ≤ d) : mn4 (a+c) (a+d) (b+c) (b+d) = a + c ∧ mx4 (a+c) (a+d) (b+c) (b+d) = b + d := by unfold mn4 mx4; omega
theorem ends_less {a b c d : Int} (ab : a ≤ b) (cd : c ≤ d) : mn4 (a-c) (a-d) (b-c) (b-d) = a - d ∧ mx4 (a-c) (a-d) (b-c) (b-d) = b - c := by unfold mn4 mx4; omega
abbrev both (b : Int × Int) (s : Bool) : D := .tup [pr b.1 b.2, .bl s]
end K20

set_option maxRecDepth 100000
set_option linter.all false
set_option maxHeartbeats 4000000
namespace K20
open Fw
theorem l_two (k : Nat) (o : Op) (da db : D) (nd : D) (A B : (Int × Int) × Bool) (st : Store) (ra : rng A.1) (rb : rng B.1)
    (ia : runDef prog (tabs prog (k+1)) f__law_bounds [da, nd] st = .ok (both A.1 A.2) st) (ib : runDef prog (tabs prog (k+1)) f__law_bounds [db, nd] st = .ok (both B.1 B.2) st) :
    runDef prog (tabs prog (k+2)) f__law_bounds [.tup [.str (txt o), da, db], nd] st = .ok (both (twoB o A.1.1 A.1.2 B.1.1 B.1.2) (twoS o A.1.1 A.1.2 B.1.1 B.1.2 && A.2 && B.2)) st := by
  obtain ⟨⟨a, b⟩, sa⟩ := A
  obtain ⟨⟨c, d⟩, sb⟩ := B
  obtain ⟨a1, b1, ab⟩ := ra
  obtain ⟨c1, d1, cd⟩ := rb
  simp only [] at a1 b1 ab c1 d1 cd ia ib ⊢
  rw [run_eq d__law_bounds rfl rfl rfl, tabs_s]
  cases o with
  | same =>
    have h := l_same (tabs prog (k+1)) a b c d st ab cd
    simp only [txt] at h ⊢
    cases sa <;> simp [startEnv, startIni, execSs, execS, evalE, evalEs, evalA, evalO, evalA1, evalC, evalI, Out.bind, Out.so, Out.ofO, varD, bindTg, nextO, blt, bLen, bAbs, bMax2, bMin2, bInt, bList, bTuple, bSum, bAll, bAny, bMin1, bMax1, bIsinst, bDictPairs, bDictCopy, op2, cmp2, atD, ixN, cutD, cutL, sIx, asI, asB, asIs, asBs, big, freezeS, compGo, forGo, items, itemsL, rangeD, upto, lookT, isIn, eqO, scrOk, isData, isDatas, dep, deps, dq_ss, dq_ii, dq_tt, dq_nil, dq_cons, dq_scr0, dq_scr1, flat, fldD, getF, methF, tyIs, pairsOf, mulOk, minI, maxI, finO, callT_c, callT_s, List.lookup, pg0, pg1, pg2, pc0, d__law_bounds, ia, ib, h, twoB, twoS]
  | below =>
    have h := l_below (tabs prog (k+1)) a b c d st
    simp only [txt] at h ⊢
    cases sa <;> simp [startEnv, startIni, execSs, execS, evalE, evalEs, evalA, evalO, evalA1, evalC, evalI, Out.bind, Out.so, Out.ofO, varD, bindTg, nextO, blt, bLen, bAbs, bMax2, bMin2, bInt, bList, bTuple, bSum, bAll, bAny, bMin1, bMax1, bIsinst, bDictPairs, bDictCopy, op2, cmp2, atD, ixN, cutD, cutL, sIx, asI, asB, asIs, asBs, big, freezeS, compGo, forGo, items, itemsL, rangeD, upto, lookT, isIn, eqO, scrOk, isData, isDatas, dep, deps, dq_ss, dq_ii, dq_tt, dq_nil, dq_cons, dq_scr0, dq_scr1, flat, fldD, getF, methF, tyIs, pairsOf, mulOk, minI, maxI, finO, callT_c, callT_s, List.lookup, pg0, pg1, pg2, pc0, d__law_bounds, ia, ib, h, twoB, twoS]
  | plus =>
    have h := l_plus (tabs prog (k+1)) a b c d st a1 b1
    rw [(ends_plus ab cd).1, (ends_plus ab cd).2] at h
    have e := cut_eq (a := a + c) (b := b + d) (by omega)
    have e2 := cut_same (a := a + c) (b := b + d) (by omega)
    simp only [txt] at h ⊢
    cases sa <;> cases sb <;> simp [startEnv, startIni, execSs, execS, evalE, evalEs, evalA, evalO, evalA1, evalC, evalI, Out.bind, Out.so, Out.ofO, varD, bindTg, nextO, blt, bLen, bAbs, bMax2, bMin2, bInt, bList, bTuple, bSum, bAll, bAny, bMin1, bMax1, bIsinst, bDictPairs, bDictCopy, op2, cmp2, atD, ixN, cutD, cutL, sIx, asI, asB, asIs, asBs, big, freezeS, compGo, forGo, items, itemsL, rangeD, upto, lookT, isIn, eqO, scrOk, isData, isDatas, dep, deps, dq_ss, dq_ii, dq_tt, dq_nil, dq_cons, dq_scr0, dq_scr1, flat, fldD, getF, methF, tyIs, pairsOf, mulOk, minI, maxI, finO, callT_c, callT_s, List.lookup, pg0, pg1, pg2, pc0, d__law_bounds, ia, ib, h, l_cut, e2, e, twoB, twoS]
  | less =>
    have h := l_less (tabs prog (k+1)) a b c d st a1 b1
    rw [(ends_less ab cd).1, (ends_less ab cd).2] at h
    have e := cut_eq (a := a - d) (b := b - c) (by omega)
    have e2 := cut_same (a := a - d) (b := b - c) (by omega)
    simp only [txt] at h ⊢
    cases sa <;> cases sb <;> simp [startEnv, startIni, execSs, execS, evalE, evalEs, evalA, evalO, evalA1, evalC, evalI, Out.bind, Out.so, Out.ofO, varD, bindTg, nextO, blt, bLen, bAbs, bMax2, bMin2, bInt, bList, bTuple, bSum, bAll, bAny, bMin1, bMax1, bIsinst, bDictPairs, bDictCopy, op2, cmp2, atD, ixN, cutD, cutL, sIx, asI, asB, asIs, asBs, big, freezeS, compGo, forGo, items, itemsL, rangeD, upto, lookT, isIn, eqO, scrOk, isData, isDatas, dep, deps, dq_ss, dq_ii, dq_tt, dq_nil, dq_cons, dq_scr0, dq_scr1, flat, fldD, getF, methF, tyIs, pairsOf, mulOk, minI, maxI, finO, callT_c, callT_s, List.lookup, pg0, pg1, pg2, pc0, d__law_bounds, ia, ib, h, l_cut, e2, e, twoB, twoS]
  | times =>
    have h := l_times (tabs prog (k+1)) a b c d st a1 b1
    have e := cut_eq (mn4_le (a*c) (a*d) (b*c) (b*d))
    have e2 := cut_same (mn4_le (a*c) (a*d) (b*c) (b*d))
    simp only [txt] at h ⊢
    cases sa <;> cases sb <;> simp [startEnv, startIni, execSs, execS, evalE, evalEs, evalA, evalO, evalA1, evalC, evalI, Out.bind, Out.so, Out.ofO, varD, bindTg, nextO, blt, bLen, bAbs, bMax2, bMin2, bInt, bList, bTuple, bSum, bAll, bAny, bMin1, bMax1, bIsinst, bDictPairs, bDictCopy, op2, cmp2, atD, ixN, cutD, cutL, sIx, asI, asB, asIs, asBs, big, freezeS, compGo, forGo, items, itemsL, rangeD, upto, lookT, isIn, eqO, scrOk, isData, isDatas, dep, deps, dq_ss, dq_ii, dq_tt, dq_nil, dq_cons, dq_scr0, dq_scr1, flat, fldD, getF, methF, tyIs, pairsOf, mulOk, minI, maxI, finO, callT_c, callT_s, List.lookup, pg0, pg1, pg2, pc0, d__law_bounds, ia, ib, h, l_cut, e2, e, twoB, twoS]
  | part =>
    by_cases h1 : c ≤ 0
    · by_cases h2 : 0 ≤ d
      · simp only [txt]
        cases sa <;> simp [startEnv, startIni, execSs, execS, evalE, evalEs, evalA, evalO, evalA1, evalC, evalI, Out.bind, Out.so, Out.ofO, varD, bindTg, nextO, blt, bLen, bAbs, bMax2, bMin2, bInt, bList, bTuple, bSum, bAll, bAny, bMin1, bMax1, bIsinst, bDictPairs, bDictCopy, op2, cmp2, atD, ixN, cutD, cutL, sIx, asI, asB, asIs, asBs, big, freezeS, compGo, forGo, items, itemsL, rangeD, upto, lookT, isIn, eqO, scrOk, isData, isDatas, dep, deps, dq_ss, dq_ii, dq_tt, dq_nil, dq_cons, dq_scr0, dq_scr1, flat, fldD, getF, methF, tyIs, pairsOf, mulOk, minI, maxI, finO, callT_c, callT_s, List.lookup, pg0, pg1, pg2, pc0, d__law_bounds, ia, ib, twoB, twoS, h1, h2, all9]
      · have h := l_part (tabs prog (k+1)) a b c d st a1 b1 c1 d1 (by omega) (by omega)
        simp only [txt] at h ⊢
        cases sa <;> simp [startEnv, startIni, execSs, execS, evalE, evalEs, evalA, evalO, evalA1, evalC, evalI, Out.bind, Out.so, Out.ofO, varD, bindTg, nextO, blt, bLen, bAbs, bMax2, bMin2, bInt, bList, bTuple, bSum, bAll, bAny, bMin1, bMax1, bIsinst, bDictPairs, bDictCopy, op2, cmp2, atD, ixN, cutD, cutL, sIx, asI, asB, asIs, asBs, big, freezeS, compGo, forGo, items, itemsL, rangeD, upto, lookT, isIn, eqO, scrOk, isData, isDatas, dep, deps, dq_ss, dq_ii, dq_tt, dq_nil, dq_cons, dq_scr0, dq_scr1, flat, fldD, getF, methF, tyIs, pairsOf, mulOk, minI, maxI, finO, callT_c, callT_s, List.lookup, pg0, pg1, pg2, pc0, d__law_bounds, ia, ib, h, twoB, twoS, h1, h2]
    · have h := l_part (tabs prog (k+1)) a b c d st a1 b1 c1 d1 (by omega) (by omega)
      simp only [txt] at h ⊢
      cases sa <;> simp [startEnv, startIni, execSs, execS, evalE, evalEs, evalA, evalO, evalA1, evalC, evalI, Out.bind, Out.so, Out.ofO, varD, bindTg, nextO, blt, bLen, bAbs, bMax2, bMin2, bInt, bList, bTuple, bSum, bAll, bAny, bMin1, bMax1, bIsinst, bDictPairs, bDictCopy, op2, cmp2, atD, ixN, cutD, cutL, sIx, asI, asB, asIs, asBs, big, freezeS, compGo, forGo, items, itemsL, rangeD, upto, lookT, isIn, eqO, scrOk, isData, isDatas, dep, deps, dq_ss, dq_ii, dq_tt, dq_nil, dq_cons, dq_scr0, dq_scr1, flat, fldD, getF, methF, tyIs, pairsOf, mulOk, minI, maxI, finO, callT_c, callT_s, List.lookup, pg0, pg1, pg2, pc0, d__law_bounds, ia, ib, h, twoB, twoS, h1]
  | rest =>
    simp only [txt]
    by_cases h1 : c ≤ 0
    · by_cases h2 : 0 ≤ d
      · cases sa <;> simp [startEnv, startIni, execSs, execS, evalE, evalEs, evalA, evalO, evalA1, evalC, evalI, Out.bind, Out.so, Out.ofO, varD, bindTg, nextO, blt, bLen, bAbs, bMax2, bMin2, bInt, bList, bTuple, bSum, bAll, bAny, bMin1, bMax1, bIsinst, bDictPairs, bDictCopy, op2, cmp2, atD, ixN, cutD, cutL, sIx, asI, asB, asIs, asBs, big, freezeS, compGo, forGo, items, itemsL, rangeD, upto, lookT, isIn, eqO, scrOk, isData, isDatas, dep, deps, dq_ss, dq_ii, dq_tt, dq_nil, dq_cons, dq_scr0, dq_scr1, flat, fldD, getF, methF, tyIs, pairsOf, mulOk, minI, maxI, finO, callT_c, callT_s, List.lookup, pg0, pg1, pg2, pc0, d__law_bounds, ia, ib, twoB, twoS, h1, h2, all9]
      · have h3 : d < 0 := by omega
        have h4 : ¬ 0 < c := by omega
        cases sa <;> simp [startEnv, startIni, execSs, execS, evalE, evalEs, evalA, evalO, evalA1, evalC, evalI, Out.bind, Out.so, Out.ofO, varD, bindTg, nextO, blt, bLen, bAbs, bMax2, bMin2, bInt, bList, bTuple, bSum, bAll, bAny, bMin1, bMax1, bIsinst, bDictPairs, bDictCopy, op2, cmp2, atD, ixN, cutD, cutL, sIx, asI, asB, asIs, asBs, big, freezeS, compGo, forGo, items, itemsL, rangeD, upto, lookT, isIn, eqO, scrOk, isData, isDatas, dep, deps, dq_ss, dq_ii, dq_tt, dq_nil, dq_cons, dq_scr0, dq_scr1, flat, fldD, getF, methF, tyIs, pairsOf, mulOk, minI, maxI, finO, callT_c, callT_s, List.lookup, pg0, pg1, pg2, pc0, d__law_bounds, ia, ib, twoB, twoS, h1, h2, h3, h4, restF]
    · have h4 : 0 < c := by omega
      have h3 : ¬ d < 0 := by omega
      by_cases h5 : 0 ≤ a
      · by_cases h6 : b < c
        · cases sa <;> simp [startEnv, startIni, execSs, execS, evalE, evalEs, evalA, evalO, evalA1, evalC, evalI, Out.bind, Out.so, Out.ofO, varD, bindTg, nextO, blt, bLen, bAbs, bMax2, bMin2, bInt, bList, bTuple, bSum, bAll, bAny, bMin1, bMax1, bIsinst, bDictPairs, bDictCopy, op2, cmp2, atD, ixN, cutD, cutL, sIx, asI, asB, asIs, asBs, big, freezeS, compGo, forGo, items, itemsL, rangeD, upto, lookT, isIn, eqO, scrOk, isData, isDatas, dep, deps, dq_ss, dq_ii, dq_tt, dq_nil, dq_cons, dq_scr0, dq_scr1, flat, fldD, getF, methF, tyIs, pairsOf, mulOk, minI, maxI, finO, callT_c, callT_s, List.lookup, pg0, pg1, pg2, pc0, d__law_bounds, ia, ib, twoB, twoS, h1, h3, h4, h5, h6, restF]
        · cases sa <;> simp [startEnv, startIni, execSs, execS, evalE, evalEs, evalA, evalO, evalA1, evalC, evalI, Out.bind, Out.so, Out.ofO, varD, bindTg, nextO, blt, bLen, bAbs, bMax2, bMin2, bInt, bList, bTuple, bSum, bAll, bAny, bMin1, bMax1, bIsinst, bDictPairs, bDictCopy, op2, cmp2, atD, ixN, cutD, cutL, sIx, asI, asB, asIs, asBs, big, freezeS, compGo, forGo, items, itemsL, rangeD, upto, lookT, isIn, eqO, scrOk, isData, isDatas, dep, deps, dq_ss, dq_ii, dq_tt, dq_nil, dq_cons, dq_scr0, dq_scr1, flat, fldD, getF, methF, tyIs, pairsOf, mulOk, minI, maxI, finO, callT_c, callT_s, List.lookup, pg0, pg1, pg2, pc0, d__law_bounds, ia, ib, twoB, twoS, h1, h3, h4, h5, h6, restF]
      · cases sa <;> simp [startEnv, startIni, execSs, execS, evalE, evalEs, evalA, evalO, evalA1, evalC, evalI, Out.bind, Out.so, Out.ofO, varD, bindTg, nextO, blt, bLen, bAbs, bMax2, bMin2, bInt, bList, bTuple, bSum, bAll, bAny, bMin1, bMax1, bIsinst, bDictPairs, bDictCopy, op2, cmp2, atD, ixN, cutD, cutL, sIx, asI, asB, asIs, asBs, big, freezeS, compGo, forGo, items, itemsL, rangeD, upto, lookT, isIn, eqO, scrOk, isData, isDatas, dep, deps, dq_ss, dq_ii, dq_tt, dq_nil, dq_cons, dq_scr0, dq_scr1, flat, fldD, getF, methF, tyIs, pairsOf, mulOk, minI, maxI, finO, callT_c, callT_s, List.lookup, pg0, pg1, pg2, pc0, d__law_bounds, ia, ib, twoB, twoS, h1, h3, h4, h5, restF]
end K20

set_option maxRecDepth 100000
set_option linter.all false
set_option maxHeartbeats 4000000
namespace K20
open Fw
theorem r_lb {kvs : List (Txt × D)} {N : Txt → Int × Int} : ∀ (t : Tm), wf kvs N t → ∀ (k : Nat), hgt t ≤ k → ∀ st, runDef prog (tabs prog (k+1)) f__law_bounds [toD t, .dic kvs] st = .ok (both (bnd N t).1 (bnd N t).2) st
  | .num i, h, k, hk, st => by
    rw [run_eq d__law_bounds rfl rfl rfl, tabs_s]
    simp [startEnv, startIni, execSs, execS, evalE, evalEs, evalA, evalO, evalA1, evalC, evalI, Out.bind, Out.so, Out.ofO, varD, bindTg, nextO, blt, bLen, bAbs, bMax2, bMin2, bInt, bList, bTuple, bSum, bAll, bAny, bMin1, bMax1, bIsinst, bDictPairs, bDictCopy, op2, cmp2, atD, ixN, cutD, cutL, sIx, asI, asB, asIs, asBs, big, freezeS, compGo, forGo, items, itemsL, rangeD, upto, lookT, isIn, eqO, scrOk, isData, isDatas, dep, deps, dq_ss, dq_ii, dq_tt, dq_nil, dq_cons, dq_scr0, dq_scr1, flat, fldD, getF, methF, tyIs, pairsOf, mulOk, minI, maxI, finO, callT_c, callT_s, List.lookup, pg0, pg1, pg2, pc0, d__law_bounds, toD, bnd]
  | .nam x, h, k, hk, st => by
    rw [run_eq d__law_bounds rfl rfl rfl, tabs_s]
    simp [startEnv, startIni, execSs, execS, evalE, evalEs, evalA, evalO, evalA1, evalC, evalI, Out.bind, Out.so, Out.ofO, varD, bindTg, nextO, blt, bLen, bAbs, bMax2, bMin2, bInt, bList, bTuple, bSum, bAll, bAny, bMin1, bMax1, bIsinst, bDictPairs, bDictCopy, op2, cmp2, atD, ixN, cutD, cutL, sIx, asI, asB, asIs, asBs, big, freezeS, compGo, forGo, items, itemsL, rangeD, upto, lookT, isIn, eqO, scrOk, isData, isDatas, dep, deps, dq_ss, dq_ii, dq_tt, dq_nil, dq_cons, dq_scr0, dq_scr1, flat, fldD, getF, methF, tyIs, pairsOf, mulOk, minI, maxI, finO, callT_c, callT_s, List.lookup, pg0, pg1, pg2, pc0, d__law_bounds, toD, bnd, h.1]
  | .two o a b, h, k, hk, st => by
    simp only [hgt] at hk
    obtain ⟨k, rfl⟩ : ∃ j, k = j + 1 := ⟨k - 1, by omega⟩
    have ia := r_lb a h.1 k (by omega) st
    have ib := r_lb b h.2 k (by omega) st
    exact l_two k o (toD a) (toD b) (.dic kvs) (bnd N a) (bnd N b) st (rng_bnd a h.1) (rng_bnd b h.2) ia ib
  | .when_ a b c, h, k, hk, st => by
    simp only [hgt] at hk
    obtain ⟨k, rfl⟩ : ∃ j, k = j + 1 := ⟨k - 1, by omega⟩
    have ia := r_lb a h.1 k (by omega) st
    have ib := r_lb b h.2.1 k (by omega) st
    have ic := r_lb c h.2.2 k (by omega) st
    rw [run_eq d__law_bounds rfl rfl rfl, tabs_s]
    simp only [toD, bnd]
    generalize bnd N a = A at ia
    generalize bnd N b = B at ib
    generalize bnd N c = C at ic
    obtain ⟨⟨a1, a2⟩, sa⟩ := A
    obtain ⟨⟨b1, b2⟩, sb⟩ := B
    obtain ⟨⟨c1, c2⟩, sc⟩ := C
    simp only [] at ia ib ic ⊢
    by_cases h1 : a1 = 0
    · by_cases h2 : a2 = 0
      · cases sa <;> simp [startEnv, startIni, execSs, execS, evalE, evalEs, evalA, evalO, evalA1, evalC, evalI, Out.bind, Out.so, Out.ofO, varD, bindTg, nextO, blt, bLen, bAbs, bMax2, bMin2, bInt, bList, bTuple, bSum, bAll, bAny, bMin1, bMax1, bIsinst, bDictPairs, bDictCopy, op2, cmp2, atD, ixN, cutD, cutL, sIx, asI, asB, asIs, asBs, big, freezeS, compGo, forGo, items, itemsL, rangeD, upto, lookT, isIn, eqO, scrOk, isData, isDatas, dep, deps, dq_ss, dq_ii, dq_tt, dq_nil, dq_cons, dq_scr0, dq_scr1, flat, fldD, getF, methF, tyIs, pairsOf, mulOk, minI, maxI, finO, callT_c, callT_s, List.lookup, pg0, pg1, pg2, pc0, d__law_bounds, ia, ib, ic, h1, h2]
      · have e2 : (a2 == 0) = false := by simpa using h2
        by_cases h4 : a2 < 0
        · cases sa <;> simp [startEnv, startIni, execSs, execS, evalE, evalEs, evalA, evalO, evalA1, evalC, evalI, Out.bind, Out.so, Out.ofO, varD, bindTg, nextO, blt, bLen, bAbs, bMax2, bMin2, bInt, bList, bTuple, bSum, bAll, bAny, bMin1, bMax1, bIsinst, bDictPairs, bDictCopy, op2, cmp2, atD, ixN, cutD, cutL, sIx, asI, asB, asIs, asBs, big, freezeS, compGo, forGo, items, itemsL, rangeD, upto, lookT, isIn, eqO, scrOk, isData, isDatas, dep, deps, dq_ss, dq_ii, dq_tt, dq_nil, dq_cons, dq_scr0, dq_scr1, flat, fldD, getF, methF, tyIs, pairsOf, mulOk, minI, maxI, finO, callT_c, callT_s, List.lookup, pg0, pg1, pg2, pc0, d__law_bounds, ia, ib, ic, h1, h2, e2, h4]
        · simp [startEnv, startIni, execSs, execS, evalE, evalEs, evalA, evalO, evalA1, evalC, evalI, Out.bind, Out.so, Out.ofO, varD, bindTg, nextO, blt, bLen, bAbs, bMax2, bMin2, bInt, bList, bTuple, bSum, bAll, bAny, bMin1, bMax1, bIsinst, bDictPairs, bDictCopy, op2, cmp2, atD, ixN, cutD, cutL, sIx, asI, asB, asIs, asBs, big, freezeS, compGo, forGo, items, itemsL, rangeD, upto, lookT, isIn, eqO, scrOk, isData, isDatas, dep, deps, dq_ss, dq_ii, dq_tt, dq_nil, dq_cons, dq_scr0, dq_scr1, flat, fldD, getF, methF, tyIs, pairsOf, mulOk, minI, maxI, finO, callT_c, callT_s, List.lookup, pg0, pg1, pg2, pc0, d__law_bounds, ia, ib, ic, h1, h2, e2, h4, mn, mx, Bool.and_assoc]
    · have e1 : (a1 == 0) = false := by simpa using h1
      by_cases h2 : 0 < a1
      · cases sa <;> simp [startEnv, startIni, execSs, execS, evalE, evalEs, evalA, evalO, evalA1, evalC, evalI, Out.bind, Out.so, Out.ofO, varD, bindTg, nextO, blt, bLen, bAbs, bMax2, bMin2, bInt, bList, bTuple, bSum, bAll, bAny, bMin1, bMax1, bIsinst, bDictPairs, bDictCopy, op2, cmp2, atD, ixN, cutD, cutL, sIx, asI, asB, asIs, asBs, big, freezeS, compGo, forGo, items, itemsL, rangeD, upto, lookT, isIn, eqO, scrOk, isData, isDatas, dep, deps, dq_ss, dq_ii, dq_tt, dq_nil, dq_cons, dq_scr0, dq_scr1, flat, fldD, getF, methF, tyIs, pairsOf, mulOk, minI, maxI, finO, callT_c, callT_s, List.lookup, pg0, pg1, pg2, pc0, d__law_bounds, ia, ib, ic, h1, e1, h2]
      · by_cases h4 : a2 < 0
        · cases sa <;> simp [startEnv, startIni, execSs, execS, evalE, evalEs, evalA, evalO, evalA1, evalC, evalI, Out.bind, Out.so, Out.ofO, varD, bindTg, nextO, blt, bLen, bAbs, bMax2, bMin2, bInt, bList, bTuple, bSum, bAll, bAny, bMin1, bMax1, bIsinst, bDictPairs, bDictCopy, op2, cmp2, atD, ixN, cutD, cutL, sIx, asI, asB, asIs, asBs, big, freezeS, compGo, forGo, items, itemsL, rangeD, upto, lookT, isIn, eqO, scrOk, isData, isDatas, dep, deps, dq_ss, dq_ii, dq_tt, dq_nil, dq_cons, dq_scr0, dq_scr1, flat, fldD, getF, methF, tyIs, pairsOf, mulOk, minI, maxI, finO, callT_c, callT_s, List.lookup, pg0, pg1, pg2, pc0, d__law_bounds, ia, ib, ic, h1, e1, h2, h4]
        · simp [startEnv, startIni, execSs, execS, evalE, evalEs, evalA, evalO, evalA1, evalC, evalI, Out.bind, Out.so, Out.ofO, varD, bindTg, nextO, blt, bLen, bAbs, bMax2, bMin2, bInt, bList, bTuple, bSum, bAll, bAny, bMin1, bMax1, bIsinst, bDictPairs, bDictCopy, op2, cmp2, atD, ixN, cutD, cutL, sIx, asI, asB, asIs, asBs, big, freezeS, compGo, forGo, items, itemsL, rangeD, upto, lookT, isIn, eqO, scrOk, isData, isDatas, dep, deps, dq_ss, dq_ii, dq_tt, dq_nil, dq_cons, dq_scr0, dq_scr1, flat, fldD, getF, methF, tyIs, pairsOf, mulOk, minI, maxI, finO, callT_c, callT_s, List.lookup, pg0, pg1, pg2, pc0, d__law_bounds, ia, ib, ic, h1, e1, h2, h4, mn, mx, Bool.and_assoc]
  | .say a, h, k, hk, st => by
    simp only [hgt] at hk
    obtain ⟨k, rfl⟩ : ∃ j, k = j + 1 := ⟨k - 1, by omega⟩
    have ia := r_lb a h k (by omega) st
    rw [run_eq d__law_bounds rfl rfl rfl, tabs_s]
    simp [startEnv, startIni, execSs, execS, evalE, evalEs, evalA, evalO, evalA1, evalC, evalI, Out.bind, Out.so, Out.ofO, varD, bindTg, nextO, blt, bLen, bAbs, bMax2, bMin2, bInt, bList, bTuple, bSum, bAll, bAny, bMin1, bMax1, bIsinst, bDictPairs, bDictCopy, op2, cmp2, atD, ixN, cutD, cutL, sIx, asI, asB, asIs, asBs, big, freezeS, compGo, forGo, items, itemsL, rangeD, upto, lookT, isIn, eqO, scrOk, isData, isDatas, dep, deps, dq_ss, dq_ii, dq_tt, dq_nil, dq_cons, dq_scr0, dq_scr1, flat, fldD, getF, methF, tyIs, pairsOf, mulOk, minI, maxI, finO, callT_c, callT_s, List.lookup, pg0, pg1, pg2, pc0, d__law_bounds, toD, bnd, ia]
/-! ### quiet -/
def quiet : Tm → Bool
  | .num _ => true
  | .nam _ => true
  | .two _ a b => quiet a && quiet b
  | .when_ a b c => quiet a && quiet b && quiet c
  | .say _ => false
def subs : Tm → List Tm
  | .num i => [.num i]
  | .nam x => [.nam x]
  | .two o a b => .two o a b :: (subs a ++ subs b)
  | .when_ a b c => .when_ a b c :: (subs a ++ subs b ++ subs c)
  | .say a => .say a :: subs a
def isSay : Tm → Bool
  | .say _ => true
  | _ => false
theorem subs_quiet : ∀ t : Tm, ((subs t).all fun s => !isSay s) = quiet t
  | .num i => rfl
  | .nam x => rfl
  | .two o a b => by
    show ((!false) && ((subs a ++ subs b).all fun s => !isSay s)) = _
    rw [List.all_append, subs_quiet a, subs_quiet b]
    rfl
  | .when_ a b c => by
    show ((!false) && ((subs a ++ subs b ++ subs c).all fun s => !isSay s)) = _
    rw [List.all_append, List.all_append, subs_quiet a, subs_quiet b, subs_quiet c]
    rfl
  | .say a => by simp [subs, isSay, quiet]
theorem subs_len : ∀ t : Tm, (subs t).length ≤ 4 ^ (hgt t + 1)
  | .num i => by simp [subs, hgt]
  | .nam x => by simp [subs, hgt]
  | .two o a b => by
    have ha := subs_len a
    have hb := subs_len b
    have pa : 4 ^ (hgt a + 1) ≤ 4 ^ (max (hgt a) (hgt b) + 1) := Nat.pow_le_pow_right (by decide) (by omega)
    have pb : 4 ^ (hgt b + 1) ≤ 4 ^ (max (hgt a) (hgt b) + 1) := Nat.pow_le_pow_right (by decide) (by omega)
    have p1 : 1 ≤ 4 ^ (max (hgt a) (hgt b) + 1) := Nat.pow_pos (by decide)
    simp only [subs, hgt, List.length_cons, List.length_append]
    rw [Nat.pow_succ 4 (max (hgt a) (hgt b) + 1)]
    omega
  | .when_ a b c => by
    have ha := subs_len a
    have hb := subs_len b
    have hc := subs_len c
    have pa : 4 ^ (hgt a + 1) ≤ 4 ^ (max (max (hgt a) (hgt b)) (hgt c) + 1) := Nat.pow_le_pow_right (by decide) (by omega)
    have pb : 4 ^ (hgt b + 1) ≤ 4 ^ (max (max (hgt a) (hgt b)) (hgt c) + 1) := Nat.pow_le_pow_right (by decide) (by omega)
    have pc : 4 ^ (hgt c + 1) ≤ 4 ^ (max (max (hgt a) (hgt b)) (hgt c) + 1) := Nat.pow_le_pow_right (by decide) (by omega)
    have p1 : 1 ≤ 4 ^ (max (max (hgt a) (hgt b)) (hgt c) + 1) := Nat.pow_pos (by decide)
    simp only [subs, hgt, List.length_cons, List.length_append]
    rw [Nat.pow_succ 4 (max (max (hgt a) (hgt b)) (hgt c) + 1)]
    omega
  | .say a => by
    have ha := subs_len a
    have p1 : 1 ≤ 4 ^ (hgt a + 1) := Nat.pow_pos (by decide)
    simp only [subs, hgt, List.length_cons]
    rw [Nat.pow_succ 4 (hgt a + 1)]
    omega
def kids : Tm → List Tm
  | .num _ => []
  | .nam _ => []
  | .two _ a b => [a, b]
  | .when_ a b c => [a, b, c]
  | .say a => [a]
theorem r_inner (T : List FT) (t : Tm) (st : Store) : runDef prog T f_inner [toD t] st = .ok (.lst ((kids t).map toD)) st := by
  rw [run_eq d_inner rfl rfl rfl]
  cases t with
  | num i => simp [startEnv, startIni, execSs, execS, evalE, evalEs, evalA, evalO, evalA1, evalC, evalI, Out.bind, Out.so, Out.ofO, varD, bindTg, nextO, blt, bLen, bAbs, bMax2, bMin2, bInt, bList, bTuple, bSum, bAll, bAny, bMin1, bMax1, bIsinst, bDictPairs, bDictCopy, op2, cmp2, atD, ixN, cutD, cutL, sIx, asI, asB, asIs, asBs, big, freezeS, compGo, forGo, items, itemsL, rangeD, upto, lookT, isIn, eqO, scrOk, isData, isDatas, dep, deps, dq_ss, dq_ii, dq_tt, dq_nil, dq_cons, dq_scr0, dq_scr1, flat, fldD, getF, methF, tyIs, pairsOf, mulOk, minI, maxI, finO, callT_c, callT_s, List.lookup, pg0, pg1, pg2, pc0, d_inner, toD, kids]
  | nam x => simp [startEnv, startIni, execSs, execS, evalE, evalEs, evalA, evalO, evalA1, evalC, evalI, Out.bind, Out.so, Out.ofO, varD, bindTg, nextO, blt, bLen, bAbs, bMax2, bMin2, bInt, bList, bTuple, bSum, bAll, bAny, bMin1, bMax1, bIsinst, bDictPairs, bDictCopy, op2, cmp2, atD, ixN, cutD, cutL, sIx, asI, asB, asIs, asBs, big, freezeS, compGo, forGo, items, itemsL, rangeD, upto, lookT, isIn, eqO, scrOk, isData, isDatas, dep, deps, dq_ss, dq_ii, dq_tt, dq_nil, dq_cons, dq_scr0, dq_scr1, flat, fldD, getF, methF, tyIs, pairsOf, mulOk, minI, maxI, finO, callT_c, callT_s, List.lookup, pg0, pg1, pg2, pc0, d_inner, toD, kids]
  | two o a b =>
    have n1 : (([110, 117, 109] : Txt) == txt o) = false := by cases o <;> rfl
    have n2 : (([110, 97, 109, 101] : Txt) == txt o) = false := by cases o <;> rfl
    simp [startEnv, startIni, execSs, execS, evalE, evalEs, evalA, evalO, evalA1, evalC, evalI, Out.bind, Out.so, Out.ofO, varD, bindTg, nextO, blt, bLen, bAbs, bMax2, bMin2, bInt, bList, bTuple, bSum, bAll, bAny, bMin1, bMax1, bIsinst, bDictPairs, bDictCopy, op2, cmp2, atD, ixN, cutD, cutL, sIx, asI, asB, asIs, asBs, big, freezeS, compGo, forGo, items, itemsL, rangeD, upto, lookT, isIn, eqO, scrOk, isData, isDatas, dep, deps, dq_ss, dq_ii, dq_tt, dq_nil, dq_cons, dq_scr0, dq_scr1, flat, fldD, getF, methF, tyIs, pairsOf, mulOk, minI, maxI, finO, callT_c, callT_s, List.lookup, pg0, pg1, pg2, pc0, d_inner, toD, kids, n1, n2]
  | when_ a b c => simp [startEnv, startIni, execSs, execS, evalE, evalEs, evalA, evalO, evalA1, evalC, evalI, Out.bind, Out.so, Out.ofO, varD, bindTg, nextO, blt, bLen, bAbs, bMax2, bMin2, bInt, bList, bTuple, bSum, bAll, bAny, bMin1, bMax1, bIsinst, bDictPairs, bDictCopy, op2, cmp2, atD, ixN, cutD, cutL, sIx, asI, asB, asIs, asBs, big, freezeS, compGo, forGo, items, itemsL, rangeD, upto, lookT, isIn, eqO, scrOk, isData, isDatas, dep, deps, dq_ss, dq_ii, dq_tt, dq_nil, dq_cons, dq_scr0, dq_scr1, flat, fldD, getF, methF, tyIs, pairsOf, mulOk, minI, maxI, finO, callT_c, callT_s, List.lookup, pg0, pg1, pg2, pc0, d_inner, toD, kids]
  | say a => simp [startEnv, startIni, execSs, execS, evalE, evalEs, evalA, evalO, evalA1, evalC, evalI, Out.bind, Out.so, Out.ofO, varD, bindTg, nextO, blt, bLen, bAbs, bMax2, bMin2, bInt, bList, bTuple, bSum, bAll, bAny, bMin1, bMax1, bIsinst, bDictPairs, bDictCopy, op2, cmp2, atD, ixN, cutD, cutL, sIx, asI, asB, asIs, asBs, big, freezeS, compGo, forGo, items, itemsL, rangeD, upto, lookT, isIn, eqO, scrOk, isData, isDatas, dep, deps, dq_ss, dq_ii, dq_tt, dq_nil, dq_cons, dq_scr0, dq_scr1, flat, fldD, getF, methF, tyIs, pairsOf, mulOk, minI, maxI, finO, callT_c, callT_s, List.lookup, pg0, pg1, pg2, pc0, d_inner, toD, kids]
theorem r_allin : ∀ (t : Tm) (k : Nat), hgt t ≤ k → hgt t ≤ 8 → ∀ st, runDef prog (tabs prog (k+1)) f_all_in [toD t] st = .ok (.lst ((subs t).map toD)) st
  | .num i, k, hk, h8, st => by
    rw [run_eq d_all_in rfl rfl rfl, tabs_s]
    have h := r_inner (tabs prog k) (.num i) st
    simp only [kids, List.map_nil] at h
    simp [startEnv, startIni, execSs, execS, evalE, evalEs, evalA, evalO, evalA1, evalC, evalI, Out.bind, Out.so, Out.ofO, varD, bindTg, nextO, blt, bLen, bAbs, bMax2, bMin2, bInt, bList, bTuple, bSum, bAll, bAny, bMin1, bMax1, bIsinst, bDictPairs, bDictCopy, op2, cmp2, atD, ixN, cutD, cutL, sIx, asI, asB, asIs, asBs, big, freezeS, compGo, forGo, items, itemsL, rangeD, upto, lookT, isIn, eqO, scrOk, isData, isDatas, dep, deps, dq_ss, dq_ii, dq_tt, dq_nil, dq_cons, dq_scr0, dq_scr1, flat, fldD, getF, methF, tyIs, pairsOf, mulOk, minI, maxI, finO, callT_c, callT_s, List.lookup, pg0, pg1, pg2, pc0, d_all_in, h, subs]
  | .nam x, k, hk, h8, st => by
    rw [run_eq d_all_in rfl rfl rfl, tabs_s]
    have h := r_inner (tabs prog k) (.nam x) st
    simp only [kids, List.map_nil] at h
    simp [startEnv, startIni, execSs, execS, evalE, evalEs, evalA, evalO, evalA1, evalC, evalI, Out.bind, Out.so, Out.ofO, varD, bindTg, nextO, blt, bLen, bAbs, bMax2, bMin2, bInt, bList, bTuple, bSum, bAll, bAny, bMin1, bMax1, bIsinst, bDictPairs, bDictCopy, op2, cmp2, atD, ixN, cutD, cutL, sIx, asI, asB, asIs, asBs, big, freezeS, compGo, forGo, items, itemsL, rangeD, upto, lookT, isIn, eqO, scrOk, isData, isDatas, dep, deps, dq_ss, dq_ii, dq_tt, dq_nil, dq_cons, dq_scr0, dq_scr1, flat, fldD, getF, methF, tyIs, pairsOf, mulOk, minI, maxI, finO, callT_c, callT_s, List.lookup, pg0, pg1, pg2, pc0, d_all_in, h, subs]
  | .two o a b, k, hk, h8, st => by
    simp only [hgt] at hk h8
    obtain ⟨k, rfl⟩ : ∃ j, k = j + 1 := ⟨k - 1, by omega⟩
    have ia := r_allin a k (by omega) (by omega) st
    have ib := r_allin b k (by omega) (by omega) st
    have la := subs_len a
    have lb := subs_len b
    have pa : 4 ^ (hgt a + 1) ≤ 4 ^ 9 := Nat.pow_le_pow_right (by decide) (by omega)
    have pb : 4 ^ (hgt b + 1) ≤ 4 ^ 9 := Nat.pow_le_pow_right (by decide) (by omega)
    have s1 : (subs a).length + 1 ≤ 16777216 := by omega
    have s2 : (subs a).length + 1 + (subs b).length ≤ 16777216 := by omega
    have h := r_inner (tabs prog (k+1)) (.two o a b) st
    rw [run_eq d_all_in rfl rfl rfl, tabs_s]
    simp only [kids, List.map_cons, List.map_nil] at h
    have s3 : 1 + (subs a).length ≤ 16777216 := by omega
    have s4 : 1 + (subs a).length + (subs b).length ≤ 16777216 := by omega
    simp [startEnv, startIni, execSs, execS, evalE, evalEs, evalA, evalO, evalA1, evalC, evalI, Out.bind, Out.so, Out.ofO, varD, bindTg, nextO, blt, bLen, bAbs, bMax2, bMin2, bInt, bList, bTuple, bSum, bAll, bAny, bMin1, bMax1, bIsinst, bDictPairs, bDictCopy, op2, cmp2, atD, ixN, cutD, cutL, sIx, asI, asB, asIs, asBs, big, freezeS, compGo, forGo, items, itemsL, rangeD, upto, lookT, isIn, eqO, scrOk, isData, isDatas, dep, deps, dq_ss, dq_ii, dq_tt, dq_nil, dq_cons, dq_scr0, dq_scr1, flat, fldD, getF, methF, tyIs, pairsOf, mulOk, minI, maxI, finO, callT_c, callT_s, List.lookup, pg0, pg1, pg2, pc0, d_all_in, h, subs, ia, ib, s1, s2, s3, s4]
  | .when_ a b c, k, hk, h8, st => by
    simp only [hgt] at hk h8
    obtain ⟨k, rfl⟩ : ∃ j, k = j + 1 := ⟨k - 1, by omega⟩
    have ia := r_allin a k (by omega) (by omega) st
    have ib := r_allin b k (by omega) (by omega) st
    have ic := r_allin c k (by omega) (by omega) st
    have la := subs_len a
    have lb := subs_len b
    have lc := subs_len c
    have pa : 4 ^ (hgt a + 1) ≤ 4 ^ 9 := Nat.pow_le_pow_right (by decide) (by omega)
    have pb : 4 ^ (hgt b + 1) ≤ 4 ^ 9 := Nat.pow_le_pow_right (by decide) (by omega)
    have pc : 4 ^ (hgt c + 1) ≤ 4 ^ 9 := Nat.pow_le_pow_right (by decide) (by omega)
    have s1 : (subs a).length + 1 ≤ 16777216 := by omega
    have s2 : (subs a).length + 1 + (subs b).length ≤ 16777216 := by omega
    have s3 : 1 + (subs a).length ≤ 16777216 := by omega
    have s4 : 1 + (subs a).length + (subs b).length ≤ 16777216 := by omega
    have s5 : (subs a).length + (subs b).length + 1 + (subs c).length ≤ 16777216 := by omega
    have s6 : 1 + (subs a).length + (subs b).length + (subs c).length ≤ 16777216 := by omega
    have h := r_inner (tabs prog (k+1)) (.when_ a b c) st
    rw [run_eq d_all_in rfl rfl rfl, tabs_s]
    simp only [kids, List.map_cons, List.map_nil] at h
    simp [startEnv, startIni, execSs, execS, evalE, evalEs, evalA, evalO, evalA1, evalC, evalI, Out.bind, Out.so, Out.ofO, varD, bindTg, nextO, blt, bLen, bAbs, bMax2, bMin2, bInt, bList, bTuple, bSum, bAll, bAny, bMin1, bMax1, bIsinst, bDictPairs, bDictCopy, op2, cmp2, atD, ixN, cutD, cutL, sIx, asI, asB, asIs, asBs, big, freezeS, compGo, forGo, items, itemsL, rangeD, upto, lookT, isIn, eqO, scrOk, isData, isDatas, dep, deps, dq_ss, dq_ii, dq_tt, dq_nil, dq_cons, dq_scr0, dq_scr1, flat, fldD, getF, methF, tyIs, pairsOf, mulOk, minI, maxI, finO, callT_c, callT_s, List.lookup, pg0, pg1, pg2, pc0, d_all_in, h, subs, ia, ib, ic, s1, s2, s3, s4, s5, s6]
  | .say a, k, hk, h8, st => by
    simp only [hgt] at hk h8
    obtain ⟨k, rfl⟩ : ∃ j, k = j + 1 := ⟨k - 1, by omega⟩
    have ia := r_allin a k (by omega) (by omega) st
    have la := subs_len a
    have pa : 4 ^ (hgt a + 1) ≤ 4 ^ 9 := Nat.pow_le_pow_right (by decide) (by omega)
    have s1 : 1 + (subs a).length ≤ 16777216 := by omega
    have h := r_inner (tabs prog (k+1)) (.say a) st
    rw [run_eq d_all_in rfl rfl rfl, tabs_s]
    simp only [kids, List.map_cons, List.map_nil] at h
    simp [startEnv, startIni, execSs, execS, evalE, evalEs, evalA, evalO, evalA1, evalC, evalI, Out.bind, Out.so, Out.ofO, varD, bindTg, nextO, blt, bLen, bAbs, bMax2, bMin2, bInt, bList, bTuple, bSum, bAll, bAny, bMin1, bMax1, bIsinst, bDictPairs, bDictCopy, op2, cmp2, atD, ixN, cutD, cutL, sIx, asI, asB, asIs, asBs, big, freezeS, compGo, forGo, items, itemsL, rangeD, upto, lookT, isIn, eqO, scrOk, isData, isDatas, dep, deps, dq_ss, dq_ii, dq_tt, dq_nil, dq_cons, dq_scr0, dq_scr1, flat, fldD, getF, methF, tyIs, pairsOf, mulOk, minI, maxI, finO, callT_c, callT_s, List.lookup, pg0, pg1, pg2, pc0, d_all_in, h, subs, ia, s1]
end K20

set_option maxRecDepth 100000
set_option linter.all false
set_option maxHeartbeats 4000000
namespace K20
open Fw
theorem compGo_of {F : D → Store → Out (Option D)} {g : D → Option D} {st : Store} : ∀ {xs : List D}, (∀ x ∈ xs, F x st = .ok (g x) st) → compGo F xs st = .ok (xs.filterMap g) st
  | [], _ => rfl
  | x :: r, h => by
    unfold compGo
    rw [h x List.mem_cons_self, Out.bind_ok, compGo_of fun y hy => h y (List.mem_cons_of_mem _ hy), Out.bind_ok]
    cases hg : g x <;> simp [List.filterMap_cons, hg]
theorem ev_comp {T : List FT} {t : Tg} {elt : ME} {it : MI} {cs : MEs} {env : Env} {st : Store} {xs : List D} {g : D → Option D} (hi : evalI prog T it env st = .ok xs st) (hl : xs.length ≤ big)
    (h : ∀ x ∈ xs, (match bindTg t x env with
        | some env => (evalA1 prog T cs env st).bind fun b st => if b then (evalE prog T elt env st).bind fun d st => .ok (some d) st else .ok none st
        | none => .bad) = .ok (g x) st) : evalE prog T (.comp t elt it cs) env st = .ok (.lst (xs.filterMap g)) st := by
  simp only [evalE, hi, Out.bind_ok, if_pos hl]
  rw [compGo_of h]
  rfl
theorem dq_bb (x y : Bool) : deq (.bl x) (.bl y) = (x == y) := by simp only [deq]
theorem toD_tup (t : Tm) : ∃ w r, toD t = .tup (.str w :: r) ∧ (w == [115, 97, 121]) = isSay t := by
  cases t with
  | num i => exact ⟨_, _, rfl, rfl⟩
  | nam x => exact ⟨_, _, rfl, rfl⟩
  | two o a b => exact ⟨_, _, rfl, by cases o <;> rfl⟩
  | when_ a b c => exact ⟨_, _, rfl, rfl⟩
  | say a => exact ⟨_, _, rfl, rfl⟩
theorem asBs_map {α : Type} (f : α → Bool) : ∀ l : List α, asBs (l.map fun x => D.bl (f x)) = some (l.map f)
  | [] => rfl
  | x :: r => by simp only [List.map_cons, asBs, asBs_map f r, Option.map_some]
theorem r_isquiet (t : Tm) (k : Nat) (hk : hgt t ≤ k) (h8 : hgt t ≤ 8) (st : Store) : runDef prog (tabs prog (k+2)) f_is_quiet [toD t] st = .ok (.bl (quiet t)) st := by
  have ha := r_allin t k hk h8 st
  have hl := subs_len t
  have pa : 4 ^ (hgt t + 1) ≤ 4 ^ 9 := Nat.pow_le_pow_right (by decide) (by omega)
  have hs : ((subs t).map toD).length ≤ big := by rw [List.length_map]; unfold big; omega
  rw [run_eq d_is_quiet rfl rfl rfl, tabs_s]
  have hc := ev_comp (T := runDef prog (tabs prog (k+1)) :: tabs prog (k+1)) (t := .one 1) (elt := .cmp .ne (.ix (.var 1) (.lit (.int 0))) (.lit (.str [115, 97, 121]))) (it := .val (.call 1 (.cons (.var 0) .nil))) (cs := .nil) (env := [.val (toD t), .un]) (st := st) (xs := (subs t).map toD)
    (g := fun d => match d with | .tup (.str w :: _) => some (.bl (!(w == [115, 97, 121]))) | _ => none) (by simp [startEnv, startIni, execSs, execS, evalE, evalEs, evalA, evalO, evalA1, evalC, evalI, Out.bind, Out.so, Out.ofO, varD, bindTg, nextO, blt, bLen, bAbs, bMax2, bMin2, bInt, bList, bTuple, bSum, bAll, bAny, bMin1, bMax1, bIsinst, bDictPairs, bDictCopy, op2, cmp2, atD, ixN, cutD, cutL, sIx, asI, asB, asIs, asBs, big, freezeS, compGo, forGo, items, itemsL, rangeD, upto, lookT, isIn, eqO, scrOk, isData, isDatas, dep, deps, dq_ss, dq_ii, dq_tt, dq_nil, dq_cons, dq_scr0, dq_scr1, flat, fldD, getF, methF, tyIs, pairsOf, mulOk, minI, maxI, finO, callT_c, callT_s, List.lookup, pg0, pg1, pg2, pc0, ha]) hs (fun x hx => by
      obtain ⟨s, hs, rfl⟩ := List.mem_map.mp hx
      obtain ⟨w, r, e, _⟩ := toD_tup s
      rw [e]
      simp [startEnv, startIni, execSs, execS, evalE, evalEs, evalA, evalO, evalA1, evalC, evalI, Out.bind, Out.so, Out.ofO, varD, bindTg, nextO, blt, bLen, bAbs, bMax2, bMin2, bInt, bList, bTuple, bSum, bAll, bAny, bMin1, bMax1, bIsinst, bDictPairs, bDictCopy, op2, cmp2, atD, ixN, cutD, cutL, sIx, asI, asB, asIs, asBs, big, freezeS, compGo, forGo, items, itemsL, rangeD, upto, lookT, isIn, eqO, scrOk, isData, isDatas, dep, deps, dq_ss, dq_ii, dq_tt, dq_nil, dq_cons, dq_scr0, dq_scr1, flat, fldD, getF, methF, tyIs, pairsOf, mulOk, minI, maxI, finO, callT_c, callT_s, List.lookup, pg0, pg1, pg2, pc0])
  have he : ((subs t).map toD).filterMap (fun d => match d with | .tup (.str w :: _) => some (D.bl (!(w == [115, 97, 121]))) | _ => none) = (subs t).map fun s => D.bl (!isSay s) := by
    rw [List.filterMap_map]
    have : ((fun d => match d with | .tup (.str w :: _) => some (D.bl (!(w == [115, 97, 121]))) | _ => none) ∘ toD) = fun s => some (D.bl (!isSay s)) := by
      funext s
      obtain ⟨w, r, e, e2⟩ := toD_tup s
      simp only [Function.comp_apply, e, e2]
    rw [this, List.filterMap_eq_map']
  rw [he] at hc
  have hb := asBs_map (fun s => !isSay s) (subs t)
  have hq : ((subs t).map fun s => !isSay s).all id = quiet t := by rw [List.all_map]; exact subs_quiet t
  show finO (execSs prog _ (.cons (.ret (.blt .all1 (.cons (.comp (.one 1) (.cmp .ne (.ix (.var 1) (.lit (.int 0))) (.lit (.str [115, 97, 121]))) (.val (.call 1 (.cons (.var 0) .nil))) .nil) .nil))) .nil) [.val (toD t), .un] st) = _
  simp only [execSs, execS, List.map_cons, List.map_nil, freezeS, evalE, evalEs] at hc ⊢
  rw [hc]
  simp only [Out.bind_ok, blt, bAll, hb, Option.map_some, hq, Out.ofO_some, Out.so_ok, finO]
theorem r_lq : ∀ (t : Tm) (k : Nat), hgt t ≤ k → ∀ st, runDef prog (tabs prog (k+1)) f__law_quiet [toD t] st = .ok (.bl (quiet t)) st
  | .num i, k, hk, st => by
    rw [run_eq d__law_quiet rfl rfl rfl, tabs_s]
    simp [startEnv, startIni, execSs, execS, evalE, evalEs, evalA, evalO, evalA1, evalC, evalI, Out.bind, Out.so, Out.ofO, varD, bindTg, nextO, blt, bLen, bAbs, bMax2, bMin2, bInt, bList, bTuple, bSum, bAll, bAny, bMin1, bMax1, bIsinst, bDictPairs, bDictCopy, op2, cmp2, atD, ixN, cutD, cutL, sIx, asI, asB, asIs, asBs, big, freezeS, compGo, forGo, items, itemsL, rangeD, upto, lookT, isIn, eqO, scrOk, isData, isDatas, dep, deps, dq_ss, dq_ii, dq_tt, dq_nil, dq_cons, dq_scr0, dq_scr1, flat, fldD, getF, methF, tyIs, pairsOf, mulOk, minI, maxI, finO, callT_c, callT_s, List.lookup, pg0, pg1, pg2, pc0, d__law_quiet, toD, quiet]
  | .nam x, k, hk, st => by
    rw [run_eq d__law_quiet rfl rfl rfl, tabs_s]
    simp [startEnv, startIni, execSs, execS, evalE, evalEs, evalA, evalO, evalA1, evalC, evalI, Out.bind, Out.so, Out.ofO, varD, bindTg, nextO, blt, bLen, bAbs, bMax2, bMin2, bInt, bList, bTuple, bSum, bAll, bAny, bMin1, bMax1, bIsinst, bDictPairs, bDictCopy, op2, cmp2, atD, ixN, cutD, cutL, sIx, asI, asB, asIs, asBs, big, freezeS, compGo, forGo, items, itemsL, rangeD, upto, lookT, isIn, eqO, scrOk, isData, isDatas, dep, deps, dq_ss, dq_ii, dq_tt, dq_nil, dq_cons, dq_scr0, dq_scr1, flat, fldD, getF, methF, tyIs, pairsOf, mulOk, minI, maxI, finO, callT_c, callT_s, List.lookup, pg0, pg1, pg2, pc0, d__law_quiet, toD, quiet]
  | .two o a b, k, hk, st => by
    simp only [hgt] at hk
    obtain ⟨k, rfl⟩ : ∃ j, k = j + 1 := ⟨k - 1, by omega⟩
    have ia := r_lq a k (by omega) st
    have ib := r_lq b k (by omega) st
    have n1 : (txt o == [115, 97, 121]) = false := by cases o <;> rfl
    obtain ⟨wa, ra, ea, _⟩ := toD_tup a
    obtain ⟨wb, rb, eb, _⟩ := toD_tup b
    rw [run_eq d__law_quiet rfl rfl rfl, tabs_s]
    simp only [toD]
    rw [ea] at ia ⊢
    rw [eb] at ib ⊢
    simp [startEnv, startIni, execSs, execS, evalE, evalEs, evalA, evalO, evalA1, evalC, evalI, Out.bind, Out.so, Out.ofO, varD, bindTg, nextO, blt, bLen, bAbs, bMax2, bMin2, bInt, bList, bTuple, bSum, bAll, bAny, bMin1, bMax1, bIsinst, bDictPairs, bDictCopy, op2, cmp2, atD, ixN, cutD, cutL, sIx, asI, asB, asIs, asBs, big, freezeS, compGo, forGo, items, itemsL, rangeD, upto, lookT, isIn, eqO, scrOk, isData, isDatas, dep, deps, dq_ss, dq_ii, dq_tt, dq_nil, dq_cons, dq_scr0, dq_scr1, flat, fldD, getF, methF, tyIs, pairsOf, mulOk, minI, maxI, finO, callT_c, callT_s, List.lookup, pg0, pg1, pg2, pc0, d__law_quiet, quiet, ia, ib, n1]
  | .when_ a b c, k, hk, st => by
    simp only [hgt] at hk
    obtain ⟨k, rfl⟩ : ∃ j, k = j + 1 := ⟨k - 1, by omega⟩
    have ia := r_lq a k (by omega) st
    have ib := r_lq b k (by omega) st
    have ic := r_lq c k (by omega) st
    obtain ⟨wa, ra, ea, _⟩ := toD_tup a
    obtain ⟨wb, rb, eb, _⟩ := toD_tup b
    obtain ⟨wc, rc, ec, _⟩ := toD_tup c
    rw [run_eq d__law_quiet rfl rfl rfl, tabs_s]
    simp only [toD]
    rw [ea] at ia ⊢
    rw [eb] at ib ⊢
    rw [ec] at ic ⊢
    simp [startEnv, startIni, execSs, execS, evalE, evalEs, evalA, evalO, evalA1, evalC, evalI, Out.bind, Out.so, Out.ofO, varD, bindTg, nextO, blt, bLen, bAbs, bMax2, bMin2, bInt, bList, bTuple, bSum, bAll, bAny, bMin1, bMax1, bIsinst, bDictPairs, bDictCopy, op2, cmp2, atD, ixN, cutD, cutL, sIx, asI, asB, asIs, asBs, big, freezeS, compGo, forGo, items, itemsL, rangeD, upto, lookT, isIn, eqO, scrOk, isData, isDatas, dep, deps, dq_ss, dq_ii, dq_tt, dq_nil, dq_cons, dq_scr0, dq_scr1, flat, fldD, getF, methF, tyIs, pairsOf, mulOk, minI, maxI, finO, callT_c, callT_s, List.lookup, pg0, pg1, pg2, pc0, d__law_quiet, quiet, ia, ib, ic, Bool.and_assoc]
  | .say a, k, hk, st => by
    rw [run_eq d__law_quiet rfl rfl rfl, tabs_s]
    simp [startEnv, startIni, execSs, execS, evalE, evalEs, evalA, evalO, evalA1, evalC, evalI, Out.bind, Out.so, Out.ofO, varD, bindTg, nextO, blt, bLen, bAbs, bMax2, bMin2, bInt, bList, bTuple, bSum, bAll, bAny, bMin1, bMax1, bIsinst, bDictPairs, bDictCopy, op2, cmp2, atD, ixN, cutD, cutL, sIx, asI, asB, asIs, asBs, big, freezeS, compGo, forGo, items, itemsL, rangeD, upto, lookT, isIn, eqO, scrOk, isData, isDatas, dep, deps, dq_ss, dq_ii, dq_tt, dq_nil, dq_cons, dq_scr0, dq_scr1, flat, fldD, getF, methF, tyIs, pairsOf, mulOk, minI, maxI, finO, callT_c, callT_s, List.lookup, pg0, pg1, pg2, pc0, d__law_quiet, toD, quiet]
theorem r_bounds {kvs : List (Txt × D)} {N : Txt → Int × Int} (t : Tm) (h : wf kvs N t) (k : Nat) (hk : hgt t ≤ k) (st : Store) : runDef prog (tabs prog (k+5)) f_bounds_of [toD t, .dic kvs] st = .ok (pr (bnd N t).1.1 (bnd N t).1.2) st := by
  have hf := r_facts t h k hk st
  rw [run_eq d_bounds_of rfl rfl rfl, tabs_s]
  simp [startEnv, startIni, execSs, execS, evalE, evalEs, evalA, evalO, evalA1, evalC, evalI, Out.bind, Out.so, Out.ofO, varD, bindTg, nextO, blt, bLen, bAbs, bMax2, bMin2, bInt, bList, bTuple, bSum, bAll, bAny, bMin1, bMax1, bIsinst, bDictPairs, bDictCopy, op2, cmp2, atD, ixN, cutD, cutL, sIx, asI, asB, asIs, asBs, big, freezeS, compGo, forGo, items, itemsL, rangeD, upto, lookT, isIn, eqO, scrOk, isData, isDatas, dep, deps, dq_ss, dq_ii, dq_tt, dq_nil, dq_cons, dq_scr0, dq_scr1, flat, fldD, getF, methF, tyIs, pairsOf, mulOk, minI, maxI, finO, callT_c, callT_s, List.lookup, pg0, pg1, pg2, pc0, d_bounds_of, hf]
theorem r_safe {kvs : List (Txt × D)} {N : Txt → Int × Int} (t : Tm) (h : wf kvs N t) (k : Nat) (hk : hgt t ≤ k) (st : Store) : runDef prog (tabs prog (k+5)) f_is_safe [toD t, .dic kvs] st = .ok (.bl (bnd N t).2) st := by
  have hf := r_facts t h k hk st
  rw [run_eq d_is_safe rfl rfl rfl, tabs_s]
  simp [startEnv, startIni, execSs, execS, evalE, evalEs, evalA, evalO, evalA1, evalC, evalI, Out.bind, Out.so, Out.ofO, varD, bindTg, nextO, blt, bLen, bAbs, bMax2, bMin2, bInt, bList, bTuple, bSum, bAll, bAny, bMin1, bMax1, bIsinst, bDictPairs, bDictCopy, op2, cmp2, atD, ixN, cutD, cutL, sIx, asI, asB, asIs, asBs, big, freezeS, compGo, forGo, items, itemsL, rangeD, upto, lookT, isIn, eqO, scrOk, isData, isDatas, dep, deps, dq_ss, dq_ii, dq_tt, dq_nil, dq_cons, dq_scr0, dq_scr1, flat, fldD, getF, methF, tyIs, pairsOf, mulOk, minI, maxI, finO, callT_c, callT_s, List.lookup, pg0, pg1, pg2, pc0, d_is_safe, hf]
theorem r_still {kvs : List (Txt × D)} {N : Txt → Int × Int} (t : Tm) (h : wf kvs N t) (k : Nat) (hk : hgt t ≤ k) (h8 : hgt t ≤ 8) (st : Store) : runDef prog (tabs prog (k+6)) f_is_still [toD t, .dic kvs] st = .ok (.bl (quiet t && (bnd N t).2)) st := by
  have hf := r_safe t h k hk st
  have hq := r_isquiet t (k+3) (by omega) h8 st
  have hf : runDef prog (tabs prog (k+5)) 13 [toD t, .dic kvs] st = .ok (.bl (bnd N t).2) st := hf
  have hq : runDef prog (tabs prog (k+5)) 14 [toD t] st = .ok (.bl (quiet t)) st := hq
  rw [run_eq d_is_still rfl rfl rfl, tabs_s]
  cases h1 : quiet t <;> rw [h1] at hq <;> simp [startEnv, startIni, execSs, execS, evalE, evalEs, evalA, evalO, evalA1, evalC, evalI, Out.bind, Out.so, Out.ofO, varD, bindTg, nextO, blt, bLen, bAbs, bMax2, bMin2, bInt, bList, bTuple, bSum, bAll, bAny, bMin1, bMax1, bIsinst, bDictPairs, bDictCopy, op2, cmp2, atD, ixN, cutD, cutL, sIx, asI, asB, asIs, asBs, big, freezeS, compGo, forGo, items, itemsL, rangeD, upto, lookT, isIn, eqO, scrOk, isData, isDatas, dep, deps, dq_ss, dq_ii, dq_tt, dq_nil, dq_cons, dq_scr0, dq_scr1, flat, fldD, getF, methF, tyIs, pairsOf, mulOk, minI, maxI, finO, callT_c, callT_s, List.lookup, pg0, pg1, pg2, pc0, d_is_still, hf, hq]
end K20

set_option maxRecDepth 100000
set_option linter.all false
set_option maxHeartbeats 4000000
namespace K20
open Fw
def fm (a b : Int) : Int := a.fmod b
def fd (a b : Int) : Int := a.fdiv b
theorem fm_rng (a : Int) {b : Int} (h : 0 < b) : 0 ≤ a.fmod b ∧ a.fmod b < b := by
  rw [Int.fmod_eq_emod_of_nonneg a (Int.le_of_lt h)]
  exact ⟨Int.emod_nonneg a (by omega), Int.emod_lt_of_pos a h⟩
theorem fd_pos {a b : Int} (ha : 0 ≤ a) (h : 0 < b) : 0 ≤ a.fdiv b := by
  rw [Int.fdiv_eq_ediv_of_nonneg a (Int.le_of_lt h)]
  exact Int.ediv_nonneg ha (Int.le_of_lt h)
theorem fd_le {a b : Int} (ha : 0 ≤ a) (h : 0 < b) : a.fdiv b ≤ a := by
  rw [Int.fdiv_eq_ediv_of_nonneg a (Int.le_of_lt h)]
  exact Int.ediv_le_self b ha
def m1F (c k : Int) : Int := (c * 6364136223846793005 + (k + 1) * 1442695040888963407).fmod 340282366920938463463374607431768211507
def m2F (m : Int) : Int := (m * m).fmod 340282366920938463463374607431768211297
def m3F (m : Int) : Int := (m.fmod 18446744073709551557 + 1) * (m.fdiv 18446744073709551557 + 1) * m
def drawnF (c k : Int) : Int := (m3F (m2F (m1F c k))).fmod 340282366920938463463374607431768211507
theorem drawn_rng (c k : Int) : 0 ≤ drawnF c k ∧ drawnF c k < 340282366920938463463374607431768211507 := fm_rng _ (by decide)
theorem r_drawn (T : List FT) (c k : Int) (st : Store) : runDef prog T f__law_drawn [.int c, .int k] st = .ok (.int (drawnF c k)) st := by
  rw [run_eq d__law_drawn rfl rfl rfl]
  have a1 := fm_rng (c * 6364136223846793005 + (k + 1) * 1442695040888963407) (b := 340282366920938463463374607431768211507) (by decide)
  have a2 : 0 ≤ m2F (m1F c k) ∧ m2F (m1F c k) < 340282366920938463463374607431768211297 := fm_rng _ (by decide)
  have b1 : (m1F c k).natAbs < 2 ^ 200 := by
    have : 0 ≤ m1F c k ∧ m1F c k < 340282366920938463463374607431768211507 := a1
    omega
  have a3 := fm_rng (m2F (m1F c k)) (b := 18446744073709551557) (by decide)
  have a4 := fd_pos (b := 18446744073709551557) a2.1 (by decide)
  have b2 : ((m2F (m1F c k)).fmod 18446744073709551557 + 1).natAbs < 2 ^ 64 := by omega
  have b3 : (m2F (m1F c k)).natAbs < 2 ^ 200 := by omega
  have a5 : (m2F (m1F c k)).fdiv 18446744073709551557 < 2 ^ 65 - 1 := by
    rw [Int.fdiv_eq_ediv_of_nonneg _ (by decide)]
    omega
  have b4 : (((m2F (m1F c k)).fmod 18446744073709551557 + 1) * ((m2F (m1F c k)).fdiv 18446744073709551557 + 1)).natAbs < 2 ^ 200 := by
    rw [Int.natAbs_mul]
    have x1 : ((m2F (m1F c k)).fmod 18446744073709551557 + 1).natAbs ≤ 2 ^ 64 := by omega
    have x2 : ((m2F (m1F c k)).fdiv 18446744073709551557 + 1).natAbs ≤ 2 ^ 65 := by omega
    have := Nat.mul_le_mul x1 x2
    exact Nat.lt_of_le_of_lt this (by decide)
  have e1 : (c * 6364136223846793005 + (k + 1) * 1442695040888963407).fmod 340282366920938463463374607431768211507 = m1F c k := rfl
  have e2 : (m1F c k * m1F c k).fmod 340282366920938463463374607431768211297 = m2F (m1F c k) := rfl
  have e3 : (((m2F (m1F c k)).fmod 18446744073709551557 + 1) * ((m2F (m1F c k)).fdiv 18446744073709551557 + 1) * m2F (m1F c k)).fmod 340282366920938463463374607431768211507 = drawnF c k := rfl
  simp [startEnv, startIni, execSs, execS, evalE, evalEs, evalA, evalO, evalA1, evalC, evalI, Out.bind, Out.so, Out.ofO, varD, bindTg, nextO, blt, bLen, bAbs, bMax2, bMin2, bInt, bList, bTuple, bSum, bAll, bAny, bMin1, bMax1, bIsinst, bDictPairs, bDictCopy, op2, cmp2, atD, ixN, cutD, cutL, sIx, asI, asB, asIs, asBs, big, freezeS, compGo, forGo, items, itemsL, rangeD, upto, lookT, isIn, eqO, scrOk, isData, isDatas, dep, deps, dq_ss, dq_ii, dq_tt, dq_nil, dq_cons, dq_scr0, dq_scr1, flat, fldD, getF, methF, tyIs, pairsOf, mulOk, minI, maxI, finO, callT_c, callT_s, List.lookup, pg0, pg1, pg2, pc0, d__law_drawn, e1, e2, e3, b1, b2, b3, b4]
def cellF (ns : List Int) (k : Int) : Int := match ns with
  | [] => k * 7919
  | _ => (ns[(k.fmod ns.length).toNat]?).getD 0 + k.fdiv ns.length * 104729
theorem r_cell (T : List FT) (ns : List Int) (k : Int) (st : Store) (hl : ns.length ≤ 63) (hk : 0 ≤ k) : runDef prog T f__law_cell [.scr ns, .int k] st = .ok (.int (cellF ns k)) st := by
  rw [run_eq d__law_cell rfl rfl rfl]
  cases ns with
  | nil => simp [startEnv, startIni, execSs, execS, evalE, evalEs, evalA, evalO, evalA1, evalC, evalI, Out.bind, Out.so, Out.ofO, varD, bindTg, nextO, blt, bLen, bAbs, bMax2, bMin2, bInt, bList, bTuple, bSum, bAll, bAny, bMin1, bMax1, bIsinst, bDictPairs, bDictCopy, op2, cmp2, atD, ixN, cutD, cutL, sIx, asI, asB, asIs, asBs, big, freezeS, compGo, forGo, items, itemsL, rangeD, upto, lookT, isIn, eqO, scrOk, isData, isDatas, dep, deps, dq_ss, dq_ii, dq_tt, dq_nil, dq_cons, dq_scr0, dq_scr1, flat, fldD, getF, methF, tyIs, pairsOf, mulOk, minI, maxI, finO, callT_c, callT_s, List.lookup, pg0, pg1, pg2, pc0, d__law_cell, cellF]
  | cons n r =>
    have h0 : (0 : Int) < ((n :: r).length : Int) := by simp only [List.length_cons]; omega
    have q := fm_rng k h0
    have q1 : ((k.fmod (n :: r).length).toNat) < (n :: r).length := by omega
    have q2 : (n :: r)[(k.fmod (n :: r).length).toNat]? = some ((n :: r)[(k.fmod (n :: r).length).toNat]) := List.getElem?_eq_getElem q1
    generalize hx : (n :: r)[(k.fmod (n :: r).length).toNat] = x at q2
    have e : cellF (n :: r) k = x + k.fdiv (n :: r).length * 104729 := by unfold cellF; rw [q2]; rfl
    rw [e]
    simp only [List.length_cons] at q q1 q2 hl h0 ⊢
    push_cast at q q2 h0 ⊢
    have n1 : ¬ ((r.length : Int) + 1 = 0) := by omega
    have n2 : ((r.length : Int) + 1).natAbs < 1073741824 := by omega
    simp [startEnv, startIni, execSs, execS, evalE, evalEs, evalA, evalO, evalA1, evalC, evalI, Out.bind, Out.so, Out.ofO, varD, bindTg, nextO, blt, bLen, bAbs, bMax2, bMin2, bInt, bList, bTuple, bSum, bAll, bAny, bMin1, bMax1, bIsinst, bDictPairs, bDictCopy, op2, cmp2, atD, ixN, cutD, cutL, sIx, asI, asB, asIs, asBs, big, freezeS, compGo, forGo, items, itemsL, rangeD, upto, lookT, isIn, eqO, scrOk, isData, isDatas, dep, deps, dq_ss, dq_ii, dq_tt, dq_nil, dq_cons, dq_scr0, dq_scr1, flat, fldD, getF, methF, tyIs, pairsOf, mulOk, minI, maxI, finO, callT_c, callT_s, List.lookup, pg0, pg1, pg2, pc0, d__law_cell, q.1, q.2, n1, n2]
    exact (List.getElem?_eq_some_iff.mp q2).2
def numL (h : Int) : List Int := [h.fmod 12, 0 - h.fmod 9, h.fmod 3, 999999999, -999999999, h.fmod 2000 - 1000]
def numF (m : Int) : Int := ((numL (m.fdiv 8))[((m.fmod 64).fdiv 11).toNat]?).getD 0
theorem num_small (m : Int) : small (numF m) := by
  have a1 := fm_rng (m.fdiv 8) (b := 12) (by decide)
  have a2 := fm_rng (m.fdiv 8) (b := 9) (by decide)
  have a3 := fm_rng (m.fdiv 8) (b := 3) (by decide)
  have a4 := fm_rng (m.fdiv 8) (b := 2000) (by decide)
  unfold numF numL
  generalize ((m.fmod 64).fdiv 11).toNat = j
  match j with
  | 0 => simp; unfold small; omega
  | 1 => simp; unfold small; omega
  | 2 => simp; unfold small; omega
  | 3 => simp; unfold small; omega
  | 4 => simp; unfold small; omega
  | 5 => simp; unfold small; omega
  | j + 6 => simp; unfold small; omega
theorem r_num (T : List FT) (m : Int) (st : Store) : runDef prog T f__law_number [.int m] st = .ok (.int (numF m)) st := by
  rw [run_eq d__law_number rfl rfl rfl]
  have q := fm_rng m (b := 64) (by decide)
  have q2 : 0 ≤ (m.fmod 64).fdiv 11 ∧ (m.fmod 64).fdiv 11 ≤ 5 := by
    rw [Int.fdiv_eq_ediv_of_nonneg _ (by decide)]
    omega
  have hj : (m.fmod 64).fdiv 11 = 0 ∨ (m.fmod 64).fdiv 11 = 1 ∨ (m.fmod 64).fdiv 11 = 2 ∨ (m.fmod 64).fdiv 11 = 3 ∨ (m.fmod 64).fdiv 11 = 4 ∨ (m.fmod 64).fdiv 11 = 5 := by omega
  rcases hj with h | h | h | h | h | h <;> simp [startEnv, startIni, execSs, execS, evalE, evalEs, evalA, evalO, evalA1, evalC, evalI, Out.bind, Out.so, Out.ofO, varD, bindTg, nextO, blt, bLen, bAbs, bMax2, bMin2, bInt, bList, bTuple, bSum, bAll, bAny, bMin1, bMax1, bIsinst, bDictPairs, bDictCopy, op2, cmp2, atD, ixN, cutD, cutL, sIx, asI, asB, asIs, asBs, big, freezeS, compGo, forGo, items, itemsL, rangeD, upto, lookT, isIn, eqO, scrOk, isData, isDatas, dep, deps, dq_ss, dq_ii, dq_tt, dq_nil, dq_cons, dq_scr0, dq_scr1, flat, fldD, getF, methF, tyIs, pairsOf, mulOk, minI, maxI, finO, callT_c, callT_s, List.lookup, pg0, pg1, pg2, pc0, d__law_number, h, numF, numL]
def pairF (m : Int) : Int × Int := if m.fmod 3 = 0 then (numF m, mn 999999999 (numF m + (m.fdiv 4).fmod 5)) else (mn (numF m) (numF (m.fdiv (2 ^ 20))), mx (numF m) (numF (m.fdiv (2 ^ 20))))
theorem pair_rng (m : Int) : rng (pairF m) := by
  have h1 := num_small m
  have h2 := num_small (m.fdiv (2 ^ 20))
  have h3 := fm_rng (m.fdiv 4) (b := 5) (by decide)
  unfold pairF rng mn mx small at *
  (repeat' split) <;> simp only [] <;> omega
theorem r_pair (k : Nat) (m : Int) (st : Store) : runDef prog (tabs prog (k+1)) f__law_pair [.int m] st = .ok (pr (pairF m).1 (pairF m).2) st := by
  rw [run_eq d__law_pair rfl rfl rfl, tabs_s]
  have h1 := r_num (tabs prog k) m st
  have h2 := r_num (tabs prog k) (m.fdiv 1048576) st
  unfold pairF
  by_cases h : m.fmod 3 = 0
  · simp [startEnv, startIni, execSs, execS, evalE, evalEs, evalA, evalO, evalA1, evalC, evalI, Out.bind, Out.so, Out.ofO, varD, bindTg, nextO, blt, bLen, bAbs, bMax2, bMin2, bInt, bList, bTuple, bSum, bAll, bAny, bMin1, bMax1, bIsinst, bDictPairs, bDictCopy, op2, cmp2, atD, ixN, cutD, cutL, sIx, asI, asB, asIs, asBs, big, freezeS, compGo, forGo, items, itemsL, rangeD, upto, lookT, isIn, eqO, scrOk, isData, isDatas, dep, deps, dq_ss, dq_ii, dq_tt, dq_nil, dq_cons, dq_scr0, dq_scr1, flat, fldD, getF, methF, tyIs, pairsOf, mulOk, minI, maxI, finO, callT_c, callT_s, List.lookup, pg0, pg1, pg2, pc0, d__law_pair, h1, h2, h, mn]
  · have b : (m.fmod 3 == 0) = false := by simpa using h
    simp [startEnv, startIni, execSs, execS, evalE, evalEs, evalA, evalO, evalA1, evalC, evalI, Out.bind, Out.so, Out.ofO, varD, bindTg, nextO, blt, bLen, bAbs, bMax2, bMin2, bInt, bList, bTuple, bSum, bAll, bAny, bMin1, bMax1, bIsinst, bDictPairs, bDictCopy, op2, cmp2, atD, ixN, cutD, cutL, sIx, asI, asB, asIs, asBs, big, freezeS, compGo, forGo, items, itemsL, rangeD, upto, lookT, isIn, eqO, scrOk, isData, isDatas, dep, deps, dq_ss, dq_ii, dq_tt, dq_nil, dq_cons, dq_scr0, dq_scr1, flat, fldD, getF, methF, tyIs, pairsOf, mulOk, minI, maxI, finO, callT_c, callT_s, List.lookup, pg0, pg1, pg2, pc0, d__law_pair, h1, h2, h, b, mn, mx]
end K20

set_option maxRecDepth 100000
set_option linter.all false
set_option maxHeartbeats 4000000
namespace K20
open Fw
def nx : Txt := [120]
def na : Txt := [97, 99, 99]
def nt : Txt := [97, 116]
abbrev nms : D := .tup [.str nx, .str na, .str nt]
def nmAt (j : Int) : Txt := if j = 0 then nx else if j = 1 then na else nt
def okT3 : Tm → Prop
  | .num i => small i
  | .nam x => x = nx ∨ x = na ∨ x = nt
  | .two _ a b => okT3 a ∧ okT3 b
  | .when_ a b c => okT3 a ∧ okT3 b ∧ okT3 c
  | .say a => okT3 a
theorem dq_cn (x : D) (r : List D) : deqs (x :: r) [] = false := by simp only [deqs]
def leafF (m : Int) : Tm := if 1 < m.fmod 5 then .nam (nmAt ((m.fdiv 8).fmod 3)) else .num (numF (m.fdiv 64))
theorem leaf_ok (m : Int) : okT3 (leafF m) ∧ hgt (leafF m) = 0 := by
  unfold leafF
  split
  · refine ⟨?_, rfl⟩
    unfold nmAt okT3
    (repeat' split) <;> simp
  · exact ⟨num_small _, rfl⟩
theorem r_leaf (k : Nat) (m : Int) (st : Store) : runDef prog (tabs prog (k+1)) f__law_leaf [.int m, nms] st = .ok (toD (leafF m)) st := by
  rw [run_eq d__law_leaf rfl rfl rfl, tabs_s]
  have h1 := r_num (tabs prog k) (m.fdiv 64) st
  unfold leafF
  by_cases h : 1 < m.fmod 5
  · have q := fm_rng (m.fdiv 8) (b := 3) (by decide)
    have hj : (m.fdiv 8).fmod 3 = 0 ∨ (m.fdiv 8).fmod 3 = 1 ∨ (m.fdiv 8).fmod 3 = 2 := by omega
    rcases hj with e | e | e <;> simp [startEnv, startIni, execSs, execS, evalE, evalEs, evalA, evalO, evalA1, evalC, evalI, Out.bind, Out.so, Out.ofO, varD, bindTg, nextO, blt, bLen, bAbs, bMax2, bMin2, bInt, bList, bTuple, bSum, bAll, bAny, bMin1, bMax1, bIsinst, bDictPairs, bDictCopy, op2, cmp2, atD, ixN, cutD, cutL, sIx, asI, asB, asIs, asBs, big, freezeS, compGo, forGo, items, itemsL, rangeD, upto, lookT, isIn, eqO, scrOk, isData, isDatas, dep, deps, dq_ss, dq_ii, dq_tt, dq_nil, dq_cons, dq_scr0, dq_scr1, flat, fldD, getF, methF, tyIs, pairsOf, mulOk, minI, maxI, finO, callT_c, callT_s, List.lookup, pg0, pg1, pg2, pc0, d__law_leaf, dq_cn, h, e, toD, nmAt]
  · simp [startEnv, startIni, execSs, execS, evalE, evalEs, evalA, evalO, evalA1, evalC, evalI, Out.bind, Out.so, Out.ofO, varD, bindTg, nextO, blt, bLen, bAbs, bMax2, bMin2, bInt, bList, bTuple, bSum, bAll, bAny, bMin1, bMax1, bIsinst, bDictPairs, bDictCopy, op2, cmp2, atD, ixN, cutD, cutL, sIx, asI, asB, asIs, asBs, big, freezeS, compGo, forGo, items, itemsL, rangeD, upto, lookT, isIn, eqO, scrOk, isData, isDatas, dep, deps, dq_ss, dq_ii, dq_tt, dq_nil, dq_cons, dq_scr0, dq_scr1, flat, fldD, getF, methF, tyIs, pairsOf, mulOk, minI, maxI, finO, callT_c, callT_s, List.lookup, pg0, pg1, pg2, pc0, d__law_leaf, dq_cn, h, h1, toD]
def opAt (j : Int) : Op := if j = 0 then .plus else if j = 1 then .less else if j = 2 then .times else if j = 3 then .part else if j = 4 then .rest else if j = 5 then .same else if j = 6 then .below else if j = 7 then .plus else if j = 8 then .times else .below
def mkT (w : Int) (a b c : Tm) : Tm := if w < 10 then .two (opAt w) a b else if w < 12 then .when_ a b c else if w = 12 then .say a else a
def termF : Nat → Int → Tm
  | 0, m => leafF (m.fdiv 8)
  | n + 1, m => if m.fmod 5 = 0 then leafF (m.fdiv 8) else mkT ((m.fdiv 16).fmod 14) (termF n (drawnF (m.fdiv 16) 0)) (termF n (drawnF (m.fdiv 16) 1)) (termF n (drawnF (m.fdiv 16) 2))
theorem mk_ok {w : Int} {a b c : Tm} {n : Nat} (ha : okT3 a ∧ hgt a ≤ n) (hb : okT3 b ∧ hgt b ≤ n) (hc : okT3 c ∧ hgt c ≤ n) : okT3 (mkT w a b c) ∧ hgt (mkT w a b c) ≤ n + 1 := by
  unfold mkT
  (repeat' split)
  · exact ⟨⟨ha.1, hb.1⟩, by simp only [hgt]; omega⟩
  · exact ⟨⟨ha.1, hb.1, hc.1⟩, by simp only [hgt]; omega⟩
  · exact ⟨ha.1, by simp only [hgt]; omega⟩
  · exact ⟨ha.1, by omega⟩
theorem term_ok : ∀ (n : Nat) (m : Int), okT3 (termF n m) ∧ hgt (termF n m) ≤ n
  | 0, m => ⟨(leaf_ok _).1, Nat.le_of_eq (leaf_ok _).2⟩
  | n + 1, m => by
    unfold termF
    split
    · exact ⟨(leaf_ok _).1, by rw [(leaf_ok _).2]; omega⟩
    · exact mk_ok (term_ok n _) (term_ok n _) (term_ok n _)
theorem r_term : ∀ (n k : Nat) (m : Int) (st : Store), n ≤ k → runDef prog (tabs prog (k+2)) f__law_term [.int m, .int n, nms] st = .ok (toD (termF n m)) st
  | 0, k, m, st, hk => by
    rw [run_eq d__law_term rfl rfl rfl, tabs_s]
    have h := r_leaf k (m.fdiv 8) st
    simp [startEnv, startIni, execSs, execS, evalE, evalEs, evalA, evalO, evalA1, evalC, evalI, Out.bind, Out.so, Out.ofO, varD, bindTg, nextO, blt, bLen, bAbs, bMax2, bMin2, bInt, bList, bTuple, bSum, bAll, bAny, bMin1, bMax1, bIsinst, bDictPairs, bDictCopy, op2, cmp2, atD, ixN, cutD, cutL, sIx, asI, asB, asIs, asBs, big, freezeS, compGo, forGo, items, itemsL, rangeD, upto, lookT, isIn, eqO, scrOk, isData, isDatas, dep, deps, dq_ss, dq_ii, dq_tt, dq_nil, dq_cons, dq_scr0, dq_scr1, flat, fldD, getF, methF, tyIs, pairsOf, mulOk, minI, maxI, finO, callT_c, callT_s, List.lookup, pg0, pg1, pg2, pc0, d__law_term, h, termF]
  | n + 1, k, m, st, hk => by
    obtain ⟨k, rfl⟩ : ∃ j, k = j + 1 := ⟨k - 1, by omega⟩
    rw [run_eq d__law_term rfl rfl rfl, tabs_s]
    have h := r_leaf (k+1) (m.fdiv 8) st
    have d0 := r_drawn (tabs prog (k+2)) (m.fdiv 16) 0 st
    have d1 := r_drawn (tabs prog (k+2)) (m.fdiv 16) 1 st
    have d2 := r_drawn (tabs prog (k+2)) (m.fdiv 16) 2 st
    have i0 := r_term n k (drawnF (m.fdiv 16) 0) st (by omega)
    have i1 := r_term n k (drawnF (m.fdiv 16) 1) st (by omega)
    have i2 := r_term n k (drawnF (m.fdiv 16) 2) st (by omega)
    have n0 : (((n : Int) + 1) == 0) = false := by simp; omega
    have n1 : (n : Int) + 1 - 1 = n := by omega
    unfold termF
    by_cases h5 : m.fmod 5 = 0
    · simp [startEnv, startIni, execSs, execS, evalE, evalEs, evalA, evalO, evalA1, evalC, evalI, Out.bind, Out.so, Out.ofO, varD, bindTg, nextO, blt, bLen, bAbs, bMax2, bMin2, bInt, bList, bTuple, bSum, bAll, bAny, bMin1, bMax1, bIsinst, bDictPairs, bDictCopy, op2, cmp2, atD, ixN, cutD, cutL, sIx, asI, asB, asIs, asBs, big, freezeS, compGo, forGo, items, itemsL, rangeD, upto, lookT, isIn, eqO, scrOk, isData, isDatas, dep, deps, dq_ss, dq_ii, dq_tt, dq_nil, dq_cons, dq_scr0, dq_scr1, flat, fldD, getF, methF, tyIs, pairsOf, mulOk, minI, maxI, finO, callT_c, callT_s, List.lookup, pg0, pg1, pg2, pc0, d__law_term, h, n0, h5]
    · have b5 : (m.fmod 5 == 0) = false := by simpa using h5
      have q := fm_rng (m.fdiv 16) (b := 14) (by decide)
      have hw : (m.fdiv 16).fmod 14 = 0 ∨ (m.fdiv 16).fmod 14 = 1 ∨ (m.fdiv 16).fmod 14 = 2 ∨ (m.fdiv 16).fmod 14 = 3 ∨ (m.fdiv 16).fmod 14 = 4 ∨ (m.fdiv 16).fmod 14 = 5 ∨ (m.fdiv 16).fmod 14 = 6 ∨ (m.fdiv 16).fmod 14 = 7 ∨ (m.fdiv 16).fmod 14 = 8 ∨ (m.fdiv 16).fmod 14 = 9 ∨ (m.fdiv 16).fmod 14 = 10 ∨ (m.fdiv 16).fmod 14 = 11 ∨ (m.fdiv 16).fmod 14 = 12 ∨ (m.fdiv 16).fmod 14 = 13 := by omega
      rcases hw with e | e | e | e | e | e | e | e | e | e | e | e | e | e <;> simp [startEnv, startIni, execSs, execS, evalE, evalEs, evalA, evalO, evalA1, evalC, evalI, Out.bind, Out.so, Out.ofO, varD, bindTg, nextO, blt, bLen, bAbs, bMax2, bMin2, bInt, bList, bTuple, bSum, bAll, bAny, bMin1, bMax1, bIsinst, bDictPairs, bDictCopy, op2, cmp2, atD, ixN, cutD, cutL, sIx, asI, asB, asIs, asBs, big, freezeS, compGo, forGo, items, itemsL, rangeD, upto, lookT, isIn, eqO, scrOk, isData, isDatas, dep, deps, dq_ss, dq_ii, dq_tt, dq_nil, dq_cons, dq_scr0, dq_scr1, flat, fldD, getF, methF, tyIs, pairsOf, mulOk, minI, maxI, finO, callT_c, callT_s, List.lookup, pg0, pg1, pg2, pc0, d__law_term, n0, n1, b5, h5, d0, d1, d2, i0, i1, i2, e, mkT, opAt, toD, txt]
end K20

set_option maxRecDepth 100000
set_option linter.all false
set_option maxHeartbeats 4000000
namespace K20
open Fw
def forBody : MS → MSs
  | .for_ _ _ b => b
  | _ => .nil
def hdS : MSs → MS
  | .cons s _ => s
  | .nil => .pass
def tlS : MSs → MSs
  | .cons _ r => r
  | .nil => .nil
def outerB : MSs := forBody (hdS d_law.body)
def innerB : MSs := forBody (hdS (tlS outerB))
abbrev kvsF (h : Int) : List (Txt × D) := [(nx, pr (pairF (drawnF h 0)).1 (pairF (drawnF h 0)).2), (na, pr (pairF (drawnF h 1)).1 (pairF (drawnF h 1)).2), (nt, pr (pairF (drawnF h 2)).1 (pairF (drawnF h 2)).2)]
def NF (h : Int) (x : Txt) : Int × Int := if x = nx then pairF (drawnF h 0) else if x = na then pairF (drawnF h 1) else pairF (drawnF h 2)
theorem wf_of (h : Int) : ∀ t : Tm, okT3 t → wf (kvsF h) (NF h) t
  | .num i, q => q
  | .nam x, q => by
    rcases q with rfl | rfl | rfl
    · exact ⟨rfl, pair_rng _⟩
    · exact ⟨rfl, pair_rng _⟩
    · exact ⟨rfl, pair_rng _⟩
  | .two _ a b, q => ⟨wf_of h a q.1, wf_of h b q.2⟩
  | .when_ a b c, q => ⟨wf_of h a q.1, wf_of h b q.2.1, wf_of h c q.2.2⟩
  | .say a, q => wf_of h a q
theorem inner_run (i : Int) (ns : List Int) (s1 : Slot) (more : Int) (s4 s5 s6 s7 s8 s9 s10 : Slot) (st : Store) : ∃ s4' s5' s6' s7' s8' s9' s10', execSs prog (tabs prog 99) innerB [.val (.scr ns), s1, .val (.int more), .val (.int i), s4, s5, s6, s7, s8, s9, s10] st =
    .next [.val (.scr ns), s1, .val (.int more), .val (.int i), s4', s5', s6', s7', s8', s9', s10'] st := by
  obtain ⟨h, hh⟩ : ∃ h, h = drawnF more i := ⟨_, rfl⟩
  have hd0 : ∀ c k, callT (tabs prog 99) 17 [.int c, .int k] st = .ok (.int (drawnF c k)) st := fun c k => r_drawn (tabs prog 98) c k st
  have hp : ∀ m, callT (tabs prog 99) 26 [.int m] st = .ok (pr (pairF m).1 (pairF m).2) st := fun m => r_pair 97 m st
  have hr := drawn_rng more i
  rw [← hh] at hr
  have q := fm_rng h (b := 5) (by decide)
  obtain ⟨n, hn⟩ : ∃ n : Nat, h.fmod 5 = n := ⟨(h.fmod 5).toNat, by omega⟩
  have n5 : n < 5 := by omega
  have ht : ∀ m, callT (tabs prog 99) 20 [.int m, .int n, nms] st = .ok (toD (termF n m)) st := fun m => r_term n 96 m st (by omega)
  obtain ⟨t, htt⟩ : ∃ t, t = termF n (drawnF h 9) := ⟨_, rfl⟩
  have tk := term_ok n (drawnF h 9)
  rw [← htt] at tk
  have hw := wf_of h t tk.1
  have h4 : hgt t ≤ 4 := by omega
  have c1 : callT (tabs prog 99) 24 [toD t, .dic (kvsF h)] st = .ok (both (bnd (NF h) t).1 (bnd (NF h) t).2) st := r_lb t hw 97 (by omega) st
  have c2 : callT (tabs prog 99) 12 [toD t, .dic (kvsF h)] st = .ok (pr (bnd (NF h) t).1.1 (bnd (NF h) t).1.2) st := r_bounds t hw 93 (by omega) st
  have c3 : callT (tabs prog 99) 13 [toD t, .dic (kvsF h)] st = .ok (.bl (bnd (NF h) t).2) st := r_safe t hw 93 (by omega) st
  have c4 : callT (tabs prog 99) 14 [toD t] st = .ok (.bl (quiet t)) st := r_isquiet t 96 (by omega) (by omega) st
  have c5 : callT (tabs prog 99) 25 [toD t] st = .ok (.bl (quiet t)) st := r_lq t 97 (by omega) st
  have c6 : callT (tabs prog 99) 15 [toD t, .dic (kvsF h)] st = .ok (.bl (quiet t && (bnd (NF h) t).2)) st := r_still t hw 92 (by omega) (by omega) st
  generalize bnd (NF h) t = B at c1 c2 c3 c6
  generalize tabs prog 99 = T at *
  refine ⟨.val (.int h), .val (.dic (kvsF h)), .val (toD t), .val (pr B.1.1 B.1.2), .val (.bl B.2), s9, s10, ?_⟩
  have e1 : callT T 17 [.int more, .int i] st = .ok (.int h) st := by rw [hd0, hh]
  have e2 : callT T 20 [.int (drawnF h 9), .int n, .tup [.str [120], .str [97, 99, 99], .str [97, 116]]] st = .ok (toD t) st := by rw [htt]; exact ht _
  simp only [kvsF, nx, na, nt] at c1 c2 c3 c6 ⊢
  cases hq : quiet t <;> rw [hq] at c4 c5 c6 <;> cases hB : B.2 <;> rw [hB] at c1 c3 c6 <;>
    simp [innerB, outerB, forBody, hdS, tlS, d_law, startEnv, startIni, execSs, execS, evalE, evalEs, evalA, evalO, evalA1, evalC, evalI, Out.bind, Out.so, Out.ofO, varD, bindTg, nextO, blt, bLen, bAbs, bMax2, bMin2, bInt, bList, bTuple, bSum, bAll, bAny, bMin1, bMax1, bIsinst, bDictPairs, bDictCopy, op2, cmp2, atD, ixN, cutD, cutL, sIx, asI, asB, asIs, asBs, big, freezeS, compGo, forGo, items, itemsL, rangeD, upto, lookT, isIn, eqO, scrOk, isData, isDatas, dep, deps, dq_ss, dq_ii, dq_tt, dq_nil, dq_cons, dq_scr0, dq_scr1, flat, fldD, getF, methF, tyIs, pairsOf, mulOk, minI, maxI, finO, callT_c, callT_s, List.lookup, pg0, pg1, pg2, pc0, e1, e2, hd0, hp, hn, c1, c2, c3, c4, c5, c6, dq_bb]
theorem forGo_inv {F : D → Env → Store → SO} {Inv : Env → Prop} {st : Store} : ∀ {xs : List D} {env : Env}, Inv env → (∀ x ∈ xs, ∀ env, Inv env → ∃ env', F x env st = .next env' st ∧ Inv env') → ∃ env', forGo F xs env st = .next env' st ∧ Inv env'
  | [], env, h, _ => ⟨env, rfl, h⟩
  | x :: r, env, h, q => by
    obtain ⟨e1, f1, i1⟩ := q x List.mem_cons_self env h
    obtain ⟨e2, f2, i2⟩ := forGo_inv i1 fun y hy => q y (List.mem_cons_of_mem _ hy)
    exact ⟨e2, by unfold forGo; rw [f1]; exact f2, i2⟩
theorem mem_upto {x : D} : ∀ {n : Nat} {lo : Int}, x ∈ (upto lo n).map D.int → ∃ i, x = .int i ∧ lo ≤ i
  | 0, lo, h => by simp [upto] at h
  | n + 1, lo, h => by
    simp only [upto, List.map_cons, List.mem_cons] at h
    rcases h with rfl | h
    · exact ⟨lo, rfl, Int.le_refl _⟩
    · obtain ⟨i, e, q⟩ := mem_upto h
      exact ⟨i, e, by omega⟩
def Inv1 (ns : List Int) (env : Env) : Prop := ∃ s1 s2 s3 s4 s5 s6 s7 s8 s9 s10, env = [.val (.scr ns), s1, s2, s3, s4, s5, s6, s7, s8, s9, s10]
def Inv2 (ns : List Int) (more : Int) (env : Env) : Prop := ∃ s1 s3 s4 s5 s6 s7 s8 s9 s10, env = [.val (.scr ns), s1, .val (.int more), s3, s4, s5, s6, s7, s8, s9, s10]
theorem outer_run (i : Int) (hi : 0 ≤ i) (ns : List Int) (hl : ns.length ≤ 63) (s2 s3 s4 s5 s6 s7 s8 s9 s10 : Slot) (st : Store) : ∃ env', execSs prog (tabs prog 99) outerB [.val (.scr ns), .val (.int i), s2, s3, s4, s5, s6, s7, s8, s9, s10] st = .next env' st ∧ Inv1 ns env' := by
  have c1 : callT (tabs prog 99) 16 [.scr ns, .int i] st = .ok (.int (cellF ns i)) st := r_cell (tabs prog 98) ns i st hl hi
  have c2 : callT (tabs prog 99) 17 [.int (cellF ns i), .int i] st = .ok (.int (drawnF (cellF ns i) i)) st := r_drawn (tabs prog 98) _ _ st
  have inn := fun j s1 more s4 s5 s6 s7 s8 s9 s10 => inner_run j ns s1 more s4 s5 s6 s7 s8 s9 s10 st
  generalize drawnF (cellF ns i) i = more at c2
  obtain ⟨e, ge, i2⟩ := forGo_inv (F := fun x env st => match bindTg (.one 3) x env with
      | some env => execSs prog (tabs prog 99) innerB env st
      | none => .bad) (Inv := Inv2 ns more) (st := st) (xs := (upto 0 8).map D.int) (env := [.val (.scr ns), .val (.int i), .val (.int more), s3, s4, s5, s6, s7, s8, s9, s10]) ⟨_, _, _, _, _, _, _, _, _, rfl⟩ (fun x hx env h => by
        obtain ⟨s1, s3, s4, s5, s6, s7, s8, s9, s10, rfl⟩ := h
        obtain ⟨j, rfl, _⟩ := mem_upto hx
        obtain ⟨a4, a5, a6, a7, a8, a9, a10, q⟩ := inn j s1 more s4 s5 s6 s7 s8 s9 s10
        exact ⟨_, q, _, _, _, _, _, _, _, _, _, rfl⟩)
  have eo : outerB = .cons (.set (.one 2) (.call 17 (.cons (.call 16 (.cons (.var 0) (.cons (.var 1) .nil))) (.cons (.var 1) .nil)))) (.cons (.for_ (.one 3) (.range1 (.lit (.int 8))) innerB) .nil) := rfl
  generalize tabs prog 99 = T at *
  have h1 : execS prog T (.set (.one 2) (.call 17 (.cons (.call 16 (.cons (.var 0) (.cons (.var 1) .nil))) (.cons (.var 1) .nil)))) [.val (.scr ns), .val (.int i), s2, s3, s4, s5, s6, s7, s8, s9, s10] st = .next [.val (.scr ns), .val (.int i), .val (.int more), s3, s4, s5, s6, s7, s8, s9, s10] st := by
    simp [startEnv, startIni, execSs, execS, evalE, evalEs, evalA, evalO, evalA1, evalC, evalI, Out.bind, Out.so, Out.ofO, varD, bindTg, nextO, blt, bLen, bAbs, bMax2, bMin2, bInt, bList, bTuple, bSum, bAll, bAny, bMin1, bMax1, bIsinst, bDictPairs, bDictCopy, op2, cmp2, atD, ixN, cutD, cutL, sIx, asI, asB, asIs, asBs, big, freezeS, compGo, forGo, items, itemsL, rangeD, upto, lookT, isIn, eqO, scrOk, isData, isDatas, dep, deps, dq_ss, dq_ii, dq_tt, dq_nil, dq_cons, dq_scr0, dq_scr1, flat, fldD, getF, methF, tyIs, pairsOf, mulOk, minI, maxI, finO, callT_c, callT_s, List.lookup, pg0, pg1, pg2, pc0, c1, c2]
  have h2 : execS prog T (.for_ (.one 3) (.range1 (.lit (.int 8))) innerB) [.val (.scr ns), .val (.int i), .val (.int more), s3, s4, s5, s6, s7, s8, s9, s10] st = .next e st := ge
  rw [eo]
  unfold execSs
  rw [h1]
  simp only []
  unfold execSs
  rw [h2]
  simp only []
  unfold execSs
  refine ⟨e, rfl, ?_⟩
  obtain ⟨s1, s3, s4, s5, s6, s7, s8, s9, s10, rfl⟩ := i2
  exact ⟨_, _, _, _, _, _, _, _, _, _, rfl⟩
theorem plain_law (ns : List Int) (hl : ns.length ≤ 63) : ∃ st, callT (tabs prog 100) f_law [.scr ns] [] = .ok (.bl true) st := by
  refine ⟨[], ?_⟩
  have out := fun i hi s2 s3 s4 s5 s6 s7 s8 s9 s10 => outer_run i hi ns hl s2 s3 s4 s5 s6 s7 s8 s9 s10 []
  show runDef prog (tabs prog 99) f_law [.scr ns] [] = _
  rw [run_eq d_law rfl rfl rfl]
  have eb : d_law.body = .cons (.for_ (.one 1) (.range1 (.blt .max2 (.cons (.lit (.int 1)) (.cons (.blt .min2 (.cons (.lit (.int 4)) (.cons (.blt .len (.cons (.var 0) .nil)) .nil))) .nil)))) outerB) (.cons (.ret (.lit (.bl true))) .nil) := rfl
  have es : startEnv d_law.n [.scr ns] = [.val (.scr ns), .un, .un, .un, .un, .un, .un, .un, .un, .un, .un] := rfl
  obtain ⟨m, hm⟩ : ∃ m : Nat, evalI prog (tabs prog 99) (.range1 (.blt .max2 (.cons (.lit (.int 1)) (.cons (.blt .min2 (.cons (.lit (.int 4)) (.cons (.blt .len (.cons (.var 0) .nil)) .nil))) .nil)))) [.val (.scr ns), .un, .un, .un, .un, .un, .un, .un, .un, .un, .un] [] = .ok ((upto 0 m).map D.int) [] := by
    have hx : ∃ x : Int, 1 ≤ x ∧ x ≤ 4 ∧ evalE prog (tabs prog 99) (.blt .max2 (.cons (.lit (.int 1)) (.cons (.blt .min2 (.cons (.lit (.int 4)) (.cons (.blt .len (.cons (.var 0) .nil)) .nil))) .nil))) [.val (.scr ns), .un, .un, .un, .un, .un, .un, .un, .un, .un, .un] [] = .ok (.int x) [] := by
      refine ⟨_, ?_, ?_, by simp [startEnv, startIni, execSs, execS, evalE, evalEs, evalA, evalO, evalA1, evalC, evalI, Out.bind, Out.so, Out.ofO, varD, bindTg, nextO, blt, bLen, bAbs, bMax2, bMin2, bInt, bList, bTuple, bSum, bAll, bAny, bMin1, bMax1, bIsinst, bDictPairs, bDictCopy, op2, cmp2, atD, ixN, cutD, cutL, sIx, asI, asB, asIs, asBs, big, freezeS, compGo, forGo, items, itemsL, rangeD, upto, lookT, isIn, eqO, scrOk, isData, isDatas, dep, deps, dq_ss, dq_ii, dq_tt, dq_nil, dq_cons, dq_scr0, dq_scr1, flat, fldD, getF, methF, tyIs, pairsOf, mulOk, minI, maxI, finO, callT_c, callT_s, List.lookup, pg0, pg1, pg2, pc0]; rfl⟩
      · (repeat' split) <;> omega
      · (repeat' split) <;> omega
    obtain ⟨x, x1, x2, hx⟩ := hx
    refine ⟨x.toNat, ?_⟩
    simp only [evalI, hx, Out.bind_ok, asI, Option.bind_some]
    have : rangeD 0 x = some ((upto 0 x.toNat).map D.int) := by
      unfold rangeD
      rw [if_pos (by unfold big; omega), Int.sub_zero]
    rw [this]
    rfl
  obtain ⟨e, ge, _⟩ := forGo_inv (F := fun x env st => match bindTg (.one 1) x env with
      | some env => execSs prog (tabs prog 99) outerB env st
      | none => .bad) (Inv := Inv1 ns) (st := []) (xs := (upto 0 m).map D.int) (env := [.val (.scr ns), .un, .un, .un, .un, .un, .un, .un, .un, .un, .un]) ⟨_, _, _, _, _, _, _, _, _, _, rfl⟩ (fun x hx env h => by
        obtain ⟨s1, s2, s3, s4, s5, s6, s7, s8, s9, s10, rfl⟩ := h
        obtain ⟨j, rfl, hj⟩ := mem_upto hx
        exact out j hj s2 s3 s4 s5 s6 s7 s8 s9 s10)
  have h1 : execS prog (tabs prog 99) (.for_ (.one 1) (.range1 (.blt .max2 (.cons (.lit (.int 1)) (.cons (.blt .min2 (.cons (.lit (.int 4)) (.cons (.blt .len (.cons (.var 0) .nil)) .nil))) .nil)))) outerB) [.val (.scr ns), .un, .un, .un, .un, .un, .un, .un, .un, .un, .un] [] = .next e [] := by
    unfold execS
    rw [hm]
    exact ge
  rw [eb, es]
  unfold execSs
  rw [h1]
  rfl
end K20

set_option Elab.async false
set_option linter.all false
set_option maxRecDepth 100000
set_option maxHeartbeats 0
namespace K20
open Fw PySem PySem.Spec PyProof.Rows L2
def top (i : Nat) : Stmt := PySem.Challenge.pw_fusewalk_k20_whole_bounds_told.main.body.getD i (.Pass ⟨0, 0, 0, 0⟩)
def nm : Nm := ⟨["MOST_NUMBER", "ALL", "TRUTH"],
  ["inner", "all_in", "cut", "hull", "is_fit", "products", "part_bounds", "rest_bounds", "sum_facts", "compared", "two_facts", "facts_of", "bounds_of", "is_safe", "is_quiet", "is_still", "_law_cell", "_law_drawn", "_law_number", "_law_leaf", "_law_term", "_law_ends", "_law_cut", "_law_compared", "_law_bounds", "_law_quiet", "_law_pair", "law", ""],
  ["Facts"], [],
  ["len", "min", "max", "list", "tuple", "all", "dict", "isinstance", "range", "enumerate"]⟩
abbrev st_0 : Stmt := top 2
abbrev N_0 : List Str := ["term"]
abbrev P_0 : List Str := ["term"]
theorem sc_0 : C8.scC N_0 P_0 (C8.fnScope st_0) = true := by decide +kernel
theorem ck_0 : chkSs ⟨nm, prog, N_0⟩ (C8.fnScope st_0) d_inner.body (C8.fnBody st_0) = true := by decide +kernel
abbrev st_1 : Stmt := top 3
abbrev N_1 : List Str := ["term", "found", "one"]
abbrev P_1 : List Str := ["term"]
theorem sc_1 : C8.scC N_1 P_1 (C8.fnScope st_1) = true := by decide +kernel
theorem ck_1 : chkSs ⟨nm, prog, N_1⟩ (C8.fnScope st_1) d_all_in.body (C8.fnBody st_1) = true := by decide +kernel
abbrev st_2 : Stmt := top 7
abbrev N_2 : List Str := ["low", "high", "found"]
abbrev P_2 : List Str := ["low", "high"]
theorem sc_2 : C8.scC N_2 P_2 (C8.fnScope st_2) = true := by decide +kernel
theorem ck_2 : chkSs ⟨nm, prog, N_2⟩ (C8.fnScope st_2) d_cut.body (C8.fnBody st_2) = true := by decide +kernel
abbrev st_3 : Stmt := top 8
abbrev N_3 : List Str := ["one", "other"]
abbrev P_3 : List Str := ["one", "other"]
theorem sc_3 : C8.scC N_3 P_3 (C8.fnScope st_3) = true := by decide +kernel
theorem ck_3 : chkSs ⟨nm, prog, N_3⟩ (C8.fnScope st_3) d_hull.body (C8.fnBody st_3) = true := by decide +kernel
abbrev st_4 : Stmt := top 9
abbrev N_4 : List Str := ["low", "high"]
abbrev P_4 : List Str := ["low", "high"]
theorem sc_4 : C8.scC N_4 P_4 (C8.fnScope st_4) = true := by decide +kernel
theorem ck_4 : chkSs ⟨nm, prog, N_4⟩ (C8.fnScope st_4) d_is_fit.body (C8.fnBody st_4) = true := by decide +kernel
abbrev st_5 : Stmt := top 10
abbrev N_5 : List Str := ["one", "other", "found"]
abbrev P_5 : List Str := ["one", "other"]
theorem sc_5 : C8.scC N_5 P_5 (C8.fnScope st_5) = true := by decide +kernel
theorem ck_5 : chkSs ⟨nm, prog, N_5⟩ (C8.fnScope st_5) d_products.body (C8.fnBody st_5) = true := by decide +kernel
abbrev st_6 : Stmt := top 11
abbrev N_6 : List Str := ["one", "other", "found"]
abbrev P_6 : List Str := ["one", "other"]
theorem sc_6 : C8.scC N_6 P_6 (C8.fnScope st_6) = true := by decide +kernel
theorem ck_6 : chkSs ⟨nm, prog, N_6⟩ (C8.fnScope st_6) d_part_bounds.body (C8.fnBody st_6) = true := by decide +kernel
abbrev st_7 : Stmt := top 12
abbrev N_7 : List Str := ["one", "other", "low", "high"]
abbrev P_7 : List Str := ["one", "other"]
theorem sc_7 : C8.scC N_7 P_7 (C8.fnScope st_7) = true := by decide +kernel
theorem ck_7 : chkSs ⟨nm, prog, N_7⟩ (C8.fnScope st_7) d_rest_bounds.body (C8.fnBody st_7) = true := by decide +kernel
abbrev st_8 : Stmt := top 14
abbrev N_8 : List Str := ["word", "one", "other", "low", "high"]
abbrev P_8 : List Str := ["word", "one", "other"]
theorem sc_8 : C8.scC N_8 P_8 (C8.fnScope st_8) = true := by decide +kernel
theorem ck_8 : chkSs ⟨nm, prog, N_8⟩ (C8.fnScope st_8) d_sum_facts.body (C8.fnBody st_8) = true := by decide +kernel
abbrev st_9 : Stmt := top 15
abbrev N_9 : List Str := ["word", "one", "other"]
abbrev P_9 : List Str := ["word", "one", "other"]
theorem sc_9 : C8.scC N_9 P_9 (C8.fnScope st_9) = true := by decide +kernel
theorem ck_9 : chkSs ⟨nm, prog, N_9⟩ (C8.fnScope st_9) d_compared.body (C8.fnBody st_9) = true := by decide +kernel
abbrev st_10 : Stmt := top 16
abbrev N_10 : List Str := ["word", "one", "other"]
abbrev P_10 : List Str := ["word", "one", "other"]
theorem sc_10 : C8.scC N_10 P_10 (C8.fnScope st_10) = true := by decide +kernel
theorem ck_10 : chkSs ⟨nm, prog, N_10⟩ (C8.fnScope st_10) d_two_facts.body (C8.fnBody st_10) = true := by decide +kernel
abbrev st_11 : Stmt := top 17
abbrev N_11 : List Str := ["term", "names", "word", "found", "made", "asked", "one"]
abbrev P_11 : List Str := ["term", "names"]
theorem sc_11 : C8.scC N_11 P_11 (C8.fnScope st_11) = true := by decide +kernel
theorem ck_11 : chkSs ⟨nm, prog, N_11⟩ (C8.fnScope st_11) d_facts_of.body (C8.fnBody st_11) = true := by decide +kernel
abbrev st_12 : Stmt := top 18
abbrev N_12 : List Str := ["term", "names"]
abbrev P_12 : List Str := ["term", "names"]
theorem sc_12 : C8.scC N_12 P_12 (C8.fnScope st_12) = true := by decide +kernel
theorem ck_12 : chkSs ⟨nm, prog, N_12⟩ (C8.fnScope st_12) d_bounds_of.body (C8.fnBody st_12) = true := by decide +kernel
abbrev st_13 : Stmt := top 19
abbrev N_13 : List Str := ["term", "names"]
abbrev P_13 : List Str := ["term", "names"]
theorem sc_13 : C8.scC N_13 P_13 (C8.fnScope st_13) = true := by decide +kernel
theorem ck_13 : chkSs ⟨nm, prog, N_13⟩ (C8.fnScope st_13) d_is_safe.body (C8.fnBody st_13) = true := by decide +kernel
abbrev st_14 : Stmt := top 20
abbrev N_14 : List Str := ["term", "one"]
abbrev P_14 : List Str := ["term"]
theorem sc_14 : C8.scC N_14 P_14 (C8.fnScope st_14) = true := by decide +kernel
theorem ck_14 : chkSs ⟨nm, prog, N_14⟩ (C8.fnScope st_14) d_is_quiet.body (C8.fnBody st_14) = true := by decide +kernel
abbrev st_15 : Stmt := top 21
abbrev N_15 : List Str := ["term", "names"]
abbrev P_15 : List Str := ["term", "names"]
theorem sc_15 : C8.scC N_15 P_15 (C8.fnScope st_15) = true := by decide +kernel
theorem ck_15 : chkSs ⟨nm, prog, N_15⟩ (C8.fnScope st_15) d_is_still.body (C8.fnBody st_15) = true := by decide +kernel
abbrev st_16 : Stmt := top 23
abbrev N_16 : List Str := ["_law_script", "_law_k"]
abbrev P_16 : List Str := ["_law_script", "_law_k"]
theorem sc_16 : C8.scC N_16 P_16 (C8.fnScope st_16) = true := by decide +kernel
theorem ck_16 : chkSs ⟨nm, prog, N_16⟩ (C8.fnScope st_16) d__law_cell.body (C8.fnBody st_16) = true := by decide +kernel
abbrev st_17 : Stmt := top 24
abbrev N_17 : List Str := ["_law_cell_here", "_law_k", "_law_more"]
abbrev P_17 : List Str := ["_law_cell_here", "_law_k"]
theorem sc_17 : C8.scC N_17 P_17 (C8.fnScope st_17) = true := by decide +kernel
theorem ck_17 : chkSs ⟨nm, prog, N_17⟩ (C8.fnScope st_17) d__law_drawn.body (C8.fnBody st_17) = true := by decide +kernel
abbrev st_18 : Stmt := top 25
abbrev N_18 : List Str := ["_law_more", "_law_here"]
abbrev P_18 : List Str := ["_law_more"]
theorem sc_18 : C8.scC N_18 P_18 (C8.fnScope st_18) = true := by decide +kernel
theorem ck_18 : chkSs ⟨nm, prog, N_18⟩ (C8.fnScope st_18) d__law_number.body (C8.fnBody st_18) = true := by decide +kernel
abbrev st_19 : Stmt := top 26
abbrev N_19 : List Str := ["_law_more", "_law_names"]
abbrev P_19 : List Str := ["_law_more", "_law_names"]
theorem sc_19 : C8.scC N_19 P_19 (C8.fnScope st_19) = true := by decide +kernel
theorem ck_19 : chkSs ⟨nm, prog, N_19⟩ (C8.fnScope st_19) d__law_leaf.body (C8.fnBody st_19) = true := by decide +kernel
abbrev st_20 : Stmt := top 27
abbrev N_20 : List Str := ["_law_more", "_law_deep", "_law_names", "_law_here", "_law_row", "_law_way", "_law_words", "_law_j"]
abbrev P_20 : List Str := ["_law_more", "_law_deep", "_law_names"]
theorem sc_20 : C8.scC N_20 P_20 (C8.fnScope st_20) = true := by decide +kernel
theorem ck_20 : chkSs ⟨nm, prog, N_20⟩ (C8.fnScope st_20) d__law_term.body (C8.fnBody st_20) = true := by decide +kernel
abbrev st_21 : Stmt := top 28
abbrev N_21 : List Str := ["_law_one", "_law_other", "_law_word", "_law_found", "_law_a", "_law_b", "_law_sums"]
abbrev P_21 : List Str := ["_law_one", "_law_other", "_law_word"]
theorem sc_21 : C8.scC N_21 P_21 (C8.fnScope st_21) = true := by decide +kernel
theorem ck_21 : chkSs ⟨nm, prog, N_21⟩ (C8.fnScope st_21) d__law_ends.body (C8.fnBody st_21) = true := by decide +kernel
abbrev st_22 : Stmt := top 29
abbrev N_22 : List Str := ["_law_pair_here"]
abbrev P_22 : List Str := ["_law_pair_here"]
theorem sc_22 : C8.scC N_22 P_22 (C8.fnScope st_22) = true := by decide +kernel
theorem ck_22 : chkSs ⟨nm, prog, N_22⟩ (C8.fnScope st_22) d__law_cut.body (C8.fnBody st_22) = true := by decide +kernel
abbrev st_23 : Stmt := top 30
abbrev N_23 : List Str := ["_law_word", "_law_one", "_law_other"]
abbrev P_23 : List Str := ["_law_word", "_law_one", "_law_other"]
theorem sc_23 : C8.scC N_23 P_23 (C8.fnScope st_23) = true := by decide +kernel
theorem ck_23 : chkSs ⟨nm, prog, N_23⟩ (C8.fnScope st_23) d__law_compared.body (C8.fnBody st_23) = true := by decide +kernel
abbrev st_24 : Stmt := top 31
abbrev N_24 : List Str := ["_law_term_here", "_law_names", "_law_word", "_law_some", "_law_second", "_law_is_well", "_law_first", "_law_both", "_law_ends_here", "_law_one"]
abbrev P_24 : List Str := ["_law_term_here", "_law_names"]
theorem sc_24 : C8.scC N_24 P_24 (C8.fnScope st_24) = true := by decide +kernel
theorem ck_24 : chkSs ⟨nm, prog, N_24⟩ (C8.fnScope st_24) d__law_bounds.body (C8.fnBody st_24) = true := by decide +kernel
abbrev st_25 : Stmt := top 32
abbrev N_25 : List Str := ["_law_term_here", "_law_one"]
abbrev P_25 : List Str := ["_law_term_here"]
theorem sc_25 : C8.scC N_25 P_25 (C8.fnScope st_25) = true := by decide +kernel
theorem ck_25 : chkSs ⟨nm, prog, N_25⟩ (C8.fnScope st_25) d__law_quiet.body (C8.fnBody st_25) = true := by decide +kernel
abbrev st_26 : Stmt := top 33
abbrev N_26 : List Str := ["_law_more", "_law_one", "_law_other"]
abbrev P_26 : List Str := ["_law_more"]
theorem sc_26 : C8.scC N_26 P_26 (C8.fnScope st_26) = true := by decide +kernel
theorem ck_26 : chkSs ⟨nm, prog, N_26⟩ (C8.fnScope st_26) d__law_pair.body (C8.fnBody st_26) = true := by decide +kernel
abbrev st_27 : Stmt := top 34
abbrev N_27 : List Str := ["_law_script", "_law_k", "_law_more", "_law_j", "_law_here", "_law_names", "_law_term_here", "_law_due", "_law_is_well", "_law_n", "_law_name"]
abbrev P_27 : List Str := ["_law_script"]
theorem sc_27 : C8.scC N_27 P_27 (C8.fnScope st_27) = true := by decide +kernel
theorem ck_27 : chkSs ⟨nm, prog, N_27⟩ (C8.fnScope st_27) d_law.body (C8.fnBody st_27) = true := by decide +kernel
abbrev st_28 : Stmt := inClass (top 13) 0
abbrev N_28 : List Str := ["self", "bounds", "is_safe"]
abbrev P_28 : List Str := ["self", "bounds", "is_safe"]
theorem sc_28 : C8.scC N_28 P_28 (C8.fnScope st_28) = true := by decide +kernel
theorem ck_28 : chkSs ⟨nm, prog, N_28⟩ (C8.fnScope st_28) d_Facts___init__.body (C8.fnBody st_28) = true := by decide +kernel
section
variable {P : Program} {w : World} {K : PySem.W.Frag} {mg : Str → Option Value} {base : Heap}
abbrev gd (P : Program) (w : World) (K : PySem.W.Frag) (mg : Str → Option Value) (base : Heap) (cA fA : Nat → Addr) (fD : Nat → FuncData) : Gd := ⟨P, w, K, mg, base, prog, cA, fun _ => 0, fA, fD, fun i => ([P_0, P_1, P_2, P_3, P_4, P_5, P_6, P_7, P_8, P_9, P_10, P_11, P_12, P_13, P_14, P_15, P_16, P_17, P_18, P_19, P_20, P_21, P_22, P_23, P_24, P_25, P_26, P_27, P_28] : List (List Str)).getD i [], []⟩
theorem stat {cA fA : Nat → Addr} {fD : Nat → FuncData}
    (aC0 : mg "Facts" = some (.ref (cA 0))) (cl0 : Cls K (cA 0)) (mk0 : Mk K (cA 0) (fA 28))
    (n0_0 : NoAttr K (cA 0) (sOf [98, 111, 117, 110, 100, 115]))
    (n0_1 : NoAttr K (cA 0) (sOf [105, 115, 95, 115, 97, 102, 101]))
    (a0 : mg "inner" = some (.ref (fA 0)))
    (F0 : C8.Fun K "inner" "inner" st_0 (fA 0) (fD 0)) (b0 : Binds K (fD 0) P_0 []) (k0 : PySem.W.keepIn K (.ref (fA 0)) = true)
    (a1 : mg "all_in" = some (.ref (fA 1)))
    (F1 : C8.Fun K "all_in" "all_in" st_1 (fA 1) (fD 1)) (b1 : Binds K (fD 1) P_1 []) (k1 : PySem.W.keepIn K (.ref (fA 1)) = true)
    (a2 : mg "cut" = some (.ref (fA 2)))
    (F2 : C8.Fun K "cut" "cut" st_2 (fA 2) (fD 2)) (b2 : Binds K (fD 2) P_2 []) (k2 : PySem.W.keepIn K (.ref (fA 2)) = true)
    (a3 : mg "hull" = some (.ref (fA 3)))
    (F3 : C8.Fun K "hull" "hull" st_3 (fA 3) (fD 3)) (b3 : Binds K (fD 3) P_3 []) (k3 : PySem.W.keepIn K (.ref (fA 3)) = true)
    (a4 : mg "is_fit" = some (.ref (fA 4)))
    (F4 : C8.Fun K "is_fit" "is_fit" st_4 (fA 4) (fD 4)) (b4 : Binds K (fD 4) P_4 []) (k4 : PySem.W.keepIn K (.ref (fA 4)) = true)
    (a5 : mg "products" = some (.ref (fA 5)))
    (F5 : C8.Fun K "products" "products" st_5 (fA 5) (fD 5)) (b5 : Binds K (fD 5) P_5 []) (k5 : PySem.W.keepIn K (.ref (fA 5)) = true)
    (a6 : mg "part_bounds" = some (.ref (fA 6)))
    (F6 : C8.Fun K "part_bounds" "part_bounds" st_6 (fA 6) (fD 6)) (b6 : Binds K (fD 6) P_6 []) (k6 : PySem.W.keepIn K (.ref (fA 6)) = true)
    (a7 : mg "rest_bounds" = some (.ref (fA 7)))
    (F7 : C8.Fun K "rest_bounds" "rest_bounds" st_7 (fA 7) (fD 7)) (b7 : Binds K (fD 7) P_7 []) (k7 : PySem.W.keepIn K (.ref (fA 7)) = true)
    (a8 : mg "sum_facts" = some (.ref (fA 8)))
    (F8 : C8.Fun K "sum_facts" "sum_facts" st_8 (fA 8) (fD 8)) (b8 : Binds K (fD 8) P_8 []) (k8 : PySem.W.keepIn K (.ref (fA 8)) = true)
    (a9 : mg "compared" = some (.ref (fA 9)))
    (F9 : C8.Fun K "compared" "compared" st_9 (fA 9) (fD 9)) (b9 : Binds K (fD 9) P_9 []) (k9 : PySem.W.keepIn K (.ref (fA 9)) = true)
    (a10 : mg "two_facts" = some (.ref (fA 10)))
    (F10 : C8.Fun K "two_facts" "two_facts" st_10 (fA 10) (fD 10)) (b10 : Binds K (fD 10) P_10 []) (k10 : PySem.W.keepIn K (.ref (fA 10)) = true)
    (a11 : mg "facts_of" = some (.ref (fA 11)))
    (F11 : C8.Fun K "facts_of" "facts_of" st_11 (fA 11) (fD 11)) (b11 : Binds K (fD 11) P_11 []) (k11 : PySem.W.keepIn K (.ref (fA 11)) = true)
    (a12 : mg "bounds_of" = some (.ref (fA 12)))
    (F12 : C8.Fun K "bounds_of" "bounds_of" st_12 (fA 12) (fD 12)) (b12 : Binds K (fD 12) P_12 []) (k12 : PySem.W.keepIn K (.ref (fA 12)) = true)
    (a13 : mg "is_safe" = some (.ref (fA 13)))
    (F13 : C8.Fun K "is_safe" "is_safe" st_13 (fA 13) (fD 13)) (b13 : Binds K (fD 13) P_13 []) (k13 : PySem.W.keepIn K (.ref (fA 13)) = true)
    (a14 : mg "is_quiet" = some (.ref (fA 14)))
    (F14 : C8.Fun K "is_quiet" "is_quiet" st_14 (fA 14) (fD 14)) (b14 : Binds K (fD 14) P_14 []) (k14 : PySem.W.keepIn K (.ref (fA 14)) = true)
    (a15 : mg "is_still" = some (.ref (fA 15)))
    (F15 : C8.Fun K "is_still" "is_still" st_15 (fA 15) (fD 15)) (b15 : Binds K (fD 15) P_15 []) (k15 : PySem.W.keepIn K (.ref (fA 15)) = true)
    (a16 : mg "_law_cell" = some (.ref (fA 16)))
    (F16 : C8.Fun K "_law_cell" "_law_cell" st_16 (fA 16) (fD 16)) (b16 : Binds K (fD 16) P_16 []) (k16 : PySem.W.keepIn K (.ref (fA 16)) = true)
    (a17 : mg "_law_drawn" = some (.ref (fA 17)))
    (F17 : C8.Fun K "_law_drawn" "_law_drawn" st_17 (fA 17) (fD 17)) (b17 : Binds K (fD 17) P_17 []) (k17 : PySem.W.keepIn K (.ref (fA 17)) = true)
    (a18 : mg "_law_number" = some (.ref (fA 18)))
    (F18 : C8.Fun K "_law_number" "_law_number" st_18 (fA 18) (fD 18)) (b18 : Binds K (fD 18) P_18 []) (k18 : PySem.W.keepIn K (.ref (fA 18)) = true)
    (a19 : mg "_law_leaf" = some (.ref (fA 19)))
    (F19 : C8.Fun K "_law_leaf" "_law_leaf" st_19 (fA 19) (fD 19)) (b19 : Binds K (fD 19) P_19 []) (k19 : PySem.W.keepIn K (.ref (fA 19)) = true)
    (a20 : mg "_law_term" = some (.ref (fA 20)))
    (F20 : C8.Fun K "_law_term" "_law_term" st_20 (fA 20) (fD 20)) (b20 : Binds K (fD 20) P_20 []) (k20 : PySem.W.keepIn K (.ref (fA 20)) = true)
    (a21 : mg "_law_ends" = some (.ref (fA 21)))
    (F21 : C8.Fun K "_law_ends" "_law_ends" st_21 (fA 21) (fD 21)) (b21 : Binds K (fD 21) P_21 []) (k21 : PySem.W.keepIn K (.ref (fA 21)) = true)
    (a22 : mg "_law_cut" = some (.ref (fA 22)))
    (F22 : C8.Fun K "_law_cut" "_law_cut" st_22 (fA 22) (fD 22)) (b22 : Binds K (fD 22) P_22 []) (k22 : PySem.W.keepIn K (.ref (fA 22)) = true)
    (a23 : mg "_law_compared" = some (.ref (fA 23)))
    (F23 : C8.Fun K "_law_compared" "_law_compared" st_23 (fA 23) (fD 23)) (b23 : Binds K (fD 23) P_23 []) (k23 : PySem.W.keepIn K (.ref (fA 23)) = true)
    (a24 : mg "_law_bounds" = some (.ref (fA 24)))
    (F24 : C8.Fun K "_law_bounds" "_law_bounds" st_24 (fA 24) (fD 24)) (b24 : Binds K (fD 24) P_24 []) (k24 : PySem.W.keepIn K (.ref (fA 24)) = true)
    (a25 : mg "_law_quiet" = some (.ref (fA 25)))
    (F25 : C8.Fun K "_law_quiet" "_law_quiet" st_25 (fA 25) (fD 25)) (b25 : Binds K (fD 25) P_25 []) (k25 : PySem.W.keepIn K (.ref (fA 25)) = true)
    (a26 : mg "_law_pair" = some (.ref (fA 26)))
    (F26 : C8.Fun K "_law_pair" "_law_pair" st_26 (fA 26) (fD 26)) (b26 : Binds K (fD 26) P_26 []) (k26 : PySem.W.keepIn K (.ref (fA 26)) = true)
    (a27 : mg "law" = some (.ref (fA 27)))
    (F27 : C8.Fun K "law" "law" st_27 (fA 27) (fD 27)) (b27 : Binds K (fD 27) P_27 []) (k27 : PySem.W.keepIn K (.ref (fA 27)) = true)
    (F28 : C8.Fun K "__init__" "Facts.__init__" st_28 (fA 28) (fD 28)) (b28 : Binds K (fD 28) P_28 []) (k28 : PySem.W.keepIn K (.ref (fA 28)) = true)
    (g0 : ∃ d v u, prog.globs[0]? = some d ∧ mg "MOST_NUMBER" = some u ∧ RelV v u ∧ ∀ z, R (gd P w K mg base cA fA fD) z d v)
    (g1 : ∃ d v u, prog.globs[1]? = some d ∧ mg "ALL" = some u ∧ RelV v u ∧ ∀ z, R (gd P w K mg base cA fA fD) z d v)
    (g2 : ∃ d v u, prog.globs[2]? = some d ∧ mg "TRUTH" = some u ∧ RelV v u ∧ ∀ z, R (gd P w K mg base cA fA fD) z d v)
    (z0 : mg "len" = none)
    (z1 : mg "min" = none)
    (z2 : mg "max" = none)
    (z3 : mg "list" = none)
    (z4 : mg "tuple" = none)
    (z5 : mg "all" = none)
    (z6 : mg "dict" = none)
    (z7 : mg "isinstance" = none)
    (z8 : mg "range" = none)
    (z9 : mg "enumerate" = none) :
    Static (gd P w K mg base cA fA fD) nm := {
    globs := allAt (P := fun g (x : Str) => ∃ d v u, prog.globs[g]? = some d ∧ mg x = some u ∧ RelV v u ∧ ∀ z, R (gd P w K mg base cA fA fD) z d v) (l := nm.globs) (by exact ⟨g0, g1, g2, trivial⟩)
    fns := allAt (P := fun f (x : Str) => x ≠ "" → f < prog.defs.length ∧ mg x = some (.ref (fA f))) (l := nm.fns) (by exact ⟨fun _ => ⟨by decide, a0⟩, fun _ => ⟨by decide, a1⟩, fun _ => ⟨by decide, a2⟩, fun _ => ⟨by decide, a3⟩, fun _ => ⟨by decide, a4⟩, fun _ => ⟨by decide, a5⟩, fun _ => ⟨by decide, a6⟩, fun _ => ⟨by decide, a7⟩, fun _ => ⟨by decide, a8⟩, fun _ => ⟨by decide, a9⟩, fun _ => ⟨by decide, a10⟩, fun _ => ⟨by decide, a11⟩, fun _ => ⟨by decide, a12⟩, fun _ => ⟨by decide, a13⟩, fun _ => ⟨by decide, a14⟩, fun _ => ⟨by decide, a15⟩, fun _ => ⟨by decide, a16⟩, fun _ => ⟨by decide, a17⟩, fun _ => ⟨by decide, a18⟩, fun _ => ⟨by decide, a19⟩, fun _ => ⟨by decide, a20⟩, fun _ => ⟨by decide, a21⟩, fun _ => ⟨by decide, a22⟩, fun _ => ⟨by decide, a23⟩, fun _ => ⟨by decide, a24⟩, fun _ => ⟨by decide, a25⟩, fun _ => ⟨by decide, a26⟩, fun _ => ⟨by decide, a27⟩, fun h => absurd rfl h, trivial⟩)
    kp := fun f hf => match f, hf with
      | 0, _ => k0
      | 1, _ => k1
      | 2, _ => k2
      | 3, _ => k3
      | 4, _ => k4
      | 5, _ => k5
      | 6, _ => k6
      | 7, _ => k7
      | 8, _ => k8
      | 9, _ => k9
      | 10, _ => k10
      | 11, _ => k11
      | 12, _ => k12
      | 13, _ => k13
      | 14, _ => k14
      | 15, _ => k15
      | 16, _ => k16
      | 17, _ => k17
      | 18, _ => k18
      | 19, _ => k19
      | 20, _ => k20
      | 21, _ => k21
      | 22, _ => k22
      | 23, _ => k23
      | 24, _ => k24
      | 25, _ => k25
      | 26, _ => k26
      | 27, _ => k27
      | 28, _ => k28
      | n + 29, hf => absurd (show n + 29 < 29 from hf) (by omega)
    bd := fun f hf => match f, hf with
      | 0, _ => b0
      | 1, _ => b1
      | 2, _ => b2
      | 3, _ => b3
      | 4, _ => b4
      | 5, _ => b5
      | 6, _ => b6
      | 7, _ => b7
      | 8, _ => b8
      | 9, _ => b9
      | 10, _ => b10
      | 11, _ => b11
      | 12, _ => b12
      | 13, _ => b13
      | 14, _ => b14
      | 15, _ => b15
      | 16, _ => b16
      | 17, _ => b17
      | 18, _ => b18
      | 19, _ => b19
      | 20, _ => b20
      | 21, _ => b21
      | 22, _ => b22
      | 23, _ => b23
      | 24, _ => b24
      | 25, _ => b25
      | 26, _ => b26
      | 27, _ => b27
      | 28, _ => b28
      | n + 29, hf => absurd (show n + 29 < 29 from hf) (by omega)
    cls := fun c k e => match c, e with
      | 0, e => by
        cases e
        exact ⟨cl0, fun f hf => by
          simp only [List.mem_cons, List.not_mem_nil, or_false] at hf
          rcases hf with rfl | rfl
          all_goals first | exact n0_0 | exact n0_1, by decide, by decide⟩
      | n + 1, e => by simp [prog] at e
    ms := fun c k m f e h => match c, e with
      | 0, e => by
        cases e
        simp at h
      | n + 1, e => by simp [prog] at e
    mkC := fun c k e => match c, e with
      | 0, e => by
        cases e
        exact ⟨mk0, (by decide : 28 < 29), rfl⟩
      | n + 1, e => by simp [prog] at e
    clsN := allAt (P := fun c (x : Str) => mg x = some (.ref (cA c))) (l := nm.cls) (by exact ⟨aC0, trivial⟩)
    blts := fun x hx => by
      simp only [nm, List.mem_cons, List.not_mem_nil, or_false] at hx
      rcases hx with rfl | rfl | rfl | rfl | rfl | rfl | rfl | rfl | rfl | rfl
      all_goals first | exact z0 | exact z1 | exact z2 | exact z3 | exact z4 | exact z5 | exact z6 | exact z7 | exact z8 | exact z9 }
theorem dfs {cA fA : Nat → Addr} {fD : Nat → FuncData}
    (F0 : C8.Fun K "inner" "inner" st_0 (fA 0) (fD 0))
    (F1 : C8.Fun K "all_in" "all_in" st_1 (fA 1) (fD 1))
    (F2 : C8.Fun K "cut" "cut" st_2 (fA 2) (fD 2))
    (F3 : C8.Fun K "hull" "hull" st_3 (fA 3) (fD 3))
    (F4 : C8.Fun K "is_fit" "is_fit" st_4 (fA 4) (fD 4))
    (F5 : C8.Fun K "products" "products" st_5 (fA 5) (fD 5))
    (F6 : C8.Fun K "part_bounds" "part_bounds" st_6 (fA 6) (fD 6))
    (F7 : C8.Fun K "rest_bounds" "rest_bounds" st_7 (fA 7) (fD 7))
    (F8 : C8.Fun K "sum_facts" "sum_facts" st_8 (fA 8) (fD 8))
    (F9 : C8.Fun K "compared" "compared" st_9 (fA 9) (fD 9))
    (F10 : C8.Fun K "two_facts" "two_facts" st_10 (fA 10) (fD 10))
    (F11 : C8.Fun K "facts_of" "facts_of" st_11 (fA 11) (fD 11))
    (F12 : C8.Fun K "bounds_of" "bounds_of" st_12 (fA 12) (fD 12))
    (F13 : C8.Fun K "is_safe" "is_safe" st_13 (fA 13) (fD 13))
    (F14 : C8.Fun K "is_quiet" "is_quiet" st_14 (fA 14) (fD 14))
    (F15 : C8.Fun K "is_still" "is_still" st_15 (fA 15) (fD 15))
    (F16 : C8.Fun K "_law_cell" "_law_cell" st_16 (fA 16) (fD 16))
    (F17 : C8.Fun K "_law_drawn" "_law_drawn" st_17 (fA 17) (fD 17))
    (F18 : C8.Fun K "_law_number" "_law_number" st_18 (fA 18) (fD 18))
    (F19 : C8.Fun K "_law_leaf" "_law_leaf" st_19 (fA 19) (fD 19))
    (F20 : C8.Fun K "_law_term" "_law_term" st_20 (fA 20) (fD 20))
    (F21 : C8.Fun K "_law_ends" "_law_ends" st_21 (fA 21) (fD 21))
    (F22 : C8.Fun K "_law_cut" "_law_cut" st_22 (fA 22) (fD 22))
    (F23 : C8.Fun K "_law_compared" "_law_compared" st_23 (fA 23) (fD 23))
    (F24 : C8.Fun K "_law_bounds" "_law_bounds" st_24 (fA 24) (fD 24))
    (F25 : C8.Fun K "_law_quiet" "_law_quiet" st_25 (fA 25) (fD 25))
    (F26 : C8.Fun K "_law_pair" "_law_pair" st_26 (fA 26) (fD 26))
    (F27 : C8.Fun K "law" "law" st_27 (fA 27) (fD 27))
    (F28 : C8.Fun K "__init__" "Facts.__init__" st_28 (fA 28) (fD 28)) :
    ∀ f, f < prog.defs.length → DefOk (gd P w K mg base cA fA fD) nm f := fun f hf => match f, hf with
    | 0, _ => ⟨d_inner, N_0, _, _, st_0, rfl, F0, sc_0, ck_0, rfl, rfl, by decide⟩
    | 1, _ => ⟨d_all_in, N_1, _, _, st_1, rfl, F1, sc_1, ck_1, rfl, rfl, by decide⟩
    | 2, _ => ⟨d_cut, N_2, _, _, st_2, rfl, F2, sc_2, ck_2, rfl, rfl, by decide⟩
    | 3, _ => ⟨d_hull, N_3, _, _, st_3, rfl, F3, sc_3, ck_3, rfl, rfl, by decide⟩
    | 4, _ => ⟨d_is_fit, N_4, _, _, st_4, rfl, F4, sc_4, ck_4, rfl, rfl, by decide⟩
    | 5, _ => ⟨d_products, N_5, _, _, st_5, rfl, F5, sc_5, ck_5, rfl, rfl, by decide⟩
    | 6, _ => ⟨d_part_bounds, N_6, _, _, st_6, rfl, F6, sc_6, ck_6, rfl, rfl, by decide⟩
    | 7, _ => ⟨d_rest_bounds, N_7, _, _, st_7, rfl, F7, sc_7, ck_7, rfl, rfl, by decide⟩
    | 8, _ => ⟨d_sum_facts, N_8, _, _, st_8, rfl, F8, sc_8, ck_8, rfl, rfl, by decide⟩
    | 9, _ => ⟨d_compared, N_9, _, _, st_9, rfl, F9, sc_9, ck_9, rfl, rfl, by decide⟩
    | 10, _ => ⟨d_two_facts, N_10, _, _, st_10, rfl, F10, sc_10, ck_10, rfl, rfl, by decide⟩
    | 11, _ => ⟨d_facts_of, N_11, _, _, st_11, rfl, F11, sc_11, ck_11, rfl, rfl, by decide⟩
    | 12, _ => ⟨d_bounds_of, N_12, _, _, st_12, rfl, F12, sc_12, ck_12, rfl, rfl, by decide⟩
    | 13, _ => ⟨d_is_safe, N_13, _, _, st_13, rfl, F13, sc_13, ck_13, rfl, rfl, by decide⟩
    | 14, _ => ⟨d_is_quiet, N_14, _, _, st_14, rfl, F14, sc_14, ck_14, rfl, rfl, by decide⟩
    | 15, _ => ⟨d_is_still, N_15, _, _, st_15, rfl, F15, sc_15, ck_15, rfl, rfl, by decide⟩
    | 16, _ => ⟨d__law_cell, N_16, _, _, st_16, rfl, F16, sc_16, ck_16, rfl, rfl, by decide⟩
    | 17, _ => ⟨d__law_drawn, N_17, _, _, st_17, rfl, F17, sc_17, ck_17, rfl, rfl, by decide⟩
    | 18, _ => ⟨d__law_number, N_18, _, _, st_18, rfl, F18, sc_18, ck_18, rfl, rfl, by decide⟩
    | 19, _ => ⟨d__law_leaf, N_19, _, _, st_19, rfl, F19, sc_19, ck_19, rfl, rfl, by decide⟩
    | 20, _ => ⟨d__law_term, N_20, _, _, st_20, rfl, F20, sc_20, ck_20, rfl, rfl, by decide⟩
    | 21, _ => ⟨d__law_ends, N_21, _, _, st_21, rfl, F21, sc_21, ck_21, rfl, rfl, by decide⟩
    | 22, _ => ⟨d__law_cut, N_22, _, _, st_22, rfl, F22, sc_22, ck_22, rfl, rfl, by decide⟩
    | 23, _ => ⟨d__law_compared, N_23, _, _, st_23, rfl, F23, sc_23, ck_23, rfl, rfl, by decide⟩
    | 24, _ => ⟨d__law_bounds, N_24, _, _, st_24, rfl, F24, sc_24, ck_24, rfl, rfl, by decide⟩
    | 25, _ => ⟨d__law_quiet, N_25, _, _, st_25, rfl, F25, sc_25, ck_25, rfl, rfl, by decide⟩
    | 26, _ => ⟨d__law_pair, N_26, _, _, st_26, rfl, F26, sc_26, ck_26, rfl, rfl, by decide⟩
    | 27, _ => ⟨d_law, N_27, _, _, st_27, rfl, F27, sc_27, ck_27, rfl, rfl, by decide⟩
    | 28, _ => ⟨d_Facts___init__, N_28, _, _, st_28, rfl, F28, sc_28, ck_28, rfl, rfl, by decide⟩
    | n + 29, hf => absurd (show n + 29 < 29 from hf) (by omega)
theorem b_law (kV dc pm cd ct : Value) (an : Option Addr) (us : List Value) (hl : us.length = 1) : bindArgs (PySem.W.fnOf "law" "law" (C8.fnArgs st_27) (C8.fnBody st_27) (C8.fnScope st_27) .none kV dc pm an cd ct) ⟨us, []⟩ = pure ((P_27).zip us) := match us, hl with | [_], _ => rfl
theorem b_law2 (kV dc pm cd ct : Value) (an : Option Addr) (s : Shared) (v : Value) : BindsTo s (PySem.W.fnOf "law" "law" (C8.fnArgs st_27) (C8.fnBody st_27) (C8.fnScope st_27) .none kV dc pm an cd ct) ⟨[v], []⟩ ((P_27).zip [v]) := .of_eq (b_law kV dc pm cd ct an [v] rfl)
theorem b_law3 (kV dc pm cd ct : Value) (an : Option Addr) (s : Shared) (v : Value) : BindsTo s (PySem.W.fnOf "law" "law" (C8.fnArgs st_27) (C8.fnBody st_27) (C8.fnScope st_27) .none kV dc pm an cd ct) ⟨[v], []⟩ [(("_law_script" : Str), v)] := b_law2 kV dc pm cd ct an s v
theorem all_mk {h : Heap} {fa : Addr} (X : K.In h) (G : h.Ns mainGlobals mg) (hfa : mg "law" = some (.ref fa))
    {f0 : Addr} {od0 an0 : Option Addr} {sl0 : Array (Option Value)} {oc0 kV0 dc0 pm0 cd0 ct0 : Value}
    {f1 : Addr} {od1 an1 : Option Addr} {sl1 : Array (Option Value)} {oc1 kV1 dc1 pm1 cd1 ct1 : Value}
    {f2 : Addr} {od2 an2 : Option Addr} {sl2 : Array (Option Value)} {oc2 kV2 dc2 pm2 cd2 ct2 : Value}
    {f3 : Addr} {od3 an3 : Option Addr} {sl3 : Array (Option Value)} {oc3 kV3 dc3 pm3 cd3 ct3 : Value}
    {f4 : Addr} {od4 an4 : Option Addr} {sl4 : Array (Option Value)} {oc4 kV4 dc4 pm4 cd4 ct4 : Value}
    {f5 : Addr} {od5 an5 : Option Addr} {sl5 : Array (Option Value)} {oc5 kV5 dc5 pm5 cd5 ct5 : Value}
    {f6 : Addr} {od6 an6 : Option Addr} {sl6 : Array (Option Value)} {oc6 kV6 dc6 pm6 cd6 ct6 : Value}
    {f7 : Addr} {od7 an7 : Option Addr} {sl7 : Array (Option Value)} {oc7 kV7 dc7 pm7 cd7 ct7 : Value}
    {f8 : Addr} {od8 an8 : Option Addr} {sl8 : Array (Option Value)} {oc8 kV8 dc8 pm8 cd8 ct8 : Value}
    {f9 : Addr} {od9 an9 : Option Addr} {sl9 : Array (Option Value)} {oc9 kV9 dc9 pm9 cd9 ct9 : Value}
    {f10 : Addr} {od10 an10 : Option Addr} {sl10 : Array (Option Value)} {oc10 kV10 dc10 pm10 cd10 ct10 : Value}
    {f11 : Addr} {od11 an11 : Option Addr} {sl11 : Array (Option Value)} {oc11 kV11 dc11 pm11 cd11 ct11 : Value}
    {f12 : Addr} {od12 an12 : Option Addr} {sl12 : Array (Option Value)} {oc12 kV12 dc12 pm12 cd12 ct12 : Value}
    {f13 : Addr} {od13 an13 : Option Addr} {sl13 : Array (Option Value)} {oc13 kV13 dc13 pm13 cd13 ct13 : Value}
    {f14 : Addr} {od14 an14 : Option Addr} {sl14 : Array (Option Value)} {oc14 kV14 dc14 pm14 cd14 ct14 : Value}
    {f15 : Addr} {od15 an15 : Option Addr} {sl15 : Array (Option Value)} {oc15 kV15 dc15 pm15 cd15 ct15 : Value}
    {f16 : Addr} {od16 an16 : Option Addr} {sl16 : Array (Option Value)} {oc16 kV16 dc16 pm16 cd16 ct16 : Value}
    {f17 : Addr} {od17 an17 : Option Addr} {sl17 : Array (Option Value)} {oc17 kV17 dc17 pm17 cd17 ct17 : Value}
    {f18 : Addr} {od18 an18 : Option Addr} {sl18 : Array (Option Value)} {oc18 kV18 dc18 pm18 cd18 ct18 : Value}
    {f19 : Addr} {od19 an19 : Option Addr} {sl19 : Array (Option Value)} {oc19 kV19 dc19 pm19 cd19 ct19 : Value}
    {f20 : Addr} {od20 an20 : Option Addr} {sl20 : Array (Option Value)} {oc20 kV20 dc20 pm20 cd20 ct20 : Value}
    {f21 : Addr} {od21 an21 : Option Addr} {sl21 : Array (Option Value)} {oc21 kV21 dc21 pm21 cd21 ct21 : Value}
    {f22 : Addr} {od22 an22 : Option Addr} {sl22 : Array (Option Value)} {oc22 kV22 dc22 pm22 cd22 ct22 : Value}
    {f23 : Addr} {od23 an23 : Option Addr} {sl23 : Array (Option Value)} {oc23 kV23 dc23 pm23 cd23 ct23 : Value}
    {f24 : Addr} {od24 an24 : Option Addr} {sl24 : Array (Option Value)} {oc24 kV24 dc24 pm24 cd24 ct24 : Value}
    {f25 : Addr} {od25 an25 : Option Addr} {sl25 : Array (Option Value)} {oc25 kV25 dc25 pm25 cd25 ct25 : Value}
    {f26 : Addr} {od26 an26 : Option Addr} {sl26 : Array (Option Value)} {oc26 kV26 dc26 pm26 cd26 ct26 : Value}
    {f27 : Addr} {od27 an27 : Option Addr} {sl27 : Array (Option Value)} {oc27 kV27 dc27 pm27 cd27 ct27 : Value}
    {f28 : Addr} {od28 an28 : Option Addr} {sl28 : Array (Option Value)} {oc28 kV28 dc28 pm28 cd28 ct28 : Value}
    {C0 : Addr}
    {u0 : Tok}
    {u1 : Tok}
    {u2 : Tok}
    {t3 : Addr} {td3 : Option Addr} {tn3 : Nat} {ts3 : Array (Option Value)}
    {u4 : Tok}
    {u5 : Tok}
    {t6 : Addr} {td6 : Option Addr} {tn6 : Nat} {ts6 : Array (Option Value)}
    (aC0 : PySem.W.nsIn K mainGlobals "Facts" = some (some (.ref C0)))
    (pg0 : PySem.W.plainGet K C0 Str.empty = true)
    (hd0 : PySem.W.hasDictIn K C0 = true)
    (po0 : PySem.W.plainOver K C0 = true)
    (sa0 : PySem.W.findIn K (.ref C0) "__setattr__" = some (some (.builtin "object.__setattr__")))
    (mk0 : PySem.W.makesIn K C0 = true)
    (kc0 : PySem.W.keepIn K (.ref C0) = true)
    (n0_0 : PySem.W.findIn K (.ref C0) (sOf [98, 111, 117, 110, 100, 115]) = some none)
    (n0_1 : PySem.W.findIn K (.ref C0) (sOf [105, 115, 95, 115, 97, 102, 101]) = some none)
    (a0 : PySem.W.nsIn K mainGlobals "inner" = some (some (.ref f0)))
    (l0 : K.lookup f0 = some ⟨oc0, od0, .func (PySem.W.fnOf "inner" "inner" (C8.fnArgs st_0) (C8.fnBody st_0) (C8.fnScope st_0) .none kV0 dc0 pm0 an0 cd0 ct0), sl0⟩)
    (c0 : PySem.W.codeIn K cd0 "inner" = true)
    (k0 : PySem.W.keepIn K (.ref f0) = true)
    (a1 : PySem.W.nsIn K mainGlobals "all_in" = some (some (.ref f1)))
    (l1 : K.lookup f1 = some ⟨oc1, od1, .func (PySem.W.fnOf "all_in" "all_in" (C8.fnArgs st_1) (C8.fnBody st_1) (C8.fnScope st_1) .none kV1 dc1 pm1 an1 cd1 ct1), sl1⟩)
    (c1 : PySem.W.codeIn K cd1 "all_in" = true)
    (k1 : PySem.W.keepIn K (.ref f1) = true)
    (a2 : PySem.W.nsIn K mainGlobals "cut" = some (some (.ref f2)))
    (l2 : K.lookup f2 = some ⟨oc2, od2, .func (PySem.W.fnOf "cut" "cut" (C8.fnArgs st_2) (C8.fnBody st_2) (C8.fnScope st_2) .none kV2 dc2 pm2 an2 cd2 ct2), sl2⟩)
    (c2 : PySem.W.codeIn K cd2 "cut" = true)
    (k2 : PySem.W.keepIn K (.ref f2) = true)
    (a3 : PySem.W.nsIn K mainGlobals "hull" = some (some (.ref f3)))
    (l3 : K.lookup f3 = some ⟨oc3, od3, .func (PySem.W.fnOf "hull" "hull" (C8.fnArgs st_3) (C8.fnBody st_3) (C8.fnScope st_3) .none kV3 dc3 pm3 an3 cd3 ct3), sl3⟩)
    (c3 : PySem.W.codeIn K cd3 "hull" = true)
    (k3 : PySem.W.keepIn K (.ref f3) = true)
    (a4 : PySem.W.nsIn K mainGlobals "is_fit" = some (some (.ref f4)))
    (l4 : K.lookup f4 = some ⟨oc4, od4, .func (PySem.W.fnOf "is_fit" "is_fit" (C8.fnArgs st_4) (C8.fnBody st_4) (C8.fnScope st_4) .none kV4 dc4 pm4 an4 cd4 ct4), sl4⟩)
    (c4 : PySem.W.codeIn K cd4 "is_fit" = true)
    (k4 : PySem.W.keepIn K (.ref f4) = true)
    (a5 : PySem.W.nsIn K mainGlobals "products" = some (some (.ref f5)))
    (l5 : K.lookup f5 = some ⟨oc5, od5, .func (PySem.W.fnOf "products" "products" (C8.fnArgs st_5) (C8.fnBody st_5) (C8.fnScope st_5) .none kV5 dc5 pm5 an5 cd5 ct5), sl5⟩)
    (c5 : PySem.W.codeIn K cd5 "products" = true)
    (k5 : PySem.W.keepIn K (.ref f5) = true)
    (a6 : PySem.W.nsIn K mainGlobals "part_bounds" = some (some (.ref f6)))
    (l6 : K.lookup f6 = some ⟨oc6, od6, .func (PySem.W.fnOf "part_bounds" "part_bounds" (C8.fnArgs st_6) (C8.fnBody st_6) (C8.fnScope st_6) .none kV6 dc6 pm6 an6 cd6 ct6), sl6⟩)
    (c6 : PySem.W.codeIn K cd6 "part_bounds" = true)
    (k6 : PySem.W.keepIn K (.ref f6) = true)
    (a7 : PySem.W.nsIn K mainGlobals "rest_bounds" = some (some (.ref f7)))
    (l7 : K.lookup f7 = some ⟨oc7, od7, .func (PySem.W.fnOf "rest_bounds" "rest_bounds" (C8.fnArgs st_7) (C8.fnBody st_7) (C8.fnScope st_7) .none kV7 dc7 pm7 an7 cd7 ct7), sl7⟩)
    (c7 : PySem.W.codeIn K cd7 "rest_bounds" = true)
    (k7 : PySem.W.keepIn K (.ref f7) = true)
    (a8 : PySem.W.nsIn K mainGlobals "sum_facts" = some (some (.ref f8)))
    (l8 : K.lookup f8 = some ⟨oc8, od8, .func (PySem.W.fnOf "sum_facts" "sum_facts" (C8.fnArgs st_8) (C8.fnBody st_8) (C8.fnScope st_8) .none kV8 dc8 pm8 an8 cd8 ct8), sl8⟩)
    (c8 : PySem.W.codeIn K cd8 "sum_facts" = true)
    (k8 : PySem.W.keepIn K (.ref f8) = true)
    (a9 : PySem.W.nsIn K mainGlobals "compared" = some (some (.ref f9)))
    (l9 : K.lookup f9 = some ⟨oc9, od9, .func (PySem.W.fnOf "compared" "compared" (C8.fnArgs st_9) (C8.fnBody st_9) (C8.fnScope st_9) .none kV9 dc9 pm9 an9 cd9 ct9), sl9⟩)
    (c9 : PySem.W.codeIn K cd9 "compared" = true)
    (k9 : PySem.W.keepIn K (.ref f9) = true)
    (a10 : PySem.W.nsIn K mainGlobals "two_facts" = some (some (.ref f10)))
    (l10 : K.lookup f10 = some ⟨oc10, od10, .func (PySem.W.fnOf "two_facts" "two_facts" (C8.fnArgs st_10) (C8.fnBody st_10) (C8.fnScope st_10) .none kV10 dc10 pm10 an10 cd10 ct10), sl10⟩)
    (c10 : PySem.W.codeIn K cd10 "two_facts" = true)
    (k10 : PySem.W.keepIn K (.ref f10) = true)
    (a11 : PySem.W.nsIn K mainGlobals "facts_of" = some (some (.ref f11)))
    (l11 : K.lookup f11 = some ⟨oc11, od11, .func (PySem.W.fnOf "facts_of" "facts_of" (C8.fnArgs st_11) (C8.fnBody st_11) (C8.fnScope st_11) .none kV11 dc11 pm11 an11 cd11 ct11), sl11⟩)
    (c11 : PySem.W.codeIn K cd11 "facts_of" = true)
    (k11 : PySem.W.keepIn K (.ref f11) = true)
    (a12 : PySem.W.nsIn K mainGlobals "bounds_of" = some (some (.ref f12)))
    (l12 : K.lookup f12 = some ⟨oc12, od12, .func (PySem.W.fnOf "bounds_of" "bounds_of" (C8.fnArgs st_12) (C8.fnBody st_12) (C8.fnScope st_12) .none kV12 dc12 pm12 an12 cd12 ct12), sl12⟩)
    (c12 : PySem.W.codeIn K cd12 "bounds_of" = true)
    (k12 : PySem.W.keepIn K (.ref f12) = true)
    (a13 : PySem.W.nsIn K mainGlobals "is_safe" = some (some (.ref f13)))
    (l13 : K.lookup f13 = some ⟨oc13, od13, .func (PySem.W.fnOf "is_safe" "is_safe" (C8.fnArgs st_13) (C8.fnBody st_13) (C8.fnScope st_13) .none kV13 dc13 pm13 an13 cd13 ct13), sl13⟩)
    (c13 : PySem.W.codeIn K cd13 "is_safe" = true)
    (k13 : PySem.W.keepIn K (.ref f13) = true)
    (a14 : PySem.W.nsIn K mainGlobals "is_quiet" = some (some (.ref f14)))
    (l14 : K.lookup f14 = some ⟨oc14, od14, .func (PySem.W.fnOf "is_quiet" "is_quiet" (C8.fnArgs st_14) (C8.fnBody st_14) (C8.fnScope st_14) .none kV14 dc14 pm14 an14 cd14 ct14), sl14⟩)
    (c14 : PySem.W.codeIn K cd14 "is_quiet" = true)
    (k14 : PySem.W.keepIn K (.ref f14) = true)
    (a15 : PySem.W.nsIn K mainGlobals "is_still" = some (some (.ref f15)))
    (l15 : K.lookup f15 = some ⟨oc15, od15, .func (PySem.W.fnOf "is_still" "is_still" (C8.fnArgs st_15) (C8.fnBody st_15) (C8.fnScope st_15) .none kV15 dc15 pm15 an15 cd15 ct15), sl15⟩)
    (c15 : PySem.W.codeIn K cd15 "is_still" = true)
    (k15 : PySem.W.keepIn K (.ref f15) = true)
    (a16 : PySem.W.nsIn K mainGlobals "_law_cell" = some (some (.ref f16)))
    (l16 : K.lookup f16 = some ⟨oc16, od16, .func (PySem.W.fnOf "_law_cell" "_law_cell" (C8.fnArgs st_16) (C8.fnBody st_16) (C8.fnScope st_16) .none kV16 dc16 pm16 an16 cd16 ct16), sl16⟩)
    (c16 : PySem.W.codeIn K cd16 "_law_cell" = true)
    (k16 : PySem.W.keepIn K (.ref f16) = true)
    (a17 : PySem.W.nsIn K mainGlobals "_law_drawn" = some (some (.ref f17)))
    (l17 : K.lookup f17 = some ⟨oc17, od17, .func (PySem.W.fnOf "_law_drawn" "_law_drawn" (C8.fnArgs st_17) (C8.fnBody st_17) (C8.fnScope st_17) .none kV17 dc17 pm17 an17 cd17 ct17), sl17⟩)
    (c17 : PySem.W.codeIn K cd17 "_law_drawn" = true)
    (k17 : PySem.W.keepIn K (.ref f17) = true)
    (a18 : PySem.W.nsIn K mainGlobals "_law_number" = some (some (.ref f18)))
    (l18 : K.lookup f18 = some ⟨oc18, od18, .func (PySem.W.fnOf "_law_number" "_law_number" (C8.fnArgs st_18) (C8.fnBody st_18) (C8.fnScope st_18) .none kV18 dc18 pm18 an18 cd18 ct18), sl18⟩)
    (c18 : PySem.W.codeIn K cd18 "_law_number" = true)
    (k18 : PySem.W.keepIn K (.ref f18) = true)
    (a19 : PySem.W.nsIn K mainGlobals "_law_leaf" = some (some (.ref f19)))
    (l19 : K.lookup f19 = some ⟨oc19, od19, .func (PySem.W.fnOf "_law_leaf" "_law_leaf" (C8.fnArgs st_19) (C8.fnBody st_19) (C8.fnScope st_19) .none kV19 dc19 pm19 an19 cd19 ct19), sl19⟩)
    (c19 : PySem.W.codeIn K cd19 "_law_leaf" = true)
    (k19 : PySem.W.keepIn K (.ref f19) = true)
    (a20 : PySem.W.nsIn K mainGlobals "_law_term" = some (some (.ref f20)))
    (l20 : K.lookup f20 = some ⟨oc20, od20, .func (PySem.W.fnOf "_law_term" "_law_term" (C8.fnArgs st_20) (C8.fnBody st_20) (C8.fnScope st_20) .none kV20 dc20 pm20 an20 cd20 ct20), sl20⟩)
    (c20 : PySem.W.codeIn K cd20 "_law_term" = true)
    (k20 : PySem.W.keepIn K (.ref f20) = true)
    (a21 : PySem.W.nsIn K mainGlobals "_law_ends" = some (some (.ref f21)))
    (l21 : K.lookup f21 = some ⟨oc21, od21, .func (PySem.W.fnOf "_law_ends" "_law_ends" (C8.fnArgs st_21) (C8.fnBody st_21) (C8.fnScope st_21) .none kV21 dc21 pm21 an21 cd21 ct21), sl21⟩)
    (c21 : PySem.W.codeIn K cd21 "_law_ends" = true)
    (k21 : PySem.W.keepIn K (.ref f21) = true)
    (a22 : PySem.W.nsIn K mainGlobals "_law_cut" = some (some (.ref f22)))
    (l22 : K.lookup f22 = some ⟨oc22, od22, .func (PySem.W.fnOf "_law_cut" "_law_cut" (C8.fnArgs st_22) (C8.fnBody st_22) (C8.fnScope st_22) .none kV22 dc22 pm22 an22 cd22 ct22), sl22⟩)
    (c22 : PySem.W.codeIn K cd22 "_law_cut" = true)
    (k22 : PySem.W.keepIn K (.ref f22) = true)
    (a23 : PySem.W.nsIn K mainGlobals "_law_compared" = some (some (.ref f23)))
    (l23 : K.lookup f23 = some ⟨oc23, od23, .func (PySem.W.fnOf "_law_compared" "_law_compared" (C8.fnArgs st_23) (C8.fnBody st_23) (C8.fnScope st_23) .none kV23 dc23 pm23 an23 cd23 ct23), sl23⟩)
    (c23 : PySem.W.codeIn K cd23 "_law_compared" = true)
    (k23 : PySem.W.keepIn K (.ref f23) = true)
    (a24 : PySem.W.nsIn K mainGlobals "_law_bounds" = some (some (.ref f24)))
    (l24 : K.lookup f24 = some ⟨oc24, od24, .func (PySem.W.fnOf "_law_bounds" "_law_bounds" (C8.fnArgs st_24) (C8.fnBody st_24) (C8.fnScope st_24) .none kV24 dc24 pm24 an24 cd24 ct24), sl24⟩)
    (c24 : PySem.W.codeIn K cd24 "_law_bounds" = true)
    (k24 : PySem.W.keepIn K (.ref f24) = true)
    (a25 : PySem.W.nsIn K mainGlobals "_law_quiet" = some (some (.ref f25)))
    (l25 : K.lookup f25 = some ⟨oc25, od25, .func (PySem.W.fnOf "_law_quiet" "_law_quiet" (C8.fnArgs st_25) (C8.fnBody st_25) (C8.fnScope st_25) .none kV25 dc25 pm25 an25 cd25 ct25), sl25⟩)
    (c25 : PySem.W.codeIn K cd25 "_law_quiet" = true)
    (k25 : PySem.W.keepIn K (.ref f25) = true)
    (a26 : PySem.W.nsIn K mainGlobals "_law_pair" = some (some (.ref f26)))
    (l26 : K.lookup f26 = some ⟨oc26, od26, .func (PySem.W.fnOf "_law_pair" "_law_pair" (C8.fnArgs st_26) (C8.fnBody st_26) (C8.fnScope st_26) .none kV26 dc26 pm26 an26 cd26 ct26), sl26⟩)
    (c26 : PySem.W.codeIn K cd26 "_law_pair" = true)
    (k26 : PySem.W.keepIn K (.ref f26) = true)
    (a27 : PySem.W.nsIn K mainGlobals "law" = some (some (.ref f27)))
    (l27 : K.lookup f27 = some ⟨oc27, od27, .func (PySem.W.fnOf "law" "law" (C8.fnArgs st_27) (C8.fnBody st_27) (C8.fnScope st_27) .none kV27 dc27 pm27 an27 cd27 ct27), sl27⟩)
    (c27 : PySem.W.codeIn K cd27 "law" = true)
    (k27 : PySem.W.keepIn K (.ref f27) = true)
    (a28 : PySem.W.findIn K (.ref C0) "__init__" = some (some (.ref f28)))
    (i28 : PySem.W.isFn K (.ref f28) = true)
    (l28 : K.lookup f28 = some ⟨oc28, od28, .func (PySem.W.fnOf "__init__" "Facts.__init__" (C8.fnArgs st_28) (C8.fnBody st_28) (C8.fnScope st_28) .none kV28 dc28 pm28 an28 cd28 ct28), sl28⟩)
    (c28 : PySem.W.codeIn K cd28 "Facts.__init__" = true)
    (k28 : PySem.W.keepIn K (.ref f28) = true)
    (gl0 : PySem.W.nsIn K mainGlobals "MOST_NUMBER" = some (some (.int (999999999) u0)))
    (gl1 : PySem.W.nsIn K mainGlobals "ALL" = some (some (.ref t3)))
    (e3 : K.lookup t3 = some ⟨.type "tuple", td3, .seq #[.int (-999999999) u1, .int (999999999) u2] tn3, ts3⟩)
    (gl2 : PySem.W.nsIn K mainGlobals "TRUTH" = some (some (.ref t6)))
    (e6 : K.lookup t6 = some ⟨.type "tuple", td6, .seq #[.int (0) u4, .int (1) u5] tn6, ts6⟩)
    (z0 : PySem.W.nsIn K mainGlobals "len" = some none)
    (z1 : PySem.W.nsIn K mainGlobals "min" = some none)
    (z2 : PySem.W.nsIn K mainGlobals "max" = some none)
    (z3 : PySem.W.nsIn K mainGlobals "list" = some none)
    (z4 : PySem.W.nsIn K mainGlobals "tuple" = some none)
    (z5 : PySem.W.nsIn K mainGlobals "all" = some none)
    (z6 : PySem.W.nsIn K mainGlobals "dict" = some none)
    (z7 : PySem.W.nsIn K mainGlobals "isinstance" = some none)
    (z8 : PySem.W.nsIn K mainGlobals "range" = some none)
    (z9 : PySem.W.nsIn K mainGlobals "enumerate" = some none) :
    ∃ fd : FuncData, (∀ (s : Shared) (u : Value), BindsTo s fd ⟨[u], []⟩ [("_law_script", u)]) ∧ ∀ base : Heap, K.In base → base.Ns mainGlobals mg → FnOk P w K mg base (L2.CX P w) 100 fa fd ["_law_script"] (spScr K) := by
  have e := hfa.symm.trans (PySem.W.mg_of X G a27)
  cases e
  have F0 : C8.Fun K "inner" "inner" st_0 f0 (PySem.W.fnOf "inner" "inner" (C8.fnArgs st_0) (C8.fnBody st_0) (C8.fnScope st_0) .none kV0 dc0 pm0 an0 cd0 ct0) := ⟨_, _, _, _, _, _, _, _, _, _, rfl, l0, c0⟩
  have F1 : C8.Fun K "all_in" "all_in" st_1 f1 (PySem.W.fnOf "all_in" "all_in" (C8.fnArgs st_1) (C8.fnBody st_1) (C8.fnScope st_1) .none kV1 dc1 pm1 an1 cd1 ct1) := ⟨_, _, _, _, _, _, _, _, _, _, rfl, l1, c1⟩
  have F2 : C8.Fun K "cut" "cut" st_2 f2 (PySem.W.fnOf "cut" "cut" (C8.fnArgs st_2) (C8.fnBody st_2) (C8.fnScope st_2) .none kV2 dc2 pm2 an2 cd2 ct2) := ⟨_, _, _, _, _, _, _, _, _, _, rfl, l2, c2⟩
  have F3 : C8.Fun K "hull" "hull" st_3 f3 (PySem.W.fnOf "hull" "hull" (C8.fnArgs st_3) (C8.fnBody st_3) (C8.fnScope st_3) .none kV3 dc3 pm3 an3 cd3 ct3) := ⟨_, _, _, _, _, _, _, _, _, _, rfl, l3, c3⟩
  have F4 : C8.Fun K "is_fit" "is_fit" st_4 f4 (PySem.W.fnOf "is_fit" "is_fit" (C8.fnArgs st_4) (C8.fnBody st_4) (C8.fnScope st_4) .none kV4 dc4 pm4 an4 cd4 ct4) := ⟨_, _, _, _, _, _, _, _, _, _, rfl, l4, c4⟩
  have F5 : C8.Fun K "products" "products" st_5 f5 (PySem.W.fnOf "products" "products" (C8.fnArgs st_5) (C8.fnBody st_5) (C8.fnScope st_5) .none kV5 dc5 pm5 an5 cd5 ct5) := ⟨_, _, _, _, _, _, _, _, _, _, rfl, l5, c5⟩
  have F6 : C8.Fun K "part_bounds" "part_bounds" st_6 f6 (PySem.W.fnOf "part_bounds" "part_bounds" (C8.fnArgs st_6) (C8.fnBody st_6) (C8.fnScope st_6) .none kV6 dc6 pm6 an6 cd6 ct6) := ⟨_, _, _, _, _, _, _, _, _, _, rfl, l6, c6⟩
  have F7 : C8.Fun K "rest_bounds" "rest_bounds" st_7 f7 (PySem.W.fnOf "rest_bounds" "rest_bounds" (C8.fnArgs st_7) (C8.fnBody st_7) (C8.fnScope st_7) .none kV7 dc7 pm7 an7 cd7 ct7) := ⟨_, _, _, _, _, _, _, _, _, _, rfl, l7, c7⟩
  have F8 : C8.Fun K "sum_facts" "sum_facts" st_8 f8 (PySem.W.fnOf "sum_facts" "sum_facts" (C8.fnArgs st_8) (C8.fnBody st_8) (C8.fnScope st_8) .none kV8 dc8 pm8 an8 cd8 ct8) := ⟨_, _, _, _, _, _, _, _, _, _, rfl, l8, c8⟩
  have F9 : C8.Fun K "compared" "compared" st_9 f9 (PySem.W.fnOf "compared" "compared" (C8.fnArgs st_9) (C8.fnBody st_9) (C8.fnScope st_9) .none kV9 dc9 pm9 an9 cd9 ct9) := ⟨_, _, _, _, _, _, _, _, _, _, rfl, l9, c9⟩
  have F10 : C8.Fun K "two_facts" "two_facts" st_10 f10 (PySem.W.fnOf "two_facts" "two_facts" (C8.fnArgs st_10) (C8.fnBody st_10) (C8.fnScope st_10) .none kV10 dc10 pm10 an10 cd10 ct10) := ⟨_, _, _, _, _, _, _, _, _, _, rfl, l10, c10⟩
  have F11 : C8.Fun K "facts_of" "facts_of" st_11 f11 (PySem.W.fnOf "facts_of" "facts_of" (C8.fnArgs st_11) (C8.fnBody st_11) (C8.fnScope st_11) .none kV11 dc11 pm11 an11 cd11 ct11) := ⟨_, _, _, _, _, _, _, _, _, _, rfl, l11, c11⟩
  have F12 : C8.Fun K "bounds_of" "bounds_of" st_12 f12 (PySem.W.fnOf "bounds_of" "bounds_of" (C8.fnArgs st_12) (C8.fnBody st_12) (C8.fnScope st_12) .none kV12 dc12 pm12 an12 cd12 ct12) := ⟨_, _, _, _, _, _, _, _, _, _, rfl, l12, c12⟩
  have F13 : C8.Fun K "is_safe" "is_safe" st_13 f13 (PySem.W.fnOf "is_safe" "is_safe" (C8.fnArgs st_13) (C8.fnBody st_13) (C8.fnScope st_13) .none kV13 dc13 pm13 an13 cd13 ct13) := ⟨_, _, _, _, _, _, _, _, _, _, rfl, l13, c13⟩
  have F14 : C8.Fun K "is_quiet" "is_quiet" st_14 f14 (PySem.W.fnOf "is_quiet" "is_quiet" (C8.fnArgs st_14) (C8.fnBody st_14) (C8.fnScope st_14) .none kV14 dc14 pm14 an14 cd14 ct14) := ⟨_, _, _, _, _, _, _, _, _, _, rfl, l14, c14⟩
  have F15 : C8.Fun K "is_still" "is_still" st_15 f15 (PySem.W.fnOf "is_still" "is_still" (C8.fnArgs st_15) (C8.fnBody st_15) (C8.fnScope st_15) .none kV15 dc15 pm15 an15 cd15 ct15) := ⟨_, _, _, _, _, _, _, _, _, _, rfl, l15, c15⟩
  have F16 : C8.Fun K "_law_cell" "_law_cell" st_16 f16 (PySem.W.fnOf "_law_cell" "_law_cell" (C8.fnArgs st_16) (C8.fnBody st_16) (C8.fnScope st_16) .none kV16 dc16 pm16 an16 cd16 ct16) := ⟨_, _, _, _, _, _, _, _, _, _, rfl, l16, c16⟩
  have F17 : C8.Fun K "_law_drawn" "_law_drawn" st_17 f17 (PySem.W.fnOf "_law_drawn" "_law_drawn" (C8.fnArgs st_17) (C8.fnBody st_17) (C8.fnScope st_17) .none kV17 dc17 pm17 an17 cd17 ct17) := ⟨_, _, _, _, _, _, _, _, _, _, rfl, l17, c17⟩
  have F18 : C8.Fun K "_law_number" "_law_number" st_18 f18 (PySem.W.fnOf "_law_number" "_law_number" (C8.fnArgs st_18) (C8.fnBody st_18) (C8.fnScope st_18) .none kV18 dc18 pm18 an18 cd18 ct18) := ⟨_, _, _, _, _, _, _, _, _, _, rfl, l18, c18⟩
  have F19 : C8.Fun K "_law_leaf" "_law_leaf" st_19 f19 (PySem.W.fnOf "_law_leaf" "_law_leaf" (C8.fnArgs st_19) (C8.fnBody st_19) (C8.fnScope st_19) .none kV19 dc19 pm19 an19 cd19 ct19) := ⟨_, _, _, _, _, _, _, _, _, _, rfl, l19, c19⟩
  have F20 : C8.Fun K "_law_term" "_law_term" st_20 f20 (PySem.W.fnOf "_law_term" "_law_term" (C8.fnArgs st_20) (C8.fnBody st_20) (C8.fnScope st_20) .none kV20 dc20 pm20 an20 cd20 ct20) := ⟨_, _, _, _, _, _, _, _, _, _, rfl, l20, c20⟩
  have F21 : C8.Fun K "_law_ends" "_law_ends" st_21 f21 (PySem.W.fnOf "_law_ends" "_law_ends" (C8.fnArgs st_21) (C8.fnBody st_21) (C8.fnScope st_21) .none kV21 dc21 pm21 an21 cd21 ct21) := ⟨_, _, _, _, _, _, _, _, _, _, rfl, l21, c21⟩
  have F22 : C8.Fun K "_law_cut" "_law_cut" st_22 f22 (PySem.W.fnOf "_law_cut" "_law_cut" (C8.fnArgs st_22) (C8.fnBody st_22) (C8.fnScope st_22) .none kV22 dc22 pm22 an22 cd22 ct22) := ⟨_, _, _, _, _, _, _, _, _, _, rfl, l22, c22⟩
  have F23 : C8.Fun K "_law_compared" "_law_compared" st_23 f23 (PySem.W.fnOf "_law_compared" "_law_compared" (C8.fnArgs st_23) (C8.fnBody st_23) (C8.fnScope st_23) .none kV23 dc23 pm23 an23 cd23 ct23) := ⟨_, _, _, _, _, _, _, _, _, _, rfl, l23, c23⟩
  have F24 : C8.Fun K "_law_bounds" "_law_bounds" st_24 f24 (PySem.W.fnOf "_law_bounds" "_law_bounds" (C8.fnArgs st_24) (C8.fnBody st_24) (C8.fnScope st_24) .none kV24 dc24 pm24 an24 cd24 ct24) := ⟨_, _, _, _, _, _, _, _, _, _, rfl, l24, c24⟩
  have F25 : C8.Fun K "_law_quiet" "_law_quiet" st_25 f25 (PySem.W.fnOf "_law_quiet" "_law_quiet" (C8.fnArgs st_25) (C8.fnBody st_25) (C8.fnScope st_25) .none kV25 dc25 pm25 an25 cd25 ct25) := ⟨_, _, _, _, _, _, _, _, _, _, rfl, l25, c25⟩
  have F26 : C8.Fun K "_law_pair" "_law_pair" st_26 f26 (PySem.W.fnOf "_law_pair" "_law_pair" (C8.fnArgs st_26) (C8.fnBody st_26) (C8.fnScope st_26) .none kV26 dc26 pm26 an26 cd26 ct26) := ⟨_, _, _, _, _, _, _, _, _, _, rfl, l26, c26⟩
  have F27 : C8.Fun K "law" "law" st_27 fa (PySem.W.fnOf "law" "law" (C8.fnArgs st_27) (C8.fnBody st_27) (C8.fnScope st_27) .none kV27 dc27 pm27 an27 cd27 ct27) := ⟨_, _, _, _, _, _, _, _, _, _, rfl, l27, c27⟩
  have F28 : C8.Fun K "__init__" "Facts.__init__" st_28 f28 (PySem.W.fnOf "__init__" "Facts.__init__" (C8.fnArgs st_28) (C8.fnBody st_28) (C8.fnScope st_28) .none kV28 dc28 pm28 an28 cd28 ct28) := ⟨_, _, _, _, _, _, _, _, _, _, rfl, l28, c28⟩
  have hb := b_law3 kV27 dc27 pm27 cd27 ct27 an27
  refine ⟨_, hb, fun base _ _ => ?_⟩
  obtain ⟨fds, hfds⟩ : ∃ l : List FuncData, l = [PySem.W.fnOf "inner" "inner" (C8.fnArgs st_0) (C8.fnBody st_0) (C8.fnScope st_0) .none kV0 dc0 pm0 an0 cd0 ct0, PySem.W.fnOf "all_in" "all_in" (C8.fnArgs st_1) (C8.fnBody st_1) (C8.fnScope st_1) .none kV1 dc1 pm1 an1 cd1 ct1, PySem.W.fnOf "cut" "cut" (C8.fnArgs st_2) (C8.fnBody st_2) (C8.fnScope st_2) .none kV2 dc2 pm2 an2 cd2 ct2, PySem.W.fnOf "hull" "hull" (C8.fnArgs st_3) (C8.fnBody st_3) (C8.fnScope st_3) .none kV3 dc3 pm3 an3 cd3 ct3, PySem.W.fnOf "is_fit" "is_fit" (C8.fnArgs st_4) (C8.fnBody st_4) (C8.fnScope st_4) .none kV4 dc4 pm4 an4 cd4 ct4, PySem.W.fnOf "products" "products" (C8.fnArgs st_5) (C8.fnBody st_5) (C8.fnScope st_5) .none kV5 dc5 pm5 an5 cd5 ct5, PySem.W.fnOf "part_bounds" "part_bounds" (C8.fnArgs st_6) (C8.fnBody st_6) (C8.fnScope st_6) .none kV6 dc6 pm6 an6 cd6 ct6, PySem.W.fnOf "rest_bounds" "rest_bounds" (C8.fnArgs st_7) (C8.fnBody st_7) (C8.fnScope st_7) .none kV7 dc7 pm7 an7 cd7 ct7, PySem.W.fnOf "sum_facts" "sum_facts" (C8.fnArgs st_8) (C8.fnBody st_8) (C8.fnScope st_8) .none kV8 dc8 pm8 an8 cd8 ct8, PySem.W.fnOf "compared" "compared" (C8.fnArgs st_9) (C8.fnBody st_9) (C8.fnScope st_9) .none kV9 dc9 pm9 an9 cd9 ct9, PySem.W.fnOf "two_facts" "two_facts" (C8.fnArgs st_10) (C8.fnBody st_10) (C8.fnScope st_10) .none kV10 dc10 pm10 an10 cd10 ct10, PySem.W.fnOf "facts_of" "facts_of" (C8.fnArgs st_11) (C8.fnBody st_11) (C8.fnScope st_11) .none kV11 dc11 pm11 an11 cd11 ct11, PySem.W.fnOf "bounds_of" "bounds_of" (C8.fnArgs st_12) (C8.fnBody st_12) (C8.fnScope st_12) .none kV12 dc12 pm12 an12 cd12 ct12, PySem.W.fnOf "is_safe" "is_safe" (C8.fnArgs st_13) (C8.fnBody st_13) (C8.fnScope st_13) .none kV13 dc13 pm13 an13 cd13 ct13, PySem.W.fnOf "is_quiet" "is_quiet" (C8.fnArgs st_14) (C8.fnBody st_14) (C8.fnScope st_14) .none kV14 dc14 pm14 an14 cd14 ct14, PySem.W.fnOf "is_still" "is_still" (C8.fnArgs st_15) (C8.fnBody st_15) (C8.fnScope st_15) .none kV15 dc15 pm15 an15 cd15 ct15, PySem.W.fnOf "_law_cell" "_law_cell" (C8.fnArgs st_16) (C8.fnBody st_16) (C8.fnScope st_16) .none kV16 dc16 pm16 an16 cd16 ct16, PySem.W.fnOf "_law_drawn" "_law_drawn" (C8.fnArgs st_17) (C8.fnBody st_17) (C8.fnScope st_17) .none kV17 dc17 pm17 an17 cd17 ct17, PySem.W.fnOf "_law_number" "_law_number" (C8.fnArgs st_18) (C8.fnBody st_18) (C8.fnScope st_18) .none kV18 dc18 pm18 an18 cd18 ct18, PySem.W.fnOf "_law_leaf" "_law_leaf" (C8.fnArgs st_19) (C8.fnBody st_19) (C8.fnScope st_19) .none kV19 dc19 pm19 an19 cd19 ct19, PySem.W.fnOf "_law_term" "_law_term" (C8.fnArgs st_20) (C8.fnBody st_20) (C8.fnScope st_20) .none kV20 dc20 pm20 an20 cd20 ct20, PySem.W.fnOf "_law_ends" "_law_ends" (C8.fnArgs st_21) (C8.fnBody st_21) (C8.fnScope st_21) .none kV21 dc21 pm21 an21 cd21 ct21, PySem.W.fnOf "_law_cut" "_law_cut" (C8.fnArgs st_22) (C8.fnBody st_22) (C8.fnScope st_22) .none kV22 dc22 pm22 an22 cd22 ct22, PySem.W.fnOf "_law_compared" "_law_compared" (C8.fnArgs st_23) (C8.fnBody st_23) (C8.fnScope st_23) .none kV23 dc23 pm23 an23 cd23 ct23, PySem.W.fnOf "_law_bounds" "_law_bounds" (C8.fnArgs st_24) (C8.fnBody st_24) (C8.fnScope st_24) .none kV24 dc24 pm24 an24 cd24 ct24, PySem.W.fnOf "_law_quiet" "_law_quiet" (C8.fnArgs st_25) (C8.fnBody st_25) (C8.fnScope st_25) .none kV25 dc25 pm25 an25 cd25 ct25, PySem.W.fnOf "_law_pair" "_law_pair" (C8.fnArgs st_26) (C8.fnBody st_26) (C8.fnScope st_26) .none kV26 dc26 pm26 an26 cd26 ct26, PySem.W.fnOf "law" "law" (C8.fnArgs st_27) (C8.fnBody st_27) (C8.fnScope st_27) .none kV27 dc27 pm27 an27 cd27 ct27, PySem.W.fnOf "__init__" "Facts.__init__" (C8.fnArgs st_28) (C8.fnBody st_28) (C8.fnScope st_28) .none kV28 dc28 pm28 an28 cd28 ct28] := ⟨_, rfl⟩
  have d0 : (fds[0]?).getD default = PySem.W.fnOf "inner" "inner" (C8.fnArgs st_0) (C8.fnBody st_0) (C8.fnScope st_0) .none kV0 dc0 pm0 an0 cd0 ct0 := by rw [hfds]; rfl
  have b0 : Binds K ((fds[0]?).getD default) P_0 [] := by rw [d0]; exact .all fun us hl => match us, hl with | [_], _ => rfl
  rw [← d0] at F0
  have d1 : (fds[1]?).getD default = PySem.W.fnOf "all_in" "all_in" (C8.fnArgs st_1) (C8.fnBody st_1) (C8.fnScope st_1) .none kV1 dc1 pm1 an1 cd1 ct1 := by rw [hfds]; rfl
  have b1 : Binds K ((fds[1]?).getD default) P_1 [] := by rw [d1]; exact .all fun us hl => match us, hl with | [_], _ => rfl
  rw [← d1] at F1
  have d2 : (fds[2]?).getD default = PySem.W.fnOf "cut" "cut" (C8.fnArgs st_2) (C8.fnBody st_2) (C8.fnScope st_2) .none kV2 dc2 pm2 an2 cd2 ct2 := by rw [hfds]; rfl
  have b2 : Binds K ((fds[2]?).getD default) P_2 [] := by rw [d2]; exact .all fun us hl => match us, hl with | [_, _], _ => rfl
  rw [← d2] at F2
  have d3 : (fds[3]?).getD default = PySem.W.fnOf "hull" "hull" (C8.fnArgs st_3) (C8.fnBody st_3) (C8.fnScope st_3) .none kV3 dc3 pm3 an3 cd3 ct3 := by rw [hfds]; rfl
  have b3 : Binds K ((fds[3]?).getD default) P_3 [] := by rw [d3]; exact .all fun us hl => match us, hl with | [_, _], _ => rfl
  rw [← d3] at F3
  have d4 : (fds[4]?).getD default = PySem.W.fnOf "is_fit" "is_fit" (C8.fnArgs st_4) (C8.fnBody st_4) (C8.fnScope st_4) .none kV4 dc4 pm4 an4 cd4 ct4 := by rw [hfds]; rfl
  have b4 : Binds K ((fds[4]?).getD default) P_4 [] := by rw [d4]; exact .all fun us hl => match us, hl with | [_, _], _ => rfl
  rw [← d4] at F4
  have d5 : (fds[5]?).getD default = PySem.W.fnOf "products" "products" (C8.fnArgs st_5) (C8.fnBody st_5) (C8.fnScope st_5) .none kV5 dc5 pm5 an5 cd5 ct5 := by rw [hfds]; rfl
  have b5 : Binds K ((fds[5]?).getD default) P_5 [] := by rw [d5]; exact .all fun us hl => match us, hl with | [_, _], _ => rfl
  rw [← d5] at F5
  have d6 : (fds[6]?).getD default = PySem.W.fnOf "part_bounds" "part_bounds" (C8.fnArgs st_6) (C8.fnBody st_6) (C8.fnScope st_6) .none kV6 dc6 pm6 an6 cd6 ct6 := by rw [hfds]; rfl
  have b6 : Binds K ((fds[6]?).getD default) P_6 [] := by rw [d6]; exact .all fun us hl => match us, hl with | [_, _], _ => rfl
  rw [← d6] at F6
  have d7 : (fds[7]?).getD default = PySem.W.fnOf "rest_bounds" "rest_bounds" (C8.fnArgs st_7) (C8.fnBody st_7) (C8.fnScope st_7) .none kV7 dc7 pm7 an7 cd7 ct7 := by rw [hfds]; rfl
  have b7 : Binds K ((fds[7]?).getD default) P_7 [] := by rw [d7]; exact .all fun us hl => match us, hl with | [_, _], _ => rfl
  rw [← d7] at F7
  have d8 : (fds[8]?).getD default = PySem.W.fnOf "sum_facts" "sum_facts" (C8.fnArgs st_8) (C8.fnBody st_8) (C8.fnScope st_8) .none kV8 dc8 pm8 an8 cd8 ct8 := by rw [hfds]; rfl
  have b8 : Binds K ((fds[8]?).getD default) P_8 [] := by rw [d8]; exact .all fun us hl => match us, hl with | [_, _, _], _ => rfl
  rw [← d8] at F8
  have d9 : (fds[9]?).getD default = PySem.W.fnOf "compared" "compared" (C8.fnArgs st_9) (C8.fnBody st_9) (C8.fnScope st_9) .none kV9 dc9 pm9 an9 cd9 ct9 := by rw [hfds]; rfl
  have b9 : Binds K ((fds[9]?).getD default) P_9 [] := by rw [d9]; exact .all fun us hl => match us, hl with | [_, _, _], _ => rfl
  rw [← d9] at F9
  have d10 : (fds[10]?).getD default = PySem.W.fnOf "two_facts" "two_facts" (C8.fnArgs st_10) (C8.fnBody st_10) (C8.fnScope st_10) .none kV10 dc10 pm10 an10 cd10 ct10 := by rw [hfds]; rfl
  have b10 : Binds K ((fds[10]?).getD default) P_10 [] := by rw [d10]; exact .all fun us hl => match us, hl with | [_, _, _], _ => rfl
  rw [← d10] at F10
  have d11 : (fds[11]?).getD default = PySem.W.fnOf "facts_of" "facts_of" (C8.fnArgs st_11) (C8.fnBody st_11) (C8.fnScope st_11) .none kV11 dc11 pm11 an11 cd11 ct11 := by rw [hfds]; rfl
  have b11 : Binds K ((fds[11]?).getD default) P_11 [] := by rw [d11]; exact .all fun us hl => match us, hl with | [_, _], _ => rfl
  rw [← d11] at F11
  have d12 : (fds[12]?).getD default = PySem.W.fnOf "bounds_of" "bounds_of" (C8.fnArgs st_12) (C8.fnBody st_12) (C8.fnScope st_12) .none kV12 dc12 pm12 an12 cd12 ct12 := by rw [hfds]; rfl
  have b12 : Binds K ((fds[12]?).getD default) P_12 [] := by rw [d12]; exact .all fun us hl => match us, hl with | [_, _], _ => rfl
  rw [← d12] at F12
  have d13 : (fds[13]?).getD default = PySem.W.fnOf "is_safe" "is_safe" (C8.fnArgs st_13) (C8.fnBody st_13) (C8.fnScope st_13) .none kV13 dc13 pm13 an13 cd13 ct13 := by rw [hfds]; rfl
  have b13 : Binds K ((fds[13]?).getD default) P_13 [] := by rw [d13]; exact .all fun us hl => match us, hl with | [_, _], _ => rfl
  rw [← d13] at F13
  have d14 : (fds[14]?).getD default = PySem.W.fnOf "is_quiet" "is_quiet" (C8.fnArgs st_14) (C8.fnBody st_14) (C8.fnScope st_14) .none kV14 dc14 pm14 an14 cd14 ct14 := by rw [hfds]; rfl
  have b14 : Binds K ((fds[14]?).getD default) P_14 [] := by rw [d14]; exact .all fun us hl => match us, hl with | [_], _ => rfl
  rw [← d14] at F14
  have d15 : (fds[15]?).getD default = PySem.W.fnOf "is_still" "is_still" (C8.fnArgs st_15) (C8.fnBody st_15) (C8.fnScope st_15) .none kV15 dc15 pm15 an15 cd15 ct15 := by rw [hfds]; rfl
  have b15 : Binds K ((fds[15]?).getD default) P_15 [] := by rw [d15]; exact .all fun us hl => match us, hl with | [_, _], _ => rfl
  rw [← d15] at F15
  have d16 : (fds[16]?).getD default = PySem.W.fnOf "_law_cell" "_law_cell" (C8.fnArgs st_16) (C8.fnBody st_16) (C8.fnScope st_16) .none kV16 dc16 pm16 an16 cd16 ct16 := by rw [hfds]; rfl
  have b16 : Binds K ((fds[16]?).getD default) P_16 [] := by rw [d16]; exact .all fun us hl => match us, hl with | [_, _], _ => rfl
  rw [← d16] at F16
  have d17 : (fds[17]?).getD default = PySem.W.fnOf "_law_drawn" "_law_drawn" (C8.fnArgs st_17) (C8.fnBody st_17) (C8.fnScope st_17) .none kV17 dc17 pm17 an17 cd17 ct17 := by rw [hfds]; rfl
  have b17 : Binds K ((fds[17]?).getD default) P_17 [] := by rw [d17]; exact .all fun us hl => match us, hl with | [_, _], _ => rfl
  rw [← d17] at F17
  have d18 : (fds[18]?).getD default = PySem.W.fnOf "_law_number" "_law_number" (C8.fnArgs st_18) (C8.fnBody st_18) (C8.fnScope st_18) .none kV18 dc18 pm18 an18 cd18 ct18 := by rw [hfds]; rfl
  have b18 : Binds K ((fds[18]?).getD default) P_18 [] := by rw [d18]; exact .all fun us hl => match us, hl with | [_], _ => rfl
  rw [← d18] at F18
  have d19 : (fds[19]?).getD default = PySem.W.fnOf "_law_leaf" "_law_leaf" (C8.fnArgs st_19) (C8.fnBody st_19) (C8.fnScope st_19) .none kV19 dc19 pm19 an19 cd19 ct19 := by rw [hfds]; rfl
  have b19 : Binds K ((fds[19]?).getD default) P_19 [] := by rw [d19]; exact .all fun us hl => match us, hl with | [_, _], _ => rfl
  rw [← d19] at F19
  have d20 : (fds[20]?).getD default = PySem.W.fnOf "_law_term" "_law_term" (C8.fnArgs st_20) (C8.fnBody st_20) (C8.fnScope st_20) .none kV20 dc20 pm20 an20 cd20 ct20 := by rw [hfds]; rfl
  have b20 : Binds K ((fds[20]?).getD default) P_20 [] := by rw [d20]; exact .all fun us hl => match us, hl with | [_, _, _], _ => rfl
  rw [← d20] at F20
  have d21 : (fds[21]?).getD default = PySem.W.fnOf "_law_ends" "_law_ends" (C8.fnArgs st_21) (C8.fnBody st_21) (C8.fnScope st_21) .none kV21 dc21 pm21 an21 cd21 ct21 := by rw [hfds]; rfl
  have b21 : Binds K ((fds[21]?).getD default) P_21 [] := by rw [d21]; exact .all fun us hl => match us, hl with | [_, _, _], _ => rfl
  rw [← d21] at F21
  have d22 : (fds[22]?).getD default = PySem.W.fnOf "_law_cut" "_law_cut" (C8.fnArgs st_22) (C8.fnBody st_22) (C8.fnScope st_22) .none kV22 dc22 pm22 an22 cd22 ct22 := by rw [hfds]; rfl
  have b22 : Binds K ((fds[22]?).getD default) P_22 [] := by rw [d22]; exact .all fun us hl => match us, hl with | [_], _ => rfl
  rw [← d22] at F22
  have d23 : (fds[23]?).getD default = PySem.W.fnOf "_law_compared" "_law_compared" (C8.fnArgs st_23) (C8.fnBody st_23) (C8.fnScope st_23) .none kV23 dc23 pm23 an23 cd23 ct23 := by rw [hfds]; rfl
  have b23 : Binds K ((fds[23]?).getD default) P_23 [] := by rw [d23]; exact .all fun us hl => match us, hl with | [_, _, _], _ => rfl
  rw [← d23] at F23
  have d24 : (fds[24]?).getD default = PySem.W.fnOf "_law_bounds" "_law_bounds" (C8.fnArgs st_24) (C8.fnBody st_24) (C8.fnScope st_24) .none kV24 dc24 pm24 an24 cd24 ct24 := by rw [hfds]; rfl
  have b24 : Binds K ((fds[24]?).getD default) P_24 [] := by rw [d24]; exact .all fun us hl => match us, hl with | [_, _], _ => rfl
  rw [← d24] at F24
  have d25 : (fds[25]?).getD default = PySem.W.fnOf "_law_quiet" "_law_quiet" (C8.fnArgs st_25) (C8.fnBody st_25) (C8.fnScope st_25) .none kV25 dc25 pm25 an25 cd25 ct25 := by rw [hfds]; rfl
  have b25 : Binds K ((fds[25]?).getD default) P_25 [] := by rw [d25]; exact .all fun us hl => match us, hl with | [_], _ => rfl
  rw [← d25] at F25
  have d26 : (fds[26]?).getD default = PySem.W.fnOf "_law_pair" "_law_pair" (C8.fnArgs st_26) (C8.fnBody st_26) (C8.fnScope st_26) .none kV26 dc26 pm26 an26 cd26 ct26 := by rw [hfds]; rfl
  have b26 : Binds K ((fds[26]?).getD default) P_26 [] := by rw [d26]; exact .all fun us hl => match us, hl with | [_], _ => rfl
  rw [← d26] at F26
  have d27 : (fds[27]?).getD default = PySem.W.fnOf "law" "law" (C8.fnArgs st_27) (C8.fnBody st_27) (C8.fnScope st_27) .none kV27 dc27 pm27 an27 cd27 ct27 := by rw [hfds]; rfl
  have b27 : Binds K ((fds[27]?).getD default) P_27 [] := by rw [d27]; exact .all fun us hl => match us, hl with | [_], _ => rfl
  rw [← d27] at F27
  have d28 : (fds[28]?).getD default = PySem.W.fnOf "__init__" "Facts.__init__" (C8.fnArgs st_28) (C8.fnBody st_28) (C8.fnScope st_28) .none kV28 dc28 pm28 an28 cd28 ct28 := by rw [hfds]; rfl
  have b28 : Binds K ((fds[28]?).getD default) P_28 [] := by rw [d28]; exact .all fun us hl => match us, hl with | [_, _, _], _ => rfl
  rw [← d28] at F28
  let cA : Nat → Addr := fun i => ([C0] : List Addr).getD i 0
  let fA : Nat → Addr := fun i => ([f0, f1, f2, f3, f4, f5, f6, f7, f8, f9, f10, f11, f12, f13, f14, f15, f16, f17, f18, f19, f20, f21, f22, f23, f24, f25, f26, fa, f28] : List Addr).getD i 0
  let fD : Nat → FuncData := fun i => (fds[i]?).getD default
  have S : Static (gd P w K mg base cA fA fD) nm := stat
    (PySem.W.mg_of X G aC0) ⟨pg0, hd0, po0, sa0⟩ ⟨mk0, a28, i28, kc0⟩
    n0_0
    n0_1
    (PySem.W.mg_of X G a0)
    F0 b0 k0
    (PySem.W.mg_of X G a1)
    F1 b1 k1
    (PySem.W.mg_of X G a2)
    F2 b2 k2
    (PySem.W.mg_of X G a3)
    F3 b3 k3
    (PySem.W.mg_of X G a4)
    F4 b4 k4
    (PySem.W.mg_of X G a5)
    F5 b5 k5
    (PySem.W.mg_of X G a6)
    F6 b6 k6
    (PySem.W.mg_of X G a7)
    F7 b7 k7
    (PySem.W.mg_of X G a8)
    F8 b8 k8
    (PySem.W.mg_of X G a9)
    F9 b9 k9
    (PySem.W.mg_of X G a10)
    F10 b10 k10
    (PySem.W.mg_of X G a11)
    F11 b11 k11
    (PySem.W.mg_of X G a12)
    F12 b12 k12
    (PySem.W.mg_of X G a13)
    F13 b13 k13
    (PySem.W.mg_of X G a14)
    F14 b14 k14
    (PySem.W.mg_of X G a15)
    F15 b15 k15
    (PySem.W.mg_of X G a16)
    F16 b16 k16
    (PySem.W.mg_of X G a17)
    F17 b17 k17
    (PySem.W.mg_of X G a18)
    F18 b18 k18
    (PySem.W.mg_of X G a19)
    F19 b19 k19
    (PySem.W.mg_of X G a20)
    F20 b20 k20
    (PySem.W.mg_of X G a21)
    F21 b21 k21
    (PySem.W.mg_of X G a22)
    F22 b22 k22
    (PySem.W.mg_of X G a23)
    F23 b23 k23
    (PySem.W.mg_of X G a24)
    F24 b24 k24
    (PySem.W.mg_of X G a25)
    F25 b25 k25
    (PySem.W.mg_of X G a26)
    F26 b26 k26
    (PySem.W.mg_of X G a27)
    F27 b27 k27
    F28 b28 k28
    ⟨_, .int (999999999), _, rfl, PySem.W.mg_of X G gl0, ⟨_, rfl⟩, fun z => R.int.mpr rfl⟩
    ⟨_, .ref t3, _, rfl, PySem.W.mg_of X G gl1, rfl, fun z => by simp only [R]; exact ⟨t3, [.int (-999999999), .int (999999999)], rfl, .inr ⟨_, _, _, e3, rfl, rfl, by show 2 ≤ sizeLine; decide, (.cons ⟨_, rfl⟩ (.cons ⟨_, rfl⟩ .nil))⟩, (Rs.mk _ _ (R.int.mpr rfl) (Rs.mk _ _ (R.int.mpr rfl) (Rs.nil.mpr rfl)))⟩⟩
    ⟨_, .ref t6, _, rfl, PySem.W.mg_of X G gl2, rfl, fun z => by simp only [R]; exact ⟨t6, [.int (0), .int (1)], rfl, .inr ⟨_, _, _, e6, rfl, rfl, by show 2 ≤ sizeLine; decide, (.cons ⟨_, rfl⟩ (.cons ⟨_, rfl⟩ .nil))⟩, (Rs.mk _ _ (R.int.mpr rfl) (Rs.mk _ _ (R.int.mpr rfl) (Rs.nil.mpr rfl)))⟩⟩
    (PySem.W.mg_none_of X G z0)
    (PySem.W.mg_none_of X G z1)
    (PySem.W.mg_none_of X G z2)
    (PySem.W.mg_none_of X G z3)
    (PySem.W.mg_none_of X G z4)
    (PySem.W.mg_none_of X G z5)
    (PySem.W.mg_none_of X G z6)
    (PySem.W.mg_none_of X G z7)
    (PySem.W.mg_none_of X G z8)
    (PySem.W.mg_none_of X G z9)
  have D : ∀ f, f < prog.defs.length → DefOk (gd P w K mg base cA fA fD) nm f := dfs F0 F1 F2 F3 F4 F5 F6 F7 F8 F9 F10 F11 F12 F13 F14 F15 F16 F17 F18 F19 F20 F21 F22 F23 F24 F25 F26 F27 F28
  have F := fns_ok S D 100 27 (by show 27 < 29; decide)
  rw [← d27]
  exact F.imp (fun vs H Q E h => scr_of (G := gd P w K mg base cA fA fD) rfl plain_law vs H Q E h)
end
theorem walk {l : PySem.W.OpenLaw} {q : Program} {loose : List Str} {XP : (Str → Option Value) → Heap → Prop} {YP : World → Heap → Prop} {d : DefRec} {K : Params → PySem.W.Frag} (hn : l.most = some 63) (hdf : d.params.defaults = [])
    (hY : ∀ (w : World) (h : Heap), YP w h → (K w.params).In h)
    (F : ∀ (w : World) (mg : Str → Option Value) (fa : Addr) (h : Heap), (K w.params).In h → h.Ns mainGlobals mg → mg d.name = some (.ref fa) →
      ∃ fd : FuncData, (∀ (s : Shared) (u : Value), BindsTo s fd ⟨[u], []⟩ [("_law_script", u)]) ∧ ∀ base : Heap, (K w.params).In base → base.Ns mainGlobals mg → FnOk l.prog w (K w.params) mg base (L2.CX l.prog w) 100 fa fd ["_law_script"] (spScr (K w.params))) :
    PySem.W.WalkO q loose XP YP l.row.toRowW d [] (fun f vs => PySem.call f vs) :=
  L2.walk_of (n := 63) (k := 100) (x := "_law_script") (CX := fun w => L2.CX l.prog w) (sp := fun w => spScr (K w.params)) hn (by decide) hdf ⟨rfl, by decide, by decide⟩ hY F (fun _ _ a ns hl hO hS => ⟨a, ns, rfl, hS, hl, hO, fun _ => rfl⟩) fun _ _ _ _ _ z => cx_false z
end K20
open PySem PySem.W PyProof.Rows
set_option maxRecDepth 100000 in
set_option maxHeartbeats 0 in
theorem PySem.Challenge.cw_fusewalk_k20_whole_bounds_told_holds : PySem.Challenge.rw_fusewalk_k20_whole_bounds_told.Holds := by
  w_on; o_law; k_head; (case hw => w_witness2)
  k_fill
  refine K20.walk (l := PySem.Challenge.rw_fusewalk_k20_whole_bounds_told) rfl rfl (fun w h Y => PySem.W.kIn_of Y) ?F
  case F =>
    intro w mg fa h KX G hmg
    refine' K20.all_mk KX G hmg ?aC0 ?pg0 ?hd0 ?po0 ?sa0 ?mk0 ?kc0 ?n0_0 ?n0_1 ?a0 ?l0 ?c0 ?k0 ?a1 ?l1 ?c1 ?k1 ?a2 ?l2 ?c2 ?k2 ?a3 ?l3 ?c3 ?k3 ?a4 ?l4 ?c4 ?k4 ?a5 ?l5 ?c5 ?k5 ?a6 ?l6 ?c6 ?k6 ?a7 ?l7 ?c7 ?k7 ?a8 ?l8 ?c8 ?k8 ?a9 ?l9 ?c9 ?k9 ?a10 ?l10 ?c10 ?k10 ?a11 ?l11 ?c11 ?k11 ?a12 ?l12 ?c12 ?k12 ?a13 ?l13 ?c13 ?k13 ?a14 ?l14 ?c14 ?k14 ?a15 ?l15 ?c15 ?k15 ?a16 ?l16 ?c16 ?k16 ?a17 ?l17 ?c17 ?k17 ?a18 ?l18 ?c18 ?k18 ?a19 ?l19 ?c19 ?k19 ?a20 ?l20 ?c20 ?k20 ?a21 ?l21 ?c21 ?k21 ?a22 ?l22 ?c22 ?k22 ?a23 ?l23 ?c23 ?k23 ?a24 ?l24 ?c24 ?k24 ?a25 ?l25 ?c25 ?k25 ?a26 ?l26 ?c26 ?k26 ?a27 ?l27 ?c27 ?k27 ?a28 ?i28 ?l28 ?c28 ?k28 ?gl0 ?gl1 ?e3 ?gl2 ?e6 ?z0 ?z1 ?z2 ?z3 ?z4 ?z5 ?z6 ?z7 ?z8 ?z9
    (case aC0 => k_is)
    (case pg0 => k_is)
    (case hd0 => k_is)
    (case po0 => k_is)
    (case sa0 => k_is)
    (case mk0 => k_is)
    (case kc0 => k_is)
    (case n0_0 => k_is)
    (case n0_1 => k_is)
    (case a0 => k_is)
    (case l0 => k_is)
    (case c0 => k_is)
    (case k0 => k_is)
    (case a1 => k_is)
    (case l1 => k_is)
    (case c1 => k_is)
    (case k1 => k_is)
    (case a2 => k_is)
    (case l2 => k_is)
    (case c2 => k_is)
    (case k2 => k_is)
    (case a3 => k_is)
    (case l3 => k_is)
    (case c3 => k_is)
    (case k3 => k_is)
    (case a4 => k_is)
    (case l4 => k_is)
    (case c4 => k_is)
    (case k4 => k_is)
    (case a5 => k_is)
    (case l5 => k_is)
    (case c5 => k_is)
    (case k5 => k_is)
    (case a6 => k_is)
    (case l6 => k_is)
    (case c6 => k_is)
    (case k6 => k_is)
    (case a7 => k_is)
    (case l7 => k_is)
    (case c7 => k_is)
    (case k7 => k_is)
    (case a8 => k_is)
    (case l8 => k_is)
    (case c8 => k_is)
    (case k8 => k_is)
    (case a9 => k_is)
    (case l9 => k_is)
    (case c9 => k_is)
    (case k9 => k_is)
    (case a10 => k_is)
    (case l10 => k_is)
    (case c10 => k_is)
    (case k10 => k_is)
    (case a11 => k_is)
    (case l11 => k_is)
    (case c11 => k_is)
    (case k11 => k_is)
    (case a12 => k_is)
    (case l12 => k_is)
    (case c12 => k_is)
    (case k12 => k_is)
    (case a13 => k_is)
    (case l13 => k_is)
    (case c13 => k_is)
    (case k13 => k_is)
    (case a14 => k_is)
    (case l14 => k_is)
    (case c14 => k_is)
    (case k14 => k_is)
    (case a15 => k_is)
    (case l15 => k_is)
    (case c15 => k_is)
    (case k15 => k_is)
    (case a16 => k_is)
    (case l16 => k_is)
    (case c16 => k_is)
    (case k16 => k_is)
    (case a17 => k_is)
    (case l17 => k_is)
    (case c17 => k_is)
    (case k17 => k_is)
    (case a18 => k_is)
    (case l18 => k_is)
    (case c18 => k_is)
    (case k18 => k_is)
    (case a19 => k_is)
    (case l19 => k_is)
    (case c19 => k_is)
    (case k19 => k_is)
    (case a20 => k_is)
    (case l20 => k_is)
    (case c20 => k_is)
    (case k20 => k_is)
    (case a21 => k_is)
    (case l21 => k_is)
    (case c21 => k_is)
    (case k21 => k_is)
    (case a22 => k_is)
    (case l22 => k_is)
    (case c22 => k_is)
    (case k22 => k_is)
    (case a23 => k_is)
    (case l23 => k_is)
    (case c23 => k_is)
    (case k23 => k_is)
    (case a24 => k_is)
    (case l24 => k_is)
    (case c24 => k_is)
    (case k24 => k_is)
    (case a25 => k_is)
    (case l25 => k_is)
    (case c25 => k_is)
    (case k25 => k_is)
    (case a26 => k_is)
    (case l26 => k_is)
    (case c26 => k_is)
    (case k26 => k_is)
    (case a27 => k_is)
    (case l27 => k_is)
    (case c27 => k_is)
    (case k27 => k_is)
    (case a28 => k_is)
    (case i28 => k_is)
    (case l28 => k_is)
    (case c28 => k_is)
    (case k28 => k_is)
    (case gl0 => k_is)
    (case gl1 => k_is)
    (case e3 => k_is)
    (case gl2 => k_is)
    (case e6 => k_is)
    (case z0 => k_is)
    (case z1 => k_is)
    (case z2 => k_is)
    (case z3 => k_is)
    (case z4 => k_is)
    (case z5 => k_is)
    (case z6 => k_is)
    (case z7 => k_is)
    (case z8 => k_is)
    (case z9 => k_is)


