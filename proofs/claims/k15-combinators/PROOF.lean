import PyProof.Rows.All
import Wide.All
import OpenK.AllK
import Wide.FinOn
import HandS.ForMost
import HandS.ForExc
import HandS.Lambda
import HandS.TupAny
import HandS.IsInst
import HandS.Conv
import HandS.Rev
import HandS.RevTup
import HandS.More
import HandS.WrittenGet
import HandS.NoneIn
import HandS.WordsDict
import HandS.ExcOwn
import HandS.Comp
import HandS.TryMany
import KE.KExcSuper
import KE.KSuper
import KE.KExcTry
import HandS.Exc
import HandS.ExcField
import HandS.Dict
import HandS.Style
import HandS.Defaults
import HandS.EndTab
import HandS.HeadWalk
import HandS.HeadHook4
import KE.KStateDown
import HandS.Head0
import HandS.Head1
import HandS.Head2
import HandS.Words
import PyProof.TableCode
import PySem.Challenge.RW_wheelhall_k15_combinators
set_option Elab.async false
set_option linter.all false
set_option maxRecDepth 100000
set_option maxHeartbeats 0
/-! The evaluator: compact syntax, plain data, a virtual heap. No library needed. -/
namespace Ev

/-- plain data: tuples are trees; mutable things are places in the virtual heap -/
inductive D where
  | non
  | bl (b : Bool)
  | int (i : Int)
  | str (s : List Nat)
  | tup (xs : List D)
  | ref (n : Nat)
  /-- a list from outside, only read -/
  | fro (xs : List D)

/-- keys of dicts -/
inductive Ky where
  | int (i : Int)
  | str (s : List Nat)
  | tup (xs : List (Int ⊕ List Nat))
  deriving DecidableEq

/-- what stands in the virtual heap -/
inductive O where
  | lst (xs : List D)
  | dct (kvs : List (Ky × D))
  | ins (c : Nat) (fs : List (Nat × D))

/-- the newest object first; n: how many -/
structure VH where
  n : Nat
  os : List O

def VH.nil : VH := ⟨0, []⟩
def VH.get (h : VH) (a : Nat) : Option O := if a < h.n then h.os[h.n - 1 - a]? else none
def VH.new (h : VH) (o : O) : VH := ⟨h.n + 1, o :: h.os⟩
def VH.set (h : VH) (a : Nat) (o : O) : VH := ⟨h.n, h.os.set (h.n - 1 - a) o⟩

/-- a value; an exception (its class, its payload); stuck -/
inductive R (α : Type) where
  | ok (a : α) (h : VH)
  | ex (c : Nat) (p : D) (h : VH)
  | no

def R.bind {α β : Type} (r : R α) (f : α → VH → R β) : R β := match r with
  | .ok a h => f a h
  | .ex c p h => .ex c p h
  | .no => .no

/-- behind a statement -/
inductive Q where
  | nx (l : List (Option D)) (h : VH)
  | rt (d : D) (h : VH)
  | bk (l : List (Option D)) (h : VH)
  | ct (l : List (Option D)) (h : VH)
  | ex (c : Nat) (p : D) (l : List (Option D)) (h : VH)
  | no

inductive Bin where
  | add | sub | mul | fdv | mod | pow
  deriving DecidableEq
inductive Cmp where
  | eq | ne | lt | le | gt | ge | is | isn | in_ | nin
  deriving DecidableEq
/-- built-in functions -/
inductive Blt where
  | len | abs | int | str | list | tuple | max2 | min2 | isStr | isInt | listRev | sumL
  deriving DecidableEq
/-- methods of built-in types -/
inductive Mth where
  | append | pop | extend | get1 | get2 | find | join | words | split | items | update
  deriving DecidableEq

mutual
inductive E where
  | var (i : Nat)
  | con (d : D)
  /-- a module's constant -/
  | glo (k : Nat)
  | bin (op : Bin) (a b : E)
  | neg (a : E)
  | not (a : E)
  | and (a b : E)
  | or (a b : E)
  | ifx (c a b : E)
  | cmp (op : Cmp) (a b : E)
  | chn (p q : Cmp) (a b c : E)
  | tup (es : Es)
  | lst (es : Es)
  /-- {k1: v1, ..}: k1, v1, k2, v2, .. -/
  | dct (es : Es)
  | idx (a b : E)
  /-- a[lo:hi]; l, r: which are there -/
  | slc (l r : Bool) (a lo hi : E)
  /-- a def; p: apart from our heap, by plain data alone -/
  | cal (p : Bool) (f : Nat) (es : Es)
  | blt (b : Blt) (es : Es)
  | mth (m : Mth) (o : E) (es : Es)
  /-- a module's own dict: d.get(k), k in d -/
  | kget (d : Nat) (k : E)
  | kin (d : Nat) (k : E)
  /-- told(lambda: e) -/
  | tld (t : Nat) (e : E)
  /-- [e for slots in it if c] -/
  | lc (is : List Nat) (it : I) (c e : E)
inductive Es where
  | nil
  | cons (e : E) (es : Es)
/-- what a for walks: a tuple, a text, a list as it stands at each turn; a range; enumerate, reversed -/
inductive I where
  | fix (e : E)
  | rng (lo hi : E)
  | enum (e : E)
  | rev (e : E)
end

/-- targets -/
inductive G where
  | nam (i : Nat)
  | tup (gs : List Nat)
  | idx (o i : E)

mutual
inductive S where
  | exp (e : E)
  | set (g : G) (e : E)
  | aug (i : Nat) (op : Bin) (e : E)
  | ret (e : E)
  | retN
  | pas
  | brk
  | cnt
  | ite (c : E) (a b : Ss)
  | whl (c : E) (b : Ss)
  | for_ (g : G) (it : I) (b : Ss)
  /-- raise of a class with a message alone; with a payload -/
  | rse (c : Nat)
  | rsep (c : Nat) (e : E)
  /-- try: b except c as e: return e.payload -/
  | tryp (b : Ss) (c : Nat) (i : Nat)
inductive Ss where
  | nil
  | cons (s : S) (ss : Ss)
end

structure Fn where
  np : Nat
  ns : Nat
  body : Ss

/-- the text's tables -/
structure Cfg where
  fns : List Fn
  glo : List D
  kds : List (List (List Nat × D))
  /-- a told's clauses: class, what is returned -/
  tls : List (List (Nat × D))
  /-- is an error of class a one of class b -/
  sub : Nat → Nat → Bool

/-! ### operations on data -/
abbrev Lc := List (Option D)
abbrev sizeMax : Nat := 100000
/- how deep == looks -/
mutual
def D.deep : D → Nat
  | .tup xs => deeps xs + 1
  | _ => 0
def deeps : List D → Nat
  | [] => 0
  | x :: xs => max (D.deep x) (deeps xs)
end
mutual
/-- no places in the heap -/
def D.plain : D → Bool
  | .tup xs => plains xs
  | .ref _ => false
  | .fro _ => false
  | _ => true
def plains : List D → Bool
  | [] => true
  | x :: xs => D.plain x && plains xs
end
def D.isNon : D → Bool
  | .non => true
  | _ => false
def b2i (b : Bool) : Int := if b then 1 else 0
mutual
/-- == of plain data -/
def D.eqv : D → D → Bool
  | .non, .non => true
  | .bl a, .bl b => a == b
  | .bl a, .int j => b2i a == j
  | .int i, .bl b => i == b2i b
  | .int i, .int j => i == j
  | .str s, .str t => s == t
  | .tup xs, .tup ys => eqvs xs ys
  | _, _ => false
def eqvs : List D → List D → Bool
  | [], [] => true
  | x :: xs, y :: ys => D.eqv x y && eqvs xs ys
  | _, _ => false
end
/-- what == compares: a plain value, or a list of plain values as a tuple under a mark -/
inductive View where
  | val (d : D)
  | lst (xs : List D)
def viewOf (d : D) (h : VH) : Option View := match d with
  | .ref a => match h.get a with
    | some (.lst xs) => if plains xs then some (.lst xs) else none
    | _ => none
  | .fro xs => if plains xs then some (.lst xs) else none
  | d => if d.plain then some (.val d) else none
def View.deep : View → Nat
  | .val d => d.deep
  | .lst xs => deeps xs + 1
def View.eqv : View → View → Bool
  | .val a, .val b => a.eqv b
  | .lst a, .lst b => eqvs a b
  | _, _ => false
def eqD (x y : D) (h : VH) : Option Bool := match viewOf x h, viewOf y h with
  | some a, some b => if min a.deep b.deep ≤ 64 then some (a.eqv b) else none
  | _, _ => none

def ltL : List Nat → List Nat → Bool
  | [], [] => false
  | [], _ :: _ => true
  | _ :: _, [] => false
  | x :: xs, y :: ys => x < y || (x == y && ltL xs ys)

/-- a place counted from the end where it is below nought -/
def atPlace (n : Nat) (i : Int) : Option Nat := if 0 ≤ i then (if i < n then some i.toNat else none) else if -(n : Int) ≤ i then some (i + n).toNat else none
def atD (xs : List D) (i : Int) : Option D := (atPlace xs.length i).bind fun j => xs[j]?
/-- a slice's end as a place -/
def cutAt (n d : Nat) : Option Int → Nat
  | none => d
  | some v => if v < 0 then (v + (n : Int)).toNat else min v.toNat n
def cut {α : Type} (xs : List α) (lo hi : Option Int) : List α := (xs.drop (cutAt xs.length 0 lo)).take (cutAt xs.length xs.length hi - cutAt xs.length 0 lo)

/-- the items of what is a list or a tuple -/
def seqOf (d : D) (h : VH) : Option (List D) := match d with
  | .tup xs => some xs
  | .fro xs => some xs
  | .ref a => match h.get a with
    | some (.lst xs) => some xs
    | _ => none
  | _ => none
def lstOf (d : D) (h : VH) : Option (List D) := match d with
  | .fro xs => some xs
  | .ref a => match h.get a with
    | some (.lst xs) => some xs
    | _ => none
  | _ => none

def small64 (i : Int) : Bool := decide (-(2 ^ 64) < i) && decide (i < 2 ^ 64)
def binD (op : Bin) (x y : D) (h : VH) : R D := match op, x, y with
  | .add, .int i, .int j => .ok (.int (i + j)) h
  | .sub, .int i, .int j => .ok (.int (i - j)) h
  | .mul, .int i, .int j => if small64 i || small64 j then .ok (.int (i * j)) h else .no
  | .fdv, .int i, .int j => if 0 < j ∧ j < 1073741824 then .ok (.int (i / j)) h else .no
  | .mod, .int i, .int j => if 0 < j then .ok (.int (i % j)) h else .no
  | .pow, .int i, .int j => if 0 ≤ j ∧ j ≤ 1000 ∧ small64 i then .ok (.int (i ^ j.toNat)) h else .no
  | .add, .str s, .str t => if s.length + t.length ≤ sizeMax then .ok (.str (s ++ t)) h else .no
  | .add, .tup xs, .tup ys => if xs.length + ys.length ≤ sizeMax then .ok (.tup (xs ++ ys)) h else .no
  | .add, .ref a, .ref b => match h.get a, h.get b with
    | some (.lst xs), some (.lst ys) => if xs.length + ys.length ≤ sizeMax then .ok (.ref h.n) (h.new (.lst (xs ++ ys))) else .no
    | _, _ => .no
  | _, _, _ => .no

/-- x op= y, where nothing is changed in place -/
def augD (op : Bin) (x y : D) (h : VH) : R D := match op, x, y with
  | .pow, _, _ => .no
  | op, .int i, .int j => binD op (.int i) (.int j) h
  | .add, .str s, .str t => binD .add (.str s) (.str t) h
  | _, _, _ => .no

/-- flat values -/
def D.flat : D → Bool
  | .non => true
  | .bl _ => true
  | .int _ => true
  | .str _ => true
  | _ => false
def inD (x : D) (xs : List D) : Bool := xs.any fun y => y.eqv x
def cmpD (op : Cmp) (x y : D) (h : VH) : Option Bool := match op with
  | .eq => eqD x y h
  | .ne => (eqD x y h).map not
  | .lt => match x, y with
    | .int i, .int j => some (decide (i < j))
    | .str s, .str t => some (ltL s t)
    | _, _ => none
  | .le => match x, y with
    | .int i, .int j => some (decide (i ≤ j))
    | .str s, .str t => some (!ltL t s)
    | _, _ => none
  | .gt => match x, y with
    | .int i, .int j => some (decide (j < i))
    | .str s, .str t => some (ltL t s)
    | _, _ => none
  | .ge => match x, y with
    | .int i, .int j => some (decide (j ≤ i))
    | .str s, .str t => some (!ltL s t)
    | _, _ => none
  | .is => match x, y with
    | .non, .non => some true
    | _, .non => some false
    | _, _ => none
  | .isn => match x, y with
    | .non, .non => some false
    | _, .non => some true
    | _, _ => none
  | .in_ => match x, y with
    | .str [c], .str t => some (t.contains c)
    | x, y => match seqOf y h with
      | some ys => if x.flat && ys.all D.flat then some (inD x ys) else none
      | none => none
  | .nin => match x, y with
    | .str [c], .str t => some (!t.contains c)
    | x, y => match seqOf y h with
      | some ys => if x.flat && ys.all D.flat then some (!inD x ys) else none
      | none => none

def idxD (x y : D) (h : VH) : Option D := match x, y with
  | .tup xs, .int i => atD xs i
  | .fro xs, .int i => atD xs i
  | .ref a, .int i => match h.get a with
    | some (.lst xs) => atD xs i
    | _ => none
  | .str s, .int i => if s.length ≤ sizeMax then (atPlace s.length i).bind fun k => s[k]?.map fun c => .str [c] else none
  | _, _ => none
def ordOf : Option D → Option (Option Int)
  | none => some none
  | some (.int i) => some (some i)
  | _ => none
def slcD (x : D) (lo hi : Option Int) (h : VH) : R D := match x with
  | .str s => if s.length ≤ sizeMax then .ok (.str (cut s lo hi)) h else .no
  | .tup xs => .ok (.tup (cut xs lo hi)) h
  | .ref a => match h.get a with
    | some (.lst xs) => .ok (.ref h.n) (h.new (.lst (cut xs lo hi)))
    | _ => .no
  | .fro xs => .ok (.ref h.n) (h.new (.lst (cut xs lo hi)))
  | _ => .no

/-- signs of a number in tens -/
def digs (n : Nat) : List Nat := (toString n).toList.map Char.toNat
def strInt (i : Int) : List Nat := if i < 0 then 45 :: digs i.natAbs else digs i.natAbs

def lenD (xs : List D) (h : VH) : R D := match xs with
  | [.str s] => if s.length ≤ sizeMax then .ok (.int s.length) h else .no
  | [.tup xs] => .ok (.int xs.length) h
  | [.fro xs] => .ok (.int xs.length) h
  | [.ref a] => match h.get a with
    | some (.lst xs) => .ok (.int xs.length) h
    | some (.dct kvs) => .ok (.int kvs.length) h
    | _ => .no
  | _ => .no
def absD (xs : List D) (h : VH) : R D := match xs with
  | [.int i] => .ok (.int (if i < 0 then -i else i)) h
  | _ => .no
def intD (xs : List D) (h : VH) : R D := match xs with
  | [.int i] => .ok (.int i) h
  | [.bl b] => .ok (.int (b2i b)) h
  | _ => .no
def listD (xs : List D) (h : VH) : R D := match xs with
  | [x] => match seqOf x h with
    | some ys => .ok (.ref h.n) (h.new (.lst ys))
    | none => .no
  | _ => .no
def tupleD (xs : List D) (h : VH) : R D := match xs with
  | [x] => match seqOf x h with
    | some ys => .ok (.tup ys) h
    | none => .no
  | _ => .no
def max2D (xs : List D) (h : VH) : R D := match xs with
  | [.int i, .int j] => .ok (.int (if j > i then j else i)) h
  | _ => .no
def min2D (xs : List D) (h : VH) : R D := match xs with
  | [.int i, .int j] => .ok (.int (if j < i then j else i)) h
  | _ => .no
def isStrD (xs : List D) (h : VH) : R D := match xs with
  | [.str _] => .ok (.bl true) h
  | [.non] => .ok (.bl false) h
  | [.bl _] => .ok (.bl false) h
  | [.int _] => .ok (.bl false) h
  | [.tup _] => .ok (.bl false) h
  | _ => .no
def isIntD (xs : List D) (h : VH) : R D := match xs with
  | [.str _] => .ok (.bl false) h
  | [.non] => .ok (.bl false) h
  | [.bl _] => .ok (.bl true) h
  | [.int _] => .ok (.bl true) h
  | [.tup _] => .ok (.bl false) h
  | _ => .no
def listRevD (xs : List D) (h : VH) : R D := match xs with
  | [x] => match lstOf x h with
    | some ys => .ok (.ref h.n) (h.new (.lst ys.reverse))
    | none => .no
  | _ => .no
def strD (xs : List D) (h : VH) : R D := match xs with
  | [.int i] => if small64 i then .ok (.str (strInt i)) h else .no
  | [.str s] => .ok (.str s) h
  | _ => .no
def bltD (b : Blt) : List D → VH → R D := match b with
  | .len => lenD
  | .abs => absD
  | .int => intD
  | .str => strD
  | .list => listD
  | .tuple => tupleD
  | .max2 => max2D
  | .min2 => min2D
  | .isStr => isStrD
  | .isInt => isIntD
  | .listRev => listRevD
  | .sumL => fun _ _ => .no

def appendD (o : D) (xs : List D) (h : VH) : R D := match o, xs with
  | .ref a, [x] => match h.get a with
    | some (.lst ys) => if ys.length < sizeMax then .ok .non (h.set a (.lst (ys ++ [x]))) else .no
    | _ => .no
  | _, _ => .no
def popD (o : D) (xs : List D) (h : VH) : R D := match o, xs with
  | .ref a, [] => match h.get a with
    | some (.lst ys) => match ys.getLast? with
      | some y => .ok y (h.set a (.lst ys.dropLast))
      | none => .no
    | _ => .no
  | _, _ => .no
def extendD (o : D) (xs : List D) (h : VH) : R D := match o, xs with
  | .ref a, [.tup zs] => match h.get a with
    | some (.lst ys) => if ys.length + zs.length ≤ sizeMax then .ok .non (h.set a (.lst (ys ++ zs))) else .no
    | _ => .no
  | .ref a, [.ref b] => match h.get a, h.get b with
    | some (.lst ys), some (.lst zs) => if ys.length + zs.length ≤ sizeMax then .ok .non (h.set a (.lst (ys ++ zs))) else .no
    | _, _ => .no
  | _, _ => .no
def get1D (o : D) (xs : List D) (h : VH) : R D := match o, xs with
  | .ref a, [.str k] => match h.get a with
    | some (.dct kvs) => .ok ((kvs.lookup (.str k)).getD .non) h
    | _ => .no
  | _, _ => .no
def get2D (o : D) (xs : List D) (h : VH) : R D := match o, xs with
  | .ref a, [.str k, d] => match h.get a with
    | some (.dct kvs) => .ok ((kvs.lookup (.str k)).getD d) h
    | _ => .no
  | _, _ => .no
/-- is the receiver of the method's type -/
def rcvD (m : Mth) (x : D) (h : VH) : Bool := match m, x with
  | .append, .ref a | .pop, .ref a | .extend, .ref a => match h.get a with
    | some (.lst _) => true
    | _ => false
  | .get1, .ref a | .get2, .ref a => match h.get a with
    | some (.dct _) => true
    | _ => false
  | _, _ => false
def mthD (m : Mth) : D → List D → VH → R D := match m with
  | .append => appendD
  | .pop => popD
  | .extend => extendD
  | .get1 => get1D
  | .get2 => get2D
  | _ => fun _ _ _ => .no

/-- a dict display's pairs; keys texts, no key twice -/
def pairsD : List D → Option (List (Ky × D))
  | [] => some []
  | .str k :: v :: r => (pairsD r).bind fun q => if (q.lookup (.str k)).isSome then none else some ((.str k, v) :: q)
  | _ => none

def setAtD (o i v : D) (h : VH) : Option VH := match o, i with
  | .ref a, .int i => match h.get a with
    | some (.lst xs) => (atPlace xs.length i).map fun k => h.set a (.lst (xs.set k v))
    | _ => none
  | _, _ => none

/-! ### expressions -/
abbrev Call := Nat → List D → VH → R D
def boolOf : D → Option Bool
  | .bl b => some b
  | _ => none

/-- the first clause that takes it -/
def told (C : Cfg) (c : Nat) : List (Nat × D) → Option D
  | [] => none
  | (k, d) :: r => if C.sub c k then some d else told C c r

/-- a walk's items -/
inductive Cu where
  | fix (xs : List D)
  | live (a : Nat)
  | rng (lo : Int) (n : Nat)
  | enS (s : List Nat)
  | enL (a : Nat)
/-- the item at i; none: it stops -/
def Cu.next (c : Cu) (i : Nat) (h : VH) : Option (Option D) := match c with
  | .fix xs => some xs[i]?
  | .live a => match h.get a with
    | some (.lst xs) => some xs[i]?
    | _ => none
  | .rng lo n => some (if i < n then some (.int (lo + (i : Nat))) else none)
  | .enS s => some (s[i]?.map fun c => .tup [.int (i : Nat), .str [c]])
  | .enL a => match h.get a with
    | some (.lst xs) => some (xs[i]?.map fun x => .tup [.int (i : Nat), x])
    | _ => none
def isLst (h : VH) (a : Nat) : Bool := match h.get a with
  | some (.lst _) => true
  | _ => false
def setAll : List Nat → List D → Lc → Option Lc
  | [], [], l => some l
  | i :: is, x :: xs, l => setAll is xs (l.set i (some x))
  | _, _, _ => none
/-- names = v -/
def bindD (is : List Nat) (v : D) (l : Lc) (h : VH) : Option Lc := match is with
  | [i] => some (l.set i (some v))
  | is => match seqOf v h with
    | some xs => setAll is xs l
    | none => none
/-- [e for x in it]: the list at a grows; f: the body at an item, none: left out -/
def lcGo (f : D → VH → R (Option D)) (cu : Cu) (a : Nat) : Nat → Nat → VH → R D
  | 0, _, _ => .no
  | n + 1, i, h => match cu.next i h with
    | none => .no
    | some none => .ok (.ref a) h
    | some (some x) => match f x h with
      | .ok none h1 => lcGo f cu a n (i + 1) h1
      | .ok (some y) h1 => match h1.get a with
        | some (.lst acc) => if acc.length < sizeMax then lcGo f cu a n (i + 1) (h1.set a (.lst (acc ++ [y]))) else .no
        | _ => .no
      | _ => .no
def loopFuel : Nat := 100000

mutual
def evE (C : Cfg) (call : Call) : E → Lc → VH → R D
  | .var i, l, h => match l[i]? with
    | some (some d) => .ok d h
    | _ => .no
  | .con d, _, h => .ok d h
  | .glo k, _, h => match C.glo[k]? with
    | some d => .ok d h
    | none => .no
  | .bin op a b, l, h => (evE C call a l h).bind fun x h1 => (evE C call b l h1).bind fun y h2 => binD op x y h2
  | .neg a, l, h => (evE C call a l h).bind fun x h1 => match x with
    | .int i => .ok (.int (-i)) h1
    | _ => .no
  | .not a, l, h => (evE C call a l h).bind fun x h1 => match x with
    | .bl b => .ok (.bl (!b)) h1
    | _ => .no
  | .and a b, l, h => (evE C call a l h).bind fun x h1 => match x with
    | .bl true => (evE C call b l h1).bind fun y h2 => match y with
      | .bl c => .ok (.bl c) h2
      | _ => .no
    | .bl false => .ok (.bl false) h1
    | _ => .no
  | .or a b, l, h => (evE C call a l h).bind fun x h1 => match x with
    | .bl true => .ok (.bl true) h1
    | .bl false => (evE C call b l h1).bind fun y h2 => match y with
      | .bl c => .ok (.bl c) h2
      | _ => .no
    | _ => .no
  | .ifx c a b, l, h => (evE C call c l h).bind fun x h1 => match x with
    | .bl true => evE C call a l h1
    | .bl false => evE C call b l h1
    | _ => .no
  | .cmp op a b, l, h => (evE C call a l h).bind fun x h1 => (evE C call b l h1).bind fun y h2 => match cmpD op x y h2 with
    | some r => .ok (.bl r) h2
    | none => .no
  | .chn p q a b c, l, h => (evE C call a l h).bind fun x h1 => (evE C call b l h1).bind fun y h2 => match cmpD p x y h2 with
    | some true => (evE C call c l h2).bind fun z h3 => match cmpD q y z h3 with
      | some r => .ok (.bl r) h3
      | none => .no
    | some false => .ok (.bl false) h2
    | none => .no
  | .tup es, l, h => (evEs C call es l h).bind fun xs h1 => .ok (.tup xs) h1
  | .lst es, l, h => (evEs C call es l h).bind fun xs h1 => .ok (.ref h1.n) (h1.new (.lst xs))
  | .dct es, l, h => (evEs C call es l (h.new (.dct []))).bind fun xs h2 => match h2.get h.n, pairsD xs with
    | some (.dct []), some kvs => if kvs.length ≤ 15 then .ok (.ref h.n) (h2.set h.n (.dct kvs)) else .no
    | _, _ => .no
  | .idx a b, l, h => (evE C call a l h).bind fun x h1 => (evE C call b l h1).bind fun y h2 => match idxD x y h2 with
    | some d => .ok d h2
    | none => .no
  | .slc u v a lo hi, l, h => (evE C call a l h).bind fun x h1 => (evE C call lo l h1).bind fun y h2 =>
    match ordOf (if u then some y else none) with
    | some i => (evE C call hi l h2).bind fun z h3 => match ordOf (if v then some z else none) with
      | some j => slcD x i j h3
      | none => .no
    | none => .no
  | .cal p f es, l, h => (evEs C call es l h).bind fun xs h1 =>
    if p then
      if plains xs then match call f xs VH.nil with
        | .ok d _ => if d.plain then .ok d h1 else .no
        | .ex c q _ => if q.plain then .ex c q h1 else .no
        | .no => .no
      else .no
    else call f xs h1
  | .blt b es, l, h => (evEs C call es l h).bind fun xs h1 => bltD b xs h1
  | .mth m o es, l, h => (evE C call o l h).bind fun x h1 => if rcvD m x h1 then (evEs C call es l h1).bind fun xs h2 => mthD m x xs h2 else .no
  | .kget d k, l, h => (evE C call k l h).bind fun x h1 => match C.kds[d]?, x with
    | some kvs, .str s => .ok ((kvs.lookup s).getD .non) h1
    | _, _ => .no
  | .kin d k, l, h => (evE C call k l h).bind fun x h1 => match C.kds[d]?, x with
    | some kvs, .str s => .ok (.bl (kvs.lookup s).isSome) h1
    | _, _ => .no
  | .tld t e, l, h => match evE C call e l h with
    | .ok d h1 => .ok d h1
    | .ex c _ h1 => match C.tls[t]? with
      | some cs => match told C c cs with
        | some d => .ok d h1
        | none => .no
      | none => .no
    | .no => .no
  | .lc is it c e, l, h => (evI C call it l h).bind fun cu h1 => lcGo (fun y h2 => match bindD is y l h2 with
      | none => .no
      | some l1 => (evE C call c l1 h2).bind fun b h3 => match b with
        | .bl true => (evE C call e l1 h3).bind fun z h4 => .ok (some z) h4
        | .bl false => .ok none h3
        | _ => .no) cu h1.n loopFuel 0 (h1.new (.lst []))
def evEs (C : Cfg) (call : Call) : Es → Lc → VH → R (List D)
  | .nil, _, h => .ok [] h
  | .cons e es, l, h => (evE C call e l h).bind fun x h1 => (evEs C call es l h1).bind fun xs h2 => .ok (x :: xs) h2
def evI (C : Cfg) (call : Call) : I → Lc → VH → R Cu
  | .fix e, l, h => (evE C call e l h).bind fun x h1 => match x with
    | .tup xs => .ok (.fix xs) h1
    | .fro xs => .ok (.fix xs) h1
    | .str s => .ok (.fix (s.map fun c => .str [c])) h1
    | .ref a => if isLst h1 a then .ok (.live a) h1 else .no
    | _ => .no
  | .rng lo hi, l, h => (evE C call lo l h).bind fun x h1 => (evE C call hi l h1).bind fun y h2 => match x, y with
    | .int i, .int j => if -(2 ^ 62) ≤ i ∧ i < 2 ^ 62 ∧ -(2 ^ 62) ≤ j ∧ j < 2 ^ 62 then .ok (.rng i (j - i).toNat) h2 else .no
    | _, _ => .no
  | .enum e, l, h => (evE C call e l h).bind fun x h1 => match x with
    | .str s => .ok (.enS s) h1
    | .ref a => if isLst h1 a then .ok (.enL a) h1 else .no
    | _ => .no
  | .rev e, l, h => (evE C call e l h).bind fun x h1 => match x with
    | .tup xs => .ok (.fix xs.reverse) h1
    | .fro xs => .ok (.fix xs.reverse) h1
    | _ => .no
end

/-! ### statements -/
def R.thn {α : Type} (r : R α) (l : Lc) (f : α → VH → Q) : Q := match r with
  | .ok a h => f a h
  | .ex c p h => .ex c p l h
  | .no => .no
def evG (C : Cfg) (call : Call) (g : G) (v : D) (l : Lc) (h : VH) : Q := match g with
  | .nam i => .nx (l.set i (some v)) h
  | .tup is => match seqOf v h with
    | some xs => match setAll is xs l with
      | some l1 => .nx l1 h
      | none => .no
    | none => .no
  | .idx o i => (evE C call o l h).thn l fun x h1 => (evE C call i l h1).thn l fun y h2 => match setAtD x y v h2 with
    | some h3 => .nx l h3
    | none => .no

/-- while -/
def whlGo (c : Lc → VH → R D) (b : Lc → VH → Q) : Nat → Lc → VH → Q
  | 0, _, _ => .no
  | n + 1, l, h => (c l h).thn l fun x h1 => match x with
    | .bl true => match b l h1 with
      | .nx l2 h2 => whlGo c b n l2 h2
      | .ct l2 h2 => whlGo c b n l2 h2
      | .bk l2 h2 => .nx l2 h2
      | r => r
    | .bl false => .nx l h1
    | _ => .no
/-- for -/
def itGo (cu : Cu) (g : D → Lc → VH → Q) (b : Lc → VH → Q) : Nat → Nat → Lc → VH → Q
  | 0, _, _, _ => .no
  | n + 1, i, l, h => match cu.next i h with
    | none => .no
    | some none => .nx l h
    | some (some x) => match g x l h with
      | .nx l1 h1 => match b l1 h1 with
        | .nx l2 h2 => itGo cu g b n (i + 1) l2 h2
        | .ct l2 h2 => itGo cu g b n (i + 1) l2 h2
        | .bk l2 h2 => .nx l2 h2
        | r => r
      | .ex c p l1 h1 => .ex c p l1 h1
      | _ => .no

mutual
def evS (C : Cfg) (call : Call) : S → Lc → VH → Q
  | .exp e, l, h => (evE C call e l h).thn l fun _ h1 => .nx l h1
  | .set g e, l, h => (evE C call e l h).thn l fun x h1 => evG C call g x l h1
  | .aug i op e, l, h => match l[i]? with
    | some (some x) => (evE C call e l h).thn l fun y h1 => (augD op x y h1).thn l fun z h2 => .nx (l.set i (some z)) h2
    | _ => .no
  | .ret e, l, h => (evE C call e l h).thn l fun x h1 => .rt x h1
  | .retN, _, h => .rt .non h
  | .pas, l, h => .nx l h
  | .brk, l, h => .bk l h
  | .cnt, l, h => .ct l h
  | .ite c a b, l, h => (evE C call c l h).thn l fun x h1 => match x with
    | .bl true => evSs C call a l h1
    | .bl false => evSs C call b l h1
    | _ => .no
  | .whl c b, l, h => whlGo (fun l h => evE C call c l h) (fun l h => evSs C call b l h) loopFuel l h
  | .for_ g it b, l, h => (evI C call it l h).thn l fun cu h1 => itGo cu (fun x l h => evG C call g x l h) (fun l h => evSs C call b l h) loopFuel 0 l h1
  | .rse c, l, h => .ex c .non l h
  | .rsep c e, l, h => (evE C call e l h).thn l fun x h1 => .ex c x l h1
  | .tryp b c i, l, h => match evSs C call b l h with
    | .ex k p l1 h1 => if C.sub k c then (if k == c && !p.isNon && decide (i < l1.length) then .rt p h1 else .no) else .ex k p l1 h1
    | r => r
def evSs (C : Cfg) (call : Call) : Ss → Lc → VH → Q
  | .nil, l, h => .nx l h
  | .cons s ss, l, h => match evS C call s l h with
    | .nx l1 h1 => evSs C call ss l1 h1
    | r => r
end

def startL (ns : Nat) (xs : List D) : Lc := xs.map some ++ List.replicate (ns - xs.length) none
/-- a def, called; the fuel counts calls in one another -/
def run (C : Cfg) : Nat → Call
  | 0 => fun _ _ _ => .no
  | n + 1 => fun f xs h => match C.fns[f]? with
    | some F => if xs.length = F.np then match evSs C (run C n) F.body (startL F.ns xs) h with
      | .nx _ h1 => .ok .non h1
      | .rt d h1 => .ok d h1
      | .ex c p _ h1 => .ex c p h1
      | _ => .no
      else .no
    | none => .no
end Ev

/-! The evaluator's data against the abstract heap of the hand layer. -/
namespace Ev
open PySem PySem.Spec L2

def sOf (l : List Nat) : Str := ⟨l.toArray⟩
theorem sOf_app (a b : List Nat) : sOf a ++ sOf b = sOf (a ++ b) := by
  show Str.append _ _ = _
  unfold Str.append sOf
  simp
theorem sOf_len (a : List Nat) : (sOf a).length = a.length := by
  unfold sOf Str.length
  simp
theorem sOf_cps (a : List Nat) : (sOf a).cps.toList = a := by
  unfold sOf
  simp
theorem sOf_inj {a b : List Nat} (h : sOf a = sOf b) : a = b := by
  have e := congrArg (fun z : Str => z.cps.toList) h
  simpa [sOf] using e
theorem sOf_of (x : Str) : sOf x.cps.toList = x := by
  obtain ⟨a⟩ := x
  unfold sOf
  simp

/-- a list from outside at a: not ours, or written in the text -/
def FL (K : PySem.W.Frag) (ρ : List Addr) (H : Hp) (a : Addr) (vs : List V) : Prop :=
  (Rd H a (.lst vs) ∧ a ∉ ρ) ∨ ∃ (o : Obj) (its : Array Value) (n : Nat), K.lookup a = some o ∧ o.cls = .type "list" ∧ o.dict = none ∧ o.data = .seq its n ∧ its.size ≤ sizeLine ∧ Vals vs its.toList
theorem FL.sq {K : PySem.W.Frag} {ρ : List Addr} {H : Hp} {a : Addr} {vs : List V} (h : FL K ρ H a vs) : SqL K H a vs := by
  rcases h with ⟨h, _⟩ | h
  · exact .inl h
  · exact .inr h
mutual
/-- d stands for v -/
inductive RD (K : PySem.W.Frag) (ρ : List Addr) (H : Hp) : D → V → Prop
  | non : RD K ρ H .non .non
  | bl (b : Bool) : RD K ρ H (.bl b) (.bl b)
  | int (i : Int) : RD K ρ H (.int i) (.int i)
  | str {s : List Nat} (hs : ∀ c ∈ s, c < 1114112) : RD K ρ H (.str s) (.str (sOf s))
  | tup {a : Addr} {xs : List D} {vs : List V} (h : SqT K H a vs) (r : RDs K ρ H xs vs) : RD K ρ H (.tup xs) (.ref a)
  | ref {n : Nat} {a : Addr} (h : ρ[n]? = some a) : RD K ρ H (.ref n) (.ref a)
  | fro {a : Addr} {xs : List D} {vs : List V} (h : FL K ρ H a vs) (r : RDs K ρ H xs vs) : RD K ρ H (.fro xs) (.ref a)
inductive RDs (K : PySem.W.Frag) (ρ : List Addr) (H : Hp) : List D → List V → Prop
  | nil : RDs K ρ H [] []
  | cons {x : D} {v : V} {xs : List D} {vs : List V} (h : RD K ρ H x v) (t : RDs K ρ H xs vs) : RDs K ρ H (x :: xs) (v :: vs)
end

/-- what is not ours stays (tables of code objects may grow) -/
def Fr (ρ : List Addr) (H H' : Hp) : Prop := ∀ b o, H b = some o → b ∉ ρ → (∀ ps, o ≠ .tbl ps) → H' b = some o

def kyOf : Key → Ky
  | .inl i => .int i
  | .inr s => .str s.cps.toList
/-- an object of ours -/
def RO (K : PySem.W.Frag) (ρ : List Addr) (H : Hp) : O → Addr → Prop
  | .lst xs, p => ∃ vs, H p = some (.lst vs) ∧ RDs K ρ H xs vs
  | .dct kvs, p => ∃ ws : List (Key × V), H p = some (.dK ws) ∧ kvs.map (·.1) = ws.map (fun q => kyOf q.1) ∧ RDs K ρ H (kvs.map (·.2)) (ws.map (·.2))
  | .ins _ _, _ => False

/-- the virtual heap h stands for our part of H -/
structure Rep (K : PySem.W.Frag) (T : List (Addr × Str)) (ρ : List Addr) (h : VH) (H : Hp) : Prop where
  sz : ρ.length = h.n
  so : h.os.length = h.n
  nd : ρ.Nodup
  obj : ∀ (n : Nat) (p : Addr), ρ[n]? = some p → ∃ o, h.get n = some o ∧ RO K ρ H o p
  tab : LamX.Tabs T H

/-- from H on to H' -/
structure Step (K : PySem.W.Frag) (T : List (Addr × Str)) (ρ : List Addr) (H : Hp) (ρ' : List Addr) (h' : VH) (H' : Hp) : Prop where
  pre : ∃ t, ρ' = ρ ++ t
  rep : Rep K T ρ' h' H'
  fr : Fr ρ H H'
  fresh : ∀ p ∈ ρ', p ∉ ρ → ∀ o, H p = some o → ∃ ps, o = .tbl ps

section
variable {K : PySem.W.Frag} {T : List (Addr × Str)} {ρ ρ' ρ1 ρ2 : List Addr} {h h' h1 h2 : VH} {H H' H1 H2 : Hp}

theorem Rep.kind (r : Rep K T ρ h H) {p : Addr} (hp : p ∈ ρ) : (∃ vs, H p = some (.lst vs)) ∨ (∃ ws, H p = some (.dK ws)) := by
  obtain ⟨n, hn, e⟩ := List.getElem_of_mem hp
  obtain ⟨o, _, ho⟩ := r.obj n p (by rw [List.getElem?_eq_getElem hn, e])
  cases o with
  | lst xs => obtain ⟨vs, h1, _⟩ := ho; exact .inl ⟨vs, h1⟩
  | dct kvs => obtain ⟨ws, h1, _⟩ := ho; exact .inr ⟨ws, h1⟩
  | ins c fs => exact ho.elim
/-- tuples, frozen things, are not ours -/
theorem Rep.notOurs (r : Rep K T ρ h H) {b : Addr} {o : HO} (e : H b = some o) (hl : ∀ vs, o ≠ .lst vs) (hd : ∀ ws, o ≠ .dK ws) : b ∉ ρ := fun hb => by
  rcases r.kind hb with ⟨vs, q⟩ | ⟨ws, q⟩
  · rw [e] at q; exact hl vs (Option.some.inj q)
  · rw [e] at q; exact hd ws (Option.some.inj q)
theorem Step.tupK (r : Rep K T ρ h H) (s : Fr ρ H H') {a : Addr} {vs : List V} (q : SqT K H a vs) : SqT K H' a vs := by
  rcases q with (q | ⟨o, q⟩) | q
  · exact .inl (.inl (s a _ q (r.notOurs q (fun _ z => by cases z) (fun _ z => by cases z)) (fun _ z => by cases z)))
  · exact .inl (.inr ⟨o, s a _ q (r.notOurs q (fun _ z => by cases z) (fun _ z => by cases z)) (fun _ z => by cases z)⟩)
  · exact .inr q
theorem Step.lstK (s : Fr ρ H H') (hf : ∀ p ∈ ρ', p ∉ ρ → ∀ o, H p = some o → ∃ ps, o = .tbl ps) {a : Addr} {vs : List V} (q : FL K ρ H a vs) : FL K ρ' H' a vs := by
  rcases q with ⟨q, na⟩ | q
  · have na' : a ∉ ρ' := fun z => by
      rcases q with q | ⟨o, q⟩ <;> (obtain ⟨ps, e⟩ := hf a z na _ q; cases e)
    rcases q with q | ⟨o, q⟩
    · exact .inl ⟨.inl (s a _ q na (fun _ z => by cases z)), na'⟩
    · exact .inl ⟨.inr ⟨o, s a _ q na (fun _ z => by cases z)⟩, na'⟩
  · exact .inr q
end

section
variable {K : PySem.W.Frag} {T : List (Addr × Str)} {ρ ρ' : List Addr} {H H' : Hp}
mutual
theorem RD.mono' (ht : ∀ a vs, SqT K H a vs → SqT K H' a vs) (hl : ∀ a vs, FL K ρ H a vs → FL K ρ' H' a vs) (hr : ∀ (n : Nat) (a : Addr), ρ[n]? = some a → ρ'[n]? = some a) : ∀ {d : D} {v : V}, RD K ρ H d v → RD K ρ' H' d v
  | _, _, .non => .non
  | _, _, .bl b => .bl b
  | _, _, .int i => .int i
  | _, _, .str hs => .str hs
  | _, _, .tup h r => .tup (ht _ _ h) (RDs.mono' ht hl hr r)
  | _, _, .ref h => .ref (hr _ _ h)
  | _, _, .fro h r => .fro (hl _ _ h) (RDs.mono' ht hl hr r)
theorem RDs.mono' (ht : ∀ a vs, SqT K H a vs → SqT K H' a vs) (hl : ∀ a vs, FL K ρ H a vs → FL K ρ' H' a vs) (hr : ∀ (n : Nat) (a : Addr), ρ[n]? = some a → ρ'[n]? = some a) : ∀ {xs : List D} {vs : List V}, RDs K ρ H xs vs → RDs K ρ' H' xs vs
  | _, _, .nil => .nil
  | _, _, .cons h t => .cons (RD.mono' ht hl hr h) (RDs.mono' ht hl hr t)
end
end
section
variable {K : PySem.W.Frag} {T : List (Addr × Str)} {ρ ρ' ρ1 ρ2 : List Addr} {h h' h1 h2 : VH} {H H' H1 H2 : Hp}
theorem pre_get {n : Nat} {a : Addr} (p : ∃ t, ρ' = ρ ++ t) (e : ρ[n]? = some a) : ρ'[n]? = some a := by
  obtain ⟨t, rfl⟩ := p
  rw [List.getElem?_append_left (List.getElem?_eq_some_iff.mp e).1]
  exact e
theorem Step.rd (r : Rep K T ρ h H) (s : Step K T ρ H ρ' h' H') {d : D} {v : V} (q : RD K ρ H d v) : RD K ρ' H' d v :=
  RD.mono' (fun _ _ => Step.tupK r s.fr) (fun _ _ => Step.lstK s.fr s.fresh) (fun _ _ => pre_get s.pre) q
theorem Step.rds (r : Rep K T ρ h H) (s : Step K T ρ H ρ' h' H') {xs : List D} {vs : List V} (q : RDs K ρ H xs vs) : RDs K ρ' H' xs vs :=
  RDs.mono' (fun _ _ => Step.tupK r s.fr) (fun _ _ => Step.lstK s.fr s.fresh) (fun _ _ => pre_get s.pre) q
theorem Step.refl (r : Rep K T ρ h H) : Step K T ρ H ρ h H := ⟨⟨[], by simp⟩, r, fun _ _ e _ _ => e, fun p hp hn => absurd hp hn⟩
theorem Step.trans (s1 : Step K T ρ H ρ1 h1 H1) (s2 : Step K T ρ1 H1 ρ2 h2 H2) : Step K T ρ H ρ2 h2 H2 := by
  obtain ⟨t1, e1⟩ := s1.pre
  obtain ⟨t2, e2⟩ := s2.pre
  refine ⟨⟨t1 ++ t2, by rw [e2, e1, List.append_assoc]⟩, s2.rep, fun b o e nb nt => ?_, fun p hp hn o e => ?_⟩
  · refine s2.fr b o (s1.fr b o e nb nt) (fun z => ?_) nt
    obtain ⟨ps, q⟩ := s1.fresh b z nb o e
    exact nt ps q
  · by_cases h1 : p ∈ ρ1
    · exact s1.fresh p h1 hn o e
    · refine Classical.byContradiction fun z => ?_
      have nt : ∀ ps, o ≠ .tbl ps := fun ps q => z ⟨ps, q⟩
      exact z (s2.fresh p hp h1 o (s1.fr p o e hn nt))

/-! ### places -/
theorem VH.get_new (h : VH) (o : O) (a : Nat) : (h.new o).get a = if a = h.n then some o else h.get a := by
  unfold VH.new VH.get
  simp only
  by_cases e : a = h.n
  · subst e
    rw [if_pos (Nat.lt_succ_self _), if_pos rfl]
    simp
  · rw [if_neg e]
    by_cases l : a < h.n
    · rw [if_pos (Nat.lt_succ_of_lt l), if_pos l]
      have q : h.n + 1 - 1 - a = (h.n - 1 - a) + 1 := by omega
      rw [q, List.getElem?_cons_succ]
    · rw [if_neg l, if_neg (by omega)]
theorem VH.get_set (h : VH) (hs : h.os.length = h.n) {a : Nat} (ha : a < h.n) (o : O) (b : Nat) : (h.set a o).get b = if b = a then some o else h.get b := by
  unfold VH.set VH.get
  simp only
  by_cases e : b = a
  · subst e
    rw [if_pos ha, if_pos rfl, List.getElem?_set_self (by omega)]
  · rw [if_neg e]
    by_cases l : b < h.n
    · rw [if_pos l, if_pos l, List.getElem?_set_ne (by omega)]
    · rw [if_neg l, if_neg l]
theorem Rep.lt (r : Rep K T ρ h H) {n : Nat} {p : Addr} (e : ρ[n]? = some p) : n < h.n := by
  rw [← r.sz]
  exact (List.getElem?_eq_some_iff.mp e).1
theorem Rep.at (r : Rep K T ρ h H) {n : Nat} {p : Addr} {o : O} (e : ρ[n]? = some p) (g : h.get n = some o) : RO K ρ H o p := by
  obtain ⟨o', g', q⟩ := r.obj n p e
  rw [g] at g'
  cases g'
  exact q
theorem Rep.ours (r : Rep K T ρ h H) {p : Addr} (hp : H p = none) : p ∉ ρ := fun z => by
  rcases r.kind z with ⟨_, q⟩ | ⟨_, q⟩ <;> rw [hp] at q <;> cases q
/-- a new thing is laid -/
theorem RD.new {p : Addr} {o : HO} (hp : H p = none) {d : D} {v : V} (q : RD K ρ H d v) : RD K (ρ ++ [p]) (upd H p o) d v := by
  refine RD.mono' (fun a vs h => ?_) (fun a vs h => ?_) (fun n a e => ?_) q
  · rcases h with (h | ⟨u, h⟩) | h
    · exact .inl (.inl (by rw [upd_ne (ne_of_none h hp)]; exact h))
    · exact .inl (.inr ⟨u, by rw [upd_ne (ne_of_none h hp)]; exact h⟩)
    · exact .inr h
  · rcases h with ⟨h, na⟩ | h
    · have ne : a ≠ p := by rcases h with h | ⟨u, h⟩ <;> exact ne_of_none h hp
      refine .inl ⟨?_, by simp [na, ne]⟩
      rcases h with h | ⟨u, h⟩
      · exact .inl (by rw [upd_ne ne]; exact h)
      · exact .inr ⟨u, by rw [upd_ne ne]; exact h⟩
    · exact .inr h
  · exact pre_get ⟨[p], rfl⟩ e
theorem RDs.new {p : Addr} {o : HO} (hp : H p = none) : ∀ {xs : List D} {vs : List V}, RDs K ρ H xs vs → RDs K (ρ ++ [p]) (upd H p o) xs vs
  | _, _, .nil => .nil
  | _, _, .cons h t => .cons (h.new hp) (t.new hp)
theorem RD.newT {p : Addr} {o : HO} (hp : H p = none) {d : D} {v : V} (q : RD K ρ H d v) : RD K ρ (upd H p o) d v := by
  refine RD.mono' (fun a vs h => ?_) (fun a vs h => ?_) (fun n a e => e) q
  · rcases h with (h | ⟨u, h⟩) | h
    · exact .inl (.inl (by rw [upd_ne (ne_of_none h hp)]; exact h))
    · exact .inl (.inr ⟨u, by rw [upd_ne (ne_of_none h hp)]; exact h⟩)
    · exact .inr h
  · rcases h with ⟨h, na⟩ | h
    · have ne : a ≠ p := by rcases h with h | ⟨u, h⟩ <;> exact ne_of_none h hp
      refine .inl ⟨?_, na⟩
      rcases h with h | ⟨u, h⟩
      · exact .inl (by rw [upd_ne ne]; exact h)
      · exact .inr ⟨u, by rw [upd_ne ne]; exact h⟩
    · exact .inr h
theorem RDs.newT {p : Addr} {o : HO} (hp : H p = none) : ∀ {xs : List D} {vs : List V}, RDs K ρ H xs vs → RDs K ρ (upd H p o) xs vs
  | _, _, .nil => .nil
  | _, _, .cons h t => .cons (h.newT hp) (t.newT hp)
/-- a thing of ours is written -/
theorem RD.set (r : Rep K T ρ h H) {p : Addr} {o : HO} (hp : p ∈ ρ) {d : D} {v : V} (q : RD K ρ H d v) : RD K ρ (upd H p o) d v := by
  have nt : ∀ {a : Addr} {u : HO}, H a = some u → (∀ vs, u ≠ .lst vs) → (∀ ws, u ≠ .dK ws) → a ≠ p := fun e h1 h2 z => r.notOurs e h1 h2 (by rw [z]; exact hp)
  refine RD.mono' (fun a vs h => ?_) (fun a vs h => ?_) (fun n a e => e) q
  · rcases h with (h | ⟨u, h⟩) | h
    · exact .inl (.inl (by rw [upd_ne (nt h (fun _ z => by cases z) (fun _ z => by cases z))]; exact h))
    · exact .inl (.inr ⟨u, by rw [upd_ne (nt h (fun _ z => by cases z) (fun _ z => by cases z))]; exact h⟩)
    · exact .inr h
  · rcases h with ⟨h, na⟩ | h
    · have ne : a ≠ p := fun z => na (by rw [z]; exact hp)
      refine .inl ⟨?_, na⟩
      rcases h with h | ⟨u, h⟩
      · exact .inl (by rw [upd_ne ne]; exact h)
      · exact .inr ⟨u, by rw [upd_ne ne]; exact h⟩
    · exact .inr h
theorem RDs.set (r : Rep K T ρ h H) {p : Addr} {o : HO} (hp : p ∈ ρ) : ∀ {xs : List D} {vs : List V}, RDs K ρ H xs vs → RDs K ρ (upd H p o) xs vs
  | _, _, .nil => .nil
  | _, _, .cons h t => .cons (h.set r hp) (t.set r hp)
theorem RO.mono (hm : ∀ {xs : List D} {vs : List V}, RDs K ρ H xs vs → RDs K ρ' H' xs vs) {o : O} {p : Addr} (he : H' p = H p) (q : RO K ρ H o p) : RO K ρ' H' o p := by
  cases o with
  | lst xs => obtain ⟨vs, h1, h2⟩ := q; exact ⟨vs, by rw [he]; exact h1, hm h2⟩
  | dct kvs => obtain ⟨ws, h1, h2, h3⟩ := q; exact ⟨ws, by rw [he]; exact h1, h2, hm h3⟩
  | ins c fs => exact q
theorem tabs_new {p : Addr} {o : HO} (hp : H p = none) (t : LamX.Tabs T H) : LamX.Tabs T (upd H p o) := t.ext fun b u e => by rw [upd_ne (ne_of_none e hp)]; exact e
theorem tabs_set {p : Addr} {o : HO} (h1 : ∀ ps, H p ≠ some (.tbl ps)) (h2 : ∀ c q, H p ≠ some (LamX.CodeO c q)) (t : LamX.Tabs T H) : LamX.Tabs T (upd H p o) := fun x hx => by
  obtain ⟨ps, e1, e2, e3⟩ := t x hx
  refine ⟨ps, ?_, e2, fun pos cv hc => ?_⟩
  · rw [upd_ne (fun z => h1 ps (by rw [← z]; exact e1))]
    exact e1
  · obtain ⟨c, a1, a2⟩ := e3 pos cv hc
    refine ⟨c, a1, ?_⟩
    rw [upd_ne (fun z => h2 c x.2 (by rw [← z]; exact a2))]
    exact a2
theorem Rep.new (r : Rep K T ρ h H) {p : Addr} (hp : H p = none) {o : O} {u : HO} (hu : RO K (ρ ++ [p]) (upd H p u) o p) (nt : ∀ ps, u ≠ .tbl ps) : Step K T ρ H (ρ ++ [p]) (h.new o) (upd H p u) := by
  have np := r.ours hp
  refine ⟨⟨[p], rfl⟩, ⟨by simp [VH.new, r.sz], by simp [VH.new, r.so], ?_, fun n q e => ?_, tabs_new hp r.tab⟩, fun b w e _ _ => by rw [upd_ne (ne_of_none e hp)]; exact e, fun b hb hn w e => ?_⟩
  · rw [List.nodup_append]
    refine ⟨r.nd, by simp, fun a ha b hb => ?_⟩
    rw [List.mem_singleton.mp hb]
    exact fun z => np (by rw [← z]; exact ha)
  · by_cases hn : n < ρ.length
    · rw [List.getElem?_append_left hn] at e
      obtain ⟨o', g, q'⟩ := r.obj n q e
      refine ⟨o', ?_, ?_⟩
      · rw [VH.get_new, if_neg (by rw [← r.sz]; omega)]
        exact g
      · have ne : q ≠ p := fun z => np (by rw [← z]; exact List.mem_of_getElem? e)
        exact q'.mono (fun z => z.new hp) (upd_ne ne)
    · rw [List.getElem?_append_right (by omega)] at e
      have hz : n - ρ.length = 0 := by
        have := (List.getElem?_eq_some_iff.mp e).1
        simp at this
        omega
      rw [hz] at e
      have eq : p = q := by simpa using e
      subst eq
      refine ⟨o, ?_, hu⟩
      rw [VH.get_new, if_pos (by rw [← r.sz]; omega)]
  · rcases List.mem_append.mp hb with z | z
    · exact absurd z hn
    · rw [List.mem_singleton.mp z, hp] at e
      cases e
theorem Rep.newL (r : Rep K T ρ h H) {p : Addr} (hp : H p = none) {xs : List D} {vs : List V} (q : RDs K ρ H xs vs) : Step K T ρ H (ρ ++ [p]) (h.new (.lst xs)) (upd H p (.lst vs)) :=
  r.new hp ⟨vs, upd_same, q.new hp⟩ (fun _ z => by cases z)
theorem Rep.rdNew (r : Rep K T ρ h H) {p : Addr} {u : HO} : RD K (ρ ++ [p]) (upd H p u) (.ref h.n) (.ref p) := .ref (by rw [← r.sz]; simp)
/-- a tuple is laid: no place of ours -/
theorem Rep.newT (r : Rep K T ρ h H) {p : Addr} (hp : H p = none) {u : HO} : Step K T ρ H ρ h (upd H p u) := by
  have np := r.ours hp
  refine ⟨⟨[], by simp⟩, ⟨r.sz, r.so, r.nd, fun n q e => ?_, tabs_new hp r.tab⟩, fun b w e _ _ => by rw [upd_ne (ne_of_none e hp)]; exact e, fun b hb hn => absurd hb hn⟩
  obtain ⟨o', g, q'⟩ := r.obj n q e
  exact ⟨o', g, q'.mono (fun z => z.newT hp) (upd_ne (fun z => np (by rw [← z]; exact List.mem_of_getElem? e)))⟩
theorem codeO_ne {c : Addr} {q : Str} : (∀ vs, LamX.CodeO c q ≠ .lst vs) ∧ (∀ ws, LamX.CodeO c q ≠ .dK ws) := by
  unfold LamX.CodeO
  exact ⟨fun _ z => (by cases z), fun _ z => (by cases z)⟩
/-- a thing of ours is written -/
theorem Rep.set (r : Rep K T ρ h H) {n : Nat} {p : Addr} (e : ρ[n]? = some p) {o : O} {u : HO} (hu : RO K ρ (upd H p u) o p) : Step K T ρ H ρ (h.set n o) (upd H p u) := by
  have hp : p ∈ ρ := List.mem_of_getElem? e
  have hk := r.kind hp
  refine ⟨⟨[], by simp⟩, ⟨r.sz, by simp [VH.set, r.so], r.nd, fun m q e' => ?_, ?_⟩, fun b w eb nb _ => by rw [upd_ne (fun z => nb (by rw [z]; exact hp))]; exact eb, fun b hb hn => absurd hb hn⟩
  · rw [VH.get_set h r.so (r.lt e)]
    by_cases hm : m = n
    · subst hm
      rw [e] at e'
      cases e'
      exact ⟨o, if_pos rfl, hu⟩
    · rw [if_neg hm]
      obtain ⟨o', g, q'⟩ := r.obj m q e'
      have ne : q ≠ p := fun z => by
        rw [z] at e'
        exact hm ((List.getElem?_inj (List.getElem?_eq_some_iff.mp e').1 r.nd).mp (e'.trans e.symm))
      exact ⟨o', g, q'.mono (fun z => z.set r hp) (upd_ne ne)⟩
  · refine tabs_set (fun ps z => ?_) (fun c q z => ?_) r.tab
    · rcases hk with ⟨_, k⟩ | ⟨_, k⟩ <;> rw [k] at z <;> cases z
    · rcases hk with ⟨_, k⟩ | ⟨_, k⟩ <;> rw [k] at z
      · exact codeO_ne.1 _ (Option.some.inj z).symm
      · exact codeO_ne.2 _ (Option.some.inj z).symm
theorem Rep.setL (r : Rep K T ρ h H) {n : Nat} {p : Addr} (e : ρ[n]? = some p) {xs : List D} {vs : List V} (q : RDs K ρ H xs vs) : Step K T ρ H ρ (h.set n (.lst xs)) (upd H p (.lst vs)) :=
  r.set e ⟨vs, upd_same, q.set r (List.mem_of_getElem? e)⟩
theorem RDs.length : ∀ {xs : List D} {vs : List V}, RDs K ρ H xs vs → xs.length = vs.length
  | _, _, .nil => rfl
  | _, _, .cons _ t => by simp [t.length]
theorem RDs.get : ∀ {xs : List D} {vs : List V} {i : Nat} {d : D}, RDs K ρ H xs vs → xs[i]? = some d → ∃ v, vs[i]? = some v ∧ RD K ρ H d v
  | _, _, _, _, .nil, e => by simp at e
  | _, _, 0, _, .cons h _, e => by simp at e; subst e; exact ⟨_, rfl, h⟩
  | _, _, i + 1, d, .cons _ t, e => by
    obtain ⟨v, h1, h2⟩ := t.get (i := i) (d := d) (by simpa using e)
    exact ⟨v, by simpa using h1, h2⟩
theorem RDs.app : ∀ {xs ys : List D} {vs ws : List V}, RDs K ρ H xs vs → RDs K ρ H ys ws → RDs K ρ H (xs ++ ys) (vs ++ ws)
  | _, _, _, _, .nil, q => q
  | _, _, _, _, .cons h t, q => .cons h (t.app q)
theorem RDs.drop : ∀ (n : Nat) {xs : List D} {vs : List V}, RDs K ρ H xs vs → RDs K ρ H (xs.drop n) (vs.drop n)
  | 0, _, _, q => q
  | _ + 1, _, _, .nil => .nil
  | n + 1, _, _, .cons _ t => t.drop n
theorem RDs.take : ∀ (n : Nat) {xs : List D} {vs : List V}, RDs K ρ H xs vs → RDs K ρ H (xs.take n) (vs.take n)
  | 0, _, _, _ => .nil
  | _ + 1, _, _, .nil => .nil
  | n + 1, _, _, .cons h t => .cons h (t.take n)
theorem RDs.upd {d : D} {v : V} (r : RD K ρ H d v) : ∀ (n : Nat) {xs : List D} {vs : List V}, RDs K ρ H xs vs → RDs K ρ H (xs.set n d) (vs.set n v)
  | _, _, _, .nil => .nil
  | 0, _, _, .cons _ t => .cons r t
  | n + 1, _, _, .cons h t => .cons h (t.upd r n)
theorem RDs.rev : ∀ {xs : List D} {vs : List V}, RDs K ρ H xs vs → RDs K ρ H xs.reverse vs.reverse
  | _, _, .nil => .nil
  | _, _, .cons h t => by
    rw [List.reverse_cons, List.reverse_cons]
    exact t.rev.app (.cons h .nil)
end
end Ev

/-! Readings by the evaluator; expressions. -/
namespace Ev
open PySem PySem.Spec L2

/-- an exception of the class number c with the payload p, as the layer tells it; cl: the classes' addresses -/
def RX (K : PySem.W.Frag) (cl : Nat → Option Addr) (fl : Nat → Str) (ρ : List Addr) (H : Hp) (c : Nat) (p : D) (cls : Value) (d : Option Addr) : Prop :=
  ∃ a, cl c = some a ∧ cls = .ref a ∧ ((d = none ∧ p = .non) ∨ ∃ (dd : Addr) (v : V), d = some dd ∧ H dd = some (.xd [(fl c, v)]) ∧ RD K ρ H p v)

/-- what the layer's context tells: the text, the tables of code, the classes of errors -/
structure Tx where
  K : PySem.W.Frag
  T : List (Addr × Str)
  cl : Nat → Option Addr
  /-- the field that keeps a payload -/
  fl : Nat → Str

section
variable (t : Tx)
abbrev Tx.rd (ρ : List Addr) (H : Hp) (d : D) (v : V) : Prop := RD t.K ρ H d v
/-- locals: what is told is there -/
def RL (ρ : List Addr) (H : Hp) (l : Lc) (σ : St) : Prop := l.length = σ.length ∧ ∀ (i : Nat) (d : D), l[i]? = some (some d) → ∃ v, σ[i]? = some (some v) ∧ RD t.K ρ H d v
/-- behind an expression -/
def Out (W : WX) (σ : St) (ρ : List Addr) (H : Hp) : R D → VK → Prop
  | .ok d h', Q => ∀ ρ' H' v, Step t.K t.T ρ H ρ' h' H' → RD t.K ρ' H' d v → Q v H'
  | .ex c p h', _ => ∀ ρ' H' cls d, Step t.K t.T ρ H ρ' h' H' → RX t.K t.cl t.fl ρ' H' c p cls d → W cls d σ H'
  | .no, _ => False
def Outs (W : WX) (σ : St) (ρ : List Addr) (H : Hp) : R (List D) → (List V → Hp → Prop) → Prop
  | .ok d h', Q => ∀ ρ' H' v, Step t.K t.T ρ H ρ' h' H' → RDs t.K ρ' H' d v → Q v H'
  | .ex c p h', _ => ∀ ρ' H' cls d, Step t.K t.T ρ H ρ' h' H' → RX t.K t.cl t.fl ρ' H' c p cls d → W cls d σ H'
  | .no, _ => False
def tE (C : Cfg) (call : Call) (W : WX) (A : E) : TE := fun σ H Q => ∃ ρ l h, Rep t.K t.T ρ h H ∧ RL t ρ H l σ ∧ Out t W σ ρ H (evE C call A l h) Q
def tEs (C : Cfg) (call : Call) (W : WX) (A : Es) : TA := fun σ H Q => ∃ ρ l h, Rep t.K t.T ρ h H ∧ RL t ρ H l σ ∧ Outs t W σ ρ H (evEs C call A l h) Q
end

theorem PE.imp {X : Cx} {e : Expr} {u v : TE} (p : PE X e u) (w : ∀ σ H Q, v σ H Q → u σ H Q) : PE X e v := ⟨fun pins s σ H Q I h => p.run pins s σ H Q I (w σ H Q h)⟩
theorem PT.imp {X : Cx} {e : Expr} {u v : TT} (p : PT X e u) (w : ∀ σ H Q, v σ H Q → u σ H Q) : PT X e v := ⟨fun pins s σ H Q I h => p.run pins s σ H Q I (w σ H Q h)⟩
theorem PA.imp {X : Cx} {e : List Expr} {u v : TA} (p : PA X e u) (w : ∀ σ H Q, v σ H Q → u σ H Q) : PA X e v := ⟨fun pos pins s σ H Q I h => p.run pos pins s σ H Q I (w σ H Q h)⟩
theorem PS.imp {X : Cx} {e : Stmt} {u v : TS} (p : PS X e u) (w : ∀ D σ H, v D σ H → u D σ H) : PS X e v := ⟨fun pins s σ H D I h => p.run pins s σ H D I (w D σ H h)⟩
theorem PSs.imp {X : Cx} {e : List Stmt} {u v : TS} (p : PSs X e u) (w : ∀ D σ H, v D σ H → u D σ H) : PSs X e v := ⟨fun pins s σ H D I h => p.run pins s σ H D I (w D σ H h)⟩

section
variable {t : Tx} {W : WX} {σ : St} {ρ ρ1 : List Addr} {h h1 : VH} {H H1 : Hp} {l : Lc}
theorem RL.step (r : Rep t.K t.T ρ h H) (s : Step t.K t.T ρ H ρ1 h1 H1) (q : RL t ρ H l σ) : RL t ρ1 H1 l σ := ⟨q.1, fun i d e => by
  obtain ⟨v, e1, e2⟩ := q.2 i d e
  exact ⟨v, e1, s.rd r e2⟩⟩
theorem RL.set (q : RL t ρ H l σ) {d : D} {v : V} (i : Nat) (r : RD t.K ρ H d v) : RL t ρ H (l.set i (some d)) (σ.set i (some v)) := by
  refine ⟨by simp [q.1], fun j x e => ?_⟩
  by_cases hj : j = i
  · subst hj
    have hl : j < l.length := by
      have := (List.getElem?_eq_some_iff.mp e).1
      simpa using this
    rw [List.getElem?_set_self hl] at e
    cases e
    exact ⟨v, List.getElem?_set_self (by rw [← q.1]; exact hl), r⟩
  · rw [List.getElem?_set_ne (Ne.symm hj)] at e
    obtain ⟨v', e1, e2⟩ := q.2 j x e
    exact ⟨v', by rw [List.getElem?_set_ne (Ne.symm hj)]; exact e1, e2⟩
theorem Out.step {r : R D} {Q : VK} (s : Step t.K t.T ρ H ρ1 h1 H1) (o : Out t W σ ρ H r Q) : Out t W σ ρ1 H1 r Q := by
  cases r with
  | ok d h' => exact fun ρ' H' v s' q => o ρ' H' v (s.trans s') q
  | ex c p h' => exact fun ρ' H' cls d s' q => o ρ' H' cls d (s.trans s') q
  | no => exact o
theorem Outs.step {r : R (List D)} {Q : List V → Hp → Prop} (s : Step t.K t.T ρ H ρ1 h1 H1) (o : Outs t W σ ρ H r Q) : Outs t W σ ρ1 H1 r Q := by
  cases r with
  | ok d h' => exact fun ρ' H' v s' q => o ρ' H' v (s.trans s') q
  | ex c p h' => exact fun ρ' H' cls d s' q => o ρ' H' cls d (s.trans s') q
  | no => exact o
/-- one after another -/
theorem Out.bind {r : R D} {f : D → VH → R D} {Q Q' : VK} (o : Out t W σ ρ H (r.bind f) Q)
    (k : ∀ d h1 ρ1 H1 v, r = .ok d h1 → Step t.K t.T ρ H ρ1 h1 H1 → RD t.K ρ1 H1 d v → Out t W σ ρ1 H1 (f d h1) Q → Q' v H1) : Out t W σ ρ H r Q' := by
  cases r with
  | ok d h' => exact fun ρ' H' v s q => k d h' ρ' H' v rfl s q (Out.step s o)
  | ex c p h' => exact o
  | no => exact o
theorem Outs.bind {r : R (List D)} {f : List D → VH → R D} {Q : VK} {Q' : List V → Hp → Prop} (o : Out t W σ ρ H (r.bind f) Q)
    (k : ∀ d h1 ρ1 H1 v, r = .ok d h1 → Step t.K t.T ρ H ρ1 h1 H1 → RDs t.K ρ1 H1 d v → Out t W σ ρ1 H1 (f d h1) Q → Q' v H1) : Outs t W σ ρ H r Q' := by
  cases r with
  | ok d h' => exact fun ρ' H' v s q => k d h' ρ' H' v rfl s q (Out.step s o)
  | ex c p h' => exact o
  | no => exact o
/-- a plain end -/
theorem Out.here {d : D} {v : V} {Q : VK} (r : Rep t.K t.T ρ h H) (o : Out t W σ ρ H (.ok d h) Q) (q : RD t.K ρ H d v) : Q v H := o ρ H v (Step.refl r) q
end

section
variable {X : Cx} {t : Tx} {C : Cfg} {call : Call} {W : WX} {e a b c : Expr} {A B A1 : E} {pos : Pos}
/-! ### names, constants -/
theorem me_var {i : Nat} (p : PE X e (tVar i)) : PE X e (tE t C call W (.var i)) := PE.imp p fun σ H Q ⟨ρ, l, h, r, rl, o⟩ => by
  unfold evE at o
  cases e1 : l[i]? with
  | none => rw [e1] at o; exact o.elim
  | some x =>
    rw [e1] at o
    cases x with
    | none => exact o.elim
    | some d =>
      obtain ⟨v, e2, q⟩ := rl.2 i d e1
      exact ⟨v, e2, Out.here r o q⟩
theorem me_con {d : D} {v : V} (p : PE X e (tC v)) (q : ∀ ρ H, RD t.K ρ H d v) : PE X e (tE t C call W (.con d)) := PE.imp p fun σ H Q ⟨ρ, l, h, r, rl, o⟩ => by
  unfold evE at o
  exact Out.here r o (q ρ H)
/-! ### two in a row -/
theorem me_op {r : R2} {f : D → D → VH → R D} {D0 : E} (p : PE X e (tOp r (tE t C call W A) (tE t C call W B))) (he : ∀ l h, evE C call D0 l h = (evE C call A l h).bind fun x h1 => (evE C call B l h1).bind fun y h2 => f x y h2)
    (k : ∀ σ ρ h H x y v u Q, Rep t.K t.T ρ h H → RD t.K ρ H x v → RD t.K ρ H y u → Out t W σ ρ H (f x y h) Q → r v u H Q) : PE X e (tE t C call W D0) := PE.imp p fun σ H Q ⟨ρ, l, h, rp, rl, o⟩ => by
  rw [he] at o
  refine ⟨ρ, l, h, rp, rl, Out.bind o fun x h1 ρ1 H1 v e1 s1 q1 o1 => ?_⟩
  refine ⟨ρ1, l, h1, s1.rep, rl.step rp s1, Out.bind o1 fun y h2 ρ2 H2 u e2 s2 q2 o2 => ?_⟩
  exact k σ ρ2 h2 H2 x y v u Q s2.rep (s2.rd s1.rep q1) q2 o2
theorem me_un {r : V → Hp → VK → Prop} {f : D → VH → R D} {D0 : E} (p : PE X e (tUn r (tE t C call W A))) (he : ∀ l h, evE C call D0 l h = (evE C call A l h).bind fun x h1 => f x h1)
    (k : ∀ σ ρ h H x v Q, Rep t.K t.T ρ h H → RD t.K ρ H x v → Out t W σ ρ H (f x h) Q → r v H Q) : PE X e (tE t C call W D0) := PE.imp p fun σ H Q ⟨ρ, l, h, rp, rl, o⟩ => by
  rw [he] at o
  exact ⟨ρ, l, h, rp, rl, Out.bind o fun x h1 ρ1 H1 v e1 s1 q1 o1 => k σ ρ1 h1 H1 x v Q s1.rep q1 o1⟩
/-! ### arguments -/
theorem mes_nil : PA X [] (tEs t C call W .nil) := PA.imp pa_nil fun σ H Q ⟨ρ, l, h, r, rl, o⟩ => by
  unfold evEs at o
  exact o ρ H [] (Step.refl r) .nil
theorem es_core {As : Es} {σ : St} {H : Hp} {Q : List V → Hp → Prop} (hq : tEs t C call W (.cons A As) σ H Q) : tCons (tE t C call W A) (tEs t C call W As) σ H Q := by
  obtain ⟨ρ, l, h, r, rl, o⟩ := hq
  unfold evEs at o
  refine ⟨ρ, l, h, r, rl, ?_⟩
  cases e1 : evE C call A l h with
  | no => rw [e1] at o; exact o
  | ex c p h' => rw [e1] at o; exact o
  | ok x h1 =>
    rw [e1] at o
    refine fun ρ1 H1 v s1 q1 => ⟨ρ1, l, h1, s1.rep, rl.step r s1, ?_⟩
    have o1 : Outs t W σ ρ1 H1 ((evEs C call As l h1).bind fun xs h2 => .ok (x :: xs) h2) Q := Outs.step s1 o
    cases e2 : evEs C call As l h1 with
    | no => rw [e2] at o1; exact o1
    | ex c p h' => rw [e2] at o1; exact o1
    | ok xs h2 =>
      rw [e2] at o1
      exact fun ρ2 H2 vs s2 q2 => o1 ρ2 H2 (v :: vs) s2 (.cons (s2.rd s1.rep q1) q2)
theorem mes_cons {es : List Expr} {As : Es} (p : PA X (e :: es) (tCons (tE t C call W A) (tEs t C call W As))) : PA X (e :: es) (tEs t C call W (.cons A As)) := PA.imp p fun σ H Q ⟨ρ, l, h, r, rl, o⟩ => by
  unfold evEs at o
  refine ⟨ρ, l, h, r, rl, ?_⟩
  cases e1 : evE C call A l h with
  | no => rw [e1] at o; exact o
  | ex c p h' => rw [e1] at o; exact o
  | ok x h1 =>
    rw [e1] at o
    refine fun ρ1 H1 v s1 q1 => ⟨ρ1, l, h1, s1.rep, rl.step r s1, ?_⟩
    have o1 : Outs t W σ ρ1 H1 ((evEs C call As l h1).bind fun xs h2 => .ok (x :: xs) h2) Q := Outs.step s1 o
    cases e2 : evEs C call As l h1 with
    | no => rw [e2] at o1; exact o1
    | ex c p h' => rw [e2] at o1; exact o1
    | ok xs h2 =>
      rw [e2] at o1
      exact fun ρ2 H2 vs s2 q2 => o1 ρ2 H2 (v :: vs) s2 (.cons (s2.rd s1.rep q1) q2)
/-- a tuple, a list -/
theorem me_tup {es : List Expr} {As : Es} (p : PE X e (tTup (tEs t C call W As))) (hz : ∀ l h xs h1, evEs C call As l h = .ok xs h1 → xs.length ≤ sizeLine) : PE X e (tE t C call W (.tup As)) := PE.imp p fun σ H Q ⟨ρ, l, h, r, rl, o⟩ => by
  unfold evE at o
  refine ⟨ρ, l, h, r, rl, Outs.bind o fun xs h1 ρ1 H1 vs e1 s1 q1 o1 => ?_⟩
  have hl : xs.length = vs.length := q1.length
  refine ⟨by rw [← hl]; exact hz l h xs h1 e1, fun p hp => ?_⟩
  exact o1 ρ1 _ (.ref p) (s1.rep.newT hp) (.tup (.inl (.inl upd_same)) (q1.newT hp))
theorem me_lst {es : List Expr} {As : Es} (p : PE X e (tLst (tEs t C call W As))) (hz : ∀ l h xs h1, evEs C call As l h = .ok xs h1 → xs.length ≤ sizeLine) : PE X e (tE t C call W (.lst As)) := PE.imp p fun σ H Q ⟨ρ, l, h, r, rl, o⟩ => by
  unfold evE at o
  refine ⟨ρ, l, h, r, rl, Outs.bind o fun xs h1 ρ1 H1 vs e1 s1 q1 o1 => ?_⟩
  have hl : xs.length = vs.length := q1.length
  refine ⟨by rw [← hl]; exact hz l h xs h1 e1, fun p hp => ?_⟩
  exact o1 (ρ1 ++ [p]) _ (.ref p) (s1.rep.newL hp q1) s1.rep.rdNew
end
end Ev

/-! The evaluator's operations against the layer's rules by values. -/
namespace Ev
open PySem PySem.Spec L2

theorem size_le {n : Nat} (h : n ≤ sizeMax) : n ≤ sizeLine := Nat.le_trans h (by decide)
theorem size_lt {n : Nat} (h : n < sizeMax) : n < sizeLine := Nat.lt_of_lt_of_le h (by decide)
theorem small_ok {i : Int} (h : small64 i = true) : -(2 ^ 64) < i ∧ i < 2 ^ 64 := by
  unfold small64 at h
  rw [Bool.and_eq_true] at h
  exact ⟨of_decide_eq_true h.1, of_decide_eq_true h.2⟩

section
variable {X : Cx} {t : Tx} {W : WX}
/-- an operation of the evaluator as a rule by values -/
def rB (t : Tx) (W : WX) (f : D → D → VH → R D) : R2 := fun v u H Q => ∃ σ ρ h x y, Rep t.K t.T ρ h H ∧ RD t.K ρ H x v ∧ RD t.K ρ H y u ∧ Out t W σ ρ H (f x y h) Q
def opOf : Bin → Operator
  | .add => .Add
  | .sub => .Sub
  | .mul => .Mult
  | .fdv => .FloorDiv
  | .mod => .Mod
  | .pow => .Pow
theorem op_bin (hK : X.K = t.K) (op : Bin) : OpR X (binaryOp (opOf op)) (rB t W (binD op)) := by
  intro pins s σ H v u v' u' Q I rv ru hh
  obtain ⟨σ', ρ, h, x, y, rp, rx, ry, o⟩ := hh
  unfold binD at o
  split at o
  · cases rx; cases ry
    exact op_add pins s σ H _ _ _ _ Q I rv ru ⟨_, _, rfl, rfl, o.here rp (.int _)⟩
  · cases rx; cases ry
    exact op_sub pins s σ H _ _ _ _ Q I rv ru ⟨_, _, rfl, rfl, o.here rp (.int _)⟩
  · rename_i i j
    cases rx; cases ry
    split at o
    · rename_i c
      rw [Bool.or_eq_true] at c
      exact op_mul pins s σ H _ _ _ _ Q I rv ru ⟨_, _, rfl, rfl, c.imp small_ok small_ok, o.here rp (.int _)⟩
    · exact o.elim
  · cases rx; cases ry
    split at o
    · rename_i c
      exact op_fdiv pins s σ H _ _ _ _ Q I rv ru ⟨_, _, rfl, rfl, c, o.here rp (.int _)⟩
    · exact o.elim
  · cases rx; cases ry
    split at o
    · rename_i c
      exact op_mod pins s σ H _ _ _ _ Q I rv ru ⟨_, _, rfl, rfl, c, o.here rp (.int _)⟩
    · exact o.elim
  · cases rx; cases ry
    split at o
    · rename_i c
      obtain ⟨c1, c2, c3⟩ := c
      have c4 := small_ok c3
      exact op_pow pins s σ H _ _ _ _ Q I rv ru ⟨_, _, rfl, rfl, ⟨c1, by omega, by omega⟩, o.here rp (.int _)⟩
    · exact o.elim
  · cases rx with
    | str s1 =>
    cases ry with
    | str s2 =>
    split at o
    · rename_i c
      refine op_add_str pins s σ H _ _ _ _ Q I rv ru ⟨_, _, rfl, rfl, by rw [sOf_len, sOf_len]; exact size_le c, ?_⟩
      rw [sOf_app]
      exact o.here rp (.str fun c hc => (List.mem_append.mp hc).elim (s1 c) (s2 c))
    · exact o.elim
  · cases rx with
    | tup h1 r1 =>
      cases ry with
      | tup h2 r2 =>
        split at o
        · rename_i c
          rw [r1.length, r2.length] at c
          refine op_catA pins s σ H _ _ _ _ Q I rv ru ⟨_, _, _, _, rfl, rfl, hK ▸ h1, hK ▸ h2, size_le c, fun e => ?_, fun _ e => ?_, fun _ _ p hp => ?_⟩
          · subst e
            cases r1
            exact o.here rp (.tup h2 r2)
          · subst e
            cases r2
            rw [List.append_nil] at o
            exact o.here rp (.tup h1 r1)
          · exact o _ _ _ (rp.newT hp) (.tup (.inl (.inl upd_same)) ((r1.newT hp).app (r2.newT hp)))
        · exact o.elim
  · cases rx with
    | ref e1 =>
      cases ry with
      | ref e2 =>
        split at o
        · rename_i xs ys g1 g2
          obtain ⟨vs, h1, q1⟩ := rp.at e1 g1
          obtain ⟨ws, h2, q2⟩ := rp.at e2 g2
          split at o
          · rename_i c
            rw [q1.length, q2.length] at c
            refine op_cat pins s σ H _ _ _ _ Q I rv ru ⟨_, _, _, _, rfl, rfl, h1, h2, size_le c, fun p hp => ?_⟩
            exact o _ _ _ (rp.newL hp (q1.app q2)) rp.rdNew
          · exact o.elim
        · exact o.elim
  · exact o.elim

/-! ### comparisons -/
theorem ltL_eq : ∀ (a b : List Nat), decide (a < b) = ltL a b
  | [], [] => by simp [ltL]
  | [], _ :: _ => by simp [ltL]
  | _ :: _, [] => by simp [ltL]
  | x :: xs, y :: ys => by
    have ih := ltL_eq xs ys
    unfold ltL
    rw [← ih, Bool.eq_iff_iff]
    simp [List.cons_lt_cons_iff]
mutual
/-- the same as the library's data -/
def D.py : D → PyData
  | .non => .none
  | .bl b => .bool b
  | .int i => .int i
  | .str s => .str (sOf s)
  | .tup xs => .tuple (pys xs)
  | .ref _ => .none
  | .fro xs => .list (pys xs)
def pys : List D → List PyData
  | [] => []
  | x :: xs => D.py x :: pys xs
end
def View.plain : View → Bool
  | .val d => d.plain
  | .lst xs => plains xs
def View.py : View → PyData
  | .val d => d.py
  | .lst xs => .list (pys xs)
mutual
theorem py_eqv : ∀ (x y : D), x.plain = true → y.plain = true → PyData.eqv x.py y.py = x.eqv y
  | .non, y, _, hy => by cases y <;> first | rfl | (exact absurd hy (by simp [D.plain]))
  | .bl a, y, _, hy => by cases y <;> first | rfl | (exact absurd hy (by simp [D.plain]))
  | .int a, y, _, hy => by cases y <;> first | rfl | (exact absurd hy (by simp [D.plain]))
  | .str a, y, _, hy => by
    cases y with
    | str b =>
      show (sOf a == sOf b) = (a == b)
      rw [Bool.eq_iff_iff]
      simp only [beq_iff_eq]
      exact ⟨sOf_inj, fun e => by rw [e]⟩
    | _ => first | rfl | (exact absurd hy (by simp [D.plain]))
  | .tup xs, y, hx, hy => by
    cases y with
    | tup ys => exact pys_eqv xs ys hx hy
    | _ => first | rfl | (exact absurd hy (by simp [D.plain]))
  | .ref _, _, hx, _ => absurd hx (by simp [D.plain])
  | .fro _, _, hx, _ => absurd hx (by simp [D.plain])
theorem pys_eqv : ∀ (xs ys : List D), plains xs = true → plains ys = true → PyData.eqvAll (pys xs) (pys ys) = eqvs xs ys
  | [], [], _, _ => rfl
  | [], _ :: _, _, _ => rfl
  | _ :: _, [], _, _ => rfl
  | x :: xs, y :: ys, hx, hy => by
    have hx' : (x.plain && plains xs) = true := hx
    have hy' : (y.plain && plains ys) = true := hy
    rw [Bool.and_eq_true] at hx' hy'
    show (PyData.eqv x.py y.py && PyData.eqvAll (pys xs) (pys ys)) = (x.eqv y && eqvs xs ys)
    rw [py_eqv x y hx'.1 hy'.1, pys_eqv xs ys hx'.2 hy'.2]
end
mutual
theorem py_depth : ∀ x : D, x.plain = true → x.py.depth = x.deep
  | .non, _ => rfl
  | .bl _, _ => rfl
  | .int _, _ => rfl
  | .str _, _ => rfl
  | .tup xs, h => congrArg (· + 1) (pys_depth xs h)
  | .ref _, h => absurd h (by simp [D.plain])
  | .fro _, h => absurd h (by simp [D.plain])
theorem pys_depth : ∀ xs : List D, plains xs = true → PyData.depthAll (pys xs) = deeps xs
  | [], _ => rfl
  | x :: xs, h => by
    have h' : (x.plain && plains xs) = true := h
    rw [Bool.and_eq_true] at h'
    show max x.py.depth (PyData.depthAll (pys xs)) = max x.deep (deeps xs)
    rw [py_depth x h'.1, pys_depth xs h'.2]
end
mutual
theorem RD.dp {ρ : List Addr} {H : Hp} : ∀ {x : D} {v : V}, RD t.K ρ H x v → x.plain = true → Dp t.K H v x.py ∧ x.py.canLay0 = true
  | _, _, .non, _ => ⟨.non, rfl⟩
  | _, _, .bl b, _ => ⟨.bl b, rfl⟩
  | _, _, .int i, _ => ⟨.int i, rfl⟩
  | _, _, .str hs, _ => ⟨.str _, by
      show PyData.strOk _ = true
      unfold PyData.strOk sOf
      rw [Array.all_eq_true']
      intro c hc
      exact decide_eq_true (hs c (by simpa using hc))⟩
  | _, _, .tup h r, p => ⟨.tup h (r.dp p).1, (r.dp p).2⟩
  | _, _, .ref _, p => absurd p (by simp [D.plain])
  | _, _, .fro _ _, p => absurd p (by simp [D.plain])
theorem RDs.dp {ρ : List Addr} {H : Hp} : ∀ {xs : List D} {vs : List V}, RDs t.K ρ H xs vs → plains xs = true → DpAll t.K H vs (pys xs) ∧ PyData.canLayAll0 (pys xs) = true
  | _, _, .nil, _ => ⟨.nil, rfl⟩
  | _, _, .cons (x := x) (xs := xs) h r, p => by
    have p' : (x.plain && plains xs) = true := p
    rw [Bool.and_eq_true] at p'
    obtain ⟨a1, a2⟩ := h.dp p'.1
    obtain ⟨b1, b2⟩ := r.dp p'.2
    refine ⟨.cons a1 b1, ?_⟩
    show (x.py.canLay0 && PyData.canLayAll0 (pys xs)) = true
    rw [a2, b2]
    rfl
end
theorem view_dp {ρ : List Addr} {h : VH} {H : Hp} {x : D} {v : V} {w : View} (rp : Rep t.K t.T ρ h H) (r : RD t.K ρ H x v) (e : viewOf x h = some w) : Dp t.K H v w.py ∧ w.py.canLay0 = true ∧ w.py.depth = w.deep ∧ w.plain = true := by
  have val : ∀ {d : D}, RD t.K ρ H d v → (if d.plain = true then some (View.val d) else none) = some w → Dp t.K H v w.py ∧ w.py.canLay0 = true ∧ w.py.depth = w.deep ∧ w.plain = true := fun {d} r e => by
    by_cases hp : d.plain = true
    · rw [if_pos hp] at e
      cases e
      obtain ⟨a1, a2⟩ := r.dp hp
      exact ⟨a1, a2, py_depth d hp, hp⟩
    · rw [if_neg hp] at e
      cases e
  cases x with
  | ref n =>
    cases r with
    | ref e1 =>
      have e' : (match h.get n with | some (.lst xs) => if plains xs = true then some (View.lst xs) else none | _ => none) = some w := e
      cases g : h.get n with
      | none => rw [g] at e'; cases e'
      | some o =>
        rw [g] at e'
        cases o with
        | lst xs =>
          simp only at e'
          by_cases hp : plains xs = true
          · rw [if_pos hp] at e'
            cases e'
            obtain ⟨vs, h1, q1⟩ := rp.at e1 g
            obtain ⟨a1, a2⟩ := q1.dp hp
            exact ⟨.lst (.inl (.inl h1)) a1, a2, congrArg (· + 1) (pys_depth xs hp), hp⟩
          · rw [if_neg hp] at e'
            cases e'
        | dct _ => cases e'
        | ins _ _ => cases e'
  | fro xs =>
    have e' : (if plains xs = true then some (View.lst xs) else none) = some w := e
    by_cases hp : plains xs = true
    · rw [if_pos hp] at e'
      cases e'
      cases r with
      | fro h1 r1 =>
        obtain ⟨a1, a2⟩ := r1.dp hp
        exact ⟨.lst h1.sq a1, a2, congrArg (· + 1) (pys_depth xs hp), hp⟩
    · rw [if_neg hp] at e'
      cases e'
  | non => exact val r e
  | bl _ => exact val r e
  | int _ => exact val r e
  | str _ => exact val r e
  | tup _ => exact val r e
theorem view_eqv {a b : View} (ha : a.plain = true) (hb : b.plain = true) : PyData.eqv a.py b.py = a.eqv b := by
  cases a with
  | val x =>
    cases b with
    | val y => exact py_eqv x y ha hb
    | lst ys => cases x <;> first | rfl | (exact absurd ha (by simp [View.plain, D.plain]))
  | lst xs =>
    cases b with
    | val y => cases y <;> first | rfl | (exact absurd hb (by simp [View.plain, D.plain]))
    | lst ys => exact pys_eqv xs ys ha hb
/-- ==, != -/
def rQ (t : Tx) (op : Cmp) : R2 := fun v u H Q => ∃ ρ h x y b, Rep t.K t.T ρ h H ∧ RD t.K ρ H x v ∧ RD t.K ρ H y u ∧ cmpD op x y h = some b ∧ Q (.bl b) H
theorem op_eqq (hK : X.K = t.K) (hu : X.A.units + 64 < cLine) : OpR X (compareOp .Eq) (rQ t .eq) := by
  intro pins s σ H v u v' u' Q I rv ru hh
  obtain ⟨ρ, h, x, y, b, rp, rx, ry, e, q⟩ := hh
  unfold cmpD eqD at e
  simp only at e
  split at e
  · rename_i a c e1 e2
    obtain ⟨a1, a2, a3, a4⟩ := view_dp rp rx e1
    obtain ⟨b1, b2, b3, b4⟩ := view_dp rp ry e2
    split at e
    · rename_i hd
      cases e
      rw [← hK] at a1 b1
      obtain ⟨as, ra⟩ := Dp.reads I _ _ _ a1 rv
      obtain ⟨bs, rb⟩ := Dp.reads I _ _ _ b1 ru
      refine SeqAt.compareEq_reads ra rb a2 b2 ?_ ⟨.bl _, H, I, rfl, ?_⟩
      · rw [a3, b3]; omega
      · rw [view_eqv a4 b4]; exact q
    · cases e
  · cases e
theorem op_neq (hK : X.K = t.K) (hu : X.A.units + 64 < cLine) : OpR X (compareOp .NotEq) (rQ t .ne) := by
  intro pins s σ H v u v' u' Q I rv ru hh
  obtain ⟨ρ, h, x, y, b, rp, rx, ry, e, q⟩ := hh
  unfold cmpD eqD at e
  simp only at e
  split at e
  · rename_i a c e1 e2
    obtain ⟨a1, a2, a3, a4⟩ := view_dp rp rx e1
    obtain ⟨b1, b2, b3, b4⟩ := view_dp rp ry e2
    split at e
    · rename_i hd
      cases e
      rw [← hK] at a1 b1
      obtain ⟨as, ra⟩ := Dp.reads I _ _ _ a1 rv
      obtain ⟨bs, rb⟩ := Dp.reads I _ _ _ b1 ru
      refine SeqAt.compareNe_reads ra rb a2 b2 ?_ ⟨.bl _, H, I, rfl, ?_⟩
      · rw [a3, b3]; omega
      · rw [view_eqv a4 b4]; exact q
    · cases e
  · cases e
/-- order -/
theorem op_ltq : OpR X (compareOp .Lt) (rQ t .lt) := by
  intro pins s σ H v u v' u' Q I rv ru hh
  obtain ⟨ρ, h, x, y, b, rp, rx, ry, e, q⟩ := hh
  unfold cmpD at e
  simp only at e
  split at e
  · cases e; cases rx; cases ry
    exact op_lt pins s σ H _ _ _ _ Q I rv ru ⟨_, _, rfl, rfl, q⟩
  · cases e; cases rx; cases ry
    refine op_lt_str pins s σ H _ _ _ _ Q I rv ru ⟨_, _, rfl, rfl, ?_⟩
    rw [sOf_cps, sOf_cps, ltL_eq]
    exact q
  · cases e
theorem op_leq : OpR X (compareOp .LtE) (rQ t .le) := by
  intro pins s σ H v u v' u' Q I rv ru hh
  obtain ⟨ρ, h, x, y, b, rp, rx, ry, e, q⟩ := hh
  unfold cmpD at e
  simp only at e
  split at e
  · cases e; cases rx; cases ry
    exact op_le pins s σ H _ _ _ _ Q I rv ru ⟨_, _, rfl, rfl, q⟩
  · cases e; cases rx; cases ry
    refine op_le_str pins s σ H _ _ _ _ Q I rv ru ⟨_, _, rfl, rfl, ?_⟩
    rw [sOf_cps, sOf_cps, ltL_eq]
    exact q
  · cases e
theorem op_gtq : OpR X (compareOp .Gt) (rQ t .gt) := by
  intro pins s σ H v u v' u' Q I rv ru hh
  obtain ⟨ρ, h, x, y, b, rp, rx, ry, e, q⟩ := hh
  unfold cmpD at e
  simp only at e
  split at e
  · cases e; cases rx; cases ry
    exact op_gt pins s σ H _ _ _ _ Q I rv ru ⟨_, _, rfl, rfl, q⟩
  · cases e; cases rx; cases ry
    refine op_gt_str pins s σ H _ _ _ _ Q I rv ru ⟨_, _, rfl, rfl, ?_⟩
    rw [sOf_cps, sOf_cps, ltL_eq]
    exact q
  · cases e
theorem op_geq : OpR X (compareOp .GtE) (rQ t .ge) := by
  intro pins s σ H v u v' u' Q I rv ru hh
  obtain ⟨ρ, h, x, y, b, rp, rx, ry, e, q⟩ := hh
  unfold cmpD at e
  simp only at e
  split at e
  · cases e; cases rx; cases ry
    exact op_ge pins s σ H _ _ _ _ Q I rv ru ⟨_, _, rfl, rfl, q⟩
  · cases e; cases rx; cases ry
    refine op_ge_str pins s σ H _ _ _ _ Q I rv ru ⟨_, _, rfl, rfl, ?_⟩
    rw [sOf_cps, sOf_cps, ltL_eq]
    exact q
  · cases e
theorem op_isq : OpR X (compareOp .Is) (rQ t .is) := by
  intro pins s σ H v u v' u' Q I rv ru hh
  obtain ⟨ρ, h, x, y, b, rp, rx, ry, e, q⟩ := hh
  cases y <;> simp only [cmpD] at e
  all_goals first
    | (cases ry
       refine op_isN pins s σ H _ _ _ _ Q I rv ru ⟨rfl, ?_⟩
       cases rx <;> simp only [Option.some.injEq] at e <;> subst e <;> simpa using q)
    | (cases x <;> cases e)
theorem op_isnq : OpR X (compareOp .IsNot) (rQ t .isn) := by
  intro pins s σ H v u v' u' Q I rv ru hh
  obtain ⟨ρ, h, x, y, b, rp, rx, ry, e, q⟩ := hh
  cases y <;> simp only [cmpD] at e
  all_goals first
    | (cases ry
       refine op_notN pins s σ H _ _ _ _ Q I rv ru ⟨rfl, ?_⟩
       cases rx <;> simp only [Option.some.injEq] at e <;> subst e <;> simpa using q)
    | (cases x <;> cases e)
/-! ### in -/
theorem flat_ok {ρ : List Addr} {H : Hp} {x : D} {v : V} (r : RD t.K ρ H x v) (f : x.flat = true) : flatV v = true := by
  cases r <;> first | rfl | (exact absurd f (by simp [D.flat]))
theorem flats_ok {ρ : List Addr} {H : Hp} : ∀ {xs : List D} {vs : List V}, RDs t.K ρ H xs vs → xs.all D.flat = true → vs.all flatV = true
  | _, _, .nil, _ => rfl
  | _, _, .cons h r, f => by
    rw [List.all_cons, Bool.and_eq_true] at f ⊢
    exact ⟨flat_ok h f.1, flats_ok r f.2⟩
theorem str_beq (a b : List Nat) : (sOf a == sOf b) = (a == b) := by
  rw [Bool.eq_iff_iff]
  simp only [beq_iff_eq]
  exact ⟨sOf_inj, fun e => by rw [e]⟩
theorem eqV_ok {ρ : List Addr} {H : Hp} {x y : D} {v u : V} (r : RD t.K ρ H x v) (q : RD t.K ρ H y u) (fx : x.flat = true) (fy : y.flat = true) : eqV v u = x.eqv y := by
  cases r with
  | str _ =>
    cases q with
    | str _ => exact str_beq _ _
    | _ => first | rfl | (exact absurd fy (by simp [D.flat]))
  | tup _ _ => exact absurd fx (by simp [D.flat])
  | ref _ => exact absurd fx (by simp [D.flat])
  | fro _ _ => exact absurd fx (by simp [D.flat])
  | _ => cases q <;> first | rfl | (exact absurd fy (by simp [D.flat]))
theorem inV_ok {ρ : List Addr} {H : Hp} {x : D} {v : V} (r : RD t.K ρ H x v) (fx : x.flat = true) : ∀ {xs : List D} {vs : List V}, RDs t.K ρ H xs vs → xs.all D.flat = true → inV v vs = inD x xs
  | _, _, .nil, _ => rfl
  | _, _, .cons h q, f => by
    rw [List.all_cons, Bool.and_eq_true] at f
    have ih := inV_ok r fx q f.2
    unfold inV inD at ih ⊢
    rw [List.any_cons, List.any_cons, ih, eqV_ok h r f.1 fx]
theorem seq_ok {ρ : List Addr} {h : VH} {H : Hp} {x : D} {v : V} {xs : List D} (rp : Rep t.K t.T ρ h H) (r : RD t.K ρ H x v) (e : seqOf x h = some xs) : ∃ a vs, v = .ref a ∧ (SqL t.K H a vs ∨ SqT t.K H a vs) ∧ RDs t.K ρ H xs vs := by
  cases r with
  | tup h1 r1 => cases e; exact ⟨_, _, rfl, .inr h1, r1⟩
  | fro h1 r1 => cases e; exact ⟨_, _, rfl, .inl h1.sq, r1⟩
  | @ref n a e1 =>
    have e' : (match h.get n with | some (.lst xs) => some xs | _ => none) = some xs := e
    cases g : h.get n with
    | none => rw [g] at e'; cases e'
    | some o =>
      rw [g] at e'
      cases o with
      | lst ys =>
        cases e'
        obtain ⟨vs, h1, q1⟩ := rp.at e1 g
        exact ⟨_, vs, rfl, .inl (.inl (.inl h1)), q1⟩
      | dct _ => cases e'
      | ins _ _ => cases e'
  | _ => cases e
theorem lst_ok {ρ : List Addr} {h : VH} {H : Hp} {x : D} {v : V} {xs : List D} (rp : Rep t.K t.T ρ h H) (r : RD t.K ρ H x v) (e : lstOf x h = some xs) : ∃ a vs, v = .ref a ∧ SqL t.K H a vs ∧ RDs t.K ρ H xs vs := by
  cases r with
  | fro h1 r1 => cases e; exact ⟨_, _, rfl, h1.sq, r1⟩
  | @ref n a e1 =>
    have e' : (match h.get n with | some (.lst xs) => some xs | _ => none) = some xs := e
    cases g : h.get n with
    | none => rw [g] at e'; cases e'
    | some o =>
      rw [g] at e'
      cases o with
      | lst ys =>
        cases e'
        obtain ⟨vs, h1, q1⟩ := rp.at e1 g
        exact ⟨_, vs, rfl, .inl (.inl h1), q1⟩
      | dct _ => cases e'
      | ins _ _ => cases e'
  | _ => cases e
theorem op_inq (hK : X.K = t.K) : OpR X (compareOp .In) (rQ t .in_) := by
  intro pins s σ H v u v' u' Q I rv ru hh
  obtain ⟨ρ, h, x, y, b, rp, rx, ry, e, q⟩ := hh
  unfold cmpD at e
  simp only at e
  split at e
  · rename_i c z
    cases e; cases rx; cases ry
    refine op_in_sign pins s σ H _ _ _ _ Q I rv ru ⟨c, _, rfl, rfl, ?_⟩
    rw [sOf_cps]
    rw [show decide (c ∈ z) = z.contains c by rw [Bool.eq_iff_iff]; simp]
    exact q
  · split at e
    · rename_i ys es
      split at e
      · rename_i f
        rw [Bool.and_eq_true] at f
        cases e
        obtain ⟨a, vs, e1, hs, r1⟩ := seq_ok rp ry es
        subst e1
        refine op_in_seq pins s σ H _ _ _ _ Q I rv ru ⟨a, vs, rfl, hK ▸ hs, flat_ok rx f.1, flats_ok r1 f.2, ?_⟩
        rw [inV_ok rx f.1 r1 f.2]
        exact q
      · cases e
    · cases e
theorem op_ninq (hK : X.K = t.K) : OpR X (compareOp .NotIn) (rQ t .nin) := by
  intro pins s σ H v u v' u' Q I rv ru hh
  obtain ⟨ρ, h, x, y, b, rp, rx, ry, e, q⟩ := hh
  unfold cmpD at e
  simp only at e
  split at e
  · rename_i c z
    cases e; cases rx; cases ry
    refine op_notIn_sign pins s σ H _ _ _ _ Q I rv ru ⟨c, _, rfl, rfl, ?_⟩
    rw [sOf_cps]
    rw [show decide (c ∈ z) = z.contains c by rw [Bool.eq_iff_iff]; simp]
    exact q
  · split at e
    · rename_i ys es
      split at e
      · rename_i f
        rw [Bool.and_eq_true] at f
        cases e
        obtain ⟨a, vs, e1, hs, r1⟩ := seq_ok rp ry es
        subst e1
        refine op_notIn_seq pins s σ H _ _ _ _ Q I rv ru ⟨a, vs, rfl, hK ▸ hs, flat_ok rx f.1, flats_ok r1 f.2, ?_⟩
        rw [inV_ok rx f.1 r1 f.2]
        exact q
      · cases e
    · cases e
def cmpOf : Cmp → CmpOp
  | .eq => .Eq
  | .ne => .NotEq
  | .lt => .Lt
  | .le => .LtE
  | .gt => .Gt
  | .ge => .GtE
  | .is => .Is
  | .isn => .IsNot
  | .in_ => .In
  | .nin => .NotIn
theorem op_cmp (hK : X.K = t.K) (hu : X.A.units + 64 < cLine) (op : Cmp) : OpR X (compareOp (cmpOf op)) (rQ t op) := by
  cases op
  · exact op_eqq hK hu
  · exact op_neq hK hu
  · exact op_ltq
  · exact op_leq
  · exact op_gtq
  · exact op_geq
  · exact op_isq
  · exact op_isnq
  · exact op_inq hK
  · exact op_ninq hK
/-! ### items -/
theorem atD_eq (xs : List D) (i : Int) : atD xs i = atI xs i := rfl
theorem RDs.at {ρ : List Addr} {H : Hp} {xs : List D} {vs : List V} {i : Int} {d : D} (r : RDs t.K ρ H xs vs) (e : atD xs i = some d) : ∃ v, atI vs i = some v ∧ RD t.K ρ H d v := by
  unfold atD at e
  unfold atI
  rw [show ixN vs.length i = atPlace xs.length i by rw [r.length]; rfl]
  cases q : atPlace xs.length i with
  | none => rw [q] at e; cases e
  | some k =>
    rw [q] at e
    exact r.get e
/-- what an item by a place is -/
theorem ix_k (hK : X.K = t.K) {ρ : List Addr} {h : VH} {H : Hp} {x y d : D} {v u : V} {Q : VK} (rp : Rep t.K t.T ρ h H) (rx : RD t.K ρ H x v) (ry : RD t.K ρ H y u) (e : idxD x y h = some d) (q : ∀ w, RD t.K ρ H d w → Q w H) : rIx X.K v u H Q := by
  have lst : ∀ {a : Addr} {vs : List V} {xs : List D} {i : Int}, v = .ref a → u = .int i → SqL t.K H a vs → RDs t.K ρ H xs vs → atD xs i = some d → rIx X.K v u H Q := fun {a vs xs i} ev eu hs r1 e1 => by
    obtain ⟨w, e2, rw⟩ := r1.at e1
    exact .inl ⟨a, vs, i, w, ev, eu, hK ▸ hs, e2, q w rw⟩
  cases ry with
  | int i =>
    cases rx with
    | tup h1 r1 =>
      obtain ⟨w, e2, rw⟩ := r1.at e
      exact .inr (.inl ⟨_, _, i, w, rfl, rfl, hK ▸ h1, e2, q w rw⟩)
    | fro h1 r1 => exact lst rfl rfl h1.sq r1 e
    | @ref n a e1 =>
      have e' : (match h.get n with | some (.lst xs) => atD xs i | _ => none) = some d := e
      cases g : h.get n with
      | none => rw [g] at e'; cases e'
      | some o =>
        rw [g] at e'
        cases o with
        | lst ys =>
          obtain ⟨vs, h1, q1⟩ := rp.at e1 g
          exact lst rfl rfl (.inl (.inl h1)) q1 e'
        | dct _ => cases e'
        | ins _ _ => cases e'
    | @str z hs =>
      have e0 : (if z.length ≤ sizeMax then (atPlace z.length i).bind fun k => z[k]?.map fun c => D.str [c] else none) = some d := e
      by_cases c : z.length ≤ sizeMax
      · rw [if_pos c] at e0
        cases g : atPlace z.length i with
        | none => rw [g] at e0; cases e0
        | some k =>
          rw [g] at e0
          have e2 : (z[k]?.map fun c => D.str [c]) = some d := e0
          cases g2 : z[k]? with
          | none => rw [g2] at e2; cases e2
          | some ch =>
            rw [g2] at e2
            cases e2
            refine .inr (.inr ⟨_, i, ch, rfl, rfl, by rw [sOf_len]; exact size_le c, ?_, q _ (.str fun x hx => ?_)⟩)
            · rw [sOf_cps]
              unfold atI
              rw [show ixN z.length i = some k from g]
              exact g2
            · rw [List.mem_singleton.mp hx]
              exact hs ch (List.mem_of_getElem? g2)
      · rw [if_neg c] at e0
        cases e0
    | _ => cases e
  | _ => cases x <;> cases e
/-! ### slices -/
theorem cutV_ok {ρ : List Addr} {H : Hp} {xs : List D} {vs : List V} (r : RDs t.K ρ H xs vs) (lo hi : Option Int) : RDs t.K ρ H (cut xs lo hi) (cutV vs lo hi) := by
  unfold cut cutV
  have e : ∀ n d o, cutAt n d o = HT.sIx n d o := fun n d o => by cases o <;> rfl
  rw [e, e, r.length]
  exact (r.drop _).take _
theorem cut_all {α : Type} (xs : List α) {lo hi : Option Int} (h1 : HT.sIx xs.length 0 lo = 0) (h2 : HT.sIx xs.length xs.length hi = xs.length) : cut xs lo hi = xs := by
  have e : ∀ n d o, cutAt n d o = HT.sIx n d o := fun n d o => by cases o <;> rfl
  unfold cut
  rw [e, e, h1, h2]
  simp
theorem cut_mem {α : Type} {xs : List α} {lo hi : Option Int} {x : α} (h : x ∈ cut xs lo hi) : x ∈ xs := List.mem_of_mem_drop (List.mem_of_mem_take h)
theorem cutS_ok (z : List Nat) (lo hi : Option Int) : cutS (sOf z) lo hi = sOf (cut z lo hi) := by
  have e : ∀ n d o, cutAt n d o = HT.sIx n d o := fun n d o => by cases o <;> rfl
  unfold cutS cut
  rw [e, e]
  simp only [sOf, Str.length, List.size_toArray]
def rSl (K : PySem.W.Frag) : V → Option Int → Option Int → Hp → VK → Prop := fun x lo hi H Q => rSlL K x lo hi H Q ∨ (rSlA K x lo hi H Q ∨ rSlS x lo hi H Q)
theorem sl_any : SlR X (rSl X.K) := SlR.or sl_list (SlR.or sl_tupA sl_str)
theorem sl_k (hK : X.K = t.K) {σ : L2.St} {ρ : List Addr} {h : VH} {H : Hp} {x : D} {v : V} {lo hi : Option Int} {Q : VK} (rp : Rep t.K t.T ρ h H) (rx : RD t.K ρ H x v) (o : Out t W σ ρ H (slcD x lo hi h) Q) : rSl X.K v lo hi H Q := by
  cases rx with
  | @str z hs =>
    have o' : Out t W σ ρ H (if z.length ≤ sizeMax then .ok (.str (cut z lo hi)) h else .no) Q := o
    by_cases c : z.length ≤ sizeMax
    · rw [if_pos c] at o'
      refine .inr (.inr ⟨_, rfl, by rw [sOf_len]; exact size_le c, ?_⟩)
      rw [cutS_ok]
      exact o'.here rp (.str fun x hx => hs x (cut_mem hx))
    · rw [if_neg c] at o'
      exact o'.elim
  | @tup a xs vs h1 r1 =>
    have o' : Out t W σ ρ H (.ok (.tup (cut xs lo hi)) h) Q := o
    refine .inr (.inl ⟨a, vs, rfl, hK ▸ h1, fun ⟨e1, e2⟩ => ?_, fun _ p hp => ?_⟩)
    · refine o'.here rp ?_
      rw [← r1.length] at e1 e2
      rw [cut_all xs e1 e2]
      exact .tup h1 r1
    · exact o' _ _ _ (rp.newT hp) (.tup (.inl (.inl upd_same)) ((cutV_ok r1 lo hi).newT hp))
  | @fro a xs vs h1 r1 =>
    have o' : Out t W σ ρ H (.ok (.ref h.n) (h.new (.lst (cut xs lo hi)))) Q := o
    exact .inl ⟨a, vs, rfl, hK ▸ h1.sq, fun p hp => o' _ _ _ (rp.newL hp (cutV_ok r1 lo hi)) rp.rdNew⟩
  | @ref n a e1 =>
    have o' : Out t W σ ρ H (match h.get n with | some (.lst xs) => .ok (.ref h.n) (h.new (.lst (cut xs lo hi))) | _ => .no) Q := o
    cases g : h.get n with
    | none => rw [g] at o'; exact o'.elim
    | some ob =>
      rw [g] at o'
      cases ob with
      | lst ys =>
        obtain ⟨vs, h1, q1⟩ := rp.at e1 g
        exact .inl ⟨a, vs, rfl, .inl (.inl h1), fun p hp => o' _ _ _ (rp.newL hp (cutV_ok q1 lo hi)) rp.rdNew⟩
      | dct _ => exact o'.elim
      | ins _ _ => exact o'.elim
  | _ => exact (show False from o).elim
end
end Ev

/-! Rules of the hand layer that the library does not have: list(reversed(list)), l.extend(tuple), enumerate(text), get of a written dict. -/
namespace Ev
open PySem PySem.Spec PyProof.Rows L2

section
variable {prog : Program} {w : World} {A : Around} {E : Value → Shared → Prop} {s : Shared}
theorem extend_rev {R : Result → Shared → Prop} {it l : Addr} {items : Array Value} (hh : A.handled = none) (S : Addr) (res : Value) (c₀ : Nat) (hS : s.heap.get? S = some { cls := .type "list", data := .seq #[] c₀ })
    (hit : s.heap.IsRevIter it l ((items.size : Int) - 1)) (hl : s.heap.IsList l items) (hne : l ≠ it) (hSi : S ≠ it) (hSl : S ≠ l)
    (hR : ∀ h' tk acc' c', (∀ b o, b ≠ S → b ≠ it → s.heap.get? b = some o → h'.get? b = some o) → h'.get? S = some { cls := .type "list", dict := none, data := .seq acc' c', slots := #[] } →
      ItemsOf (fun i v => items[items.size - 1 - i]? = some v) acc' items.size → R (.ok (.ret res)) { s with heap := h', toks := tk }) (hn : items.size ≤ sizeLine) :
    wpAny (model prog w) A.in1 (Builtin.List.listExtendWith (.ref S) (.ref it) res)
      (fun fin s' => match fin with | .done f => R (.ok f) s' | .again c' => c'.quiet = true ∧ codeAny (model prog w) A c' R s') (fun e s' => R (.error e) s') s := by
  have W := (Walks.listRev (prog := prog) (w := w) (A := A.in1) hh it l hne items).toS
  have hSf : S ∉ [it, l] := by simp only [List.mem_cons, List.not_mem_nil, or_false, not_or]; exact ⟨hSi, hSl⟩
  have hT : s.TypeIs (.ref it) "list_reverseiterator" := hit.typeIs
  have h1 : Builtin.List.listSameRef (.ref S) (.ref it) = false := by simp [Builtin.List.listSameRef, hSi]
  unfold Builtin.List.listExtendWith
  refine wpAny_bind (wpAny_typeOf hT ?_)
  rw [if_neg (by rw [h1]; decide)]
  refine wpAny_bind (wpAny_pyIter_revIter hit ?_)
  refine wpAny_bind (wpAny_holding ?_)
  unfold Builtin.List.listLengthHint
  refine wpAny_bind (wpAny_specialOf hT RT.nolen_lri ?_)
  show wpAny _ A.in1 (specialOf (Value.ref it) (Str.ofString "__length_hint__") >>= _) _ _ _
  refine wpAny_bind (wpAny_specialOf hT RT.hint_lri ?_)
  generalize hid : ("list_reverseiterator.__length_hint__" : String) = id0
  wp_delta
  rw [show splitId id0 = some ("list_reverseiterator", "__length_hint__") from by subst hid; decide +kernel]
  subst hid
  refine wpAny_bind (wpAny_isInstance (b := true) hT (by rw [isSubtype_type]; kernel_rfl) ?_)
  refine wpAny_pure ?_
  rw [if_neg (by decide)]
  have e0 : ((items.size : Nat) : Int) - 1 - ((0 : Nat) : Int) = (items.size : Int) - 1 := by omega
  refine wpAny_pure ⟨plainId_quiet F.plain_extend_loop _, codeAny_extend_loopS W hn _ hSf _ items.size 0 _ _ _ rfl (Nat.zero_le _) ⟨Nat.zero_le _, by rw [e0]; exact hit, hl⟩ hS (ItemsOf.nil _) fun s' acc' c' hm hS' hacc => ?_⟩
  rw [Moved.eq_with hm]
  refine hR s'.heap s'.toks acc' c' (fun b ob hb hb2 e => hm.heap b ob (fun hmem => ?_) e) hS' hacc
  rcases List.mem_cons.mp hmem with e' | hmem
  · exact hb e'
  · exact hb2 (List.mem_singleton.mp hmem)

theorem list_init_rev {R : Result → Shared → Prop} {it l : Addr} {items : Array Value} (hh : A.handled = none) (S : Addr) (hS : s.heap.get? S = some { cls := .type "list", data := .seq #[] })
    (hit : s.heap.IsRevIter it l ((items.size : Int) - 1)) (hl : s.heap.IsList l items) (hne : l ≠ it) (hSi : S ≠ it) (hSl : S ≠ l)
    (hR : ∀ h' tk acc' c', (∀ b o, b ≠ S → b ≠ it → s.heap.get? b = some o → h'.get? b = some o) → h'.get? S = some { cls := .type "list", dict := none, data := .seq acc' c', slots := #[] } →
      ItemsOf (fun i v => items[items.size - 1 - i]? = some v) acc' items.size → R (.ok (.ret .none)) { s with heap := h', toks := tk }) (hn : items.size ≤ sizeLine) :
    wpAny (model prog w) A.in1 (Builtin.«list.__init__» ⟨[.ref S, .ref it], []⟩)
      (fun fin s' => match fin with | .done f => R (.ok f) s' | .again c' => c'.quiet = true ∧ codeAny (model prog w) A c' R s') (fun e s' => R (.error e) s') s := by
  show wpAny _ _ (do let old ← Builtin.List.listItems (.ref S); Builtin.List.listUpdate (.ref S) (fun _ => #[]); letGo old.toList.reverse; Builtin.List.listExtendWith (.ref S) (.ref it) .none) _ _ s
  refine wpAny_bind ?_
  unfold Builtin.List.listItems
  refine wpAny_bind (wpAny_seqItems hS rfl (wpAny_pure ?_))
  show wpAny _ _ (updateSeq S (fun _ => #[]) >>= fun _ => letGo (#[] : Array Value).toList.reverse >>= fun _ => Builtin.List.listExtendWith (.ref S) (.ref it) .none) _ _ s
  refine wpAny_bind (wpAny_updateSeq hS rfl ?_)
  have hS₂ := Heap.get?_update_self (Obj.mapSeq (fun _ => (#[] : Array Value))) hS rfl
  have oth : ∀ b o, b ≠ S → s.heap.get? b = some o → (s.heap.update S (Obj.mapSeq (fun _ => (#[] : Array Value)))).get? b = some o :=
    fun b o hb e => (Heap.get?_update_other _ _ (Ne.symm hb)).trans e
  refine wpAny_bind (wpAny_letGo ?_)
  refine extend_rev hh S .none _ hS₂ (hit.at fun o e => oth it o (Ne.symm hSi) e) (hl.at fun o e => oth l o (Ne.symm hSl) e) hne hSi hSl (fun h' tk acc' c' hk hS' hacc => ?_) hn
  exact hR h' tk acc' c' (fun b o hb hb2 e => hk b o hb hb2 (oth b o hb e)) hS' hacc

theorem call_list_rev {it l : Addr} {items : Array Value} {Q : Value → Shared → Prop} (hh : A.handled = none) (hit : s.heap.IsRevIter it l ((items.size : Int) - 1)) (hl : s.heap.IsList l items) (hne : l ≠ it) (hn : items.size ≤ sizeLine)
    (hQ : ∀ h' tk acc' c', (∀ b o, b ≠ it → s.heap.get? b = some o → h'.get? b = some o) →
      h'.get? s.heap.objs.size = some { cls := .type "list", dict := none, data := .seq acc' c', slots := #[] } → ItemsOf (fun i v => items[items.size - 1 - i]? = some v) acc' items.size → Q (.ref s.heap.objs.size) { s with heap := h', toks := tk }) :
    wpAny (model prog w) A (call (.type "list") [.ref it]) Q E s := by
  refine callType_codes (Q₁ := fun obj s₁ => obj = .ref s.heap.objs.size ∧ s₁ = { s with heap := s.heap.push { cls := .type "list", data := .seq #[] } }) PySem.F.called_list (PySem.F.typeCall_list_1 _) PySem.F.entry_list_init
    (code_list_new _ ⟨rfl, rfl⟩) fun obj s₁ h₁ => ?_
  obtain ⟨rfl, rfl⟩ := h₁
  have hS : (s.heap.push { cls := .type "list", data := .seq #[] }).get? s.heap.objs.size = some { cls := .type "list", data := .seq #[] } := Heap.get?_push_size _ rfl
  obtain ⟨oi, hoi, _⟩ := id hit
  obtain ⟨ol, hol, _⟩ := id hl
  have hSi : s.heap.objs.size ≠ it := Nat.ne_of_gt (Heap.lt_size hoi)
  have hSl : s.heap.objs.size ≠ l := Nat.ne_of_gt (Heap.lt_size hol)
  refine ⟨⟨_, hS, rfl⟩, PySem.F.args_list_init_2 _ _, list_init_rev (A := A.in1) hh _ hS (hit.at fun o e => Heap.get?_push_of_some _ e) (hl.push _) hne hSi hSl (fun h' tk acc' c' hk hS' hacc => ?_) hn⟩
  exact ⟨rfl, hQ h' tk acc' c' (fun b o hb e => hk b o (Nat.ne_of_lt (Heap.lt_size e)) hb (Heap.get?_push_of_some _ e)) hS' hacc⟩
end
section
variable {X : Cx}
/-- list(reversed(x)), x a list: a new list -/
def tLstRev (K : PySem.W.Frag) (te : TE) : TE := fun σ H Q => te σ H fun v H1 => ∃ (a : Addr) (xs : List V), v = .ref a ∧ SqL K H1 a xs ∧ ∀ q, H1 q = none → Q (.ref q) (upd H1 q (.lst xs.reverse))
theorem pe_lstRev {e : Expr} {te : TE} {p p2 pos pos2 : Pos} (hc : X.calm = true) (hg : Gl X "list") (hm : X.mg "list" = none) (hg2 : Gl X "reversed") (hm2 : X.mg "reversed" = none) (he : PE X e te)
    (hs : starEach [e] X.env = (false, eval e X.env) :: starEach [] X.env)
    (hs2 : starEach [.Call (.Name "reversed" p2) [e] [] pos2] X.env = (false, eval (.Call (.Name "reversed" p2) [e] [] pos2) X.env) :: starEach [] X.env := by rfl) :
    PE X (.Call (.Name "list" p) [.Call (.Name "reversed" p2) [e] [] pos2] [] pos) (tLstRev X.K te) := by
  refine ⟨fun pins s σ H Q I h => ?_⟩
  refine Call_ (ld_blt I hg hm boot_list (PyProof.Rows.callWith_type1 (args_cons (Call_ (ld_blt I hg2 hm2 PyProof.Rows.boot_reversed (PyProof.Rows.callWith_type1 (args_cons (thn (he.run pins s σ H _ I h) fun u s1 ⟨v, H1, I1, r1, q1⟩ => args_nil ?_) hs) hs rfl))) hs2) hs2 rfl))
  obtain ⟨a, xs, ev, hq, q⟩ := q1
  subst ev
  obtain rfl : u = Value.ref a := r1
  obtain ⟨its, rv, p', hz⟩ := I1.list hq
  refine call_reversed_list p'.isList (args_nil ?_)
  have k0 : ∀ b o, s1.heap.get? b = some o → (s1.heap.push (revObj a ((its.toArray.size : Int) - 1))).get? b = some o := fun b o e => Heap.get?_push_of_some _ e
  have I2 : Inv X pins σ H1 { s1 with heap := s1.heap.push (revObj a ((its.toArray.size : Int) - 1)) } := I1.kept (t' := s1.toks) k0
  obtain ⟨f0, f1, f2, f3, f4, f5⟩ := I1.fpOk (H' := H1) (b := s1.heap.objs.size) (Nat.le_refl _) (I1.hok.fresh (Nat.le_refl _))
  have hl := p'.isList
  obtain ⟨ol, hol, _⟩ := id hl
  have hne : a ≠ s1.heap.objs.size := Nat.ne_of_lt (Heap.lt_size hol)
  have hn : its.toArray.size ≤ sizeLine := by rw [List.size_toArray, ← rv.length]; exact hz
  refine call_list_rev (s := { s1 with heap := s1.heap.push (revObj a ((its.toArray.size : Int) - 1)) }) (I1.ok.hd hc) ⟨_, Heap.get?_push_size _ rfl, rfl, rfl⟩ (hl.push _) hne hn fun h' tk acc c' hk hS hi => ?_
  have fp : ∀ b ∈ [s1.heap.objs.size], FpOk X pins H1 b := fun b hb => by
    rw [List.mem_singleton.mp hb]
    exact I1.fpOk (H' := H1) (Nat.le_refl _) (I1.hok.fresh (Nat.le_refl _))
  refine ⟨.ref (s1.heap.push (revObj a ((its.toArray.size : Int) - 1))).objs.size, upd H1 (s1.heap.push (revObj a ((its.toArray.size : Int) - 1))).objs.size (.lst xs.reverse),
    I2.turnedNew (t' := tk) (ch := [s1.heap.objs.size]) (fun b o hb e => hk b o (fun z => hb (by simp [z])) e) fp (Nat.le_refl _) (show ObjOk X.prog X.w _ _ _ (.lst xs.reverse) from ⟨by rw [List.length_reverse]; exact hz, acc.toList, c', RT.vals_rev rv hi, ?_⟩), rfl, q _ (I2.hok.fresh (Nat.le_refl _))⟩
  rw [Array.toArray_toList]
  exact hS
open PySem.AutoSeq1 in
theorem ext_tup (l : Addr) (items : Array Value) (n : Nat) (b : Addr) (items2 : Array Value) (n2 : Nat) (dd : Option Addr) (sl : Array (Option Value)) (hs0 : ¬(!items.isEmpty && Builtin.List.listTooLong (items.size + items2.size)) = true) (hs1 : items.size ≤ sizeLine) (hs2 : items.size + items2.size ≤ sizeLine + 1) :
    Meets (Builtin.«list.extend» ⟨[.ref l, .ref b], []⟩) (fun _ R s => s.heap.get? l = some { cls := .type "list", dict := none, data := .seq items n, slots := #[] } ∧ s.heap.get? b = some { cls := .type "tuple", dict := dd, data := .seq items2 n2, slots := sl } ∧ R (.ok (.ret Value.none)) { s with heap := s.heap.update l (Obj.mapSeq fun x => x ++ items2), toks := s.toks }) :=
  .of_wp fun prog w A R s h => by
    obtain ⟨hp, g, d, tk, os⟩ := s; obtain ⟨hl, hb, h⟩ := h; have f1 := idx_int; have f2 := PySem.AutoSeq1.sub_tuple_tuple; have f3 := PySem.AutoSeq1.sub_list_list; have f4 := PySem.AutoSeq1.sub_tuple_list; have f5 := PySem.AutoSeq1.sub_list_tuple;
    have hz' : (items ++ items2).size ≤ sizeLine + 1 := by rw [Array.size_append]; exact hs2
    wp_walk using (wpAny_updateSeq hl rfl (hz := hs1) (_hz' := hz')), wpAny_loadPart' hl, wpAny_loadPart' hb; exact ⟨_, rfl, h⟩
/-- l.extend(t), t a tuple -/
def rExtT (K : PySem.W.Frag) : V → List V → Hp → VK → Prop := fun x vs H Q => ∃ l b xs zs, x = .ref l ∧ vs = [.ref b] ∧ H l = some (.lst xs) ∧ SqT K H b zs ∧ xs.length + zs.length ≤ sizeLine ∧ Q .non (upd H l (.lst (xs ++ zs)))
theorem mt_extT : MtR X "list.extend" (rExtT X.K) := by
  intro pins s σ H x vs v us Q I rx rv h
  obtain ⟨l, b, xs, zs, rfl, rfl, hH, hB, hz, q⟩ := h
  cases rx
  obtain ⟨u, rfl, ru⟩ := rv.one
  cases ru
  obtain ⟨z, its, n, r, hl, e⟩ := I.lstM hH
  obtain ⟨its2, r2, ht, _⟩ := I.tuple hB
  obtain ⟨o2, e2, hc2, n2, hd2⟩ := id ht
  have hl2 := r2.length
  have hsz : its.toArray.size + its2.toArray.size ≤ sizeLine := by rw [List.size_toArray, List.size_toArray]; omega
  have hlong : ¬ (!its.toArray.isEmpty && Builtin.List.listTooLong (its.toArray.size + its2.toArray.size)) = true := by
    rw [notLongL hsz, Bool.and_false]
    exact Bool.false_ne_true
  have e2' : s.heap.get? b = some { cls := .type "tuple", data := .seq its2.toArray n2, dict := o2.dict, slots := o2.slots } := by
    rw [e2]
    obtain ⟨c, d, dt, sl⟩ := o2
    simp only at hc2 hd2
    rw [hc2, hd2]
  refine call_meets F.slot_list_extend ⟨_, e, rfl⟩ F.entry_list_extend (F.args_list_extend_2 _ _)
    (ext_tup l its.toArray n b its2.toArray n2 o2.dict o2.slots hlong (by rw [List.size_toArray]; omega) (by omega)) ⟨e, ?_, ?_⟩
  · exact e2'
  refine ⟨.non, _, I.lset (its' := its ++ its2) hH e (by simp) (r.append r2) ?_, rfl, q⟩
  rw [List.length_append]
  omega
/-! ### enumerate(text) -/
def IteS (x : Str) : It :=
  ⟨fun i _ => i < x.cps.size, fun i H v H' => ∃ T c, v = .ref T ∧ H T = none ∧ H' = upd H T (.tup [.int (i : Nat), .str ⟨#[c]⟩]) ∧ x.cps[i]? = some c, fun i _ => x.cps.size ≤ i⟩
theorem turn_enumS {P : Program} {w : World} {K : PySem.W.Frag} {elts : List Expr} {kk : Nat} {tpos : Pos} (x : Str) (t : Tok) (e it : Addr) :
    Turn P w K (.Tuple elts kk tpos) (IteS x) [e, it] e (fun i h => (∃ old, IsEnum h e it ((i : Nat) : Int) old) ∧ h.IsStrIter it (strIterType x) x t i ∧ e ≠ it ∧ i ≤ x.cps.size) where
  mem := by simp
  obj := fun i h st b hb => by
    obtain ⟨⟨old, he⟩, ⟨o, ho, hc, hd⟩, _⟩ := st
    have e' : b = e ∨ b = it := by simpa using hb
    rcases e' with z | z
    · rw [z]; exact ⟨_, he, fun v q => nomatch q⟩
    · rw [z]; exact ⟨o, ho, fun v q => by rw [hd] at q; cases q⟩
  keep := fun i h h' st k => let ⟨⟨old, he⟩, ⟨o, ho, r⟩, hne⟩ := st; ⟨⟨old, k e (by simp) _ he⟩, ⟨o, k it (by simp) o ho, r⟩, hne⟩
  item := by
    intro X hP hw hK hc i pins s σ H E I hf st hg
    subst hP hw hK
    obtain ⟨⟨old, he⟩, hit, hne, hle⟩ := st
    have D : Draws X.prog X.w X.A.in1 it [it] x.cps.size (fun i v => ∃ c u, x.cps[i]? = some c ∧ v = .str ⟨#[c]⟩ u) (fun i h => h.IsStrIter it (strIterType x) x t i) := by
      unfold strIterType
      split
      · exact Draws.strAscii (A := X.A.in1) (I.ok.hd hc) it x t
      · exact Draws.strWide (A := X.A.in1) (I.ok.hd hc) it x t
    have hel : e < s.heap.objs.size := Heap.lt_size he
    have hil : it < s.heap.objs.size := by obtain ⟨_, q, _⟩ := hit; exact Heap.lt_size q
    refine wpAny_pyNext_enum_itemD D he hit hg hne (by simpa using hne) fun u h' tk hu ho hit' hT hsz hk => ?_
    obtain ⟨c, u0, hcx, rfl⟩ := hu
    refine ⟨_, rfl, wpAny_letOwnedTupleGo_enum (s := { s with heap := h', toks := tk + 1 }) ho fun h'' he' sb => ?_⟩
    have hT2 : h''.get? s.heap.objs.size = some { cls := .type "tuple", data := .seq #[.int i tk, .str ⟨#[c]⟩ u0] } := (sb.2 _ (Nat.ne_of_gt hel)).trans hT
    have new : ObjOk X.prog X.w (upd H s.heap.objs.size (.tup [.int (i : Nat), .str ⟨#[c]⟩])) h'' s.heap.objs.size (.tup [.int (i : Nat), .str ⟨#[c]⟩]) :=
      ⟨by show 2 ≤ sizeLine; decide, [.int i tk, .str ⟨#[c]⟩ u0], .cons ⟨_, rfl⟩ (.cons ⟨_, rfl⟩ .nil), ⟨_, hT2, rfl, _, rfl⟩⟩
    have I1 : Inv X pins σ (upd H s.heap.objs.size (.tup [.int (i : Nat), .str ⟨#[c]⟩])) { s with heap := h'', toks := tk + 1 } :=
      I.turnedNew (ch := [e, it]) (fun b ob hb q => (sb.2 b (fun z => hb (by simp [z]))).trans (hk b ob (fun z => hb (by simp [z])) (fun z => hb (by simp [z])) q)) hf (Nat.le_refl _) new
    refine ⟨.ref s.heap.objs.size, _, I1, rfl, ⟨_, c, rfl, I.hok.fresh (Nat.le_refl _), rfl, hcx⟩, ⟨⟨.str ⟨#[c]⟩ u0, ?_⟩, ?_, hne, hg⟩, fun b hb => ?_⟩
    · have e1 : ((i + 1 : Nat) : Int) = (i : Int) + 1 := by omega
      rw [e1]; exact he'
    · obtain ⟨o, ho2, r⟩ := hit'
      exact ⟨o, (sb.2 it (Ne.symm hne)).trans ho2, r⟩
    · have hb' : b < s.heap.objs.size := by
        have e' : b = e ∨ b = it := by simpa using hb
        rcases e' with z | z
        · rw [z]; exact hel
        · rw [z]; exact hil
      rw [upd_ne (Nat.ne_of_lt hb')]
      exact (hf b hb).1
  done := by
    intro X hP hw hK hc i pins s σ H E I hf st hg
    subst hP hw hK
    obtain ⟨⟨old, he⟩, hit, hne, hle⟩ := st
    have D : Draws X.prog X.w X.A.in1 it [it] x.cps.size (fun i v => ∃ c u, x.cps[i]? = some c ∧ v = .str ⟨#[c]⟩ u) (fun i h => h.IsStrIter it (strIterType x) x t i) := by
      unfold strIterType
      split
      · exact Draws.strAscii (A := X.A.in1) (I.ok.hd hc) it x t
      · exact Draws.strWide (A := X.A.in1) (I.ok.hd hc) it x t
    have hg : x.cps.size ≤ i := hg
    have ei : i = x.cps.size := by omega
    subst ei
    obtain ⟨f0, f1, f2, f3, f4, f5⟩ := hf it (by simp)
    exact wpAny_pyNext_enum_endD D he hit fun h' eb => ⟨rfl, I.turned (t' := s.toks) (fun b o hb q => eb b o hb q) f0 f1 f3 f4 f5⟩
  self := fun A i s Q E st h => let ⟨⟨_, he⟩, _⟩ := st; wpAny_pyIter_enum he h
def iEnumS (te : TE) : TI := fun σ H R => te σ H fun v H1 => ∃ x, v = .str x ∧ R (IteS x) H1
theorem pi_enumS {e : Expr} {te : TE} {p pos tpos : Pos} {elts : List Expr} {kk : Nat} (hg : Gl X "enumerate") (hm : X.mg "enumerate" = none) (he : PE X e te) (hs : starEach [e] X.env = (false, eval e X.env) :: starEach [] X.env) :
    PI X (.Tuple elts kk tpos) (.Call (.Name "enumerate" p) [e] [] pos) (iEnumS te) := by
  refine ⟨fun pins s σ H R I h => ?_⟩
  refine Call_ (ld_blt I hg hm boot_enumerate (PyProof.Rows.callWith_type1 (args_cons (thn (he.run pins s σ H _ I h) fun u s1 ⟨v, H1, I1, r1, q1⟩ => args_nil ?_) hs) hs rfl))
  obtain ⟨x, ex, q⟩ := q1
  subst ex
  obtain ⟨t, rfl⟩ := r1
  refine call_enumerate_str fun h' he hit hsz hk => wpAny_pyIter_enum he ?_
  have I2 : Inv X pins σ H1 { s1 with heap := h' } := I1.kept (t' := s1.toks) hk
  refine ⟨s1.heap.objs.size + 1, [s1.heap.objs.size + 1, s1.heap.objs.size], _, _, H1, rfl, I2, turn_enumS x t (s1.heap.objs.size + 1) s1.heap.objs.size, ⟨⟨.none, he⟩, hit, Nat.succ_ne_self _, Nat.zero_le _⟩, fun b hb => ?_, q⟩
  have e' : b = s1.heap.objs.size + 1 ∨ b = s1.heap.objs.size := by simpa using hb
  have hle : s1.heap.objs.size ≤ b := by
    rcases e' with z | z
    · rw [z]; exact Nat.le_add_right _ _
    · rw [z]; exact Nat.le_refl _
  exact I1.fpOk hle (I1.hok.fresh hle)

/-! ### d.get(k) of a written dict -/
def tKGet (d : Addr) (K : PySem.W.Frag) (te : TE) : TE := fun σ H Q => te σ H fun y H1 => ∃ (z : Str) (r : Option Value) (v : V), y = .str z ∧ PySem.W.nsIn K d z = some r ∧ RelV v (r.getD .none) ∧ Q v H1
theorem pe_kget {d : Addr} {es : Array DictEntry} {n : Nat} {o e : Expr} {te : TE} {apos cpos : Pos} (D : KDict X.K X.w d es n) (ho : PE X o (tC (.ref d))) (he : PE X e te) (m : M1 X o "get" apos e cpos) :
    PE X (.Call (.Attribute o "get" apos) [e] [] cpos) (tKGet d X.K te) := by
  refine ⟨fun pins s σ H Q I h => ?_⟩
  refine wpAny_Call_method m.base m.few m.line PySem.F.plainAttrs_dict PySem.F.slot_dict_get PySem.F.type_dict_get (thn (ho.run pins s σ H (fun v H' => v = .ref d ∧ H' = H) I ⟨rfl, rfl⟩) fun u s1 ⟨x, H1, I1, rx, ex, eH⟩ => ?_)
  subst ex
  subst eH
  obtain rfl : u = Value.ref d := rx
  have hm1 := PySem.W.mapOf_K (prog := X.prog) (w := X.w) I1.kIn D.at_ D.lit
  refine ⟨hm1.typeIs, hm1.noDict, ?_⟩
  rw [m.trees]
  refine Calls.callWith_builtin rfl (Calls.evalArgs_plain (Calls.spliced_cons (thn (he.run pins s1 σ H1 _ I1 h) fun iv s2 ⟨y, H2, I2, ry, z, r, v, ey, hn, rv, q⟩ => Calls.spliced_nil ?_)))
  subst ey
  obtain ⟨t, rfl⟩ := ry
  have hm2 := PySem.W.mapOf_K (prog := X.prog) (w := X.w) I2.kIn D.at_ D.lit
  refine call_meetsIn PySem.F.slot_dict_get hm2.typeIs PySem.F.entry_dict_get (PySem.F.args_dict_get_2 _ _) (meets_dict_get (strKind X.prog X.w) d (strKind_is X.prog X.w z t) D.low) ⟨_, hm2, ?_⟩
  rw [PySem.W.find_K D.at_ hn]
  exact ⟨v, H2, I2.tok _, rv, q⟩
end
end Ev

/-! Built-in functions and methods by values. -/
namespace Ev
open PySem PySem.Spec PyProof.Rows L2

section
variable {X : Cx} {t : Tx} {W : WX}
def rBl (t : Tx) (W : WX) (f : List D → VH → R D) : List V → Hp → VK → Prop := fun vs H Q => ∃ σ ρ h xs, Rep t.K t.T ρ h H ∧ RDs t.K ρ H xs vs ∧ Out t W σ ρ H (f xs h) Q
theorem seqOf_ok {ρ : List Addr} {h : VH} {H : Hp} {x : D} {v : V} {ys : List D} (rp : Rep t.K t.T ρ h H) (rx : RD t.K ρ H x v) (e : seqOf x h = some ys) : ∃ p vs, v = .ref p ∧ (SqL t.K H p vs ∨ SqT t.K H p vs) ∧ RDs t.K ρ H ys vs := by
  cases rx with
  | tup h1 r1 => cases e; exact ⟨_, _, rfl, .inr h1, r1⟩
  | fro h1 r1 => cases e; exact ⟨_, _, rfl, .inl h1.sq, r1⟩
  | @ref n a e1 =>
    have e' : (match h.get n with | some (.lst xs) => some xs | _ => none) = some ys := e
    cases g : h.get n with
    | none => rw [g] at e'; cases e'
    | some o =>
      rw [g] at e'
      cases o with
      | lst xs =>
        cases e'
        obtain ⟨vs, h1, q1⟩ := rp.at e1 g
        exact ⟨_, _, rfl, .inl (.inl (.inl h1)), q1⟩
      | _ => cases e'
  | _ => cases e
theorem lstOf_ok {ρ : List Addr} {h : VH} {H : Hp} {x : D} {v : V} {ys : List D} (rp : Rep t.K t.T ρ h H) (rx : RD t.K ρ H x v) (e : lstOf x h = some ys) : ∃ p vs, v = .ref p ∧ SqL t.K H p vs ∧ RDs t.K ρ H ys vs := by
  cases rx with
  | fro h1 r1 => cases e; exact ⟨_, _, rfl, h1.sq, r1⟩
  | @ref n a e1 =>
    have e' : (match h.get n with | some (.lst xs) => some xs | _ => none) = some ys := e
    cases g : h.get n with
    | none => rw [g] at e'; cases e'
    | some o =>
      rw [g] at e'
      cases o with
      | lst xs =>
        cases e'
        obtain ⟨vs, h1, q1⟩ := rp.at e1 g
        exact ⟨_, _, rfl, .inl (.inl h1), q1⟩
      | _ => cases e'
  | _ => cases e
/-- len -/
theorem cb_len (hK : X.K = t.K) : CallR X (.builtin "len") (rBl t W lenD) := by
  intro pins s σ H vs us Q I rv hh
  obtain ⟨σ', ρ, h, xs, rp, rx, o⟩ := hh
  unfold lenD at o
  split at o
  · cases rx with | cons r1 r2 => cases r2; cases r1 with
    | str hs =>
      split at o
      · rename_i c
        refine call_len pins s σ H _ us Q I rv ⟨_, _, rfl, ⟨by rw [sOf_len]; exact size_le c, rfl⟩, ?_⟩
        rw [sOf_len]
        exact o.here rp (.int _)
      · exact o.elim
  · cases rx with | cons r1 r2 => cases r2; cases r1 with
    | tup h1 r3 =>
      refine call_len pins s σ H _ us Q I rv ⟨_, _, rfl, .inr ⟨_, hK ▸ h1, rfl⟩, ?_⟩
      rw [← r3.length]
      exact o.here rp (.int _)
  · cases rx with | cons r1 r2 => cases r2; cases r1 with
    | fro h1 r3 =>
      refine call_len pins s σ H _ us Q I rv ⟨_, _, rfl, .inl ⟨_, hK ▸ h1.sq, rfl⟩, ?_⟩
      rw [← r3.length]
      exact o.here rp (.int _)
  · cases rx with | cons r1 r2 => cases r2; cases r1 with
    | ref e1 =>
      split at o
      · rename_i g
        obtain ⟨ws, h1, q1⟩ := rp.at e1 g
        refine call_len pins s σ H _ us Q I rv ⟨_, _, rfl, .inl ⟨_, .inl (.inl h1), rfl⟩, ?_⟩
        rw [← q1.length]
        exact o.here rp (.int _)
      · rename_i g
        obtain ⟨ws, h1, q1, q2⟩ := rp.at e1 g
        refine call_lenD pins s σ H _ us Q I rv ⟨_, _, rfl, h1, ?_⟩
        have e := congrArg List.length q1
        rw [List.length_map, List.length_map] at e
        rw [← e]
        exact o.here rp (.int _)
      · exact o.elim
  · exact o.elim
theorem cb_abs : CallR X (.builtin "abs") (rBl t W absD) := by
  intro pins s σ H vs us Q I rv hh
  obtain ⟨σ', ρ, h, xs, rp, rx, o⟩ := hh
  unfold absD at o
  split at o
  · cases rx with | cons r1 r2 => cases r2; cases r1; exact call_abs pins s σ H _ us Q I rv ⟨_, rfl, o.here rp (.int _)⟩
  · exact o.elim
theorem cb_int : CallR X (.type "int") (rBl t W intD) := by
  intro pins s σ H vs us Q I rv hh
  obtain ⟨σ', ρ, h, xs, rp, rx, o⟩ := hh
  unfold intD at o
  split at o
  · cases rx with | cons r1 r2 => cases r2; cases r1; exact call_int1 pins s σ H _ us Q I rv (.inl ⟨_, rfl, o.here rp (.int _)⟩)
  · cases rx with | cons r1 r2 => cases r2; cases r1; exact call_int1 pins s σ H _ us Q I rv (.inr ⟨_, rfl, o.here rp (.int _)⟩)
  · exact o.elim
theorem cb_list (hK : X.K = t.K) : CallR X (.type "list") (rBl t W listD) := by
  intro pins s σ H vs us Q I rv hh
  obtain ⟨σ', ρ, h, xs, rp, rx, o⟩ := hh
  unfold listD at o
  split at o
  · cases rx with | cons r1 r2 => cases r2; (
      split at o
      · rename_i e
        obtain ⟨p, ws, rfl, hs, q⟩ := seqOf_ok rp r1 e
        exact call_list_of pins s σ H _ us Q I rv ⟨_, _, rfl, hK ▸ hs, fun l hl => o _ _ _ (rp.newL hl q) rp.rdNew⟩
      · exact o.elim)
  · exact o.elim
theorem cb_tuple (hK : X.K = t.K) : CallR X (.type "tuple") (rBl t W tupleD) := by
  intro pins s σ H vs us Q I rv hh
  obtain ⟨σ', ρ, h, xs, rp, rx, o⟩ := hh
  unfold tupleD at o
  split at o
  · cases rx with | cons r1 r2 => cases r2; (
      split at o
      · rename_i e
        obtain ⟨p, ws, rfl, hs, q⟩ := seqOf_ok rp r1 e
        refine call_tuple_of pins s σ H _ us Q I rv ⟨_, ws, rfl, ?_⟩
        rcases hs with hs | hs
        · exact .inl ⟨hK ▸ hs, fun l hl => o _ _ _ (rp.newT hl) (.tup (.inl (.inl upd_same)) (q.newT hl))⟩
        · exact .inr ⟨hK ▸ hs, o.here rp (.tup hs q)⟩
      · exact o.elim)
  · exact o.elim
theorem cb_max2 (hc : X.calm = true) : CallR X (.builtin "max") (rBl t W max2D) := by
  intro pins s σ H vs us Q I rv hh
  obtain ⟨σ', ρ, h, xs, rp, rx, o⟩ := hh
  unfold max2D at o
  split at o
  · cases rx with | cons r1 r2 => cases r2 with | cons r2 r3 => cases r3; cases r1; cases r2; exact call_max2 hc pins s σ H _ us Q I rv ⟨_, _, rfl, o.here rp (.int _)⟩
  · exact o.elim
theorem cb_min2 (hc : X.calm = true) : CallR X (.builtin "min") (rBl t W min2D) := by
  intro pins s σ H vs us Q I rv hh
  obtain ⟨σ', ρ, h, xs, rp, rx, o⟩ := hh
  unfold min2D at o
  split at o
  · cases rx with | cons r1 r2 => cases r2 with | cons r2 r3 => cases r3; cases r1; cases r2; exact call_min2 hc pins s σ H _ us Q I rv ⟨_, _, rfl, o.here rp (.int _)⟩
  · exact o.elim
/-- isinstance(x, a built-in type) -/
def rIs (t : Tx) (W : WX) (T : String) (f : List D → VH → R D) : List V → Hp → VK → Prop := fun vs H Q => ∃ σ ρ h x v, Rep t.K t.T ρ h H ∧ RD t.K ρ H x v ∧ vs = [v, .ty T] ∧ Out t W σ ρ H (f [x] h) Q
theorem tup_ty {K : PySem.W.Frag} {H : Hp} {a : Addr} {vs : List V} (h : SqT K H a vs) : TyX K H (.ref a) (.type "tuple") := by
  rcases h with (h | ⟨o, h⟩) | ⟨o, its, n, e, hc, _⟩
  · exact .base (.tup h)
  · exact .fTuple h
  · exact .kTuple e hc
theorem cb_isStr (hK : X.K = t.K) : CallR X (.builtin "isinstance") (rIs t W "str" isStrD) := by
  intro pins s σ H vs us Q I rv hh
  obtain ⟨σ', ρ, h, x, v, rp, rx, rfl, o⟩ := hh
  unfold isStrD at o
  split at o
  · rename_i e; cases e; cases rx; exact call_isi pins s σ H _ us Q I rv ⟨_, _, _, _, _, rfl, .ty _, .base (.str _), kit_ty (r := true) (by decide +kernel), o.here rp (.bl _)⟩
  · rename_i e; cases e; cases rx; exact call_isi pins s σ H _ us Q I rv ⟨_, _, _, _, _, rfl, .ty _, .base .non, kit_ty (r := false) (by decide +kernel), o.here rp (.bl _)⟩
  · rename_i e; cases e; cases rx; exact call_isi pins s σ H _ us Q I rv ⟨_, _, _, _, _, rfl, .ty _, .base (.bl _), kit_ty (r := false) (by decide +kernel), o.here rp (.bl _)⟩
  · rename_i e; cases e; cases rx; exact call_isi pins s σ H _ us Q I rv ⟨_, _, _, _, _, rfl, .ty _, .base (.int _), kit_ty (r := false) (by decide +kernel), o.here rp (.bl _)⟩
  · rename_i e; cases e; cases rx with
    | tup h1 r1 => exact call_isi pins s σ H _ us Q I rv ⟨_, _, _, _, _, rfl, .ty _, tup_ty (hK ▸ h1), kit_ty (r := false) (by decide +kernel), o.here rp (.bl _)⟩
  · exact o.elim
theorem cb_isInt (hK : X.K = t.K) : CallR X (.builtin "isinstance") (rIs t W "int" isIntD) := by
  intro pins s σ H vs us Q I rv hh
  obtain ⟨σ', ρ, h, x, v, rp, rx, rfl, o⟩ := hh
  unfold isIntD at o
  split at o
  · rename_i e; cases e; cases rx; exact call_isi pins s σ H _ us Q I rv ⟨_, _, _, _, _, rfl, .ty _, .base (.str _), kit_ty (r := false) (by decide +kernel), o.here rp (.bl _)⟩
  · rename_i e; cases e; cases rx; exact call_isi pins s σ H _ us Q I rv ⟨_, _, _, _, _, rfl, .ty _, .base .non, kit_ty (r := false) (by decide +kernel), o.here rp (.bl _)⟩
  · rename_i e; cases e; cases rx; exact call_isi pins s σ H _ us Q I rv ⟨_, _, _, _, _, rfl, .ty _, .base (.bl _), kit_ty (r := true) (by decide +kernel), o.here rp (.bl _)⟩
  · rename_i e; cases e; cases rx; exact call_isi pins s σ H _ us Q I rv ⟨_, _, _, _, _, rfl, .ty _, .base (.int _), kit_ty (r := true) (by decide +kernel), o.here rp (.bl _)⟩
  · rename_i e; cases e; cases rx with
    | tup h1 r1 => exact call_isi pins s σ H _ us Q I rv ⟨_, _, _, _, _, rfl, .ty _, tup_ty (hK ▸ h1), kit_ty (r := false) (by decide +kernel), o.here rp (.bl _)⟩
  · exact o.elim
/-! ### methods of lists -/
def rMt (t : Tx) (W : WX) (f : D → List D → VH → R D) : V → List V → Hp → VK → Prop := fun v vs H Q => ∃ σ ρ h x xs, Rep t.K t.T ρ h H ∧ RD t.K ρ H x v ∧ RDs t.K ρ H xs vs ∧ Out t W σ ρ H (f x xs h) Q
theorem mb_append : MtR X "list.append" (rMt t W appendD) := by
  intro pins s σ H v vs v' us Q I rv rvs hh
  obtain ⟨σ', ρ, h, x, xs, rp, rx, rxs, o⟩ := hh
  unfold appendD at o
  split at o
  · cases rx with | ref e1 => cases rxs with | cons r1 r2 => cases r2; (
      split at o
      · rename_i g
        split at o
        · rename_i c
          obtain ⟨ws, h1, q1⟩ := rp.at e1 g
          rw [q1.length] at c
          exact mt_append pins s σ H _ _ _ _ Q I rv rvs ⟨_, _, _, rfl, rfl, h1, size_lt c, o _ _ _ (rp.setL e1 (q1.app (.cons r1 .nil))) .non⟩
        · exact o.elim
      · exact o.elim)
  · exact o.elim
theorem mb_pop : MtR X "list.pop" (rMt t W popD) := by
  intro pins s σ H v vs v' us Q I rv rvs hh
  obtain ⟨σ', ρ, h, x, xs, rp, rx, rxs, o⟩ := hh
  unfold popD at o
  split at o
  · cases rx with | ref e1 => cases rxs; (
      split at o
      · rename_i g
        split at o
        · rename_i y c
          obtain ⟨ws, h1, q1⟩ := rp.at e1 g
          rw [List.getLast?_eq_getElem?] at c
          obtain ⟨u, hu, ru⟩ := q1.get c
          rw [q1.length] at hu
          refine mt_pop pins s σ H _ _ _ _ Q I rv rvs ⟨_, _, _, rfl, rfl, h1, hu, o _ _ _ (rp.setL e1 (vs := ws.dropLast) ?_) (ru.set rp (List.mem_of_getElem? e1))⟩
          rw [List.dropLast_eq_take, List.dropLast_eq_take, q1.length]
          exact q1.take _
        · exact o.elim
      · exact o.elim)
  · exact o.elim
theorem mb_extend (hK : X.K = t.K) : MtR X "list.extend" (rMt t W extendD) := by
  intro pins s σ H v vs v' us Q I rv rvs hh
  obtain ⟨σ', ρ, h, x, xs, rp, rx, rxs, o⟩ := hh
  unfold extendD at o
  split at o
  · cases rx with | ref e1 => cases rxs with | cons r1 r2 => cases r2; cases r1 with | tup h2 r3 => (
      split at o
      · rename_i g
        split at o
        · rename_i c
          obtain ⟨ws, h1, q1⟩ := rp.at e1 g
          rw [q1.length, r3.length] at c
          exact mt_extT pins s σ H _ _ _ _ Q I rv rvs ⟨_, _, _, _, rfl, rfl, h1, hK ▸ h2, size_le c, o _ _ _ (rp.setL e1 (q1.app r3)) .non⟩
        · exact o.elim
      · exact o.elim)
  · cases rx with | ref e1 => cases rxs with | cons r1 r2 => cases r2; cases r1 with | ref e2 => (
      split at o
      · rename_i g g2
        split at o
        · rename_i c
          obtain ⟨ws, h1, q1⟩ := rp.at e1 g
          obtain ⟨zs, h2, q2⟩ := rp.at e2 g2
          rw [q1.length, q2.length] at c
          exact mt_extend pins s σ H _ _ _ _ Q I rv rvs ⟨_, _, _, _, rfl, rfl, h1, h2, size_le c, o _ _ _ (rp.setL e1 (q1.app q2)) .non⟩
        · exact o.elim
      · exact o.elim)
  · exact o.elim
/-- what a list's method wants of its receiver -/
theorem ty_of_mt {ρ : List Addr} {h : VH} {H : Hp} {n : Nat} {v : V} {xs : List D} (rp : Rep t.K t.T ρ h H) (rx : RD t.K ρ H (.ref n) v) (g : h.get n = some (.lst xs)) : tyV t.K "list" v H := by
  cases rx with
  | ref e1 =>
    obtain ⟨ws, h1, _⟩ := rp.at e1 g
    exact .inl ⟨rfl, _, .inl (.inl h1)⟩
end
end Ev

/-! The checker: is the compact text the program's own; its soundness for expressions. -/
namespace Ev
open PySem PySem.Spec PyProof.Rows L2

/-- what is known of a def's names -/
structure Sy where
  N : List Str
  sc : Scope
  /-- how much deeper than the fuel the room is -/
  s : Nat
  /-- defs: number, room beyond the fuel -/
  fns : List (Str × Nat × Nat)
  fre : List Str
  glo : List (Str × Nat)
  kds : List (Str × Nat)
  /-- classes of errors: all; with a message; with a payload -/
  ers : List (Str × Nat)
  erm : List (Str × Nat)
  erp : List (Str × Nat × Str)
  tls : List (Str × Nat)
  /-- may lambdas be made here -/
  lam : Bool

def nmOk (x : Str) : Bool := !(x == ("__debug__" : Str)) && !(x == ("__classdict__" : Str))
def Sy.vis (Y : Sy) (x : Str) : Bool := match Y.sc.names.lookup x with
  | some .local => true
  | some .cell => true
  | some .free => true
  | _ => false
def Sy.loc (Y : Sy) (x : Str) : Bool := decide (Y.sc.names.lookup x = some .local)
def Sy.gl (Y : Sy) (x : Str) : Bool := decide (Y.sc.names.lookup x = some .globalImplicit) && nmOk x && !(decide (x = "__name__"))
def Sy.blt (Y : Sy) (x : Str) : Bool := Y.gl x && decide (x ∈ Y.fre)
def noStar : Expr → Bool
  | .Starred _ _ => false
  | _ => true
def notSlice : Expr → Bool
  | .Slice .. => false
  | _ => true
def noSet : Expr → Bool
  | .Set .. => false
  | _ => true
def isTup : Expr → Bool
  | .Tuple .. => true
  | _ => false
/-- not super() -/
def plainBase : Expr → Bool
  | .Call .. => false
  | _ => true
def conOk (d : D) (e : Expr) : Bool := match d, e with
  | .non, .Constant .none _ _ => true
  | .bl b, .Constant (.bool c) _ _ => b == c
  | .int i, .Constant (.int j) _ _ => i == j
  | .str s, .Constant (.str x) _ _ => x.cps.toList == s && s.all (fun c => decide (c < 1114112))
  | _, _ => false
def Es.len : Es → Nat
  | .nil => 0
  | .cons _ es => es.len + 1
/-- a built-in function's name, and what it stands for -/
def bltName : Blt → Str
  | .len => "len"
  | .abs => "abs"
  | .int => "int"
  | .str => "str"
  | .list => "list"
  | .tuple => "tuple"
  | .max2 => "max"
  | .min2 => "min"
  | .isStr => "str"
  | .isInt => "int"
  | .listRev => "reversed"
  | .sumL => "sum"
def mthName : Mth → Str
  | .append => "append"
  | .pop => "pop"
  | .extend => "extend"
  | _ => ""
def bltPlain : Blt → Bool
  | .len => true
  | .abs => true
  | .int => true
  | .list => true
  | .tuple => true
  | .max2 => true
  | .min2 => true
  | _ => false
def bltIs : Blt → Bool
  | .isStr => true
  | .isInt => true
  | _ => false
/-- the block of [e for x in ..]: its own name x at i -/
def lcScope (Y : Sy) (sc : Scope) : Sy := { Y with sc := relS sc Y.sc, lam := false }
/-- a lambda's own -/
def lamScope (Y : Sy) (sc : Scope) : Sy := { Y with sc := sc, s := Y.s - 2, lam := false }
def noParams (a : Arguments) : Bool := match a with
  | ⟨[], [], none, [], [], none, []⟩ => true
  | _ => false
/-- except e: return 'text', clause by clause -/
def hdsB (ers : List (Str × Nat)) (sg : Scope) : List (Nat × D) → List ExceptHandler → Bool
  | [], hs => match hs with
    | [] => true
    | _ => false
  | (c, d) :: r, hs => match hs with
    | .ExceptHandler (some (.Name e _)) none [.Return (some (.Constant (.str x) _ _)) _] _ :: hs => decide (ers.lookup e = some c) && decide (sg.names.lookup e = some .globalImplicit) && nmOk e && (match d with
      | .str s => x.cps.toList == s && s.all (fun c => decide (c < 1114112))
      | _ => false) && hdsB ers sg r hs
    | _ => false
/-- try: return a() / except ..: return .. -/
def tldB (ers : List (Str × Nat)) (sg : Scope) (a : Str) (cs : List (Nat × D)) (bg : List Stmt) : Bool := match bg with
  | [.Try [.Return (some (.Call (.Name b _) [] [] _)) _] (h :: hs) [] [] _] => decide (b = a) && hdsB ers sg cs (h :: hs)
  | _ => false

mutual
def chkE (Y : Sy) : E → Expr → Bool
  | .var i, e => match e with
    | .Name x _ => decide (Y.N[i]? = some x) && Y.vis x && nmOk x
    | _ => false
  | .con d, e => conOk d e
  | .glo k, e => match e with
    | .Name x _ => Y.gl x && decide (Y.glo.lookup x = some k)
    | _ => false
  | .bin op a b, e => match e with
    | .BinOp x o y _ => decide (o = opOf op) && chkE Y a x && chkE Y b y
    | _ => false
  | .neg a, e => match e with
    | .UnaryOp .USub x _ => chkE Y a x
    | _ => false
  | .not a, e => match e with
    | .UnaryOp .Not x _ => chkE Y a x
    | _ => false
  | .and a b, e => match e with
    | .BoolOp .And (x :: y :: r) p => chkE Y a x && (match r with
      | [] => chkE Y b y
      | z :: r => chkE Y b (.BoolOp .And (y :: z :: r) p))
    | _ => false
  | .or a b, e => match e with
    | .BoolOp .Or (x :: y :: r) p => chkE Y a x && (match r with
      | [] => chkE Y b y
      | z :: r => chkE Y b (.BoolOp .Or (y :: z :: r) p))
    | _ => false
  | .ifx c a b, e => match e with
    | .IfExp x y z _ => chkE Y c x && chkE Y a y && chkE Y b z
    | _ => false
  | .cmp op a b, e => match e with
    | .Compare x [o] [y] _ => decide (o = cmpOf op) && !(behindInMarks o y) && chkE Y a x && chkE Y b y
    | _ => false
  | .chn p q a b c, e => match e with
    | .Compare x [o, o2] [y, z] _ => decide (o = cmpOf p) && decide (o2 = cmpOf q) && !(lastMarks [o, o2] [y, z]) && chkE Y a x && chkE Y b y && chkE Y c z
    | _ => false
  | .tup es, e => match e with
    | .Tuple xs _ _ => decide (es.len ≤ 1000) && chkEs Y es xs
    | _ => false
  | .lst es, e => match e with
    | .List xs _ => decide (es.len ≤ 1000) && chkEs Y es xs
    | _ => false
  | .dct es, e => match e with
    | .Dict ks vs _ => decide (0 < ks.length) && decide (ks.length ≤ 15) && chkPs Y es ks vs
    | _ => false
  | .idx a b, e => match e with
    | .Subscript x y _ => notSlice y && chkE Y a x && chkE Y b y
    | _ => false
  | .slc u v a lo hi, e => match e with
    | .Subscript x (.Slice l r none _) _ => chkE Y a x &&
      (match u, l with
      | true, some l => chkE Y lo l
      | false, none => (match lo with | .con .non => true | _ => false)
      | _, _ => false) &&
      (match v, r with
      | true, some r => chkE Y hi r
      | false, none => (match hi with | .con .non => true | _ => false)
      | _, _ => false)
    | _ => false
  | .cal _ f es, e => match e with
    | .Call (.Name x _) xs [] _ => Y.gl x && (match Y.fns.lookup x with
      | some (g, k) => decide (g = f) && decide (k ≤ Y.s)
      | none => false) && chkEs Y es xs
    | _ => false
  | .blt b es, e => match e with
    | .Call (.Name x _) [y] [] _ =>
      if b = .listRev then match y with
        | .Call (.Name x2 _) [z] [] _ => decide (x = "list") && decide (x2 = "reversed") && Y.blt "list" && Y.blt "reversed" && (match es with
          | .cons a .nil => chkE Y a z && noStar z
          | _ => false)
        | _ => false
      else bltPlain b && decide (x = bltName b) && Y.blt x && chkEs Y es [y]
    | .Call (.Name x _) [y, z] [] _ =>
      if bltIs b then decide (x = "isinstance") && Y.blt "isinstance" && (match z with
        | .Name T _ => decide (T = bltName b) && Y.blt T
        | _ => false) && (match es with
        | .cons a .nil => chkE Y a y && noStar y
        | _ => false)
      else bltPlain b && decide (x = bltName b) && Y.blt x && chkEs Y es [y, z]
    | _ => false
  | .mth m o es, e => match e with
    | .Call (.Attribute x n p) [] [] q => decide (m = .pop) && decide (n = "pop") && (p.endLine == q.line) && plainBase x && chkE Y o x && (match es with
      | .nil => true
      | _ => false)
    | .Call (.Attribute x n p) [y, z] [] q => decide (m = .get2) && decide (n = "get") && (p.endLine == q.line) && plainBase x && noStar y && noStar z && chkE Y o x && (match es with
      | .cons a (.cons b .nil) => chkE Y a y && chkE Y b z
      | _ => false)
    | .Call (.Attribute x n p) [y] [] q => if m = .get1 then decide (n = "get") && (p.endLine == q.line) && plainBase x && noStar y && chkE Y o x && (match es with
      | .cons a .nil => chkE Y a y
      | _ => false)
      else (decide (m = .append) || decide (m = .extend)) && decide (n = mthName m) && (p.endLine == q.line) && plainBase x && noStar y && chkE Y o x && chkEs Y es [y]
    | _ => false
  | .kget d k, e => match e with
    | .Call (.Attribute (.Name x _) n p) [y] [] q => decide (n = "get") && (p.endLine == q.line) && noStar y && Y.gl x && decide (Y.kds.lookup x = some d) && chkE Y k y
    | _ => false
  | .kin d k, e => match e with
    | .Compare y [.In] [.Name x _] _ => Y.gl x && decide (Y.kds.lookup x = some d) && chkE Y k y
    | _ => false
  | .tld k a, e => match e with
    | .Call (.Name x _) [.Lambda ps body sc _] [] _ => Y.lam && Y.gl x && decide (Y.tls.lookup x = some k) && noParams ps && LamX.lamSB Y.sc sc && decide (2 ≤ Y.s) && chkE (lamScope Y sc) a body
    | _ => false
  | .lc is it c a, e => match e with
    | .ListComp x [⟨tg, z, ifs, 0⟩] sc _ => (match is, tg with
      | [i], .Name y _ => decide (Y.N[i]? = some y) && blkC Y.N Y.sc sc [(y, i)] && decide ((relS sc Y.sc).names.lookup y = some .local)
      | _, _ => false) && noSet z && chkI Y tg it z && (match ifs with
      | [] => (match c with | .con (.bl true) => true | _ => false)
      | [f] => chkE (lcScope Y sc) c f
      | _ => false) && chkE (lcScope Y sc) a x
    | _ => false
def chkEs (Y : Sy) : Es → List Expr → Bool
  | .nil, xs => match xs with
    | [] => true
    | _ => false
  | .cons a es, xs => match xs with
    | x :: xs => noStar x && chkE Y a x && chkEs Y es xs
    | _ => false
def chkPs (Y : Sy) : Es → List (Option Expr) → List Expr → Bool
  | .nil, ks, vs => match ks, vs with
    | [], [] => true
    | _, _ => false
  | .cons _ .nil, _, _ => false
  | .cons a (.cons b es), ks, vs => match ks, vs with
    | some k :: ks, v :: vs => chkE Y a k && chkE Y b v && chkPs Y es ks vs
    | _, _ => false
def chkI (Y : Sy) (tg : Expr) : I → Expr → Bool
  | .fix a, e => chkE Y a e
  | .rng lo hi, e => match e with
    | .Call (.Name x _) [b] [] _ => decide (x = "range") && Y.blt "range" && noStar b && (match lo with
      | .con (.int 0) => true
      | _ => false) && chkE Y hi b
    | .Call (.Name x _) [a, b] [] _ => decide (x = "range") && Y.blt "range" && noStar a && noStar b && chkE Y lo a && chkE Y hi b
    | _ => false
  | .enum a, e => match e with
    | .Call (.Name x _) [b] [] _ => isTup tg && decide (x = "enumerate") && Y.blt "enumerate" && noStar b && chkE Y a b
    | _ => false
  | .rev a, e => match e with
    | .Call (.Name x _) [b] [] _ => decide (x = "reversed") && Y.blt "reversed" && noStar b && chkE Y a b
    | _ => false
end
end Ev

/-! An own error whose __init__ says super().__init__('..') and keeps its one argument as a field of the same name. -/
namespace Ev
open PySem PySem.Spec PyProof.Rows PySem.W PySem.Calls PySem.HandSPX

def iA (f : Str) (p1 p2 : Pos) : Arguments := { posonlyargs := [], args := [{ arg := "self", annotation := none, pos := p1 }, { arg := f, annotation := none, pos := p2 }], vararg := none, kwonlyargs := [], kw_defaults := [], kwarg := none, defaults := [] }
def iB (f msg : Str) (j : Nat) (p0 p1 p2 p3 p4 p5 q1 q2 q3 q4 : Pos) : List Stmt :=
  [.Expr (.Call (.Attribute (.Call (.Name "super" p0) [] [] p1) "__init__" p2) [.Constant (.str msg) j p3] [] p4) p5, .Assign [.Attribute (.Name "self" q1) f q2] (.Name f q3) q4]
/-- what the written part says of the class at C and of its __init__ at fI; f: the field -/
structure PayTxt (P : Program) (K : Frag) (C fI : Addr) (f : Str) : Prop where
  cls : ∃ nm q N bs bm sn sub ab col dd k0 k1 k2 k3 k5, K.lookup C = some (excClassObj nm q C N bs bm true sn sub ab col dd k0 k1 k2 k3 k5 "ValueError.__new__") ∧ HandSPX.refsVE bm = true
  sa : findIn K (.ref C) "__setattr__" = some (some (.builtin "object.__setattr__"))
  noN : findIn K (.ref C) f = some none
  iC : findIn K (.ref C) "__init__" = some (some (.ref fI))
  tC : typeIn K (.ref fI) = some (.type "function")
  kC : keepIn K (.ref C) = true
  exC : subIn K (.ref C) (.type "BaseException") = some true
  veC : subIn K (.ref C) (.type "ValueError") = some true
  tyC : typeIn K (.ref C) = some (.type "type")
  mro : mroIn K C (.ref C) = some true
  sup : ks_superIn K C C "__init__" = some (some (.builtin "ValueError.__init__"))
  opq : nsIn K cStatics "thirdparty.any" = some none
  top : (P.main.scope.names.lookup ("super" : Str)).isSome = false
  fn : ∃ (oc : Value) (od : Option Addr) (doc pm : Value) (an : Option Addr) (cda cc : Addr) (ct : Value) (osl : Array (Option Value)) (qual msg : Str) (j : Nat) (scope : Scope) (a1 a2 p0 p1 p2 p3 p4 p5 q1 q2 q3 q4 : Pos),
    K.lookup fI = some ⟨oc, od, .func (ksFn "__init__" qual (iA f a1 a2) (iB f msg j p0 p1 p2 p3 p4 p5 q1 q2 q3 q4) scope .none .none doc pm an (.ref cda) ct cc), osl⟩ ∧ codeIn K (.ref cda) qual = true ∧
    (p2.endLine == p4.line) = true ∧ scope.kind = .function ∧ scope.isCoroutine = false ∧ scope.isGenerator = false ∧ (∀ y ∈ scope.names, y.2 ≠ .cell) ∧ scope.names.lookup ("self" : Str) = some .local ∧ scope.names.lookup f = some .local ∧
    scope.names.lookup ("super" : Str) = some .globalImplicit ∧ scope.names.lookup ("__class__" : Str) = some .free ∧
    (∃ ccl cdd vs ccs file tf, K.lookup cda = some ⟨ccl, cdd, .fields vs, ccs⟩ ∧ vs[2]? = some (.str file tf) ∧ ((P.main.file : Str) == file) = true) ∧ ∃ cl cld csl, K.lookup cc = some ⟨cl, cld, .cell (some (.ref C)), csl⟩
  nm : f = "row" ∨ f = "turns" ∨ f = "part"
/-- what __init__ leaves of a fresh error at x -/
structure PayEnd (h h' : Heap) (x C dx t1 : Addr) (f : Str) (v : Value) : Prop where
  keep : ∀ b o, b ≠ x → h.get? b = some o → h'.get? b = some o
  obj : h'.get? x = some { cls := .ref C, dict := some dx, data := .fields #[.ref t1, .none, .none, .none, .bool false, .none] }
  dbig : h.objs.size ≤ dx
  dne : dx ≠ x
  ns : h'.Ns1 dx (fun y => if y = f then some v else none)
theorem call_tree {o : Expr} {name : Str} {apos pos : Pos} {e : Expr} {env : Env} (hl : (apos.endLine == pos.line) = true) (hs : starEach [e] env = [(false, eval e env)]) : eval (.Call (.Attribute o name apos) [e] [] pos) env = (do
      let ov ← attributeBase o name env (eval o env)
      standAt apos.atName
      let (f, first) ← holding [ov] (getMethod ov name (do return (← importBound o env).getD true))
      callWith pos f first (backTo pos (starEach [e] env)) []) := by
  rw [arm_eval_Call]
  have hf : methodCallForm ([e].length + ([] : List Keyword).length) (backTo pos (starEach [e] env)) (backToKw pos (keywordEach [] env)) = true := by
    rw [hs]
    rfl
  unfold methodCall
  rw [hf]
  have hp : methodCallPos true o env apos pos = pure pos := by
    unfold methodCallPos
    rw [if_pos (by rw [hl]; rfl)]
  rw [hp]
  simp only [calleeOf, if_true, pure_bind]
  rfl
section
variable {prog : Program} {w : World} {A : Around} {E : Value → Shared → Prop} {R : Result → Shared → Prop} {s : Shared} {K : Frag} {mg mb : Str → Option Value} {C fI : Addr} {f : Str}
theorem pay_init (T : PayTxt prog K C fI f) {x t0 : Addr} {v : Value} (X : K.In s.heap) (hlim : s.heap.NoLimit) (hG : s.heap.Ns mainGlobals mg) (hsup : mg "super" = none) (hB : s.heap.Ns builtinsNs mb) (hbb : mb "super" = bootBuiltins "super")
    (hx : s.heap.get? x = some (excO C t0)) (hnx : K.lookup x = none) (hroom : A.depth < recursionLimit)
    (hq : ∀ h' tk dx t1, PayEnd s.heap h' x C dx t1 f v → R (.ok (.ret .none)) { s with heap := h', toks := tk }) :
    codeAny (model prog w) A (.call (.ref fI) ⟨[.ref x, v], []⟩) R s := by
  obtain ⟨oc, od, doc, pm, an, cda, cc, ct, osl, qual, msg, j, scope, a1, a2, p0, p1, p2, p3, p4, p5, q1, q2, q3, q4, ho, hcd, hline, hk, hco, hgen, hcell, hself, hf, hsu, hcls, ⟨ccl, cdd, vs, ccs, file, tf, hcode, hvs, hfile⟩, cl, cld, csl, hcc⟩ := T.fn
  obtain ⟨nm, q, N, bs, bm, sn, sub, ab, col, dd, k0, k1, k2, k3, k5, hC, hbm⟩ := T.cls
  have hcl : clsIn K C = some { name := nm, bases := bs, mro := .ref C :: bm, ns := N, qualname := q, hasDict := true, slotNames := sn, subclasses := sub, abstract := ab, collection := col, hasDel := false } := by unfold clsIn; rw [hC] <;> rfl
  have hne : f ≠ ("self" : Str) := by rcases T.nm with rfl | rfl | rfl <;> decide
  have hnd : (f == ("__debug__" : Str)) = false := by rcases T.nm with rfl | rfl | rfl <;> decide
  have hbd : bindArgs (ksFn "__init__" qual (iA f a1 a2) (iB f msg j p0 p1 p2 p3 p4 p5 q1 q2 q3 q4) scope .none .none doc pm an (.ref cda) ct cc) ⟨[.ref x, v], []⟩ = pure [(("self" : Str), .ref x), (f, v)] := by
    rcases T.nm with rfl | rfl | rfl <;> first | rfl | with_unfolding_all rfl
  refine ks_codeAny_call_defAt (fd := ksFn "__init__" qual (iA f a1 a2) (iB f msg j p0 p1 p2 p3 p4 p5 q1 q2 q3 q4) scope .none .none doc pm an (.ref cda) ct cc) (binds := [(("self" : Str), .ref x), (f, v)]) hroom (X _ _ ho) rfl hlim (codeRec_of X hcd) rfl
    (BindsTo.of_eq hbd) hcell ?_ (fun h₁ hn k => ?_) hco hgen hk
  · intro y hy
    rcases List.mem_cons.mp hy with rfl | hy
    · exact hself
    · rw [List.mem_singleton.mp hy]; exact hf
  · have X₁ : K.In h₁ := X.keeps k
    have hx₁ := k _ _ hx
    have hxL : s.heap.objs.size ≠ x := Nat.ne_of_gt (Heap.lt_size hx)
    have I : InstAt h₁ x (excO C t0) C none := ⟨hx₁, rfl, rfl, trivial⟩
    have hm : ([(("self" : Str), Value.ref x), (f, v)].reverse.lookup ("self" : Str)) = some (.ref x) := by
      have q : (("self" : Str) == f) = false := by simpa using Ne.symm hne
      simp [List.lookup, q]
    have hm2 : ([(("self" : Str), Value.ref x), (f, v)].reverse.lookup f) = some v := by simp [List.lookup]
    obtain ⟨oD, hD1, hD2⟩ : ∃ oD, h₁.get? C = some oD ∧ oD.data = .cls _ := ⟨_, X₁ _ _ hC, rfl⟩
    have hI : Looks (model prog w) h₁ (isInstance (.ref x) (.type "ValueError")) true := I.type.andThen (looks_subIn X₁ T.veC)
    have hint : interactive (ksEnv qual scope s.heap.objs.size fI (.ref cda) cc) = false := by
      have hk' : (ksEnv qual scope s.heap.objs.size fI (.ref cda) cc).scope.kind = .function := hk
      simp [interactive, hk]
    refine ks_wpAt_execs_cons (ks_wpAt_Expr_any (ks_wpAt_MethodCall ?_ (call_tree hline rfl)) hint)
    refine ks_wpAt_super_base (env := ksEnv qual scope s.heap.objs.size fI (.ref cda) cc) hsu hcls (by decide) rfl (k _ _ (X _ _ ho)) rfl rfl rfl (X₁ _ _ hcode) rfl hvs hfile T.top ?_
    refine ks_loadName_global hk hsu (loadGlobal_builtin (env := ksEnv qual scope s.heap.objs.size fI (.ref cda) cc) (hG.keeps k) hsup (hB.keeps k) (hbb.trans (by decide +kernel : bootBuiltins "super" = some (.type "super"))) ⟨rfl, ?_⟩)
    refine wpAny_loadName_free hk hcls rfl ⟨_, X₁ _ _ hcc, rfl⟩ ?_
    refine wpAny_loadName_local hk hself hn hm ?_
    refine ks_wpAny_isType_cls hD1 hD2 ⟨rfl, ?_⟩
    refine ks_wpAny_call_super hD1 hD2 I.at_ I.cls (fun c e => by cases e) (looks_mroIn X₁ T.mro) (fun h₂ e₂ k₂ => ?_)
    -- the built-in __init__ bound to the error
    have X₂ : K.In h₂ := X₁.keeps k₂
    have hx₂ := k₂ _ _ hx₁
    have I₂ : InstAt h₂ x (excO C t0) C none := ⟨hx₂, rfl, rfl, trivial⟩
    have hI₂ : Looks (model prog w) h₂ (isInstance (.ref x) (.type "ValueError")) true := I₂.type.andThen (looks_subIn X₂ T.veC)
    have hsp := T.sup
    unfold ks_superIn at hsp
    rw [hcl] at hsp
    refine kxs_getMethod kxs_ValueError e₂ (looks_opaque X₂ T.opq) (l₀ := .ref C :: bm) (fun A Q E s k q => wpAny_bind ((looks_clsIn X₂ hcl) A _ E s k (wpAny_pure q))) rfl X₂ hsp hI₂ (ks_ne X₂ I₂ hcl) (by decide) ?_
    -- its call
    have k2p : ∀ b o, h₂.get? b = some o → (h₂.push (kxs_mw "ValueError.__init__" x)).get? b = some o := fun b o e => Heap.get?_push_of_some _ e
    have hu : (h₂.push (kxs_mw "ValueError.__init__" x)).get? h₂.objs.size = some (kxs_mw "ValueError.__init__" x) := Heap.get?_push_size _ rfl
    refine kxs_callWith (i := "ValueError.__init__") (x := x) (u := h₂.objs.size) rfl (evalArgs_plain (Calls.spliced_cons (Calls.Constant_str (pos := p3) (k := j) (Calls.spliced_nil ⟨hu, ?_⟩))))
    have X₃ : K.In (h₂.push (kxs_mw "ValueError.__init__" x)) := X₂.keeps k2p
    have hx₃ := k2p _ _ hx₂
    refine wpAny_call (codeAny_of_tree ?_)
    show wpAny _ _ (callAny (.ref h₂.objs.size) ⟨_, []⟩) _ _ _
    simp only [callAny]
    refine wpAny_bind (wpAny_load hu ?_)
    simp only [kxs_mw, show (Value.type "method-wrapper" == Value.type "method" || Value.type "method-wrapper" == Value.type "builtin_function_or_method" || Value.type "method-wrapper" == Value.type "method-wrapper") = true by decide, if_true]
    refine KFB.if_so (by decide) ?_
    refine wpAny_bind (check_bound_init F.excBase_ValueError.toExcCallFacts (X₃ _ _ hC) hx₃ rfl ?_)
    refine wpAny_bind (wpAny_pure (wpAny_pure ?_))
    refine ⟨plainId_quiet F.excBase_ValueError.init.plain _, codeAny_builtin F.excBase_ValueError.initEntry ?_⟩
    refine exc_init_tree (cls := .ref C) (t0 := t0) (dv := none) (c2 := .none) (c3 := .none) (b4 := .bool false) hx₃ (by show 1 ≤ sizeLine; rw [sizeLine_eq]; omega) fun h₄ k₄ hx₄ _ => ?_
    have kk : ∀ b o, b ≠ x → h₁.get? b = some o → h₄.get? b = some o := fun b o hb e => k₄ b o hb (k2p b o (k₂ b o e))
    have X₄ : K.In h₄ := fun a o e => k₄ a o (fun z => by rw [z, hnx] at e; cases e) (X₃ a o e)
    have hn₄ : h₄.Ns s.heap.objs.size (fun y => [(("self" : Str), Value.ref x), (f, v)].reverse.lookup y) := by
      obtain ⟨o, es, ep, e1, r⟩ := hn
      exact ⟨o, es, ep, kk _ _ hxL e1, r⟩
    -- self.f = f
    show _root_.PySem.wpAt _ _ _ (execs _ _) _ _ _
    refine wpAt_of_wpAny ?_
    refine wpAny_execs_cons (plainObj_wpAny_Assign_Attribute ?_)
    refine wpAny_Name (wpAny_loadName_local hk hf hn₄ hm2 ?_) hnd
    refine wpAny_Name (wpAny_loadName_local hk hself hn₄ hm ?_) (by decide)
    refine set_plain X₄ (ox := excO C _) (od := none) ⟨hx₄, rfl, rfl, trivial⟩ T.sa ?_
    refine HandSPX.exc_osa X₄ hx₄ hcl (show HandSPX.refsVE (.ref C :: bm) = true from hbm) rfl T.noN (fun h₅ tk₅ dx k₅ dn dne hx₅ hn₅ => ?_)
    show wpAny _ _ (execs _ _) _ _ _
    have z1 : s.heap.objs.size < h₁.objs.size := hn.lt
    have z2 : s.heap.objs.size ≤ h₄.objs.size := Nat.le_of_lt hn₄.lt
    exact wpAny_execs_nil (hq h₅ tk₅ dx _ ⟨fun b o hb e => k₅ b o hb (kk b o hb (k b o e)), hx₅, Nat.le_trans z2 dn, dne, hn₅⟩)
/-- a made error -/
structure PayMade (h h' : Heap) (e C d : Addr) (f : Str) (v : Value) : Prop where
  keep : ∀ b o, h.get? b = some o → h'.get? b = some o
  new : h.objs.size ≤ e
  obj : ∃ oe vs, h'.get? e = some oe ∧ oe.cls = .ref C ∧ oe.dict = some d ∧ oe.data = .fields vs ∧ vs[1]? = some .none
  dbig : h.objs.size ≤ d
  dne : d ≠ e
  ns : h'.Ns1 d (fun y => if y = f then some v else none)
theorem one_size (v : Value) : [v].length ≤ sizeLine := by
  rw [sizeLine_eq]
  exact (by decide : 1 ≤ 16777216)
theorem pay_made (T : PayTxt prog K C fI f) {v : Value} (X : K.In s.heap) (hlim : s.heap.NoLimit) (hG : s.heap.Ns mainGlobals mg) (hsup : mg "super" = none) (hB : s.heap.Ns builtinsNs mb) (hbb : mb "super" = bootBuiltins "super") (hroom : A.depth + 1 < recursionLimit)
    (hq : ∀ h' tk e d, PayMade s.heap h' e C d f v → R (.ok (.ret (.ref e))) { s with heap := h', toks := tk }) :
    codeAny (model prog w) A (.call (.ref C) ⟨[v], []⟩) R s := by
  obtain ⟨nm, q, N, bs, bm, sn, sub, ab, col, dd, k0, k1, k2, k3, k5, hC, hbm⟩ := T.cls
  obtain ⟨hp, g, dr, tk, os⟩ := s
  have k : ∀ b o, hp.get? b = some o → ((hp.push (kdv_tup [v])).push (excO C hp.objs.size)).get? b = some o := fun b o e => Heap.get?_push_of_some _ (Heap.get?_push_of_some _ e)
  have hget : ((hp.push (kdv_tup [v])).push (excO C hp.objs.size)).get? (hp.objs.size + 1) = some (excO C hp.objs.size) := by heap_get
  have hnx : K.lookup (hp.objs.size + 1) = none := by
    cases e : K.lookup (hp.objs.size + 1) with
    | none => rfl
    | some o =>
      have z : hp.get? (hp.objs.size + 1) = some o := X _ _ e
      exact absurd (Nat.lt_of_succ_lt (Heap.lt_size z)) (Nat.lt_irrefl _)
  refine HandSPX.call_own F.excBase_ValueError (fun X => HandSPX.refsVE_contains X bm hbm) (X _ _ hC) (looks_findIn X T.iC) (fun self => bind_fn X self T.tC) (one_size v) ?_
  refine pay_init (s := ⟨(hp.push (kdv_tup [v])).push (excO C hp.objs.size), g, dr, tk, os⟩) T (X.keeps k) (hlim.keeps k) (hG.keeps k) hsup (hB.keeps k) hbb hget hnx ?_ fun h' tk' dx t1 ⟨k', hx, dn, dne, hns⟩ => ?_
  · show A.depth + 1 < recursionLimit
    exact hroom
  · have old : ∀ b o, hp.get? b = some o → h'.get? b = some o := fun b o e => k' b o (Nat.ne_of_lt (Nat.lt_succ_of_lt (Heap.lt_size e))) (k b o e)
    have z : hp.objs.size + 1 + 1 ≤ dx := by
      first
        | (simpa only [Heap.size_push] using dn)
        | exact dn
        | (have q := dn; rw [Heap.size_push, Heap.size_push] at q; exact q)
    exact ⟨rfl, hq h' tk' (hp.objs.size + 1) dx ⟨old, Nat.le_succ _, ⟨_, _, hx, rfl, rfl, rfl, rfl⟩, Nat.le_trans (Nat.le_trans (Nat.le_succ _) (Nat.le_succ _)) z, dne, hns⟩⟩
end
end Ev
namespace Ev
open PySem PySem.Spec PyProof.Rows L2
section
variable {X : Cx} {C fI : Addr} {f : Str}
theorem relO_pay {f : Str} {v : V} {v' : Value} (r : RelV v v') (g : Str) : RelO (List.lookup g [(f, v)]) (if g = f then some v' else none) := by
  by_cases hw : g = f
  · subst hw
    rw [if_pos rfl]
    have q : List.lookup g [(g, v)] = some v := by simp [List.lookup]
    rw [q]
    exact r
  · rw [if_neg hw]
    have qw : (g == f) = false := by simpa using hw
    have q2 : List.lookup g [(f, v)] = none := by simp [List.lookup, qw]
    rw [q2]
    trivial
/-- E(e) -/
def tMkPay (C : Addr) (f : Str) (ta : TA) : L2.St → Hp → XK → Prop := fun σ H Q => ta σ H fun vs H1 => ∃ v, vs = [v] ∧ ∀ d, H1 d = none → Q (.ref C) (some d) (upd H1 d (.xd [(f, v)]))
theorem pmk_pay {x : Str} {a : Expr} {ta : TA} {p pos : Pos} {k : Nat} (T : PayTxt X.prog X.K C fI f) (gC : X.mg x = some (.ref C)) (hsup : X.mg "super" = none) (hr : Room k X.A) (ha : PA X [a] ta) (hg : Gl X x) (hdb : (x == ("__debug__" : Str)) = false)
    (he : starEach (a :: []) X.env = (false, eval a X.env) :: starEach [] X.env) :
    PMk X (.Call (.Name x p) [a] [] pos) (tMkPay C f ta) := by
  intro pins s σ H Q I h
  refine wpAny_Call_Name_kw (ld_glob I hg gC ?_ hdb)
  refine PySem.W.callWith_K (h₀ := X.base) I.ok.mod.kin T.kC (thn (ha.run pos pins s σ H _ I h) fun us s1 hh => ?_) he rfl
  obtain ⟨vs, H1, I1, r1, v, ev, q1⟩ := hh
  subst ev
  refine ⟨I1.kIn, ?_⟩
  cases r1 with
  | cons rv rn =>
    rename_i v' us'
    cases rn
    show wpAny _ _ (call (.ref C) [v']) _ _ _
    have hlim := I1.nolimit
    have hG := I1.mod.glob.keeps I1.bk
    obtain ⟨mb, hB, hbb⟩ := I1.mod.blt
    have hB := hB.keeps I1.bk
    obtain ⟨hp, g, dr, tk, os⟩ := s1
    refine wpAny_call (pay_made T I1.kIn hlim hG hsup hB (hbb _ (by decide)) (by have := hr.dp; omega) fun h' tk' e d M => ?_)
    show MkP X pins σ Q (.ref e) ⟨h', g, dr, tk', os⟩
    obtain ⟨oe, fv, hoe, hc, hd, hdat, h1⟩ := M.obj
    have hns := M.ns
    obtain ⟨G', g1, g2⟩ := restrict h' fun b => decide (b ≠ e)
    have gk : ∀ b, b ≠ e → G'.get? b = h'.get? b := fun b hb => g1 b (decide_eq_true hb)
    have ge : G'.get? e = none := g2 e (by simp)
    have old : ∀ b o, hp.get? b = some o → G'.get? b = some o := fun b o q => (gk b (Nat.ne_of_lt (Nat.lt_of_lt_of_le (Heap.lt_size q) M.new))).trans (M.keep b o q)
    have ob : ObjOk X.prog X.w (upd H1 d (.xd [(f, v)])) G' d (.xd [(f, v)]) :=
      ⟨_, hns.at (fun o q => (gk d M.dne).trans q), fun g => relO_pay rv g⟩
    have J : Inv X pins σ (upd H1 d (.xd [(f, v)])) ⟨G', g, dr, tk', os⟩ := I1.laid (t' := tk') old M.dbig ob
    refine ⟨e, oe, fv, ⟨G', g, dr, tk', os⟩, _, .ref C, some d, rfl, J, fun b o q => ?_, ge, hoe, ⟨hc, hd⟩, hdat, h1, ?_, rfl, I1.bare, raises_own T.exC T.tyC, q1 d (I1.hok.fresh M.dbig)⟩
    · by_cases hb : b = e
      · have q' : G'.get? b = some o := q
        rw [hb, ge] at q'; cases q'
      · exact (gk b hb).symm.trans q
    · rw [upd_ne (Ne.symm M.dne)]
      exact I1.hok.fresh M.new
end
end Ev

/-! Soundness of the checker: expressions. -/
namespace Ev
open PySem PySem.Spec PyProof.Rows L2

/-- the promise of the def f by the evaluator's run with fuel n -/
def spEv (t : Tx) (C : Cfg) (n f : Nat) : Sp := fun vs H Q E => ∃ ρ h xs, Rep t.K t.T ρ h H ∧ RDs t.K ρ H xs vs ∧ Out t (fun cls d _ H => E cls d H) [] ρ H (run C n f xs h) Q

/-- a def that calls the lambda it is given and tells errors by texts -/
def TldOk (K : PySem.W.Frag) (mg : Str → Option Value) (C : Cfg) (ers : List (Str × Nat)) (x : Str) (k : Nat) : Prop :=
  ∃ (g : Addr) (a : Str) (cs : List (Nat × D)) (pg : Arguments) (bg : List Stmt) (sg : Scope) (dV kV doc pm cdv ct oc : Value) (an od : Option Addr) (osl : Array (Option Value)) (Ng : List Str), mg x = some (.ref g) ∧ PySem.W.keepIn K (.ref g) = true ∧
    K.lookup g = some ⟨oc, od, .func (PySem.W.fnOf x x pg bg sg dV kV doc pm an cdv ct), osl⟩ ∧ PySem.W.codeIn K cdv x = true ∧ L2.Binds K (PySem.W.fnOf x x pg bg sg dV kV doc pm an cdv ct) [a] [] ∧ FnScope Ng [a] sg ∧ Ng[0]? = some a ∧ Vis sg a ∧ nmOk a = true ∧
    C.tls[k]? = some cs ∧ tldB ers sg a cs bg = true

/-- an error with a message alone -/
structure MsgOk (K : PySem.W.Frag) (a : Addr) : Prop where
  exc : PySem.W.excIn K a HandSPX.veTail "ValueError.__new__" = true
  keep : PySem.W.keepIn K (.ref a) = true
  sub : PySem.W.subIn K (.ref a) (.type "BaseException") = some true
  typ : PySem.W.typeIn K (.ref a) = some (.type "type")

structure Facts (P : Program) (w : World) (K : PySem.W.Frag) (mg : Str → Option Value) (base : Heap) (t : Tx) (C : Cfg) (n : Nat) (Y : Sy) : Prop where
  hK : K = t.K
  fns : ∀ x f k, Y.fns.lookup x = some (f, k) → ∃ a fd ps, mg x = some (.ref a) ∧ PySem.W.keepIn K (.ref a) = true ∧ L2.Binds K fd ps [] ∧ FnOk P w K mg base (L2.CX P w) (n + k) a fd ps (spEv t C n f)
  fre : ∀ x ∈ Y.fre, mg x = none
  glo : ∀ x k, Y.glo.lookup x = some k → ∃ u d v, mg x = some u ∧ RelV v u ∧ C.glo[k]? = some d ∧ ∀ ρ H, RD t.K ρ H d v
  kds : ∀ x k, Y.kds.lookup x = some k → ∃ a es m kvs, mg x = some (.ref a) ∧ KDict K w a es m ∧ C.kds[k]? = some kvs ∧
    ∀ s : List Nat, ∃ r v, PySem.W.nsIn K a (sOf s) = some r ∧ r.isSome = (kvs.lookup s).isSome ∧ RelV v (r.getD .none) ∧ ∀ ρ H, RD t.K ρ H ((kvs.lookup s).getD .non) v

  ers : ∀ x c, Y.ers.lookup x = some c → ∃ a, mg x = some (.ref a) ∧ t.cl c = some a
  erm : ∀ x c, Y.erm.lookup x = some c → ∃ a, mg x = some (.ref a) ∧ t.cl c = some a ∧ MsgOk K a
  erp : ∀ x c f, Y.erp.lookup x = some (c, f) → ∃ a fI, f = t.fl c ∧ mg x = some (.ref a) ∧ t.cl c = some a ∧ PayTxt P K a fI (t.fl c) ∧ XfC K a ∧ mg "super" = none
  sub : ∀ c c' a a', t.cl c = some a → t.cl c' = some a' → PySem.W.exmOne K (.ref a) (.ref a') = some (C.sub c c')
  tls : ∀ x k, Y.tls.lookup x = some k → TldOk K mg C Y.ers x k

/-- lambdas may be made here -/
def LamHere (T : List (Addr × Str)) (X : Cx) : Prop := ∃ c P, LamX.TabB X.base X.mg c P ∧ X.env.code = .ref c ∧ (P, X.env.qual ++ "<lambda>") ∈ T ∧ ∀ p ∈ T, p.1 = P → p.2 = X.env.qual ++ "<lambda>"

structure Ok (t : Tx) (C : Cfg) (n : Nat) (W : WX) (Y : Sy) (X : Cx) : Prop where
  fa : Facts X.prog X.w X.K X.mg X.base t C n Y
  tk : Takes X W
  nd : X.N.Nodup
  N : X.N = Y.N
  sc : X.env.scope = Y.sc
  calm : X.calm = true
  room : Room (n + Y.s) X.A
  lam : Y.lam = true → LamHere t.T X

section
variable {t : Tx} {C : Cfg} {n : Nat} {W : WX} {Y : Sy} {X : Cx}
theorem Ok.vis (k : Ok t C n W Y X) {x : Str} (h : Y.vis x = true) : Vis X.env.scope x := by
  unfold Sy.vis at h
  unfold Vis
  rw [k.sc]
  split at h
  · rename_i e; exact .inl e
  · rename_i e; exact .inr (.inl e)
  · rename_i e; exact .inr (.inr e)
  · cases h
theorem nm_ok {x : Str} (h : nmOk x = true) : (x == ("__debug__" : Str)) = false ∧ (x == ("__classdict__" : Str)) = false := by
  unfold nmOk at h
  rw [Bool.and_eq_true] at h
  exact ⟨by simpa using h.1, by simpa using h.2⟩
theorem Ok.gl (k : Ok t C n W Y X) {x : Str} (h : Y.gl x = true) : Gl X x ∧ (x == ("__debug__" : Str)) = false ∧ x ≠ "__name__" := by
  unfold Sy.gl at h
  rw [Bool.and_eq_true, Bool.and_eq_true] at h
  refine ⟨?_, (nm_ok h.1.2).1, by simpa using h.2⟩
  show X.env.scope.names.lookup x = _
  rw [k.sc]
  exact of_decide_eq_true h.1.1
theorem Ok.blt (k : Ok t C n W Y X) {x : Str} (h : Y.blt x = true) : Gl X x ∧ X.mg x = none ∧ (x == ("__debug__" : Str)) = false ∧ x ≠ "__name__" := by
  unfold Sy.blt at h
  rw [Bool.and_eq_true] at h
  obtain ⟨a, b, c⟩ := k.gl h.1
  exact ⟨a, k.fa.fre x (of_decide_eq_true h.2), b, c⟩
theorem star_ok {e : Expr} (h : noStar e = true) (es : List Expr) (env : Env) : starEach (e :: es) env = (false, eval e env) :: starEach es env := by
  cases e <;> first | rfl | (exact absurd h (by simp [noStar]))
theorem base_ok {e : Expr} (h : plainBase e = true) (nm : Str) (env : Env) : attributeBase e nm env (eval e env) = eval e env := by
  cases e <;> first | rfl | (exact absurd h (by simp [plainBase]))
theorem ix_ok {e : Expr} (h : notSlice e = true) : PlainIx e := by
  intro o i
  cases e <;> first | rfl | (exact absurd h (by simp [notSlice]))
theorem set_ok {e : Expr} (h : noSet e = true) (env : Env) : ∀ x, foldedSetIterable e env x = pure x := by
  intro x
  cases e <;> first | rfl | (exact absurd h (by simp [noSet]))
end

/-- an expression's soundness -/
def SE (t : Tx) (C : Cfg) (n : Nat) (A : E) : Prop := ∀ W Y X, Ok t C n W Y X → ∀ e, chkE Y A e = true → PE X e (tE t C (run C n) W A) ∧ PT X e (tB (tE t C (run C n) W A))
def SA (t : Tx) (C : Cfg) (n : Nat) (As : Es) : Prop := ∀ W Y X, Ok t C n W Y X → ∀ es, chkEs Y As es = true → PA X es (tEs t C (run C n) W As)

section
variable {t : Tx} {C : Cfg} {n : Nat}
/-- a test of a plain form -/
theorem pt_plain {X : Cx} {e : Expr} {te : TE} (p : PE X e te) (he : ∀ whole, isTrue e X.env whole = (do let v ← whole; standAt e.pos; holding [v] (truthy v))) : PE X e te ∧ PT X e (tB te) := ⟨p, pt_val p he⟩

theorem s_var {i : Nat} : SE t C n (.var i) := by
  intro W Y X k e h
  unfold chkE at h
  split at h
  · simp only [Bool.and_eq_true, decide_eq_true_eq] at h
    obtain ⟨⟨h1, h2⟩, h3⟩ := h
    obtain ⟨d1, d2⟩ := nm_ok h3
    exact pt_plain (me_var (pe_var (by rw [k.N]; exact h1) (k.vis h2) d1 d2)) (fun _ => rfl)
  · cases h
theorem s_con {d : D} : SE t C n (.con d) := by
  intro W Y X k e h
  unfold chkE conOk at h
  split at h
  · exact pt_plain (me_con pe_non fun _ _ => .non) (fun _ => rfl)
  · rw [beq_iff_eq.mp h]
    exact pt_plain (me_con pe_bl fun _ _ => .bl _) (fun _ => rfl)
  · rw [beq_iff_eq.mp h]
    exact pt_plain (me_con pe_int fun _ _ => .int _) (fun _ => rfl)
  · rename_i s x _ _
    simp only [Bool.and_eq_true, List.all_eq_true, decide_eq_true_eq, beq_iff_eq] at h
    obtain ⟨h1, h2⟩ := h
    subst h1
    refine pt_plain (me_con pe_str fun ρ H => ?_) (fun _ => rfl)
    have := RD.str (K := t.K) (ρ := ρ) (H := H) h2
    rw [sOf_of] at this
    exact this
  · cases h
theorem s_glo {j : Nat} : SE t C n (.glo j) := by
  intro W Y X k e h
  unfold chkE at h
  split at h
  · simp only [Bool.and_eq_true, decide_eq_true_eq] at h
    obtain ⟨h1, h2⟩ := h
    obtain ⟨g1, g2, _⟩ := k.gl h1
    obtain ⟨u, d, v, e1, r1, e2, q⟩ := k.fa.glo _ _ h2
    refine pt_plain (PE.imp (pe_glob g1 e1 r1 g2) fun σ H Q ⟨ρ, l, h, r, rl, o⟩ => ?_) (fun _ => rfl)
    unfold evE at o
    rw [e2] at o
    exact Out.here r o (q ρ H)
  · cases h
theorem s_bin {op : Bin} {a b : E} (ha : SE t C n a) (hb : SE t C n b) : SE t C n (.bin op a b) := by
  intro W Y X k e h
  unfold chkE at h
  split at h
  · simp only [Bool.and_eq_true, decide_eq_true_eq] at h
    obtain ⟨⟨h1, h2⟩, h3⟩ := h
    subst h1
    refine pt_plain (me_op (pe_op (op_bin (W := W) k.fa.hK op) (ha W Y X k _ h2).1 (hb W Y X k _ h3).1) (f := binD op) (fun l h => by rw [evE]) fun σ ρ h H x y v u Q rp rx ry o => ⟨σ, ρ, h, x, y, rp, rx, ry, o⟩) (fun _ => rfl)
  · cases h
theorem s_neg {a : E} (ha : SE t C n a) : SE t C n (.neg a) := by
  intro W Y X k e h
  unfold chkE at h
  split at h
  · refine pt_plain (me_un (pe_un un_neg (ha W Y X k _ h).1) (f := fun x h1 => match x with | .int i => .ok (.int (-i)) h1 | _ => .no) (fun l h => by rw [evE] <;> rfl) fun σ ρ h H x v Q rp rx o => ?_) (fun _ => rfl)
    cases rx <;> first | exact ⟨_, rfl, o.here rp (.int _)⟩ | exact (show False from o).elim
  · cases h
/-! ### and, or, not, if -/
section
variable {W : WX} {X : Cx} {a b c : E} {σ : L2.St} {H : Hp} {Q : VK}
theorem and_core (h : tE t C (run C n) W (.and a b) σ H Q) : tAndV (tE t C (run C n) W a) (tE t C (run C n) W b) σ H Q := by
  obtain ⟨ρ, l, h, rp, rl, o⟩ := h
  unfold evE at o
  refine ⟨ρ, l, h, rp, rl, Out.bind o fun x h1 ρ1 H1 v e1 s1 q1 o1 => ?_⟩
  cases q1 with
  | bl d =>
    refine ⟨d, rfl, ?_⟩
    cases d with
    | true =>
      rw [if_pos rfl]
      refine ⟨ρ1, l, h1, s1.rep, rl.step rp s1, Out.bind o1 fun y h2 ρ2 H2 u e2 s2 q2 o2 => ?_⟩
      cases q2 with
      | bl e => exact Out.here s2.rep o2 (.bl e)
      | _ => exact (show False from o2).elim
    | false =>
      rw [if_neg (by decide)]
      exact Out.here s1.rep o1 (.bl false)
  | _ => exact (show False from o1).elim
theorem or_core (h : tE t C (run C n) W (.or a b) σ H Q) : tOrV (tE t C (run C n) W a) (tE t C (run C n) W b) σ H Q := by
  obtain ⟨ρ, l, h, rp, rl, o⟩ := h
  unfold evE at o
  refine ⟨ρ, l, h, rp, rl, Out.bind o fun x h1 ρ1 H1 v e1 s1 q1 o1 => ?_⟩
  cases q1 with
  | bl d =>
    refine ⟨d, rfl, ?_⟩
    cases d with
    | false =>
      rw [if_neg (by decide)]
      refine ⟨ρ1, l, h1, s1.rep, rl.step rp s1, Out.bind o1 fun y h2 ρ2 H2 u e2 s2 q2 o2 => ?_⟩
      cases q2 with
      | bl e => exact Out.here s2.rep o2 (.bl e)
      | _ => exact (show False from o2).elim
    | true =>
      rw [if_pos rfl]
      exact Out.here s1.rep o1 (.bl true)
  | _ => exact (show False from o1).elim
theorem not_core (h : tE t C (run C n) W (.not a) σ H Q) : tNotV (tE t C (run C n) W a) σ H Q := by
  obtain ⟨ρ, l, h, rp, rl, o⟩ := h
  unfold evE at o
  refine ⟨ρ, l, h, rp, rl, Out.bind o fun x h1 ρ1 H1 v e1 s1 q1 o1 => ?_⟩
  cases q1 with
  | bl d => exact ⟨d, rfl, Out.here s1.rep o1 (.bl _)⟩
  | _ => exact (show False from o1).elim
theorem if_core (h : tE t C (run C n) W (.ifx c a b) σ H Q) : tIf (tB (tE t C (run C n) W c)) (tE t C (run C n) W a) (tE t C (run C n) W b) σ H Q := by
  obtain ⟨ρ, l, h, rp, rl, o⟩ := h
  unfold evE at o
  refine ⟨ρ, l, h, rp, rl, Out.bind o fun x h1 ρ1 H1 v e1 s1 q1 o1 => ?_⟩
  cases q1 with
  | bl d =>
    refine ⟨d, rfl, ?_⟩
    cases d with
    | true =>
      rw [if_pos rfl]
      exact ⟨ρ1, l, h1, s1.rep, rl.step rp s1, o1⟩
    | false =>
      rw [if_neg (by decide)]
      exact ⟨ρ1, l, h1, s1.rep, rl.step rp s1, o1⟩
  | _ => exact (show False from o1).elim
theorem tE_mono {A : E} {Q Q' : VK} (h : tE t C (run C n) W A σ H Q) (q : ∀ v H1, Q v H1 → Q' v H1) : tE t C (run C n) W A σ H Q' := by
  obtain ⟨ρ, l, h, rp, rl, o⟩ := h
  refine ⟨ρ, l, h, rp, rl, ?_⟩
  cases e : evE C (run C n) A l h with
  | ok d h' => rw [e] at o; exact fun ρ' H' v s r => q v H' (o ρ' H' v s r)
  | ex c p h' => rw [e] at o; exact o
  | no => rw [e] at o; exact o
end
theorem PW.of {X : Cx} {op : BoolOp} {vs : List Expr} {pos : Pos} {tt : TT} (h : PT X (.BoolOp op vs pos) tt) : PW X (.BoolOp op vs pos) tt := ⟨fun wh pins s σ H Q I hw => h.run pins s σ H Q I hw⟩
theorem pt_ifExp {X : Cx} {c a b : Expr} {pos : Pos} {tA ta tb : TT} (hc : PT X c tA) (ha : PT X a ta) (hb : PT X b tb) : PT X (.IfExp c a b pos) (fun σ H Q => tA σ H fun d H1 => if d = true then ta σ H1 Q else tb σ H1 Q) := by
  refine ⟨fun pins s σ H Q I h => ?_⟩
  show wpAny _ _ (do if ← isTrue c X.env (eval c X.env) then isTrue a X.env (eval a X.env) else isTrue b X.env (eval b X.env)) _ _ _
  refine wpAny_bind (thn (hc.run pins s σ H _ I h) fun d s1 ⟨H1, I1, q1⟩ => ?_)
  cases d with
  | true => exact ha.run pins s1 σ H1 Q I1 q1
  | false => exact hb.run pins s1 σ H1 Q I1 q1
theorem s_and {a b : E} (ha : SE t C n a) (hb : SE t C n b) : SE t C n (.and a b) := by
  intro W Y X k e h
  unfold chkE at h
  split at h
  · rename_i x y r p
    rw [Bool.and_eq_true] at h
    obtain ⟨h1, h2⟩ := h
    obtain ⟨a1, a2⟩ := ha W Y X k _ h1
    have bb : PE X (.BoolOp .And (y :: r) p) (tE t C (run C n) W b) ∧ PW X (.BoolOp .And (y :: r) p) (tB (tE t C (run C n) W b)) := by
      split at h2
      · obtain ⟨b1, b2⟩ := hb W Y X k _ h2
        exact ⟨pe_one b1, pw_and1 b2⟩
      · obtain ⟨b1, b2⟩ := hb W Y X k _ h2
        exact ⟨b1, PW.of b2⟩
    refine ⟨PE.imp (pe_and a1 bb.1) fun σ H Q h => and_core h, PT.imp (pw_and a2 bb.2).pt fun σ H Q h => ?_⟩
    refine tE_mono (and_core h) fun v H1 hv => ?_
    obtain ⟨d, e1, hv⟩ := hv
    refine ⟨d, e1, ?_⟩
    cases d with
    | true => exact hv
    | false =>
      obtain ⟨d', e2, hv⟩ := hv
      cases e2
      exact hv
  · cases h
theorem s_or {a b : E} (ha : SE t C n a) (hb : SE t C n b) : SE t C n (.or a b) := by
  intro W Y X k e h
  unfold chkE at h
  split at h
  · rename_i x y r p
    rw [Bool.and_eq_true] at h
    obtain ⟨h1, h2⟩ := h
    obtain ⟨a1, a2⟩ := ha W Y X k _ h1
    have bb : PE X (.BoolOp .Or (y :: r) p) (tE t C (run C n) W b) ∧ PW X (.BoolOp .Or (y :: r) p) (tB (tE t C (run C n) W b)) := by
      split at h2
      · obtain ⟨b1, b2⟩ := hb W Y X k _ h2
        exact ⟨pe_one b1, pw_or1 b2⟩
      · obtain ⟨b1, b2⟩ := hb W Y X k _ h2
        exact ⟨b1, PW.of b2⟩
    refine ⟨PE.imp (pe_or a1 bb.1) fun σ H Q h => or_core h, PT.imp (pw_or a2 bb.2).pt fun σ H Q h => ?_⟩
    refine tE_mono (or_core h) fun v H1 hv => ?_
    obtain ⟨d, e1, hv⟩ := hv
    refine ⟨d, e1, ?_⟩
    cases d with
    | false => exact hv
    | true =>
      obtain ⟨d', e2, hv⟩ := hv
      cases e2
      exact hv
  · cases h
theorem s_not {a : E} (ha : SE t C n a) : SE t C n (.not a) := by
  intro W Y X k e h
  unfold chkE at h
  split at h
  · obtain ⟨a1, a2⟩ := ha W Y X k _ h
    refine ⟨PE.imp (pe_not a1) fun σ H Q h => not_core h, PT.imp (pt_not a2) fun σ H Q h => ?_⟩
    refine tE_mono (not_core h) fun v H1 hv => ?_
    obtain ⟨d, e1, d', e2, hv⟩ := hv
    cases e2
    exact ⟨d, e1, hv⟩
  · cases h
theorem s_ifx {c a b : E} (hc : SE t C n c) (ha : SE t C n a) (hb : SE t C n b) : SE t C n (.ifx c a b) := by
  intro W Y X k e h
  unfold chkE at h
  split at h
  · simp only [Bool.and_eq_true] at h
    obtain ⟨⟨h1, h2⟩, h3⟩ := h
    obtain ⟨c1, c2⟩ := hc W Y X k _ h1
    obtain ⟨a1, a2⟩ := ha W Y X k _ h2
    obtain ⟨b1, b2⟩ := hb W Y X k _ h3
    exact ⟨PE.imp (pe_ifExp c2 a1 b1) fun σ H Q h => if_core h, PT.imp (pt_ifExp c2 a2 b2) fun σ H Q h => if_core h⟩
  · cases h
end
end Ev

/-! Soundness of the checker: expressions, second part. -/
namespace Ev
open PySem PySem.Spec PyProof.Rows L2
section
variable {t : Tx} {C : Cfg} {n : Nat}
section
variable {W : WX} {X : Cx} {a b c : E} {σ : L2.St} {H : Hp} {Q : VK}
theorem cmp_core {op : Cmp} (h : tE t C (run C n) W (.cmp op a b) σ H Q) : tOp (rQ t op) (tE t C (run C n) W a) (tE t C (run C n) W b) σ H Q := by
  obtain ⟨ρ, l, h, rp, rl, o⟩ := h
  unfold evE at o
  refine ⟨ρ, l, h, rp, rl, Out.bind o fun x h1 ρ1 H1 v e1 s1 q1 o1 => ?_⟩
  refine ⟨ρ1, l, h1, s1.rep, rl.step rp s1, Out.bind o1 fun y h2 ρ2 H2 u e2 s2 q2 o2 => ?_⟩
  cases e3 : cmpD op x y h2 with
  | none => rw [e3] at o2; exact (show False from o2).elim
  | some r =>
    rw [e3] at o2
    exact ⟨ρ2, h2, x, y, r, s2.rep, s2.rd s1.rep q1, q2, e3, Out.here s2.rep o2 (.bl r)⟩
theorem chn_core {p q : Cmp} (h : tE t C (run C n) W (.chn p q a b c) σ H Q) : tChain (rQ t p) (rQ t q) (tE t C (run C n) W a) (tE t C (run C n) W b) (tE t C (run C n) W c) σ H Q := by
  obtain ⟨ρ, l, h, rp, rl, o⟩ := h
  unfold evE at o
  refine ⟨ρ, l, h, rp, rl, Out.bind o fun x h1 ρ1 H1 v e1 s1 q1 o1 => ?_⟩
  refine ⟨ρ1, l, h1, s1.rep, rl.step rp s1, Out.bind o1 fun y h2 ρ2 H2 u e2 s2 q2 o2 => ?_⟩
  cases e3 : cmpD p x y h2 with
  | none => rw [e3] at o2; exact (show False from o2).elim
  | some r =>
    rw [e3] at o2
    refine ⟨ρ2, h2, x, y, r, s2.rep, s2.rd s1.rep q1, q2, e3, r, rfl, ?_⟩
    cases r with
    | true =>
      rw [if_pos rfl]
      refine ⟨ρ2, l, h2, s2.rep, (rl.step rp s1).step s1.rep s2, Out.bind o2 fun z h3 ρ3 H3 u3 e3 s3 q3 o3 => ?_⟩
      cases e4 : cmpD q y z h3 with
      | none => rw [e4] at o3; exact (show False from o3).elim
      | some r =>
        rw [e4] at o3
        exact ⟨ρ3, h3, y, z, r, s3.rep, s3.rd s2.rep q2, q3, e4, Out.here s3.rep o3 (.bl r)⟩
    | false =>
      rw [if_neg (by decide)]
      exact Out.here s2.rep o2 (.bl false)
end
theorem s_cmp {op : Cmp} {a b : E} (ha : SE t C n a) (hb : SE t C n b) : SE t C n (.cmp op a b) := by
  intro W Y X k e h
  unfold chkE at h
  split at h
  · simp only [Bool.and_eq_true, decide_eq_true_eq, Bool.not_eq_true'] at h
    obtain ⟨⟨⟨h1, h2⟩, h3⟩, h4⟩ := h
    subst h1
    exact ⟨PE.imp (pe_cmpR (op_cmp k.fa.hK k.room.units op) (ha W Y X k _ h3).1 (hb W Y X k _ h4).1 h2) fun σ H Q h => cmp_core h,
      PT.imp (pt_cmpR (op_cmp k.fa.hK k.room.units op) (ha W Y X k _ h3).1 (hb W Y X k _ h4).1 h2) fun σ H Q h => cmp_core h⟩
  · cases h
theorem s_chn {p q : Cmp} {a b c : E} (ha : SE t C n a) (hb : SE t C n b) (hc : SE t C n c) : SE t C n (.chn p q a b c) := by
  intro W Y X k e h
  unfold chkE at h
  split at h
  · simp only [Bool.and_eq_true, decide_eq_true_eq, Bool.not_eq_true'] at h
    obtain ⟨⟨⟨⟨⟨h1, h2⟩, h3⟩, h4⟩, h5⟩, h6⟩ := h
    subst h1
    subst h2
    exact ⟨PE.imp (pe_chain (op_cmp k.fa.hK k.room.units p) (op_cmp k.fa.hK k.room.units q) (ha W Y X k _ h4).1 (hb W Y X k _ h5).1 (hc W Y X k _ h6).1 h3) fun σ H Q h => chn_core h,
      PT.imp (pt_chain (op_cmp k.fa.hK k.room.units p) (op_cmp k.fa.hK k.room.units q) (ha W Y X k _ h4).1 (hb W Y X k _ h5).1 (hc W Y X k _ h6).1 h3) fun σ H Q h => chn_core h⟩
  · cases h
/-! ### arguments, tuples, lists -/
theorem sa_nil : SA t C n .nil := by
  intro W Y X k es h
  unfold chkEs at h
  split at h
  · exact mes_nil
  · cases h
theorem sa_cons {a : E} {as : Es} (ha : SE t C n a) (hs : SA t C n as) : SA t C n (.cons a as) := by
  intro W Y X k es h
  unfold chkEs at h
  split at h
  · simp only [Bool.and_eq_true] at h
    obtain ⟨⟨h1, h2⟩, h3⟩ := h
    exact mes_cons (pa_cons (ha W Y X k _ h2).1 (hs W Y X k _ h3) (star_ok h1 _ _))
  · cases h
theorem evEs_len {call : Call} : ∀ {es : Es} {l : Lc} {h : VH} {xs : List D} {h1 : VH}, evEs C call es l h = .ok xs h1 → xs.length = es.len
  | .nil, l, h, xs, h1, e => by
    unfold evEs at e
    cases e
    rfl
  | .cons a es, l, h, xs, h1, e => by
    unfold evEs at e
    cases e1 : evE C call a l h with
    | no => rw [e1] at e; cases e
    | ex c p h' => rw [e1] at e; cases e
    | ok x h2 =>
      rw [e1] at e
      have e : ((evEs C call es l h2).bind fun xs h2 => R.ok (x :: xs) h2) = .ok xs h1 := e
      cases e2 : evEs C call es l h2 with
      | no => rw [e2] at e; cases e
      | ex c p h' => rw [e2] at e; cases e
      | ok ys h3 =>
        rw [e2] at e
        cases e
        show ys.length + 1 = es.len + 1
        rw [evEs_len e2]
theorem s_tup {as : Es} (hs : SA t C n as) : SE t C n (.tup as) := by
  intro W Y X k e h
  unfold chkE at h
  split at h
  · rename_i xs _ _
    simp only [Bool.and_eq_true, decide_eq_true_eq] at h
    obtain ⟨h1, h2⟩ := h
    exact pt_plain (me_tup (es := xs) (pe_tup (hs W Y X k _ h2)) fun l h xs h1' e => by rw [evEs_len e]; exact Nat.le_trans h1 (by decide)) (fun _ => rfl)
  · cases h
theorem s_lst {as : Es} (hs : SA t C n as) : SE t C n (.lst as) := by
  intro W Y X k e h
  unfold chkE at h
  split at h
  · rename_i xs _
    simp only [Bool.and_eq_true, decide_eq_true_eq] at h
    obtain ⟨h1, h2⟩ := h
    exact pt_plain (me_lst (es := xs) (pe_lst (hs W Y X k _ h2)) fun l h xs h1' e => by rw [evEs_len e]; exact Nat.le_trans h1 (by decide)) (fun _ => rfl)
  · cases h
theorem s_idx {a b : E} (ha : SE t C n a) (hb : SE t C n b) : SE t C n (.idx a b) := by
  intro W Y X k e h
  unfold chkE at h
  split at h
  · simp only [Bool.and_eq_true] at h
    obtain ⟨⟨h1, h2⟩, h3⟩ := h
    refine pt_plain (me_op (pe_ix ix_seq (ha W Y X k _ h2).1 (hb W Y X k _ h3).1 (ix_ok h1)) (f := fun x y h2 => match idxD x y h2 with | some d => .ok d h2 | none => .no) (fun l h => by rw [evE] <;> rfl) fun σ ρ h H x y v u Q rp rx ry o => ?_) (fun _ => rfl)
    cases e1 : idxD x y h with
    | none => rw [e1] at o; exact (show False from o).elim
    | some d =>
      rw [e1] at o
      exact ix_k k.fa.hK rp rx ry e1 fun w rw => o.here rp rw
  · cases h
/-- a slice's parts -/
def partD : Bool → D → Option Int → Prop := fun u y i => ordOf (if u then some y else none) = some i
theorem s_slc {u v : Bool} {a lo hi : E} (ha : SE t C n a) (hl : SE t C n lo) (hh : SE t C n hi) : SE t C n (.slc u v a lo hi) := by
  intro W Y X k e h
  unfold chkE at h
  split at h
  · rename_i x l r p q
    simp only [Bool.and_eq_true] at h
    obtain ⟨⟨h1, h2⟩, h3⟩ := h
    -- the parts' readings
    have part : ∀ (u : Bool) (b : E) (o : Option Expr), SE t C n b → (match u, o with | true, some l => chkE Y b l | false, none => (match b with | .con .non => true | _ => false) | _, _ => false) = true →
        PO X o (fun σ H Q => tE t C (run C n) W b σ H fun v H1 => ∃ i, ((u = true ∧ ∃ j, v = .int j ∧ i = some j) ∨ (u = false ∧ i = none)) ∧ Q i H1) := by
      intro u b o sb hb
      cases u with
      | true =>
        cases o with
        | none => cases hb
        | some l =>
          obtain ⟨p, _⟩ := sb W Y X k _ hb
          refine ⟨fun pins s σ H Q I hq => ?_⟩
          refine (po_some p).run pins s σ H Q I (tE_mono hq fun v H1 hv => ?_)
          obtain ⟨i, (⟨_, j, e1, e2⟩ | ⟨z, _⟩), hq⟩ := hv
          · subst e2; exact ⟨j, e1, hq⟩
          · cases z
      | false =>
        cases o with
        | some l => cases hb
        | none =>
          refine ⟨fun pins s σ H Q I hq => ?_⟩
          have hb' : b = .con .non := by
            revert hb
            cases b with
            | con d => cases d <;> simp
            | _ => simp
          subst hb'
          obtain ⟨ρ, l, h, rp, rl, o⟩ := hq
          unfold evE at o
          obtain ⟨i, (⟨z, _⟩ | ⟨_, e1⟩), hq⟩ := Out.here rp o (v := .non) .non
          · cases z
          · subst e1
            exact po_none.run pins s σ H Q I hq
    refine pt_plain (PE.imp (pe_slice sl_any (ha W Y X k _ h1).1 (part u lo l hl h2) (part v hi r hh h3)) fun σ H Q hq => ?_) (fun _ => rfl)
    obtain ⟨ρ, l, h, rp, rl, o⟩ := hq
    unfold evE at o
    refine ⟨ρ, l, h, rp, rl, Out.bind o fun x h1 ρ1 H1 v1 e1 s1 q1 o1 => ?_⟩
    refine ⟨ρ1, l, h1, s1.rep, rl.step rp s1, Out.bind o1 fun y h2 ρ2 H2 v2 e2 s2 q2 o2 => ?_⟩
    have rl2 := (rl.step rp s1).step s1.rep s2
    have ord : ∀ {u : Bool} {y : D} {i : Option Int} {w : V} {ρ : List Addr} {H : Hp}, RD t.K ρ H y w → ordOf (if u = true then some y else none) = some i → (u = true ∧ ∃ j, w = .int j ∧ i = some j) ∨ (u = false ∧ i = none) := by
      intro u y i w ρ H r e
      cases u with
      | true =>
        rw [if_pos rfl] at e
        cases r <;> first | (cases e; exact .inl ⟨rfl, _, rfl, rfl⟩) | cases e
      | false =>
        rw [if_neg (by decide)] at e
        cases e
        exact .inr ⟨rfl, rfl⟩
    cases ey : ordOf (if u = true then some y else none) with
    | none => rw [ey] at o2; exact (show False from o2).elim
    | some i =>
      rw [ey] at o2
      refine ⟨i, ord q2 ey, ρ2, l, h2, s2.rep, rl2, Out.bind o2 fun z h3 ρ3 H3 v3 e3 s3 q3 o3 => ?_⟩
      cases ez : ordOf (if v = true then some z else none) with
      | none => rw [ez] at o3; exact (show False from o3).elim
      | some j =>
        rw [ez] at o3
        exact ⟨j, ord q3 ez, sl_k k.fa.hK s3.rep (s3.rd s2.rep (s2.rd s1.rep q1)) o3⟩
  · cases h
end
end Ev

/-! Soundness of the checker: calls. -/
namespace Ev
open PySem PySem.Spec PyProof.Rows L2
section
variable {K : PySem.W.Frag} {T : List (Addr × Str)} {ρ ρ' : List Addr} {h h' : VH} {H H' : Hp}
mutual
theorem RD.plain : ∀ {x : D} {v : V}, RD K ρ H x v → x.plain = true → RD K ρ' H x v
  | _, _, .non, _ => .non
  | _, _, .bl b, _ => .bl b
  | _, _, .int i, _ => .int i
  | _, _, .str hs, _ => .str hs
  | _, _, .tup h r, p => .tup h (RDs.plain r p)
  | _, _, .ref _, p => absurd p (by simp [D.plain])
  | _, _, .fro _ _, p => absurd p (by simp [D.plain])
theorem RDs.plain : ∀ {xs : List D} {vs : List V}, RDs K ρ H xs vs → plains xs = true → RDs K ρ' H xs vs
  | _, _, .nil, _ => .nil
  | _, _, .cons (x := x) (xs := xs) h r, p => by
    have p' : (x.plain && plains xs) = true := p
    rw [Bool.and_eq_true] at p'
    exact .cons (h.plain p'.1) (r.plain p'.2)
end
theorem Rep.nil (t : LamX.Tabs T H) : Rep K T [] VH.nil H := ⟨rfl, rfl, List.nodup_nil, fun n p e => by simp at e, t⟩
/-- what runs apart leaves ours as it is -/
theorem Rep.apart (r : Rep K T ρ h H) (f : Fr [] H H') (tb : LamX.Tabs T H') : Step K T ρ H ρ h H' := by
  have tup : ∀ a vs, SqT K H a vs → SqT K H' a vs := fun a vs q => by
    rcases q with (q | ⟨o, q⟩) | q
    · exact .inl (.inl (f a _ q (by simp) (fun _ z => by cases z)))
    · exact .inl (.inr ⟨o, f a _ q (by simp) (fun _ z => by cases z)⟩)
    · exact .inr q
  have lst : ∀ a vs, FL K ρ H a vs → FL K ρ H' a vs := fun a vs q => by
    rcases q with ⟨q | ⟨o, q⟩, na⟩ | q
    · exact .inl ⟨.inl (f a _ q (by simp) (fun _ z => by cases z)), na⟩
    · exact .inl ⟨.inr ⟨o, f a _ q (by simp) (fun _ z => by cases z)⟩, na⟩
    · exact .inr q
  refine ⟨⟨[], by simp⟩, ⟨r.sz, r.so, r.nd, fun n p e => ?_, tb⟩, fun b o e nb nt => f b o e (by simp) nt, fun p hp hn => absurd hp hn⟩
  obtain ⟨o, g, q⟩ := r.obj n p e
  refine ⟨o, g, ?_⟩
  cases o with
  | lst xs =>
    obtain ⟨vs, h1, h2⟩ := q
    exact ⟨vs, f p _ h1 (by simp) (fun _ z => by cases z), RDs.mono' tup lst (fun _ _ e => e) h2⟩
  | dct kvs =>
    obtain ⟨ws, h1, h2, h3⟩ := q
    exact ⟨ws, f p _ h1 (by simp) (fun _ z => by cases z), h2, RDs.mono' tup lst (fun _ _ e => e) h3⟩
  | ins c fs => exact q
end
section
variable {t : Tx} {W W' : WX} {σ σ' : L2.St} {ρ : List Addr} {H : Hp} {Q : VK}
theorem Out.wish {r : R D} (o : Out t W σ ρ H r Q) (w : ∀ cls d H', W cls d σ H' → W' cls d σ' H') : Out t W' σ' ρ H r Q := by
  cases r with
  | ok d h' => exact o
  | ex c p h' => exact fun ρ' H' cls d s q => w cls d H' (o ρ' H' cls d s q)
  | no => exact o
end
section
variable {X : Cx} {CX : CXT} {k : Nat} {f : Addr} {fd : FuncData} {ps : List Str} {sp : Sp} {E : L2.St → XK} {x : Str} {p pos : Pos}
theorem pe_callS0 (F : FnOk X.prog X.w X.K X.mg X.base CX k f fd ps sp) (hr : Room k X.A) (hg : Gl X x) (hm : X.mg x = some (.ref f)) (hk : PySem.W.keepIn X.K (.ref f) = true) (hb : L2.Binds X.K fd ps []) (hx : ∀ σ, PassesAt CX X σ (E σ))
    (hdb : (x == ("__debug__" : Str)) = false) : PE X (.Call (.Name x p) [] [] pos) (tCallS sp E tNil) := by
  refine ⟨fun pins s σ H Q I h => ?_⟩
  refine wpAny_Call_Name_kw (ld_glob I hg hm ?_ hdb)
  exact PySem.W.callWith_K0 I.kIn hk (run_fnS (us := []) F hr hb (hx σ) I .nil h)
end
section
variable {t : Tx} {C : Cfg} {n : Nat}
theorem noStars {Y : Sy} : ∀ {as : Es} {es : List Expr} {env : Env} {pos : Pos}, chkEs Y as es = true → (backTo pos (starEach es env)).any (·.1) = false
  | .nil, es, env, pos, h => by
    unfold chkEs at h
    split at h
    · rfl
    · cases h
  | .cons a as, es, env, pos, h => by
    unfold chkEs at h
    split at h
    · simp only [Bool.and_eq_true] at h
      obtain ⟨⟨h1, h2⟩, h3⟩ := h
      rw [star_ok h1]
      show (false || (backTo pos (starEach _ env)).any (·.1)) = false
      rw [noStars h3]
      rfl
    · cases h
/-- what comes of a def's call -/
theorem cal_core {W : WX} {p : Bool} {f : Nat} {as : Es} {σ : L2.St} {H : Hp} {Q : VK} (h : tE t C (run C n) W (.cal p f as) σ H Q) : tCallS (spEv t C n f) (WE W) (tEs t C (run C n) W as) σ H Q := by
  obtain ⟨ρ, l, h, rp, rl, o⟩ := h
  unfold evE at o
  refine ⟨ρ, l, h, rp, rl, Outs.bind o fun xs h1 ρ1 H1 vs e1 s1 q1 o1 => ?_⟩
  cases p with
  | false => exact ⟨ρ1, h1, xs, s1.rep, q1, Out.wish o1 fun cls d H' w => w⟩
  | true =>
    rw [if_pos rfl] at o1
    by_cases hp : plains xs = true
    · rw [if_pos hp] at o1
      refine ⟨[], VH.nil, xs, Rep.nil s1.rep.tab, q1.plain hp, ?_⟩
      cases e2 : run C n f xs VH.nil with
      | no => rw [e2] at o1; exact o1
      | ok d h' =>
        rw [e2] at o1
        simp only at o1
        by_cases hd : d.plain = true
        · rw [if_pos hd] at o1
          exact fun ρ' H' v s r => o1 ρ1 H' v (s1.rep.apart s.fr s.rep.tab) (r.plain hd)
        · rw [if_neg hd] at o1
          exact o1.elim
      | ex c q h' =>
        rw [e2] at o1
        simp only at o1
        by_cases hd : q.plain = true
        · rw [if_pos hd] at o1
          refine fun ρ' H' cls d s r => o1 ρ1 H' cls d (s1.rep.apart s.fr s.rep.tab) ?_
          obtain ⟨a, r1, r2, r3⟩ := r
          refine ⟨a, r1, r2, ?_⟩
          rcases r3 with r3 | ⟨dd, v, r3, r4, r5⟩
          · exact .inl r3
          · exact .inr ⟨dd, v, r3, r4, r5.plain hd⟩
        · rw [if_neg hd] at o1
          exact o1.elim
    · rw [if_neg hp] at o1
      exact o1.elim
theorem s_cal {p : Bool} {f : Nat} {as : Es} (hs : SA t C n as) : SE t C n (.cal p f as) := by
  intro W Y X k e h
  unfold chkE at h
  split at h
  · rename_i x pn es pos
    simp only [Bool.and_eq_true] at h
    obtain ⟨⟨h1, h2⟩, h3⟩ := h
    obtain ⟨g1, g2, g3⟩ := k.gl h1
    split at h2
    · rename_i g kk e1
      simp only [Bool.and_eq_true, decide_eq_true_eq] at h2
      obtain ⟨rfl, h2⟩ := h2
      obtain ⟨a, fd, ps, m1, m2, m3, F⟩ := k.fa.fns _ _ _ e1
      have hr : Room (n + kk) X.A := k.room.mono (by omega)
      have pa := hs W Y X k _ h3
      refine pt_plain (PE.imp (?_ : PE X _ (tCallS (spEv t C n g) (WE W) (tEs t C (run C n) W as))) fun σ H Q h => cal_core h) (fun _ => rfl)
      cases es with
      | nil =>
        refine PE.imp (pe_callS0 (E := WE W) F hr g1 m1 m2 m3 (fun σ => passAt k.tk σ) g2) fun σ H Q h => ?_
        -- no arguments
        have e0 : as = .nil := by
          cases as with
          | nil => rfl
          | cons a as => exact absurd h3 (by simp [chkEs])
        subst e0
        obtain ⟨ρ, l, h, rp, rl, o⟩ := h
        unfold evEs at o
        exact o ρ H [] (Step.refl rp) .nil
      | cons e es =>
        have h3' := h3
        unfold chkEs at h3'
        split at h3'
        · cases h3'
        · simp only [Bool.and_eq_true] at h3'
          exact pe_callS F hr g1 m1 m2 m3 (fun σ => passAt k.tk σ) pa g2 (star_ok h3'.1.1 _ _) (noStars h3'.2)
    · cases h2
  · cases h
/-! ### built-in functions -/
theorem blt_core {W : WX} {b : Blt} {as : Es} {σ : L2.St} {H : Hp} {Q : VK} (h : tE t C (run C n) W (.blt b as) σ H Q) : tCB (rBl t W (bltD b)) (tEs t C (run C n) W as) σ H Q := by
  obtain ⟨ρ, l, h, rp, rl, o⟩ := h
  unfold evE at o
  exact ⟨ρ, l, h, rp, rl, Outs.bind o fun xs h1 ρ1 H1 vs e1 s1 q1 o1 => ⟨σ, ρ1, h1, xs, s1.rep, q1, o1⟩⟩
theorem pe_blt {W : WX} {Y : Sy} {X : Cx} (k : Ok t C n W Y X) {b : Blt} {e : Expr} {es : List Expr} {p pos : Pos} {ta : TA} (hb : bltPlain b = true) (hy : Y.blt (bltName b) = true) (pa : PA X (e :: es) ta)
    (he : starEach (e :: es) X.env = (false, eval e X.env) :: starEach es X.env) (hpl : (backTo pos (starEach es X.env)).any (·.1) = false) : PE X (.Call (.Name (bltName b) p) (e :: es) [] pos) (tCB (rBl t W (bltD b)) ta) := by
  obtain ⟨g1, g2, g3, g4⟩ := k.blt hy
  cases b with
  | len => exact pe_callB (cb_len k.fa.hK) g1 g2 boot_len pa g4 g3 he hpl
  | abs => exact pe_callB cb_abs g1 g2 boot_abs pa g4 g3 he hpl
  | int => exact pe_callTy cb_int g1 g2 PyProof.Rows.boot_int pa g4 g3 he hpl
  | list => exact pe_callTy (cb_list k.fa.hK) g1 g2 PyProof.Rows.boot_list pa g4 g3 he hpl
  | tuple => exact pe_callTy (cb_tuple k.fa.hK) g1 g2 PyProof.Rows.boot_tuple pa g4 g3 he hpl
  | max2 => exact pe_callB (cb_max2 k.calm) g1 g2 PyProof.Rows.boot_max pa g4 g3 he hpl
  | min2 => exact pe_callB (cb_min2 k.calm) g1 g2 PyProof.Rows.boot_min pa g4 g3 he hpl
  | str => cases hb
  | isStr => cases hb
  | isInt => cases hb
  | listRev => cases hb
  | sumL => cases hb
/-- isinstance(e, T) -/
theorem pe_isinst {W : WX} {Y : Sy} {X : Cx} (k : Ok t C n W Y X) {b : Blt} {a : E} {e : Expr} {p p2 pos : Pos} (hb : bltIs b = true) (hy : Y.blt "isinstance" = true) (hT : Y.blt (bltName b) = true) (pe : PE X e (tE t C (run C n) W a)) (ns : noStar e = true) :
    PE X (.Call (.Name "isinstance" p) [e, .Name (bltName b) p2] [] pos) (tE t C (run C n) W (.blt b (.cons a .nil))) := by
  obtain ⟨g1, g2, g3, g4⟩ := k.blt hy
  obtain ⟨t1, t2, t3, t4⟩ := k.blt hT
  have core : ∀ {T : String} {f : List D → VH → R D} {σ : L2.St} {H : Hp} {Q : VK}, bltD b = f → tE t C (run C n) W (.blt b (.cons a .nil)) σ H Q → tCB (rIs t W T f) (tCons (tE t C (run C n) W a) (tCons (tC (.ty T)) tNil)) σ H Q := by
    intro T f σ H Q hf h
    obtain ⟨ρ, l, h, rp, rl, o⟩ := h
    unfold evE evEs evEs at o
    refine ⟨ρ, l, h, rp, rl, ?_⟩
    cases e1 : evE C (run C n) a l h with
    | no => rw [e1] at o; exact o
    | ex c p h' => rw [e1] at o; exact o
    | ok x h1 =>
      rw [e1] at o
      intro ρ1 H1 v s1 q1
      have o : Out t W σ ρ H (bltD b [x] h1) Q := o
      rw [hf] at o
      exact ⟨σ, ρ1, h1, x, v, s1.rep, q1, rfl, Out.step s1 o⟩
  have hn : starEach [e, .Name (bltName b) p2] X.env = (false, eval e X.env) :: starEach [.Name (bltName b) p2] X.env := star_ok ns _ _
  cases b with
  | isStr => exact PE.imp (pe_callB (cb_isStr (W := W) k.fa.hK) g1 g2 boot_isinstance (pa_cons pe (pa_cons (pe_bltn t1 t2 PyProof.Rows.boot_str (v := .ty "str") rfl t4 t3) pa_nil) hn) g4 g3 hn rfl) fun σ H Q h => core rfl h
  | isInt => exact PE.imp (pe_callB (cb_isInt (W := W) k.fa.hK) g1 g2 boot_isinstance (pa_cons pe (pa_cons (pe_bltn t1 t2 PyProof.Rows.boot_int (v := .ty "int") rfl t4 t3) pa_nil) hn) g4 g3 hn rfl) fun σ H Q h => core rfl h
  | _ => cases hb
theorem pe_listrev {W : WX} {Y : Sy} {X : Cx} (k : Ok t C n W Y X) {a : E} {e : Expr} {p p2 pos pos2 : Pos} (h1 : Y.blt "list" = true) (h2 : Y.blt "reversed" = true) (pe : PE X e (tE t C (run C n) W a)) (ns : noStar e = true) :
    PE X (.Call (.Name "list" p) [.Call (.Name "reversed" p2) [e] [] pos2] [] pos) (tE t C (run C n) W (.blt .listRev (.cons a .nil))) := by
  obtain ⟨g1, g2, g3, g4⟩ := k.blt h1
  obtain ⟨t1, t2, t3, t4⟩ := k.blt h2
  refine PE.imp (pe_lstRev k.calm g1 g2 t1 t2 pe (star_ok ns _ _)) fun σ H Q h => ?_
  obtain ⟨ρ, l, h, rp, rl, o⟩ := h
  unfold evE evEs evEs at o
  refine ⟨ρ, l, h, rp, rl, ?_⟩
  cases e1 : evE C (run C n) a l h with
  | no => rw [e1] at o; exact o
  | ex c p h' => rw [e1] at o; exact o
  | ok x h1 =>
    rw [e1] at o
    intro ρ1 H1 v s1 q1
    have o : Out t W σ ρ H (match lstOf x h1 with | some ys => R.ok (.ref h1.n) (h1.new (.lst ys.reverse)) | none => .no) Q := o
    cases e2 : lstOf x h1 with
    | none => rw [e2] at o; exact (show False from o).elim
    | some ys =>
      rw [e2] at o
      obtain ⟨q, ws, rfl, hs, qs⟩ := lstOf_ok s1.rep q1 e2
      exact ⟨q, ws, rfl, k.fa.hK ▸ hs, fun l hl => Out.step s1 o _ _ _ (s1.rep.newL hl qs.rev) s1.rep.rdNew⟩
theorem s_blt {b : Blt} {as : Es} (hs : SA t C n as) (h1 : ∀ a, as = .cons a .nil → SE t C n a) : SE t C n (.blt b as) := by
  intro W Y X k e h
  unfold chkE at h
  split at h
  · split at h
    · rename_i hb
      split at h
      · simp only [Bool.and_eq_true, decide_eq_true_eq] at h
        obtain ⟨⟨⟨⟨rfl, rfl⟩, hl⟩, hr⟩, h⟩ := h
        split at h
        · rename_i a
          rw [Bool.and_eq_true] at h
          subst hb
          exact pt_plain (pe_listrev k hl hr (h1 _ rfl W Y X k _ h.1).1 h.2) (fun _ => rfl)
        · cases h
      · cases h
    · simp only [Bool.and_eq_true, decide_eq_true_eq] at h
      obtain ⟨⟨⟨hb, rfl⟩, hy⟩, hc⟩ := h
      have hc' := hc
      unfold chkEs at hc'
      split at hc'
      · cases hc'
      · simp only [Bool.and_eq_true] at hc'
        exact pt_plain (PE.imp (pe_blt k hb hy (hs W Y X k _ hc) (star_ok hc'.1.1 _ _) rfl) fun σ H Q h => blt_core h) (fun _ => rfl)
  · split at h
    · rename_i hb
      simp only [Bool.and_eq_true, decide_eq_true_eq] at h
      obtain ⟨⟨⟨rfl, hi⟩, hz⟩, h⟩ := h
      split at hz
      · simp only [Bool.and_eq_true, decide_eq_true_eq] at hz
        obtain ⟨rfl, hT⟩ := hz
        split at h
        · rw [Bool.and_eq_true] at h
          exact pt_plain (pe_isinst k hb hi hT (h1 _ rfl W Y X k _ h.1).1 h.2) (fun _ => rfl)
        · cases h
      · cases hz
    · simp only [Bool.and_eq_true, decide_eq_true_eq] at h
      obtain ⟨⟨⟨hb, rfl⟩, hy⟩, hc⟩ := h
      have hc' := hc
      unfold chkEs at hc'
      split at hc'
      · cases hc'
      · simp only [Bool.and_eq_true] at hc'
        exact pt_plain (PE.imp (pe_blt k hb hy (hs W Y X k _ hc) (star_ok hc'.1.1 _ _) (noStars hc'.2)) fun σ H Q h => blt_core h) (fun _ => rfl)
  · cases h
end
end Ev

/-! Soundness of the checker: dicts. -/
namespace Ev
open PySem PySem.Spec PyProof.Rows L2
section
variable {K : PySem.W.Frag} {ρ : List Addr} {H : Hp}
theorem ky_str {k : Key} {s : List Nat} (h : kyOf k = .str s) : k = .inr (sOf s) := by
  cases k with
  | inl i => cases h
  | inr x =>
    have e : x.cps.toList = s := by injection h
    rw [← e, sOf_of]
/-- a key looked up on both sides -/
theorem look_ok (s : List Nat) : ∀ {kvs : List (Ky × D)} {ws : List (Key × V)}, kvs.map (·.1) = ws.map (fun q => kyOf q.1) → RDs K ρ H (kvs.map (·.2)) (ws.map (·.2)) →
    (kvs.lookup (.str s) = none ∧ valV ws (.inr (sOf s)) = none) ∨ ∃ d v, kvs.lookup (.str s) = some d ∧ valV ws (.inr (sOf s)) = some v ∧ RD K ρ H d v
  | [], [], _, _ => .inl ⟨rfl, rfl⟩
  | [], _ :: _, h, _ => by simp at h
  | _ :: _, [], h, _ => by simp at h
  | (k, d) :: kvs, (q, v) :: ws, h, r => by
    simp only [List.map_cons, List.cons.injEq] at h
    obtain ⟨h1, h2⟩ := h
    simp only [List.map_cons] at r
    cases r with
    | cons r1 r2 =>
      by_cases e : k = .str s
      · have eq : q = .inr (sOf s) := ky_str (by rw [← h1, e])
        refine .inr ⟨d, v, ?_, ?_, r1⟩
        · rw [List.lookup_cons, e]; simp
        · exact valV_pos (p := (q, v)) eq
      · have nb : ((Ky.str s) == k) = false := by
          rw [beq_eq_false_iff_ne]
          exact fun z => e z.symm
        have nq : ¬ q = .inr (sOf s) := fun z => e (by
          rw [h1, z]
          show Ky.str (sOf s).cps.toList = _
          rw [sOf_cps])
        rw [List.lookup_cons, nb, valV_neg (p := (q, v)) nq]
        exact look_ok s h2 r2
def pairUp : List V → List (V × V)
  | x :: y :: r => (x, y) :: pairUp r
  | _ => []
theorem merge_new : ∀ (more acc : List (Key × V)), (more.map (·.1)).Nodup → (∀ q ∈ more, valV acc q.1 = none) → mergeK acc more = acc ++ more
  | [], acc, _, _ => by simp [mergeK]
  | p :: r, acc, hn, ha => by
    rw [List.map_cons, List.nodup_cons] at hn
    show mergeK (putK acc p.1 p.2) r = _
    have h2 : ∀ q ∈ r, valV (acc ++ [(p.1, p.2)]) q.1 = none := fun q hq => by
      have ne : ¬ q.1 = p.1 := fun z => hn.1 (by rw [← z]; exact List.mem_map.mpr ⟨q, hq, rfl⟩)
      rw [valV_snoc _ _ _ _ (ha p (List.mem_cons_self ..)), if_neg ne]
      exact ha q (List.mem_cons_of_mem _ hq)
    rw [putK_new p.2 (ha p (List.mem_cons_self ..)), merge_new r _ hn.2 h2]
    simp
theorem pairs_ok : ∀ {xs : List D} {vs : List V} {kvs : List (Ky × D)}, RDs K ρ H xs vs → pairsD xs = some kvs →
    ∃ ws : List (Key × V), pairUp vs = ws.map (fun q => (kV q.1, q.2)) ∧ kvs.map (·.1) = ws.map (fun q => kyOf q.1) ∧ RDs K ρ H (kvs.map (·.2)) (ws.map (·.2)) ∧ (ws.map (·.1)).Nodup
  | [], vs, kvs, r, e => by
    cases r
    cases e
    exact ⟨[], rfl, rfl, .nil, .nil⟩
  | x :: xs, vs, kvs, r, e => by
    unfold pairsD at e
    split at e
    · rename_i h; cases h
    · rename_i k y rest heq
      cases heq
      cases r with
      | cons r1 r2 =>
        cases r2 with
        | cons r2 r3 =>
          rw [Option.bind_eq_some_iff] at e
          obtain ⟨q, e1, e2⟩ := e
          obtain ⟨ws, w1, w2, w3, w4⟩ := pairs_ok r3 e1
          split at e2
          · cases e2
          · rename_i hk
            cases e2
            cases r1 with
            | str hs =>
              refine ⟨(.inr (sOf k), _) :: ws, ?_, ?_, .cons r2 w3, ?_⟩
              · show (_, _) :: pairUp _ = _
                rw [w1]
                rfl
              · rw [List.map_cons, List.map_cons, w2]
                show Ky.str k :: _ = Ky.str (sOf k).cps.toList :: _
                rw [sOf_cps]
              · rw [List.map_cons, List.nodup_cons]
                refine ⟨fun hm => hk ?_, w4⟩
                obtain ⟨z, hz, ez⟩ := List.mem_map.mp hm
                rcases look_ok k w2 w3 with ⟨_, n2⟩ | ⟨d, v, n1, _, _⟩
                · have : ∀ {l : List (Key × V)}, z ∈ l → valV l (.inr (sOf k)) = none → False := by
                    intro l
                    induction l with
                    | nil => intro h; cases h
                    | cons p r ih =>
                      intro h n
                      by_cases e : p.1 = .inr (sOf k)
                      · rw [valV_pos e] at n; cases n
                      · rw [valV_neg e] at n
                        rcases List.mem_cons.mp h with rfl | h
                        · exact e ez
                        · exact ih h n
                  exact (this hz n2).elim
                · rw [n1]; rfl
    · cases e
end
section
variable {t : Tx} {C : Cfg} {n : Nat}
def SPr (t : Tx) (C : Cfg) (n : Nat) (es : Es) : Prop := ∀ W Y X, Ok t C n W Y X → ∀ (pos : Pos) ks vs, chkPs Y es ks vs = true → ∃ trs, PPs X pos ks vs trs ∧ ks.all (·.isSome) = true ∧ ks.length = vs.length ∧
  ∀ σ H (Q : List (V × V) → Hp → Prop), tEs t C (run C n) W es σ H (fun us H1 => Q (pairUp us) H1) → tPairs trs σ H Q
theorem sp_nil : SPr t C n .nil := by
  intro W Y X k pos ks vs h
  unfold chkPs at h
  split at h
  · refine ⟨[], pps_nil, rfl, rfl, fun σ H Q hq => ?_⟩
    obtain ⟨ρ, l, h, rp, rl, o⟩ := hq
    unfold evEs at o
    exact o ρ H [] (Step.refl rp) .nil
  · cases h
theorem sp_one {a : E} : SPr t C n (.cons a .nil) := by
  intro W Y X k pos ks vs h
  unfold chkPs at h
  cases h
theorem sp_cons {a b : E} {es : Es} (ha : SE t C n a) (hb : SE t C n b) (hs : SPr t C n es) : SPr t C n (.cons a (.cons b es)) := by
  intro W Y X k pos ks vs h
  unfold chkPs at h
  split at h
  · simp only [Bool.and_eq_true] at h
    obtain ⟨⟨h1, h2⟩, h3⟩ := h
    obtain ⟨trs, p1, p2, p3, p4⟩ := hs W Y X k pos _ _ h3
    refine ⟨_ :: trs, pps_cons (ha W Y X k _ h1).1 (hb W Y X k _ h2).1 p1, ?_, ?_, fun σ H Q hq => ?_⟩
    · rw [List.all_cons, p2]; rfl
    · rw [List.length_cons, List.length_cons, p3]
    · refine tE_mono (es_core hq) fun x H1 q1 => ?_
      refine tE_mono (es_core q1) fun y H2 q2 => ?_
      exact p4 σ H2 _ q2
  · cases h
theorem s_dct {es : Es} (hs : SPr t C n es) : SE t C n (.dct es) := by
  intro W Y X k e h
  unfold chkE at h
  split at h
  · rename_i ks vs pos
    simp only [Bool.and_eq_true, decide_eq_true_eq] at h
    obtain ⟨⟨h1, h2⟩, h3⟩ := h
    obtain ⟨trs, p1, p2, p3, p4⟩ := hs W Y X k pos _ _ h3
    refine pt_plain (PE.imp (pe_disp p1 p2 p3 (fun z => by rw [z] at h1; simp at h1) h2) fun σ H Q hq => ?_) (fun _ => rfl)
    obtain ⟨ρ, l, h, rp, rl, o⟩ := hq
    unfold evE at o
    intro p hp
    refine p4 σ _ _ ?_
    have s0 : Step t.K t.T ρ H (ρ ++ [p]) (h.new (.dct [])) (upd H p (.dK [])) := rp.new hp ⟨[], upd_same, rfl, .nil⟩ (fun _ z => by cases z)
    have eP : (ρ ++ [p])[h.n]? = some p := by rw [← rp.sz]; simp
    refine ⟨ρ ++ [p], l, h.new (.dct []), s0.rep, rl.step rp s0, ?_⟩
    have o0 := Out.step s0 o
    refine Outs.bind o0 fun xs h2 ρ2 H2 us e1 s2 q2 o2 => ?_
    have eP2 : ρ2[h.n]? = some p := pre_get s2.pre eP
    split at o2
    · rename_i kvs g1 g2
      obtain ⟨ws0, a1, a2, a3⟩ := s2.rep.at eP2 g1
      have ws0e : ws0 = [] := by
        cases ws0 with
        | nil => rfl
        | cons _ _ => simp at a2
      subst ws0e
      refine ⟨a1, ?_⟩
      split at o2
      · rename_i hl
        obtain ⟨ws, w1, w2, w3, w4⟩ := pairs_ok q2 g2
        refine ⟨ws, w1, ?_, ?_⟩
        · have := congrArg List.length w2
          rw [List.length_map, List.length_map] at this
          rw [← this]
          exact hl
        · rw [merge_new ws [] w4 (fun q _ => rfl), List.nil_append]
          have s3 := s2.rep.set eP2 (o := .dct kvs) (u := .dK ws) ⟨ws, upd_same, w2, w3.set s2.rep (List.mem_of_getElem? eP2)⟩
          exact o2 ρ2 _ _ s3 (.ref eP2)
      · exact o2.elim
    · exact o2.elim
  · cases h
/-! ### d.get -/
theorem isD_of {ρ : List Addr} {h : VH} {H : Hp} {m : Nat} {a : Addr} {kvs : List (Ky × D)} (rp : Rep t.K t.T ρ h H) (e : ρ[m]? = some a) (g : h.get m = some (.dct kvs)) : IsD H a := by
  obtain ⟨ws, h1, _⟩ := rp.at e g
  exact .inl ⟨ws, .inl h1⟩
theorem rcv_dct {m : Mth} {x : D} {h : VH} (hm : m = .get1 ∨ m = .get2) (e : rcvD m x h = true) : ∃ a kvs, x = .ref a ∧ h.get a = some (.dct kvs) := by
  cases x with
  | ref a =>
    have e' : (match h.get a with | some (.dct _) => true | _ => false) = true := by
      rcases hm with rfl | rfl <;> exact e
    cases g : h.get a with
    | none => rw [g] at e'; cases e'
    | some o =>
      rw [g] at e'
      cases o with
      | dct xs => exact ⟨a, xs, rfl, g⟩
      | _ => cases e'
  | _ => rcases hm with rfl | rfl <;> cases e
theorem get1_core {W : WX} {o a : E} {σ : L2.St} {H : Hp} {Q : VK} (h : tE t C (run C n) W (.mth .get1 o (.cons a .nil)) σ H Q) : tDGet1 (tE t C (run C n) W o) (tE t C (run C n) W a) σ H Q := by
  obtain ⟨ρ, l, h, rp, rl, o⟩ := h
  unfold evE at o
  refine ⟨ρ, l, h, rp, rl, Out.bind o fun x h1 ρ1 H1 v e1 s1 q1 o1 => ?_⟩
  by_cases hr : rcvD .get1 x h1 = true
  · rw [if_pos hr] at o1
    obtain ⟨m, kvs, rfl, g⟩ := rcv_dct (.inl rfl) hr
    cases q1 with
    | @ref m ad e2 =>
      refine ⟨ad, rfl, isD_of s1.rep e2 g, ?_⟩
      have t1 : tEs t C (run C n) W (.cons a .nil) σ H1 (fun us H2 => ∃ y ρ2 h2 x, us = [y] ∧ Step t.K t.T ρ1 H1 ρ2 h2 H2 ∧ RD t.K ρ2 H2 x y ∧ Out t W σ ρ2 H2 (get1D (.ref m) [x] h2) Q) := by
        refine ⟨ρ1, l, h1, s1.rep, rl.step rp s1, Outs.bind o1 fun xs h2 ρ2 H2 us e3 s2 q2 o2 => ?_⟩
        have hl := evEs_len e3
        cases q2 with
        | nil => cases hl
        | cons r1 q2 =>
          cases q2 with
          | cons _ _ => simp [Es.len] at hl
          | nil => exact ⟨_, ρ2, h2, _, rfl, s2, r1, o2⟩
      refine tE_mono (es_core t1) fun y H2 q2 => ?_
      obtain ⟨ρ', l', h', rp', rl', o'⟩ := q2
      unfold evEs at o'
      obtain ⟨y', ρ2, h2, x, ey, s2, rx, o2⟩ := o' ρ' H2 [] (Step.refl rp') .nil
      cases ey
      have e4 := pre_get s2.pre e2
      cases rx with
      | @str z hz =>
        have o2 : Out t W σ ρ2 H2 (match h2.get m with | some (.dct kvs) => .ok ((kvs.lookup (.str z)).getD .non) h2 | _ => .no) Q := o2
        cases g3 : h2.get m with
        | none => rw [g3] at o2; exact (show False from o2).elim
        | some ob =>
          rw [g3] at o2
          cases ob with
          | dct kvs =>
            obtain ⟨ws, b1, b2, b3⟩ := s2.rep.at e4 g3
            refine ⟨valV ws (.inr (sOf z)), .inl ⟨ws, .inr (sOf z), .inl b1, rfl, rfl⟩, ?_⟩
            rcases look_ok z b2 b3 with ⟨n1, n2⟩ | ⟨d, v, n1, n2, n3⟩
            · rw [n2]
              simp only [n1] at o2
              exact Out.here s2.rep o2 .non
            · rw [n2]
              simp only [n1] at o2
              exact Out.here s2.rep o2 n3
          | _ => exact (show False from o2).elim
      | _ => exact (show False from o2).elim
  · rw [if_neg hr] at o1
    exact o1.elim
theorem get2_core {W : WX} {o a b : E} {σ : L2.St} {H : Hp} {Q : VK} (h : tE t C (run C n) W (.mth .get2 o (.cons a (.cons b .nil))) σ H Q) : tDGet2 (tE t C (run C n) W o) (tE t C (run C n) W a) (tE t C (run C n) W b) σ H Q := by
  obtain ⟨ρ, l, h, rp, rl, o⟩ := h
  unfold evE at o
  refine ⟨ρ, l, h, rp, rl, Out.bind o fun x h1 ρ1 H1 v e1 s1 q1 o1 => ?_⟩
  by_cases hr : rcvD .get2 x h1 = true
  · rw [if_pos hr] at o1
    obtain ⟨m, kvs, rfl, g⟩ := rcv_dct (.inr rfl) hr
    cases q1 with
    | @ref m ad e2 =>
      refine ⟨ad, rfl, isD_of s1.rep e2 g, ?_⟩
      have t1 : tEs t C (run C n) W (.cons a (.cons b .nil)) σ H1 (fun us H2 => ∃ y z ρ2 h2 x x2, us = [y, z] ∧ Step t.K t.T ρ1 H1 ρ2 h2 H2 ∧ RD t.K ρ2 H2 x y ∧ RD t.K ρ2 H2 x2 z ∧ Out t W σ ρ2 H2 (get2D (.ref m) [x, x2] h2) Q) := by
        refine ⟨ρ1, l, h1, s1.rep, rl.step rp s1, Outs.bind o1 fun xs h2 ρ2 H2 us e3 s2 q2 o2 => ?_⟩
        have hl := evEs_len e3
        cases q2 with
        | nil => cases hl
        | cons r1 q2 =>
          cases q2 with
          | nil => cases hl
          | cons r2 q2 =>
            cases q2 with
            | cons _ _ => simp [Es.len] at hl
            | nil => exact ⟨_, _, ρ2, h2, _, _, rfl, s2, r1, r2, o2⟩
      refine tE_mono (es_core t1) fun y H2 q2 => ?_
      refine tE_mono (es_core q2) fun z H3 q3 => ?_
      obtain ⟨ρ', l', h', rp', rl', o'⟩ := q3
      unfold evEs at o'
      obtain ⟨y', z', ρ2, h2, x, x2, ey, s2, rx, rx2, o2⟩ := o' ρ' H3 [] (Step.refl rp') .nil
      cases ey
      have e4 := pre_get s2.pre e2
      cases rx with
      | @str w hz =>
        have o2 : Out t W σ ρ2 H3 (match h2.get m with | some (.dct kvs) => .ok ((kvs.lookup (.str w)).getD x2) h2 | _ => .no) Q := o2
        cases g3 : h2.get m with
        | none => rw [g3] at o2; exact (show False from o2).elim
        | some ob =>
          rw [g3] at o2
          cases ob with
          | dct kvs =>
            obtain ⟨ws, b1, b2, b3⟩ := s2.rep.at e4 g3
            refine ⟨valV ws (.inr (sOf w)), .inl ⟨ws, .inr (sOf w), .inl b1, rfl, rfl⟩, ?_⟩
            rcases look_ok w b2 b3 with ⟨n1, n2⟩ | ⟨d, v, n1, n2, n3⟩
            · rw [n2]
              simp only [n1] at o2
              exact Out.here s2.rep o2 rx2
            · rw [n2]
              simp only [n1] at o2
              exact Out.here s2.rep o2 n3
          | _ => exact (show False from o2).elim
      | _ => exact (show False from o2).elim
  · rw [if_neg hr] at o1
    exact o1.elim
theorem m1_ok {X : Cx} {o y : Expr} {p q : Pos} (hb : plainBase o = true) (hl : (p.endLine == q.line) = true) (hn : noStar y = true) : M1 X o "get" p y q := ⟨base_ok hb _ _, by rw [star_ok hn]; rfl, hl, by rw [star_ok hn]; rfl⟩
theorem m2_ok {X : Cx} {o y z : Expr} {p q : Pos} (hb : plainBase o = true) (hl : (p.endLine == q.line) = true) (hn : noStar y = true) (hz : noStar z = true) : M2 X o "get" p y z q :=
  ⟨base_ok hb _ _, by rw [star_ok hn, star_ok hz]; rfl, hl, by rw [star_ok hn, star_ok hz]; rfl⟩
end
end Ev

/-! Soundness of the checker: methods, written dicts, list comprehensions. -/
namespace Ev
open PySem PySem.Spec PyProof.Rows L2
section
variable {t : Tx} {C : Cfg} {n : Nat}
theorem rcv_list {m : Mth} {x : D} {h : VH} (hm : m = .append ∨ m = .pop ∨ m = .extend) (e : rcvD m x h = true) : ∃ a xs, x = .ref a ∧ h.get a = some (.lst xs) := by
  cases x with
  | ref a =>
    have e' : (match h.get a with | some (.lst _) => true | _ => false) = true := by
      rcases hm with rfl | rfl | rfl <;> exact e
    cases g : h.get a with
    | none => rw [g] at e'; cases e'
    | some o =>
      rw [g] at e'
      cases o with
      | lst xs => exact ⟨a, xs, rfl, g⟩
      | _ => cases e'
  | _ => rcases hm with rfl | rfl | rfl <;> cases e
theorem mth_core {W : WX} {m : Mth} {o : E} {as : Es} {σ : L2.St} {H : Hp} {Q : VK} (hm : m = .append ∨ m = .pop ∨ m = .extend) (h : tE t C (run C n) W (.mth m o as) σ H Q) : tBM t.K "list" (rMt t W (mthD m)) (tE t C (run C n) W o) (tEs t C (run C n) W as) σ H Q := by
  obtain ⟨ρ, l, h, rp, rl, o⟩ := h
  unfold evE at o
  refine ⟨ρ, l, h, rp, rl, Out.bind o fun x h1 ρ1 H1 v e1 s1 q1 o1 => ?_⟩
  by_cases hr : rcvD m x h1 = true
  · rw [if_pos hr] at o1
    obtain ⟨a, xs, rfl, g⟩ := rcv_list hm hr
    refine ⟨ty_of_mt s1.rep q1 g, ρ1, l, h1, s1.rep, rl.step rp s1, Outs.bind o1 fun ys h2 ρ2 H2 vs e2 s2 q2 o2 => ?_⟩
    exact ⟨σ, ρ2, h2, _, ys, s2.rep, s2.rd s1.rep q1, q2, o2⟩
  · rw [if_neg hr] at o1
    exact o1.elim
theorem s_mth {m : Mth} {o : E} {as : Es} (ho : SE t C n o) (hs : SA t C n as) (hq1 : ∀ a, as = .cons a .nil → SE t C n a) (hq2 : ∀ a b, as = .cons a (.cons b .nil) → SE t C n a ∧ SE t C n b) : SE t C n (.mth m o as) := by
  intro W Y X k e h
  unfold chkE at h
  split at h
  · simp only [Bool.and_eq_true, decide_eq_true_eq] at h
    obtain ⟨⟨⟨⟨⟨rfl, rfl⟩, hl⟩, hb⟩, h1⟩, h2⟩ := h
    split at h2
    · refine pt_plain (PE.imp (pe_bm0 PySem.F.plainAttrs_list PySem.F.slot_list_pop PySem.F.type_list_pop (mb_pop (t := t) (W := W)) (ho W Y X k _ h1).1 (base_ok hb _ _) hl) fun σ H Q h => ?_) (fun _ => rfl)
      obtain ⟨ρ, l, h, rp, rl, o⟩ := mth_core (.inr (.inl rfl)) h
      refine ⟨ρ, l, h, rp, rl, ?_⟩
      cases e1 : evE C (run C n) ‹E› l h with
      | no => rw [e1] at o; exact o
      | ex c p h' => rw [e1] at o; exact o
      | ok x h1 =>
        rw [e1] at o
        intro ρ1 H1 v s1 q1
        obtain ⟨ty, ρ2, l2, h2, rp2, rl2, o2⟩ := o ρ1 H1 v s1 q1
        unfold evEs at o2
        exact ⟨k.fa.hK ▸ ty, o2 ρ2 H1 [] (Step.refl rp2) .nil⟩
    · cases h2
  · rename_i x nm p y z q
    simp only [Bool.and_eq_true, decide_eq_true_eq] at h
    obtain ⟨⟨⟨⟨⟨⟨⟨rfl, rfl⟩, hl⟩, hb⟩, hn⟩, hz⟩, ho'⟩, he⟩ := h
    split at he
    · rw [Bool.and_eq_true] at he
      obtain ⟨sa, sb⟩ := hq2 _ _ rfl
      exact pt_plain (PE.imp (pe_dget2 (by have := k.room.units; omega) (ho W Y X k _ ho').1 (sa W Y X k _ he.1).1 (sb W Y X k _ he.2).1 (m2_ok hb hl hn hz)) fun σ H Q h => get2_core h) (fun _ => rfl)
    · cases he
  · rename_i x nm p y q
    split at h
    · rename_i hm
      subst hm
      simp only [Bool.and_eq_true, decide_eq_true_eq] at h
      obtain ⟨⟨⟨⟨⟨rfl, hl⟩, hb⟩, hn⟩, ho'⟩, he⟩ := h
      split at he
      · exact pt_plain (PE.imp (pe_dget1 (by have := k.room.units; omega) (ho W Y X k _ ho').1 (hq1 _ rfl W Y X k _ he).1 (m1_ok hb hl hn)) fun σ H Q h => get1_core h) (fun _ => rfl)
      · cases he
    simp only [Bool.and_eq_true, Bool.or_eq_true, decide_eq_true_eq] at h
    obtain ⟨⟨⟨⟨⟨⟨hm, rfl⟩, hl⟩, hb⟩, hn⟩, h1⟩, h2⟩ := h
    have few : ((backTo q (starEach [y] X.env)).all (fun x => !x.1) && (backToKw q (keywordEach [] X.env)).all (fun x => x.1.isSome) && decide (([y] : List Expr).length + ([] : List Keyword).length + (if ([] : List Keyword).isEmpty then 0 else 1) < 30)) = true := by
      rw [star_ok hn]
      rfl
    rcases hm with rfl | rfl
    · refine pt_plain (PE.imp (pe_bm (name := "append") PySem.F.plainAttrs_list PySem.F.slot_list_append PySem.F.type_list_append (mb_append (t := t) (W := W)) (ho W Y X k _ h1).1 (hs W Y X k _ h2) (base_ok hb _ _) few hl (star_ok hn _ _) rfl) fun σ H Q h => ?_) (fun _ => rfl)
      rw [k.fa.hK]
      exact mth_core (.inl rfl) h
    · refine pt_plain (PE.imp (pe_bm (name := "extend") PySem.F.plainAttrs_list PySem.F.slot_list_extend PySem.F.type_list_extend (mb_extend (t := t) (W := W) k.fa.hK) (ho W Y X k _ h1).1 (hs W Y X k _ h2) (base_ok hb _ _) few hl (star_ok hn _ _) rfl) fun σ H Q h => ?_) (fun _ => rfl)
      rw [k.fa.hK]
      exact mth_core (.inr (.inr rfl)) h
  · cases h
/-! ### written dicts -/
theorem s_kget {d : Nat} {a : E} (ha : SE t C n a) : SE t C n (.kget d a) := by
  intro W Y X k e h
  unfold chkE at h
  split at h
  · rename_i x px nm p y q
    simp only [Bool.and_eq_true, decide_eq_true_eq] at h
    obtain ⟨⟨⟨⟨⟨rfl, hl⟩, hn⟩, hg⟩, hk⟩, h1⟩ := h
    obtain ⟨g1, g2, _⟩ := k.gl hg
    obtain ⟨ad, es, m, kvs, e1, D, e2, f⟩ := k.fa.kds _ _ hk
    have m1 : M1 X (.Name x px) "get" p y q := ⟨rfl, by rw [star_ok hn]; rfl, hl, by rw [star_ok hn]; rfl⟩
    refine pt_plain (PE.imp (pe_kget D (pe_glob g1 e1 rfl g2) (ha W Y X k _ h1).1 m1) fun σ H Q h => ?_) (fun _ => rfl)
    obtain ⟨ρ, l, h, rp, rl, o⟩ := h
    unfold evE at o
    refine ⟨ρ, l, h, rp, rl, Out.bind o fun x h1 ρ1 H1 v e1 s1 q1 o1 => ?_⟩
    rw [e2] at o1
    cases q1 with
    | @str s hs =>
      obtain ⟨r, v, r1, r2, r3, r4⟩ := f s
      exact ⟨sOf s, r, v, rfl, r1, r3, Out.here s1.rep o1 (r4 ρ1 H1)⟩
    | _ => exact (show False from o1).elim
  · cases h
theorem kin_core {W : WX} {X : Cx} {d : Nat} {a : E} {σ : L2.St} {H : Hp} {Q : VK} {ad : Addr} {kvs : List (List Nat × D)} (e2 : C.kds[d]? = some kvs)
    (f : ∀ s : List Nat, ∃ r v, PySem.W.nsIn X.K ad (sOf s) = some r ∧ r.isSome = (kvs.lookup s).isSome ∧ RelV v (r.getD .none) ∧ ∀ ρ H, RD t.K ρ H ((kvs.lookup s).getD .non) v)
    (h : tE t C (run C n) W (.kin d a) σ H Q) : tOp (fun x y H Q => ∃ (z : Str) (r : Option Value), x = .str z ∧ y = .ref ad ∧ PySem.W.nsIn X.K ad z = some r ∧ Q (.bl r.isSome) H) (tE t C (run C n) W a) (tC (.ref ad)) σ H Q := by
  obtain ⟨ρ, l, h, rp, rl, o⟩ := h
  unfold evE at o
  refine ⟨ρ, l, h, rp, rl, Out.bind o fun x h1 ρ1 H1 v e1 s1 q1 o1 => ?_⟩
  rw [e2] at o1
  cases q1 with
  | @str s hs =>
    obtain ⟨r, v, r1, r2, r3, r4⟩ := f s
    refine ⟨sOf s, r, rfl, rfl, r1, ?_⟩
    rw [r2]
    exact Out.here s1.rep o1 (.bl _)
  | _ => exact (show False from o1).elim
theorem s_kin {d : Nat} {a : E} (ha : SE t C n a) : SE t C n (.kin d a) := by
  intro W Y X k e h
  unfold chkE at h
  split at h
  · rename_i y x px p
    simp only [Bool.and_eq_true, decide_eq_true_eq] at h
    obtain ⟨⟨hg, hk⟩, h1⟩ := h
    obtain ⟨g1, g2, _⟩ := k.gl hg
    obtain ⟨ad, es, m, kvs, e1, D, e2, f⟩ := k.fa.kds _ _ hk
    exact ⟨PE.imp (pe_cmpR (op_in_kd D) (ha W Y X k _ h1).1 (pe_glob (v := .ref ad) g1 e1 rfl g2) rfl) fun σ H Q h => kin_core e2 f h,
      PT.imp (pt_cmpR (op_in_kd D) (ha W Y X k _ h1).1 (pe_glob (v := .ref ad) g1 e1 rfl g2) rfl) fun σ H Q h => kin_core e2 f h⟩
  · cases h
/-! ### walking what is a list, a tuple, a text -/
def iAny (K : PySem.W.Frag) (te : TE) : TI := fun σ H R => te σ H fun x H1 => (∃ a, x = .ref a ∧ ((∃ xs, SqL K H1 a xs) ∧ R (Itl K a) H1 ∨ (∃ xs, SqT K H1 a xs) ∧ R (Itt K a) H1)) ∨ ∃ z, x = .str z ∧ R (Its z) H1
theorem pi_any {X : Cx} {tg e : Expr} {te : TE} (he : PE X e te) : PI X tg e (iAny X.K te) := by
  refine ⟨fun pins s σ H R I h => ?_⟩
  refine thn (he.run pins s σ H _ I h) fun v s1 ⟨x, H1, I1, r1, q1⟩ => ?_
  rcases q1 with ⟨a, e, (⟨⟨xs, hq⟩, q⟩ | ⟨⟨xs, hq⟩, q⟩)⟩ | ⟨z, e, q⟩
  · subst e
    cases r1
    obtain ⟨its, rv, p, hz⟩ := I1.list hq
    refine wpAny_pyIter_list p.isList ?_
    refine ⟨s1.heap.objs.size, [s1.heap.objs.size], _, _, H1, rfl, I1.kept (t' := s1.toks) fun b o e => Heap.get?_push_of_some _ e, turn_list a _, ⟨_, Heap.get?_push_size _ rfl, rfl, rfl⟩, fun b hb => ?_, q⟩
    have e : b = s1.heap.objs.size := by simpa using hb
    subst e
    exact I1.fpOk (Nat.le_refl _) (I1.hok.fresh (Nat.le_refl _))
  · subst e
    cases r1
    obtain ⟨its, rv, p, hz⟩ := I1.tuple hq
    refine wpAny_pyIter_tuple (show s1.heap.IsTuple a its.toArray from p) ?_
    refine ⟨s1.heap.objs.size, [s1.heap.objs.size], _, _, H1, rfl, I1.kept (t' := s1.toks) fun b o e => Heap.get?_push_of_some _ e, turn_tuple a _, ⟨_, Heap.get?_push_size _ rfl, rfl, rfl⟩, fun b hb => ?_, q⟩
    have e : b = s1.heap.objs.size := by simpa using hb
    subst e
    exact I1.fpOk (Nat.le_refl _) (I1.hok.fresh (Nat.le_refl _))
  · subst e
    obtain ⟨t, rfl⟩ := r1
    cases ha : z.cps.all (· < 128)
    · exact wpAny_pyIter_wide ha (pi_one (tk := s1.toks) I1 _ (turn_str _ z t "str_iterator" (.inr rfl)) ⟨_, Heap.get?_push_size _ rfl, rfl, rfl⟩ q)
    · exact wpAny_pyIter_ascii ha (pi_one (tk := s1.toks) I1 _ (turn_str _ z t "str_ascii_iterator" (.inl rfl)) ⟨_, Heap.get?_push_size _ rfl, rfl, rfl⟩ q)
/-- a walk J of cu, from here on -/
def WkC (t : Tx) (cu : Cu) (J : It) (ρ0 : List Addr) (H0 : Hp) : Prop := ∀ (i : Nat) (ρ : List Addr) (h : VH) (H : Hp), Step t.K t.T ρ0 H0 ρ h H →
  (cu.next i h = some none → J.stop i H) ∧ ∀ y, cu.next i h = some (some y) → J.go i H ∧ ∀ x' H', J.yld i H x' H' → Step t.K t.T ρ H ρ h H' ∧ RD t.K ρ H' y x'
def OutI (t : Tx) (W : WX) (σ : L2.St) (ρ : List Addr) (H : Hp) : R Cu → (It → Hp → Prop) → Prop
  | .ok cu h', R' => ∀ ρ' H' J, Step t.K t.T ρ H ρ' h' H' → WkC t cu J ρ' H' → R' J H'
  | .ex c p h', _ => ∀ ρ' H' cls d, Step t.K t.T ρ H ρ' h' H' → RX t.K t.cl t.fl ρ' H' c p cls d → W cls d σ H'
  | .no, _ => False
def tI (t : Tx) (C : Cfg) (call : Call) (W : WX) (it : I) : TI := fun σ H R' => ∃ ρ l h, Rep t.K t.T ρ h H ∧ RL t ρ H l σ ∧ OutI t W σ ρ H (evI C call it l h) R'
theorem OutI.step {W : WX} {σ : L2.St} {ρ ρ1 : List Addr} {H H1 : Hp} {h1 : VH} {r : R Cu} {R' : It → Hp → Prop} (s : Step t.K t.T ρ H ρ1 h1 H1) (o : OutI t W σ ρ H r R') : OutI t W σ ρ1 H1 r R' := by
  cases r with
  | ok d h' => exact fun ρ' H' v s' q => o ρ' H' v (s.trans s') q
  | ex c p h' => exact fun ρ' H' cls d s' q => o ρ' H' cls d (s.trans s') q
  | no => exact o
theorem OutI.bind {W : WX} {σ : L2.St} {ρ : List Addr} {H : Hp} {r : R D} {f : D → VH → R Cu} {R' : It → Hp → Prop} {Q' : VK} (o : OutI t W σ ρ H (r.bind f) R')
    (k : ∀ d h1 ρ1 H1 v, Step t.K t.T ρ H ρ1 h1 H1 → RD t.K ρ1 H1 d v → OutI t W σ ρ1 H1 (f d h1) R' → Q' v H1) : Out t W σ ρ H r Q' := by
  cases r with
  | ok d h' => exact fun ρ' H' v s q => k d h' ρ' H' v s q (OutI.step s o)
  | ex c p h' => exact o
  | no => exact o
/-! walks -/
section
variable {ρ0 : List Addr} {h0 : VH} {H0 : Hp} {a : Addr}
theorem wk_tup {xs : List D} {vs : List V} (r0 : Rep t.K t.T ρ0 h0 H0) (hs : SqT t.K H0 a vs) (q : RDs t.K ρ0 H0 xs vs) : WkC t (.fix xs) (Itt t.K a) ρ0 H0 := by
  intro i ρ h H s
  have hs' := Step.tupK r0 s.fr hs
  have q' := s.rds r0 q
  refine ⟨fun e1 => ⟨vs, hs', ?_⟩, fun y e1 => ?_⟩
  · rw [← q.length]
    exact List.getElem?_eq_none_iff.mp (Option.some.inj e1)
  · obtain ⟨v, e2, r⟩ := q'.get (Option.some.inj e1)
    refine ⟨⟨vs, v, hs', e2⟩, fun x' H' hy => ?_⟩
    obtain ⟨rfl, hy⟩ := hy
    have e3 := hy vs hs'
    rw [e2] at e3
    cases e3
    exact ⟨Step.refl s.rep, r⟩
theorem wk_fro {xs : List D} {vs : List V} (r0 : Rep t.K t.T ρ0 h0 H0) (hs : FL t.K ρ0 H0 a vs) (q : RDs t.K ρ0 H0 xs vs) : WkC t (.fix xs) (Itl t.K a) ρ0 H0 := by
  intro i ρ h H s
  have hs' := (Step.lstK s.fr s.fresh hs).sq
  have q' := s.rds r0 q
  refine ⟨fun e1 => ⟨vs, hs', ?_⟩, fun y e1 => ?_⟩
  · rw [← q.length]
    exact List.getElem?_eq_none_iff.mp (Option.some.inj e1)
  · obtain ⟨v, e2, r⟩ := q'.get (Option.some.inj e1)
    refine ⟨⟨vs, v, hs', e2⟩, fun x' H' hy => ?_⟩
    obtain ⟨rfl, hy⟩ := hy
    have e3 := hy vs hs'
    rw [e2] at e3
    cases e3
    exact ⟨Step.refl s.rep, r⟩
theorem wk_live {m : Nat} (e0 : ρ0[m]? = some a) : WkC t (.live m) (Itl t.K a) ρ0 H0 := by
  intro i ρ h H s
  have e1 := pre_get s.pre e0
  cases g : h.get m with
  | none => exact ⟨fun e => (by simp only [Cu.next, g] at e; cases e), fun y e => (by simp only [Cu.next, g] at e; cases e)⟩
  | some o =>
    cases o with
    | lst xs =>
      obtain ⟨vs, h1, q⟩ := s.rep.at e1 g
      refine ⟨fun e => ⟨vs, .inl (.inl h1), ?_⟩, fun y e => ?_⟩
      · simp only [Cu.next, g] at e
        rw [← q.length]
        exact List.getElem?_eq_none_iff.mp (Option.some.inj e)
      · simp only [Cu.next, g] at e
        obtain ⟨v, e2, r⟩ := q.get (Option.some.inj e)
        refine ⟨⟨vs, v, .inl (.inl h1), e2⟩, fun x' H' hy => ?_⟩
        obtain ⟨rfl, hy⟩ := hy
        have e3 := hy vs (.inl (.inl h1))
        rw [e2] at e3
        cases e3
        exact ⟨Step.refl s.rep, r⟩
    | _ => exact ⟨fun e => (by simp only [Cu.next, g] at e; cases e), fun y e => (by simp only [Cu.next, g] at e; cases e)⟩
theorem wk_str {s : List Nat} (hv : ∀ c ∈ s, c < 1114112) : WkC t (.fix (s.map fun c => D.str [c])) (Its (sOf s)) ρ0 H0 := by
  intro i ρ h H st
  have sz : (sOf s).cps.size = s.length := by simp [sOf]
  refine ⟨fun e1 => ?_, fun y e1 => ?_⟩
  · have e1 := Option.some.inj e1
    rw [List.getElem?_map, Option.map_eq_none_iff, List.getElem?_eq_none_iff] at e1
    show (sOf s).cps.size ≤ i
    rw [sz]
    exact e1
  · have e1 := Option.some.inj e1
    rw [List.getElem?_map, Option.map_eq_some_iff] at e1
    obtain ⟨c, e2, rfl⟩ := e1
    have hl := (List.getElem?_eq_some_iff.mp e2).1
    refine ⟨by show i < (sOf s).cps.size; rw [sz]; exact hl, fun x' H' hy => ?_⟩
    obtain ⟨rfl, c', e3, rfl⟩ := hy
    have e4 : (sOf s).cps[i]? = some c := by
      rw [← Array.getElem?_toList]
      simpa [sOf] using e2
    rw [e4] at e3
    cases e3
    refine ⟨Step.refl st.rep, ?_⟩
    have r : RD t.K ρ H' (.str [c]) (.str (sOf [c])) := .str (fun x hx => by rw [List.mem_singleton.mp hx]; exact hv c (List.mem_of_getElem? e2))
    exact r
theorem wk_rng {lo : Int} {m : Nat} : WkC t (.rng lo m) (Itr lo m) ρ0 H0 := by
  intro i ρ h H st
  refine ⟨fun e1 => ?_, fun y e1 => ?_⟩
  · simp only [Cu.next] at e1
    split at e1
    · cases e1
    · exact Nat.le_of_not_lt (by assumption)
  · simp only [Cu.next] at e1
    split at e1
    · cases e1
      refine ⟨by assumption, fun x' H' hy => ?_⟩
      obtain ⟨rfl, rfl⟩ := hy
      exact ⟨Step.refl st.rep, .int _⟩
    · cases e1
theorem wk_enS {s : List Nat} (hv : ∀ c ∈ s, c < 1114112) : WkC t (.enS s) (IteS (sOf s)) ρ0 H0 := by
  intro i ρ h H st
  have sz : (sOf s).cps.size = s.length := by simp [sOf]
  refine ⟨fun e1 => ?_, fun y e1 => ?_⟩
  · have e1 := Option.some.inj e1
    rw [Option.map_eq_none_iff, List.getElem?_eq_none_iff] at e1
    show (sOf s).cps.size ≤ i
    rw [sz]
    exact e1
  · have e1 := Option.some.inj e1
    rw [Option.map_eq_some_iff] at e1
    obtain ⟨c, e2, rfl⟩ := e1
    have hl := (List.getElem?_eq_some_iff.mp e2).1
    refine ⟨by show i < (sOf s).cps.size; rw [sz]; exact hl, fun x' H' hy => ?_⟩
    obtain ⟨T, c', rfl, hT, rfl, e3⟩ := hy
    have e4 : (sOf s).cps[i]? = some c := by
      rw [← Array.getElem?_toList]
      simpa [sOf] using e2
    rw [e4] at e3
    cases e3
    have r : ∀ H', RD t.K ρ H' (.str [c]) (.str (sOf [c])) := fun H' => .str (fun x hx => by rw [List.mem_singleton.mp hx]; exact hv c (List.mem_of_getElem? e2))
    exact ⟨st.rep.newT hT, .tup (.inl (.inl upd_same)) (.cons (.int _) (.cons (r _) .nil))⟩
theorem wk_enL {m : Nat} (e0 : ρ0[m]? = some a) : WkC t (.enL m) (Ite t.K a) ρ0 H0 := by
  intro i ρ h H s
  have e1 := pre_get s.pre e0
  cases g : h.get m with
  | none => exact ⟨fun e => (by simp only [Cu.next, g] at e; cases e), fun y e => (by simp only [Cu.next, g] at e; cases e)⟩
  | some o =>
    cases o with
    | lst xs =>
      obtain ⟨vs, h1, q⟩ := s.rep.at e1 g
      refine ⟨fun e => ⟨vs, .inl (.inl h1), ?_⟩, fun y e => ?_⟩
      · simp only [Cu.next, g] at e
        have e := Option.some.inj e
        rw [Option.map_eq_none_iff, List.getElem?_eq_none_iff] at e
        rw [← q.length]
        exact e
      · simp only [Cu.next, g] at e
        have e' := Option.some.inj e
        rw [Option.map_eq_some_iff] at e'
        obtain ⟨y0, e', rfl⟩ := e'
        obtain ⟨v, e2, r⟩ := q.get e'
        refine ⟨⟨vs, v, .inl (.inl h1), e2⟩, fun x' H' hy => ?_⟩
        obtain ⟨T, x, rfl, hT, rfl, hy⟩ := hy
        have e3 := hy vs (.inl (.inl h1))
        rw [e2] at e3
        cases e3
        exact ⟨s.rep.newT hT, .tup (.inl (.inl upd_same)) (.cons (.int _) (.cons (r.newT hT) .nil))⟩
    | _ => exact ⟨fun e => (by simp only [Cu.next, g] at e; cases e), fun y e => (by simp only [Cu.next, g] at e; cases e)⟩
theorem get_rev {α : Type} {xs : List α} {i : Nat} (hi : i < xs.length) : xs.reverse[i]? = xs[xs.length - 1 - i]? := by
  rw [List.getElem?_reverse hi]
theorem wk_revT {xs : List D} {vs : List V} (r0 : Rep t.K t.T ρ0 h0 H0) (hs : SqT t.K H0 a vs) (q : RDs t.K ρ0 H0 xs vs) : WkC t (.fix xs.reverse) (RT.ItvT t.K a vs.length) ρ0 H0 := by
  intro i ρ h H s
  have hs' := Step.tupK r0 s.fr hs
  have q' := s.rds r0 q
  refine ⟨fun e1 => ?_, fun y e1 => ?_⟩
  · show vs.length ≤ i
    rw [← q.length, ← List.length_reverse]
    exact List.getElem?_eq_none_iff.mp (Option.some.inj e1)
  · have e1 := Option.some.inj e1
    have hl := (List.getElem?_eq_some_iff.mp e1).1
    rw [List.length_reverse] at hl
    rw [get_rev hl] at e1
    obtain ⟨v, e2, r⟩ := q'.get e1
    rw [q.length] at e2 hl
    refine ⟨⟨hl, vs, v, hs', e2⟩, fun x' H' hy => ?_⟩
    obtain ⟨rfl, hy⟩ := hy
    have e3 := hy vs hs'
    rw [e2] at e3
    cases e3
    exact ⟨Step.refl s.rep, r⟩
theorem wk_revL {xs : List D} {vs : List V} (r0 : Rep t.K t.T ρ0 h0 H0) (hs : FL t.K ρ0 H0 a vs) (q : RDs t.K ρ0 H0 xs vs) : WkC t (.fix xs.reverse) (Itv t.K a vs.length) ρ0 H0 := by
  intro i ρ h H s
  have hs' := (Step.lstK s.fr s.fresh hs).sq
  have q' := s.rds r0 q
  refine ⟨fun e1 => ?_, fun y e1 => ?_⟩
  · show vs.length ≤ i
    rw [← q.length, ← List.length_reverse]
    exact List.getElem?_eq_none_iff.mp (Option.some.inj e1)
  · have e1 := Option.some.inj e1
    have hl := (List.getElem?_eq_some_iff.mp e1).1
    rw [List.length_reverse] at hl
    rw [get_rev hl] at e1
    obtain ⟨v, e2, r⟩ := q'.get e1
    rw [q.length] at e2 hl
    refine ⟨⟨hl, vs, v, hs', e2⟩, fun x' H' hy => ?_⟩
    obtain ⟨rfl, hy⟩ := hy
    have e3 := hy vs hs'
    rw [e2] at e3
    cases e3
    exact ⟨Step.refl s.rep, r⟩
end
theorem isLst_ok {ρ : List Addr} {h : VH} {H : Hp} {m : Nat} {a : Addr} (rp : Rep t.K t.T ρ h H) (e : ρ[m]? = some a) (g : isLst h m = true) : ∃ vs, SqL t.K H a vs := by
  unfold isLst at g
  split at g
  · rename_i g2
    obtain ⟨vs, h1, _⟩ := rp.at e g2
    exact ⟨vs, .inl (.inl h1)⟩
  · cases g
/-! ### enumerate of a list or a text -/
def iEnA (K : PySem.W.Frag) (te : TE) : TI := fun σ H R => te σ H fun v H1 => (∃ a xs, v = .ref a ∧ SqL K H1 a xs ∧ R (Ite K a) H1) ∨ ∃ x, v = .str x ∧ R (IteS x) H1
theorem pi_enA {X : Cx} {e : Expr} {te : TE} {p pos tpos : Pos} {elts : List Expr} {kk : Nat} (hg : Gl X "enumerate") (hm : X.mg "enumerate" = none) (he : PE X e te) (hs : starEach [e] X.env = (false, eval e X.env) :: starEach [] X.env) :
    PI X (.Tuple elts kk tpos) (.Call (.Name "enumerate" p) [e] [] pos) (iEnA X.K te) := by
  refine ⟨fun pins s σ H R I h => ?_⟩
  refine Call_ (ld_blt I hg hm boot_enumerate (PyProof.Rows.callWith_type1 (args_cons (thn (he.run pins s σ H _ I h) fun u s1 ⟨v, H1, I1, r1, q1⟩ => args_nil ?_) hs) hs rfl))
  have two : ∀ b, b ∈ [s1.heap.objs.size + 1, s1.heap.objs.size] → FpOk X pins H1 b := fun b hb => by
    have e' : b = s1.heap.objs.size + 1 ∨ b = s1.heap.objs.size := by simpa using hb
    have hle : s1.heap.objs.size ≤ b := by
      rcases e' with z | z
      · rw [z]; exact Nat.le_add_right _ _
      · rw [z]; exact Nat.le_refl _
    exact I1.fpOk hle (I1.hok.fresh hle)
  rcases q1 with ⟨a, xs, ex, hq, q⟩ | ⟨x, ex, q⟩
  · subst ex
    obtain rfl : u = Value.ref a := r1
    obtain ⟨its, rv, p', hz⟩ := I1.list hq
    refine call_enumerate_list p'.isList fun h' he hit hsz hk => wpAny_pyIter_enum he ?_
    have I2 : Inv X pins σ H1 { s1 with heap := h' } := I1.kept (t' := s1.toks) hk
    exact ⟨s1.heap.objs.size + 1, [s1.heap.objs.size + 1, s1.heap.objs.size], _, _, H1, rfl, I2, turn_enum a (s1.heap.objs.size + 1) s1.heap.objs.size, ⟨⟨.none, he⟩, hit, Nat.succ_ne_self _⟩, two, q⟩
  · subst ex
    obtain ⟨t, rfl⟩ := r1
    refine call_enumerate_str fun h' he hit hsz hk => wpAny_pyIter_enum he ?_
    have I2 : Inv X pins σ H1 { s1 with heap := h' } := I1.kept (t' := s1.toks) hk
    exact ⟨s1.heap.objs.size + 1, [s1.heap.objs.size + 1, s1.heap.objs.size], _, _, H1, rfl, I2, turn_enumS x t (s1.heap.objs.size + 1) s1.heap.objs.size, ⟨⟨.none, he⟩, hit, Nat.succ_ne_self _, Nat.zero_le _⟩, two, q⟩
theorem PI.imp {X : Cx} {tg e : Expr} {u v : TI} (p : PI X tg e u) (w : ∀ σ H Q, v σ H Q → u σ H Q) : PI X tg e v := ⟨fun pins s σ H Q I h => p.run pins s σ H Q I (w σ H Q h)⟩
def SI (t : Tx) (C : Cfg) (n : Nat) (it : I) : Prop := ∀ W Y X tg, Ok t C n W Y X → ∀ e, chkI Y tg it e = true → PI X tg e (tI t C (run C n) W it)
theorem si_fix {a : E} (ha : SE t C n a) : SI t C n (.fix a) := by
  intro W Y X tg k e h
  unfold chkI at h
  refine PI.imp (pi_any (ha W Y X k _ h).1) fun σ H R' hq => ?_
  obtain ⟨ρ, l, h, rp, rl, o⟩ := hq
  unfold evI at o
  rw [k.fa.hK]
  refine ⟨ρ, l, h, rp, rl, OutI.bind o fun x h1 ρ1 H1 v s1 q1 o1 => ?_⟩
  cases q1 with
  | tup hs q => exact .inl ⟨_, rfl, .inr ⟨⟨_, hs⟩, o1 ρ1 H1 _ (Step.refl s1.rep) (wk_tup s1.rep hs q)⟩⟩
  | fro hs q => exact .inl ⟨_, rfl, .inl ⟨⟨_, hs.sq⟩, o1 ρ1 H1 _ (Step.refl s1.rep) (wk_fro s1.rep hs q)⟩⟩
  | @ref m a e1 =>
    by_cases hl : isLst h1 m = true
    · simp only [if_pos hl] at o1
      exact .inl ⟨_, rfl, .inl ⟨isLst_ok s1.rep e1 hl, o1 ρ1 H1 _ (Step.refl s1.rep) (wk_live e1)⟩⟩
    · simp only [if_neg hl] at o1
      exact o1.elim
  | str hv => exact .inr ⟨_, rfl, o1 ρ1 H1 _ (Step.refl s1.rep) (wk_str hv)⟩
  | _ => exact (show False from o1).elim
theorem si_rng {lo hi : E} (hl : SE t C n lo) (hh : SE t C n hi) : SI t C n (.rng lo hi) := by
  intro W Y X tg k e h
  unfold chkI at h
  split at h
  · simp only [Bool.and_eq_true, decide_eq_true_eq] at h
    obtain ⟨⟨⟨⟨rfl, h2⟩, h3⟩, h4⟩, h5⟩ := h
    obtain ⟨g1, g2, g3, g4⟩ := k.blt h2
    have hn := star_ok h3 [] X.env
    split at h4
    · refine PI.imp (pi_range1 g1 g2 (pa_cons (hh W Y X k _ h5).1 pa_nil hn) hn) fun σ H R' hq => ?_
      obtain ⟨ρ, l, h, rp, rl, o⟩ := hq
      unfold evI at o
      have o : OutI t W σ ρ H ((evE C (run C n) hi l h).bind fun y h2 => match D.int 0, y with
        | .int i, .int j => if -(2 ^ 62) ≤ i ∧ i < 2 ^ 62 ∧ -(2 ^ 62) ≤ j ∧ j < 2 ^ 62 then .ok (.rng i (j - i).toNat) h2 else .no
        | _, _ => .no) R' := o
      refine ⟨ρ, l, h, rp, rl, OutI.bind o fun x h1 ρ1 H1 v s1 q1 o1 => ?_⟩
      cases q1 with
      | int j =>
        simp only at o1
        split at o1
        · rename_i c
          refine ⟨j, rfl, c.2.2.1, c.2.2.2, o1 ρ1 H1 _ (Step.refl s1.rep) ?_⟩
          rw [Int.sub_zero]
          exact wk_rng
        · exact o1.elim
      | _ => exact (show False from o1).elim
    · cases h4
  · simp only [Bool.and_eq_true, decide_eq_true_eq] at h
    obtain ⟨⟨⟨⟨⟨rfl, h2⟩, h3⟩, h4⟩, h5⟩, h6⟩ := h
    obtain ⟨g1, g2, g3, g4⟩ := k.blt h2
    rename_i a b p
    have hn1 : starEach [b] X.env = [(false, eval b X.env)] := star_ok h4 [] X.env
    have hn : starEach [a, b] X.env = [(false, eval a X.env), (false, eval b X.env)] := by rw [star_ok h3 [b] X.env, hn1]
    refine PI.imp (pi_range2 g1 g2 (pa_cons (hl W Y X k _ h5).1 (pa_cons (hh W Y X k _ h6).1 pa_nil hn1) (star_ok h3 _ _)) hn hn1) fun σ H R' hq => ?_
    obtain ⟨ρ, l, h, rp, rl, o⟩ := hq
    unfold evI at o
    refine ⟨ρ, l, h, rp, rl, OutI.bind o fun x h1 ρ1 H1 v s1 q1 o1 => ?_⟩
    refine ⟨ρ1, l, h1, s1.rep, rl.step rp s1, OutI.bind o1 fun y h2 ρ2 H2 u s2 q2 o2 => ?_⟩
    cases q1 with
    | int i =>
      cases q2 with
      | int j =>
        simp only at o2
        split at o2
        · rename_i c
          exact ⟨i, j, rfl, c, o2 ρ2 H2 _ (Step.refl s2.rep) wk_rng⟩
        · exact o2.elim
      | _ => exact (show False from o2).elim
    | _ => exact (show False from o2).elim
  · cases h
theorem si_enum {a : E} (ha : SE t C n a) : SI t C n (.enum a) := by
  intro W Y X tg k e h
  unfold chkI at h
  split at h
  · simp only [Bool.and_eq_true, decide_eq_true_eq] at h
    obtain ⟨⟨⟨⟨h1, rfl⟩, h2⟩, h3⟩, h4⟩ := h
    obtain ⟨g1, g2, g3, g4⟩ := k.blt h2
    cases tg with
    | Tuple elts kk tpos =>
      refine PI.imp (pi_enA g1 g2 (ha W Y X k _ h4).1 (star_ok h3 _ _)) fun σ H R' hq => ?_
      obtain ⟨ρ, l, h, rp, rl, o⟩ := hq
      unfold evI at o
      rw [k.fa.hK]
      refine ⟨ρ, l, h, rp, rl, OutI.bind o fun x h1 ρ1 H1 v s1 q1 o1 => ?_⟩
      cases q1 with
      | str hv => exact .inr ⟨_, rfl, o1 ρ1 H1 _ (Step.refl s1.rep) (wk_enS hv)⟩
      | @ref m a e1 =>
        by_cases hl : isLst h1 m = true
        · simp only [if_pos hl] at o1
          obtain ⟨vs, hs⟩ := isLst_ok s1.rep e1 hl
          exact .inl ⟨_, vs, rfl, hs, o1 ρ1 H1 _ (Step.refl s1.rep) (wk_enL e1)⟩
        · simp only [if_neg hl] at o1
          exact o1.elim
      | _ => exact (show False from o1).elim
    | _ => cases h1
  · cases h
theorem si_rev {a : E} (ha : SE t C n a) : SI t C n (.rev a) := by
  intro W Y X tg k e h
  unfold chkI at h
  split at h
  · simp only [Bool.and_eq_true, decide_eq_true_eq] at h
    obtain ⟨⟨⟨rfl, h2⟩, h3⟩, h4⟩ := h
    obtain ⟨g1, g2, g3, g4⟩ := k.blt h2
    refine PI.imp (RT.pi_revA g1 g2 (ha W Y X k _ h4).1 (star_ok h3 _ _)) fun σ H R' hq => ?_
    obtain ⟨ρ, l, h, rp, rl, o⟩ := hq
    unfold evI at o
    rw [k.fa.hK]
    refine ⟨ρ, l, h, rp, rl, OutI.bind o fun x h1 ρ1 H1 v s1 q1 o1 => ?_⟩
    cases q1 with
    | tup hs q => exact ⟨_, _, rfl, .inr ⟨hs, o1 ρ1 H1 _ (Step.refl s1.rep) (wk_revT s1.rep hs q)⟩⟩
    | fro hs q => exact ⟨_, _, rfl, .inl ⟨hs.sq, o1 ρ1 H1 _ (Step.refl s1.rep) (wk_revL s1.rep hs q)⟩⟩
    | _ => exact (show False from o1).elim
  · cases h
theorem wipe_one (σ : L2.St) (i : Nat) (x : V) : (wipe σ [i]).set i (some x) = σ.set i (some x) := by
  show (σ.set i none).set i (some x) = _
  rw [List.set_set]
/-- the body of [.. for slot i ..] at an item -/
def lcF (C : Cfg) (n : Nat) (l : Lc) (i : Nat) (c a : E) : D → VH → R (Option D) := fun y h2 => (evE C (run C n) c (l.set i (some y)) h2).bind fun b h3 => match b with
  | .bl true => (evE C (run C n) a (l.set i (some y)) h3).bind fun z h4 => .ok (some z) h4
  | .bl false => .ok none h3
  | _ => .no
theorem lc_core {W : WX} {i : Nat} {it : I} {c a : E} {tt : TT} (htt : ∀ σ2 H2 K, tB (tE t C (run C n) (fun _ _ _ _ => False) c) σ2 H2 K → tt σ2 H2 K) {σ : L2.St} {H : Hp} {Q : VK} (hq : tE t C (run C n) W (.lc [i] it c a) σ H Q) :
    tLc (tI t C (run C n) W it) (gName i) tt (tE t C (run C n) (fun _ _ _ _ => False) a) [i] σ H Q := by
  obtain ⟨ρ, l, h, rp, rl, o⟩ := hq
  have o : Out t W σ ρ H ((evI C (run C n) it l h).bind fun cu h1 => lcGo (lcF C n l i c a) cu h1.n loopFuel 0 (h1.new (.lst []))) Q := by
    rw [evE] at o
    exact o
  refine ⟨ρ, l, h, rp, rl, ?_⟩
  cases e0 : evI C (run C n) it l h with
  | no => rw [e0] at o; exact o
  | ex c p h' => rw [e0] at o; exact o
  | ok cu h1 =>
    rw [e0] at o
    intro ρ1 H1 J s1 wk
    have o1 : Out t W σ ρ1 H1 (lcGo (lcF C n l i c a) cu h1.n loopFuel 0 (h1.new (.lst []))) Q := Out.step s1 o
    have rl1 := rl.step rp s1
    intro D hD
    refine ⟨fun j m H' => ∃ ρ' h', Step t.K t.T ρ1 H1 ρ' h' H' ∧ ρ'[h1.n]? = some D ∧ Out t W σ ρ' H' (lcGo (lcF C n l i c a) cu h1.n m j h') Q, ⟨loopFuel, ρ1 ++ [D], h1.new (.lst []), s1.rep.newL hD .nil, by rw [← s1.rep.sz]; simp, Out.step (s1.rep.newL hD .nil) o1⟩, ?_⟩
    rintro j m H' ⟨ρ', h', s', eD, o'⟩
    cases m with
    | zero => exact (show False from o').elim
    | succ m =>
      rw [lcGo] at o'
      obtain ⟨w1, w2⟩ := wk j ρ' h' H' s'
      cases e3 : cu.next j h' with
      | none => rw [e3] at o'; exact (show False from o').elim
      | some it =>
        rw [e3] at o'
        cases it with
        | none => exact .inl ⟨w1 e3, Out.here s'.rep o' (.ref eD)⟩
        | some y' =>
          simp only at o'
          obtain ⟨w3, w4⟩ := w2 y' e3
          refine .inr ⟨w3, fun H'' => ∃ ρ' h', Step t.K t.T ρ1 H1 ρ' h' H'' ∧ ρ'[h1.n]? = some D ∧ Out t W σ ρ' H'' (lcGo (lcF C n l i c a) cu h1.n m (j + 1) h') Q, fun H'' hN => ⟨m, Nat.lt_succ_self m, hN⟩, fun x' H'' hy => ?_⟩
          obtain ⟨s2, ry⟩ := w4 x' H'' hy
          show (_ ∧ _)
          refine ⟨?_, htt _ _ _ ?_⟩
          · show ((wipe σ [i]).set i (some x')).set i none = σ.set i none
            rw [wipe_one, List.set_set]
          · have s2' := s'.trans s2
            have rl2 : RL t ρ' H'' (l.set i (some y')) ((wipe σ [i]).set i (some x')) := by
              rw [wipe_one]
              exact (rl1.step s1.rep s2').set i ry
            refine ⟨ρ', _, h', s2.rep, rl2, ?_⟩
            have o2 := Out.step s2 o'
            unfold lcF at o2
            cases e5 : evE C (run C n) c (l.set i (some y')) h' with
            | no => rw [e5] at o2; exact o2
            | ex c p h2 => rw [e5] at o2; exact (show False from o2).elim
            | ok b h2 =>
              rw [e5] at o2
              intro ρ4 H4 v4 s4 r4
              cases r4 with
              | bl bb =>
                refine ⟨bb, rfl, ?_⟩
                have o3 := Out.step s4 o2
                have eD4 : ρ4[h1.n]? = some D := pre_get s4.pre eD
                cases bb with
                | false =>
                  simp only [Bool.false_eq_true, if_false]
                  exact ⟨ρ4, h2, s2'.trans s4, eD4, o3⟩
                | true =>
                  simp only [if_true]
                  refine ⟨ρ4, _, h2, s4.rep, rl2.step s2.rep s4, ?_⟩
                  simp only [R.bind] at o3
                  cases e6 : evE C (run C n) a (l.set i (some y')) h2 with
                  | no => rw [e6] at o3; exact o3
                  | ex c p h2 => rw [e6] at o3; exact (show False from o3).elim
                  | ok z h3 =>
                    rw [e6] at o3
                    simp only at o3
                    intro ρ5 H5 v5 s5 r5
                    have eD5 : ρ5[h1.n]? = some D := pre_get s5.pre eD4
                    cases e7 : h3.get h1.n with
                    | none => rw [e7] at o3; exact (show False from o3).elim
                    | some ob =>
                      rw [e7] at o3
                      cases ob with
                      | lst acc =>
                        simp only at o3
                        by_cases hz : acc.length < sizeMax
                        · rw [if_pos hz] at o3
                          obtain ⟨vs, g1, g2⟩ := s5.rep.at eD5 e7
                          rw [g2.length] at hz
                          have s6 := s5.rep.setL eD5 (g2.app (.cons r5 .nil))
                          exact ⟨vs, g1, size_lt hz, ρ5, _, ((s2'.trans s4).trans s5).trans s6, eD5, Out.step (s5.trans s6) o3⟩
                        · rw [if_neg hz] at o3
                          exact o3.elim
                      | _ => exact (show False from o3).elim
              | _ => exact (show False from o2).elim
theorem s_lc {is : List Nat} {it : I} {c a : E} (hi : SI t C n it) (hc : SE t C n c) (ha : SE t C n a) : SE t C n (.lc is it c a) := by
  intro W Y X k e h
  unfold chkE at h
  split at h
  · rename_i el tg z ifs sc pos
    simp only [Bool.and_eq_true] at h
    obtain ⟨⟨⟨⟨h1, h2⟩, h3⟩, h4⟩, h5⟩ := h
    split at h1
    · rename_i i y py
      simp only [Bool.and_eq_true, decide_eq_true_eq] at h1
      obtain ⟨⟨h1, hb⟩, hl⟩ := h1
      have ok : BlkOk X.N X.env.scope sc [(y, i)] := by rw [k.N, k.sc]; exact blkOk_by hb
      have kb : ∀ (s : Shared) (H : Hp) (Ca : Addr) (cl : List (Str × Addr)) (fp : List Addr), Ok t C n (fun _ _ _ _ => False) (lcScope Y sc) (X.blk s H sc (compEnvC sc cl Ca X.env) fp) := fun s H Ca cl fp =>
        ⟨⟨k.fa.hK, k.fa.fns, k.fa.fre, k.fa.glo, k.fa.kds, k.fa.ers, k.fa.erm, k.fa.erp, k.fa.sub, k.fa.tls⟩, LamX.takes0, k.nd, k.N, by show relS sc X.env.scope = relS sc Y.sc; rw [k.sc], k.calm, k.room, fun z => by cases z⟩
      have lk : ∀ (s : Shared) (H : Hp) (Ca : Addr) (cl : List (Str × Addr)) (fp : List Addr), (X.blk s H sc (compEnvC sc cl Ca X.env) fp).env.scope.names.lookup y = some .local := fun s H Ca cl fp => by
        rw [(kb s H Ca cl fp).sc]; exact hl
      have key : ∃ tt, (∀ σ2 H2 K, tB (tE t C (run C n) (fun _ _ _ _ => False) c) σ2 H2 K → tt σ2 H2 K) ∧ ∀ (s : Shared) (H : Hp) (Ca : Addr) (cl : List (Str × Addr)) (fp : List Addr), PTs (X.blk s H sc (compEnvC sc cl Ca X.env) fp) ifs tt := by
        split at h4
        · split at h4
          · refine ⟨tYes, fun σ2 H2 K hk => ?_, fun s H Ca cl fp => pts_nil⟩
            obtain ⟨ρ, l, h, rp, rl, o⟩ := hk
            unfold evE at o
            obtain ⟨b, e1, hk⟩ := Out.here rp o (.bl true)
            cases e1
            exact hk
          · cases h4
        · exact ⟨_, fun σ2 H2 K hk => hk, fun s H Ca cl fp => pts_one (hc _ _ _ (kb s H Ca cl fp) _ h4).2⟩
        · cases h4
      obtain ⟨tt, htt, hpt⟩ := key
      exact pt_plain (PE.imp (pe_lc k.calm k.nd (hi W Y X _ k _ h3) ok (fun s H Ca cl fp => pg_name k.nd (i := i) (by rw [k.N]; exact h1) (.inl (lk s H Ca cl fp)) (.inr (lk s H Ca cl fp))) hpt
        (fun s H Ca cl fp => (ha _ _ _ (kb s H Ca cl fp) _ h5).1) (set_ok h2 _)) fun σ H Q hq => lc_core htt hq) (fun _ => rfl)
    · cases h1
  · cases h
end
end Ev

/-! Soundness of the checker: told(lambda: e). -/
namespace Ev
open PySem PySem.Spec PyProof.Rows L2
section
variable {t : Tx} {C : Cfg} {n : Nat}
/-- the exceptions that the clauses take -/
def wTl (t : Tx) (C : Cfg) (cs : List (Nat × D)) (Q : VK) : XK := fun cls _ H' => ∃ c a s, t.cl c = some a ∧ cls = .ref a ∧ told C c cs = some (.str s) ∧ Q (.str (sOf s)) H'
def TTm (t : Tx) (C : Cfg) (cs : List (Nat × D)) : (XK → Hp → VK → Prop) → Hp → VK → Prop := fun tl H Q => tl (wTl t C cs Q) H Q
theorem hds_ok {X : Cx} {ers : List (Str × Nat)} (fe : ∀ x c, ers.lookup x = some c → ∃ a, X.mg x = some (.ref a) ∧ t.cl c = some a) (fs : ∀ c c' a a', t.cl c = some a → t.cl c' = some a' → PySem.W.exmOne X.K (.ref a) (.ref a') = some (C.sub c c')) :
    ∀ {cs : List (Nat × D)} {hs : List ExceptHandler}, hdsB ers X.env.scope cs hs = true → ∃ l, HdsOk X hs l ∧ ∀ (Q : VK) (D : Ends) cls d σ H', D.rt = Q → wTl t C cs Q cls d H' → wMany X.K (fun _ _ _ _ => False) D l cls d σ H'
  | [], hs, h => by
    unfold hdsB at h
    split at h
    · exact ⟨[], .nil, fun Q D cls d σ H' _ ⟨c, a, s, e1, e2, e3, q⟩ => by cases e3⟩
    · cases h
  | (c0, d0) :: r, hs, h => by
    unfold hdsB at h
    split at h
    · rename_i e pe x j px pr ph hs
      simp only [Bool.and_eq_true, decide_eq_true_eq] at h
      obtain ⟨⟨⟨⟨h1, h2⟩, h3⟩, h4⟩, h5⟩ := h
      obtain ⟨l, hl, hw⟩ := hds_ok fe fs h5
      obtain ⟨a0, m1, m2⟩ := fe _ _ h1
      split at h4
      · rename_i s0
        simp only [Bool.and_eq_true, beq_iff_eq] at h4
        have ex : x = sOf s0 := by rw [← h4.1, sOf_of]
        refine ⟨(.ref a0, fun _ _ _ => tRet (tC (.str x))) :: l, .cons ⟨h2, (nm_ok h3).1, .inl m1⟩ (fun a oe cls d pn _ _ => pss_one (ps_ret pe_str)) hl, fun Q D cls d σ H' hD w => ?_⟩
        obtain ⟨c, a, s, e1, e2, e3, q⟩ := w
        subst e2
        refine ⟨C.sub c c0, fs c c0 a a0 e1 m2, fun hb a' _ => ?_, fun hb => hw Q D _ d σ H' hD ⟨c, a, s, e1, rfl, ?_, q⟩⟩
        · unfold told at e3
          rw [if_pos hb] at e3
          cases e3
          show D.rt (.str x) H'
          rw [hD, ex]
          exact q
        · unfold told at e3
          rw [if_neg (by rw [hb]; decide)] at e3
          exact e3
      · cases h4
    · cases h
theorem told_str {ers : List (Str × Nat)} {sg : Scope} {c : Nat} : ∀ {cs : List (Nat × D)} {hs : List ExceptHandler} {d : D}, hdsB ers sg cs hs = true → told C c cs = some d → ∃ s, d = .str s ∧ ∀ x ∈ s, x < 1114112
  | [], hs, d, h, e => by cases e
  | (c0, d0) :: r, hs, d, h, e => by
    unfold hdsB at h
    split at h
    · simp only [Bool.and_eq_true, decide_eq_true_eq] at h
      obtain ⟨⟨⟨⟨h1, h2⟩, h3⟩, h4⟩, h5⟩ := h
      unfold told at e
      split at e
      · cases e
        split at h4
        · simp only [Bool.and_eq_true, List.all_eq_true, decide_eq_true_eq] at h4
          exact ⟨_, rfl, h4.2⟩
        · cases h4
      · exact told_str h5 e
    · cases h
theorem gives_ok {X : Cx} {ers : List (Str × Nat)} {Ng : List Str} {x a q : Str} {sg : Scope} {g : Addr} {cdg : Value} {cs : List (Nat × D)} {bg : List Stmt} (fe : ∀ x c, ers.lookup x = some c → ∃ a, X.mg x = some (.ref a) ∧ t.cl c = some a)
    (fs : ∀ c c' a a', t.cl c = some a → t.cl c' = some a' → PySem.W.exmOne X.K (.ref a) (.ref a') = some (C.sub c c')) (h : tldB ers sg a cs bg = true) (hN : Ng[0]? = some a) : LamX.GivesTo X Ng x sg g cdg bg a q (TTm t C cs) := by
  intro f c' s H Q tl act hc ht
  unfold tldB at h
  split at h
  · rename_i b p1 p2 p3 h0 hs p8
    rw [Bool.and_eq_true, decide_eq_true_eq] at h
    obtain ⟨rfl, h⟩ := h
    obtain ⟨l, hl, hw⟩ := hds_ok (X := (cxOf C8.CX0 X.prog X.w X.K X.mg X.base Ng x sg g cdg X.A X.stack s H C8.E0).nox) fe fs h
    refine ⟨_, pss_one (ps_try_many (X := (cxOf C8.CX0 X.prog X.w X.K X.mg X.base Ng x sg g cdg X.A X.stack s H C8.E0).nox)
      (tb := fun W D σ H => ∃ Ech : XK, (∀ cls d σ' H', Ech cls d H' → W cls d σ' H') ∧ σ[0]? = some (some (.ref f)) ∧ H c' = some (LamX.CodeO c' q) ∧ tl Ech H D.rt)
      rfl rfl LamX.takes0 (fun W pn xe tk _ => ?_) hl), ?_⟩
    · refine ⟨fun pins s' σ H' D I h' => ?_⟩
      obtain ⟨Ech, hW, h1, h2, h3⟩ := h'
      exact (pss_one (ps_ret (pos := p3) (act W pn xe Ech p1 p2 tk hW))).run pins s' σ H' D I ⟨h1, h2, h3⟩
    · refine ⟨wTl t C cs Q, fun cls d σ' H' w => hw Q _ cls d σ' H' rfl w, ?_, hc, ht⟩
      have : 0 < Ng.length := (List.getElem?_eq_some_iff.mp hN).1
      rfl
  · cases h
theorem params_def {ps : Arguments} (h : noParams ps = true) (env : Env) : defaultsOf ps env = ([], []) := by
  unfold noParams at h
  split at h
  · rfl
  · cases h
theorem params_bind {ps : Arguments} (h : noParams ps = true) (body : Expr) (scope : Scope) (q : Str) (cl : List (Str × Addr)) (pm cv ctv : Value) : bindArgs (PySem.W.kla_fn "<lambda>" q ps body scope cl pm cv ctv) ⟨[], []⟩ = pure [] := by
  unfold noParams at h
  split at h
  · rfl
  · cases h
theorem s_tld {k : Nat} {a : E} (ha : SE t C n a) : SE t C n (.tld k a) := by
  intro W Y X ok e h
  unfold chkE at h
  split at h
  · rename_i x px ps body sc pl pos
    simp only [Bool.and_eq_true, decide_eq_true_eq] at h
    obtain ⟨⟨⟨⟨⟨⟨h1, h2⟩, h3⟩, h4⟩, h5⟩, h6⟩, h7⟩ := h
    obtain ⟨c, P, TB, hcode, hmT, hu⟩ := ok.lam h1
    obtain ⟨g1, g2, _⟩ := ok.gl h2
    obtain ⟨g, av, cs, pg, bg, sg, dV, kV, doc, pm, cdv, ct, oc, an, od, osl, Ng, m1, m2, m3, m4, m5, m6, m7, m8, m9, m10, m11⟩ := ok.fa.tls _ _ h3
    have L : LamX.LamS X.env.scope sc := by rw [ok.sc]; exact LamX.lamS_by h5
    have hr : Room (n + (Y.s - 2) + 2) X.A := ok.room.mono (by omega)
    refine pt_plain (PE.imp (LamX.pe_lamcall (T := t.T) (t := fun E => tE t C (run C n) (fun cls d _ H => E cls d H) a) (k := n + (Y.s - 2)) g1 m1 m2 m3 m4 m5 m6 m7 m8 (gives_ok ok.fa.ers ok.fa.sub m11 m7) TB hcode hmT hu hr L (params_def h4 _) (params_bind h4 _ _)
      (fun A outer s H E f c' hr2 => (ha _ (lamScope Y sc) _ ?_ _ h7).1) g2 (nm_ok m9).1 (nm_ok m9).2) fun σ H Q hq => ?_) (fun _ => rfl)
    · exact ⟨⟨ok.fa.hK, ok.fa.fns, ok.fa.fre, ok.fa.glo, ok.fa.kds, ok.fa.ers, ok.fa.erm, ok.fa.erp, ok.fa.sub, ok.fa.tls⟩, takes_of rfl rfl rfl rfl, ok.nd, ok.N, rfl, rfl, hr2, fun z => by cases z⟩
    · obtain ⟨ρ, l, h, rp, rl, o⟩ := hq
      unfold evE at o
      refine ⟨rp.tab, fun H1 ex T1 => ?_⟩
      have s1 : Step t.K t.T ρ H ρ h H1 := rp.apart (fun b o e _ nt => ex b o e nt) T1
      refine ⟨ρ, l, h, s1.rep, rl.step rp s1, ?_⟩
      cases e1 : evE C (run C n) a l h with
      | no => rw [e1] at o; exact o
      | ok d h1 => rw [e1] at o; exact fun ρ' H' v s r => o ρ' H' v (s1.trans s) r
      | ex c q h1 =>
        rw [e1] at o
        simp only [m10] at o
        cases e2 : told C c cs with
        | none => rw [e2] at o; exact (show False from o).elim
        | some d =>
          rw [e2] at o
          simp only at o
          have hh : ∃ hs, hdsB Y.ers sg cs hs = true := by
            unfold tldB at m11
            split at m11
            · rw [Bool.and_eq_true] at m11
              exact ⟨_, m11.2⟩
            · cases m11
          obtain ⟨hs, hh⟩ := hh
          obtain ⟨s0, rfl, hv⟩ := told_str hh e2
          intro ρ' H' cls dd s r
          obtain ⟨ca, r1, r2, _⟩ := r
          exact ⟨c, ca, s0, r1, r2, e2, o ρ' H' _ (s1.trans s) (.str hv)⟩
  · cases h
/-! ### all -/
mutual
theorem sE : ∀ A : E, SE t C n A
  | .var _ => s_var
  | .con _ => s_con
  | .glo _ => s_glo
  | .bin _ a b => s_bin (sE a) (sE b)
  | .neg a => s_neg (sE a)
  | .not a => s_not (sE a)
  | .and a b => s_and (sE a) (sE b)
  | .or a b => s_or (sE a) (sE b)
  | .ifx c a b => s_ifx (sE c) (sE a) (sE b)
  | .cmp _ a b => s_cmp (sE a) (sE b)
  | .chn _ _ a b c => s_chn (sE a) (sE b) (sE c)
  | .tup es => s_tup (sEs es)
  | .lst es => s_lst (sEs es)
  | .dct es => s_dct (sPs es)
  | .idx a b => s_idx (sE a) (sE b)
  | .slc _ _ a lo hi => s_slc (sE a) (sE lo) (sE hi)
  | .cal _ _ es => s_cal (sEs es)
  | .blt _ es => s_blt (sEs es) (sOne es)
  | .mth _ o es => s_mth (sE o) (sEs es) (sOne es) (sTwo es)
  | .kget _ a => s_kget (sE a)
  | .kin _ a => s_kin (sE a)
  | .tld _ a => s_tld (sE a)
  | .lc _ it c a => s_lc (sI it) (sE c) (sE a)
theorem sEs : ∀ As : Es, SA t C n As
  | .nil => sa_nil
  | .cons a es => sa_cons (sE a) (sEs es)
theorem sPs : ∀ es : Es, SPr t C n es
  | .nil => sp_nil
  | .cons _ .nil => sp_one
  | .cons a (.cons b es) => sp_cons (sE a) (sE b) (sPs es)
theorem sTwo : ∀ (As : Es) (a b : E), As = .cons a (.cons b .nil) → SE t C n a ∧ SE t C n b
  | .nil, _, _, h => by cases h
  | .cons _ .nil, _, _, h => by cases h
  | .cons x (.cons y es), a, b, h => by
    have e : x = a ∧ y = b := by cases h; exact ⟨rfl, rfl⟩
    exact ⟨e.1 ▸ sE x, e.2 ▸ sE y⟩
theorem sI : ∀ it : I, SI t C n it
  | .fix a => si_fix (sE a)
  | .rng lo hi => si_rng (sE lo) (sE hi)
  | .enum a => si_enum (sE a)
  | .rev a => si_rev (sE a)
theorem sOne : ∀ (As : Es) (a : E), As = .cons a .nil → SE t C n a
  | .nil, _, h => by cases h
  | .cons b es, a, h => by
    have e : b = a := by cases h; rfl
    exact e ▸ sE b
end
end
end Ev

/-! Readings of statements by the evaluator; rules. -/
namespace Ev
open PySem PySem.Spec PyProof.Rows L2
section
variable {t : Tx} {C : Cfg} {n : Nat}
/-- behind a statement -/
def OutS (t : Tx) (W : WX) (D : Ends) (ρ : List Addr) (H : Hp) : Q → Prop
  | .nx l h' => ∀ ρ' σ' H', Step t.K t.T ρ H ρ' h' H' → RL t ρ' H' l σ' → D.nx σ' H'
  | .rt d h' => ∀ ρ' H' v, Step t.K t.T ρ H ρ' h' H' → RD t.K ρ' H' d v → D.rt v H'
  | .bk l h' => ∀ ρ' σ' H', Step t.K t.T ρ H ρ' h' H' → RL t ρ' H' l σ' → D.bk σ' H'
  | .ct l h' => ∀ ρ' σ' H', Step t.K t.T ρ H ρ' h' H' → RL t ρ' H' l σ' → D.ct σ' H'
  | .ex c p l h' => ∀ ρ' σ' H' cls d, Step t.K t.T ρ H ρ' h' H' → RL t ρ' H' l σ' → RX t.K t.cl t.fl ρ' H' c p cls d → W cls d σ' H'
  | .no => False
def tS (t : Tx) (C : Cfg) (call : Call) (W : WX) (s : S) : TS := fun D σ H => ∃ ρ l h, Rep t.K t.T ρ h H ∧ RL t ρ H l σ ∧ OutS t W D ρ H (evS C call s l h)
def tSs (t : Tx) (C : Cfg) (call : Call) (W : WX) (s : Ss) : TS := fun D σ H => ∃ ρ l h, Rep t.K t.T ρ h H ∧ RL t ρ H l σ ∧ OutS t W D ρ H (evSs C call s l h)
theorem OutS.step {W : WX} {D : Ends} {ρ ρ1 : List Addr} {H H1 : Hp} {h1 : VH} {q : Q} (s : Step t.K t.T ρ H ρ1 h1 H1) (o : OutS t W D ρ H q) : OutS t W D ρ1 H1 q := by
  cases q with
  | nx l h => exact fun ρ' σ' H' s' r => o ρ' σ' H' (s.trans s') r
  | rt d h => exact fun ρ' H' v s' r => o ρ' H' v (s.trans s') r
  | bk l h => exact fun ρ' σ' H' s' r => o ρ' σ' H' (s.trans s') r
  | ct l h => exact fun ρ' σ' H' s' r => o ρ' σ' H' (s.trans s') r
  | ex c p l h => exact fun ρ' σ' H' cls d s' r x => o ρ' σ' H' cls d (s.trans s') r x
  | no => exact o
/-- an expression first -/
theorem OutS.bind {W : WX} {D : Ends} {ρ : List Addr} {h : VH} {H : Hp} {σ : L2.St} {l : Lc} {r : R Ev.D} {f : Ev.D → VH → Q} {Q' : VK} (rp : Rep t.K t.T ρ h H) (rl : RL t ρ H l σ) (o : OutS t W D ρ H (r.thn l f))
    (k : ∀ d h1 ρ1 H1 v, Step t.K t.T ρ H ρ1 h1 H1 → RD t.K ρ1 H1 d v → RL t ρ1 H1 l σ → OutS t W D ρ1 H1 (f d h1) → Q' v H1) : Out t W σ ρ H r Q' := by
  cases r with
  | ok d h' => exact fun ρ' H' v s q => k d h' ρ' H' v s q (rl.step rp s) (OutS.step s o)
  | ex c p h' => exact fun ρ' H' cls d s q => o ρ' σ H' cls d s (rl.step rp s) q
  | no => exact o
theorem OutS.ends {W : WX} {D D' : Ends} {ρ : List Addr} {H : Hp} {q : Q} (o : OutS t W D ρ H q) (hn : ∀ σ H, D.nx σ H → D'.nx σ H) (hr : ∀ v H, D.rt v H → D'.rt v H) (hb : ∀ σ H, D.bk σ H → D'.bk σ H) (hc : ∀ σ H, D.ct σ H → D'.ct σ H) : OutS t W D' ρ H q := by
  cases q with
  | nx l h => exact fun ρ' σ' H' s' r => hn _ _ (o ρ' σ' H' s' r)
  | rt d h => exact fun ρ' H' v s' r => hr _ _ (o ρ' H' v s' r)
  | bk l h => exact fun ρ' σ' H' s' r => hb _ _ (o ρ' σ' H' s' r)
  | ct l h => exact fun ρ' σ' H' s' r => hc _ _ (o ρ' σ' H' s' r)
  | ex c p l h => exact o
  | no => exact o
/-! ### the context of statements -/
structure OkS (t : Tx) (C : Cfg) (n : Nat) (W : WX) (Y : Sy) (X : Cx) : Prop extends Ok t C n W Y X where
  po : PassesOwn (model X.prog X.w) X.A X.env X.xe
  fn : ∀ x, X.fn x = true
  stk : X.stack = X.env :: X.outer
  frm : X.env.frame = some X.env.locals
def SS (t : Tx) (C : Cfg) (n : Nat) (s : S) (chk : Sy → Stmt → Bool) : Prop := ∀ W Y X, OkS t C n W Y X → ∀ st, chk Y st = true → PS X st (tS t C (run C n) W s)

/-! ### one after another -/
section
variable {W : WX} {X : Cx} {st : Stmt} {rest : List Stmt} {s : S} {ss : Ss}
theorem mss_nil : PSs X [] (tSs t C (run C n) W .nil) := PSs.imp pss_nil fun D σ H ⟨ρ, l, h, rp, rl, o⟩ => by
  unfold evSs at o
  exact o ρ σ H (Step.refl rp) rl
theorem mss_cons (p : PS X st (tS t C (run C n) W s)) (q : PSs X rest (tSs t C (run C n) W ss)) : PSs X (st :: rest) (tSs t C (run C n) W (.cons s ss)) := PSs.imp (pss_cons p q) fun D σ H ⟨ρ, l, h, rp, rl, o⟩ => by
  unfold evSs at o
  refine ⟨ρ, l, h, rp, rl, ?_⟩
  cases e : evS C (run C n) s l h with
  | nx l1 h1 => rw [e] at o; exact fun ρ' σ' H' s' r => ⟨ρ', l1, h1, s'.rep, r, OutS.step s' o⟩
  | rt d h => rw [e] at o; exact o
  | bk l h => rw [e] at o; exact o
  | ct l h => rw [e] at o; exact o
  | ex c p l h => rw [e] at o; exact o
  | no => rw [e] at o; exact o
end
/-! ### simple statements -/
section
variable {W : WX} {X : Cx} {e : Expr} {a : E} {pos : Pos}
theorem ms_exp (p : PE X e (tE t C (run C n) W a)) (hs : swapsWith e none pos.line X.env = pure false) : PS X (.Expr e pos) (tS t C (run C n) W (.exp a)) := PS.imp (ps_expr p hs) fun D σ H ⟨ρ, l, h, rp, rl, o⟩ => by
  unfold evS at o
  exact ⟨ρ, l, h, rp, rl, OutS.bind rp rl o fun d h1 ρ1 H1 v s1 q1 rl1 o1 => o1 ρ1 σ H1 (Step.refl s1.rep) rl1⟩
theorem ms_ret (p : PE X e (tE t C (run C n) W a)) : PS X (.Return (some e) pos) (tS t C (run C n) W (.ret a)) := PS.imp (ps_ret p) fun D σ H ⟨ρ, l, h, rp, rl, o⟩ => by
  unfold evS at o
  exact ⟨ρ, l, h, rp, rl, OutS.bind rp rl o fun d h1 ρ1 H1 v s1 q1 rl1 o1 => o1 ρ1 H1 v (Step.refl s1.rep) q1⟩
theorem ms_retN : PS X (.Return none pos) (tS t C (run C n) W .retN) := PS.imp ps_retN fun D σ H ⟨ρ, l, h, rp, rl, o⟩ => by
  unfold evS at o
  exact o ρ H .non (Step.refl rp) .non
theorem ms_pas : PS X (.Pass pos) (tS t C (run C n) W .pas) := PS.imp ps_pass fun D σ H ⟨ρ, l, h, rp, rl, o⟩ => by
  unfold evS at o
  exact o ρ σ H (Step.refl rp) rl
theorem ms_brk : PS X (.Break pos) (tS t C (run C n) W .brk) := PS.imp ps_break fun D σ H ⟨ρ, l, h, rp, rl, o⟩ => by
  unfold evS at o
  exact o ρ σ H (Step.refl rp) rl
theorem ms_cnt : PS X (.Continue pos) (tS t C (run C n) W .cnt) := PS.imp ps_continue fun D σ H ⟨ρ, l, h, rp, rl, o⟩ => by
  unfold evS at o
  exact o ρ σ H (Step.refl rp) rl
/-! ### if, while -/
variable {p q : List Stmt} {sa sb : Ss}
theorem ms_ite (hc : PT X e (tB (tE t C (run C n) W a))) (ha : PSs X p (tSs t C (run C n) W sa)) (hb : PSs X q (tSs t C (run C n) W sb)) : PS X (.If e p q pos) (tS t C (run C n) W (.ite a sa sb)) := PS.imp (ps_if hc ha hb) fun D σ H ⟨ρ, l, h, rp, rl, o⟩ => by
  unfold evS at o
  refine ⟨ρ, l, h, rp, rl, OutS.bind rp rl o fun d h1 ρ1 H1 v s1 q1 rl1 o1 => ?_⟩
  cases q1 with
  | bl b =>
    refine ⟨b, rfl, ?_⟩
    cases b with
    | true => exact ⟨ρ1, l, h1, s1.rep, rl1, o1⟩
    | false => exact ⟨ρ1, l, h1, s1.rep, rl1, o1⟩
  | _ => exact (show False from o1).elim
theorem ms_whl (hp : PassesOwn (model X.prog X.w) X.A X.env X.xe) (hc : PT X e (tB (tE t C (run C n) W a))) (hb : PSs X p (tSs t C (run C n) W sa)) : PS X (.While e p [] pos) (tS t C (run C n) W (.whl a sa)) := PS.imp (ps_while hp hc hb) fun D σ H ⟨ρ, l, h, rp, rl, o⟩ => by
  unfold evS at o
  refine ⟨fun m σ H => ∃ ρ l h, Rep t.K t.T ρ h H ∧ RL t ρ H l σ ∧ OutS t W D ρ H (whlGo (fun l h => evE C (run C n) a l h) (fun l h => evSs C (run C n) sa l h) m l h), ⟨loopFuel, ρ, l, h, rp, rl, o⟩, ?_⟩
  rintro m σ H ⟨ρ, l, h, rp, rl, o⟩
  cases m with
  | zero => exact (show False from o).elim
  | succ m =>
    rw [whlGo] at o
    refine ⟨ρ, l, h, rp, rl, OutS.bind rp rl o fun d h1 ρ1 H1 v s1 q1 rl1 o1 => ?_⟩
    cases q1 with
    | bl b =>
      refine ⟨b, rfl, ?_⟩
      cases b with
      | true =>
        rw [if_pos rfl]
        refine ⟨fun σ' H' => ∃ ρ l h, Rep t.K t.T ρ h H' ∧ RL t ρ H' l σ' ∧ OutS t W D ρ H' (whlGo (fun l h => evE C (run C n) a l h) (fun l h => evSs C (run C n) sa l h) m l h), fun σ' H' w => ⟨m, Nat.lt_succ_self m, w⟩, ρ1, l, h1, s1.rep, rl1, ?_⟩
        simp only at o1
        cases e1 : evSs C (run C n) sa l h1 with
        | nx l1 h2 => rw [e1] at o1; exact fun ρ' σ' H' s' r => ⟨ρ', l1, h2, s'.rep, r, OutS.step s' o1⟩
        | ct l1 h2 => rw [e1] at o1; exact fun ρ' σ' H' s' r => ⟨ρ', l1, h2, s'.rep, r, OutS.step s' o1⟩
        | bk l1 h2 => rw [e1] at o1; exact o1
        | rt d h => rw [e1] at o1; exact o1
        | ex c p l h => rw [e1] at o1; exact o1
        | no => rw [e1] at o1; exact o1
      | false =>
        rw [if_neg (by decide)]
        exact o1 ρ1 σ H1 (Step.refl s1.rep) rl1
    | _ => exact (show False from o1).elim
/-! ### targets -/
def tG (t : Tx) (C : Cfg) (call : Call) (W : WX) (g : G) : TG := fun v σ H K => ∃ ρ l h d, Rep t.K t.T ρ h H ∧ RL t ρ H l σ ∧ RD t.K ρ H d v ∧ OutS t W ⟨K, fun _ _ => True, fun _ _ => True, fun _ _ => True⟩ ρ H (evG C call g d l h)
theorem PG.imp {tg : Expr} {u v : TG} (p : PG X tg u) (w : ∀ x σ H Q, v x σ H Q → u x σ H Q) : PG X tg v := ⟨fun pins s σ H x y Q I r h => p.run pins s σ H x y Q I r (w x σ H Q h)⟩
theorem PG.or {tg : Expr} {u v : TG} (p : PG X tg u) (q : PG X tg v) : PG X tg (fun x σ H Q => u x σ H Q ∨ v x σ H Q) := ⟨fun pins s σ H x y Q I r h => h.elim (p.run pins s σ H x y Q I r) (q.run pins s σ H x y Q I r)⟩
theorem mg_nam {i : Nat} {x : Str} (p : PG X (.Name x pos) (gName i)) : PG X (.Name x pos) (tG t C (run C n) W (.nam i)) := PG.imp p fun v σ H K ⟨ρ, l, h, d, rp, rl, rd, o⟩ => by
  unfold evG at o
  exact o ρ _ H (Step.refl rp) (rl.set i rd)
/-- names of a tuple -/
def gNames : List Nat → TGs
  | [] => gNil
  | i :: is => gCons (gName i) (gNames is)
theorem names_run {ρ : List Addr} {H : Hp} {K : L2.St → Hp → Prop} : ∀ {is : List Nat} {xs : List Ev.D} {vs : List V} {l l1 : Lc} {σ : L2.St}, RL t ρ H l σ → RDs t.K ρ H xs vs → setAll is xs l = some l1 → (∀ σ', RL t ρ H l1 σ' → K σ' H) → gNames is vs σ H K
  | [], xs, vs, l, l1, σ, rl, r, e, k => by
    cases r with
    | nil => cases e; exact ⟨rfl, k σ rl⟩
    | cons _ _ => cases e
  | i :: is, xs, vs, l, l1, σ, rl, r, e, k => by
    cases r with
    | nil => cases e
    | cons h r => exact ⟨_, _, rfl, names_run (rl.set i h) r e k⟩
theorem setAll_len : ∀ {is : List Nat} {xs : List Ev.D} {l l1 : Lc}, setAll is xs l = some l1 → xs.length = is.length
  | [], [], _, _, _ => rfl
  | [], _ :: _, _, _, e => by cases e
  | _ :: _, [], _, _, e => by cases e
  | i :: is, x :: xs, l, l1, e => by
    show xs.length + 1 = is.length + 1
    rw [setAll_len (l := l.set i (some x)) e]
theorem mg_tup {is : List Nat} {es : List Expr} {k : Nat} (hK : X.K = t.K) (p : PG X (.Tuple es k pos) (gTup X.K is.length (gNames is))) (q : PG X (.Tuple es k pos) (gUnl X.K is.length (gNames is))) : PG X (.Tuple es k pos) (tG t C (run C n) W (.tup is)) :=
  PG.imp (PG.or p q) fun v σ H K ⟨ρ, l, h, d, rp, rl, rd, o⟩ => by
    unfold evG at o
    simp only at o
    cases e1 : seqOf d h with
    | none => rw [e1] at o; exact (show False from o).elim
    | some xs =>
      rw [e1] at o
      simp only at o
      cases e2 : setAll is xs l with
      | none => rw [e2] at o; exact (show False from o).elim
      | some l1 =>
        rw [e2] at o
        obtain ⟨p, vs, rfl, hs, r⟩ := seqOf_ok rp rd e1
        have hl : vs.length = is.length := by rw [← r.length]; exact setAll_len e2
        have fin := names_run rl r e2 (K := K) fun σ' r' => o ρ σ' H (Step.refl rp) r'
        rcases hs with hs | hs
        · exact .inr ⟨p, vs, rfl, hK ▸ hs, hl, fin⟩
        · exact .inl ⟨p, vs, rfl, hK ▸ hs, hl, fin⟩
theorem mg_idx {o i : Expr} {A B : E} (po : PE X o (tE t C (run C n) W A)) (pi : PE X i (tE t C (run C n) W B)) (p : PG X (.Subscript o i pos) (gSub (tE t C (run C n) W A) (tE t C (run C n) W B) rSetL)) : PG X (.Subscript o i pos) (tG t C (run C n) W (.idx A B)) :=
  PG.imp p fun v σ H K ⟨ρ, l, h, d, rp, rl, rd, o⟩ => by
    unfold evG at o
    refine ⟨ρ, l, h, rp, rl, OutS.bind rp rl o fun x h1 ρ1 H1 u s1 q1 rl1 o1 => ?_⟩
    refine ⟨ρ1, l, h1, s1.rep, rl1, OutS.bind s1.rep rl1 o1 fun y h2 ρ2 H2 w s2 q2 rl2 o2 => ?_⟩
    cases e1 : setAtD x y d h2 with
    | none => rw [e1] at o2; exact (show False from o2).elim
    | some h3 =>
      rw [e1] at o2
      have q1' := s2.rd s1.rep q1
      have rd' := s2.rd s1.rep (s1.rd rp rd)
      unfold setAtD at e1
      split at e1
      · cases q1' with
        | ref e2 =>
          cases q2
          split at e1
          · rename_i xs g
            rw [Option.map_eq_some_iff] at e1
            obtain ⟨k, e3, rfl⟩ := e1
            obtain ⟨vs, h4, q4⟩ := s2.rep.at e2 g
            have s3 := s2.rep.setL e2 (q4.upd rd' k)
            refine ⟨_, vs, _, k, rfl, rfl, h4, ?_, o2 ρ2 σ _ s3 (rl2.step s2.rep s3)⟩
            rw [← q4.length]
            exact e3
          · cases e1
      · cases e1
theorem ms_asg {g : G} {tg : Expr} {gt : TG} (he : PE X e (tE t C (run C n) W a)) (hg : PG X tg (tG t C (run C n) W g)) (p : PS X (.Assign [tg] e pos) (tAsg (tE t C (run C n) W a) (tG t C (run C n) W g))) : PS X (.Assign [tg] e pos) (tS t C (run C n) W (.set g a)) :=
  PS.imp p fun D σ H ⟨ρ, l, h, rp, rl, o⟩ => by
    unfold evS at o
    refine ⟨ρ, l, h, rp, rl, OutS.bind rp rl o fun d h1 ρ1 H1 v s1 q1 rl1 o1 => ⟨ρ1, l, h1, d, s1.rep, rl1, q1, ?_⟩⟩
    exact OutS.ends o1 (fun _ _ z => z) (fun _ _ _ => trivial) (fun _ _ _ => trivial) (fun _ _ _ => trivial)
/-- a, b = x, y, stored from the right: the pair is not kept -/
theorem ms_par {i j : Nat} {A B : E} {tg : Expr} (p : PS X (.Assign [tg] e pos) (tPar i j (tEs t C (run C n) W (.cons A (.cons B .nil))))) : PS X (.Assign [tg] e pos) (tS t C (run C n) W (.set (.tup [i, j]) (.tup (.cons A (.cons B .nil))))) :=
  PS.imp p fun D σ H ⟨ρ, l, h, rp, rl, o⟩ => by
    unfold evS at o
    refine ⟨ρ, l, h, rp, rl, ?_⟩
    unfold evE at o
    cases e1 : evEs C (run C n) (.cons A (.cons B .nil)) l h with
    | no => rw [e1] at o; exact o
    | ex c p h' => rw [e1] at o; exact fun ρ' H' cls d s q => o ρ' σ H' cls d s (rl.step rp s) q
    | ok xs h1 =>
      rw [e1] at o
      intro ρ1 H1 vs s1 q1
      have hl := evEs_len e1
      have o : OutS t W D ρ H (evG C (run C n) (.tup [i, j]) (.tup xs) l h1) := o
      unfold evG at o
      cases q1 with
      | nil => cases hl
      | cons r1 q1 =>
        cases q1 with
        | nil => cases hl
        | cons r2 q1 =>
          cases q1 with
          | cons _ _ => simp [Es.len] at hl
          | nil => exact ⟨_, _, rfl, o ρ1 _ H1 s1 (((rl.step rp s1).set i r1).set j r2)⟩
theorem ms_par3 {i j k : Nat} {A B B2 : E} {tg : Expr} (p : PS X (.Assign [tg] e pos) (tPar3 i j k (tEs t C (run C n) W (.cons A (.cons B (.cons B2 .nil)))))) : PS X (.Assign [tg] e pos) (tS t C (run C n) W (.set (.tup [i, j, k]) (.tup (.cons A (.cons B (.cons B2 .nil)))))) :=
  PS.imp p fun D σ H ⟨ρ, l, h, rp, rl, o⟩ => by
    unfold evS at o
    refine ⟨ρ, l, h, rp, rl, ?_⟩
    unfold evE at o
    cases e1 : evEs C (run C n) (.cons A (.cons B (.cons B2 .nil))) l h with
    | no => rw [e1] at o; exact o
    | ex c p h' => rw [e1] at o; exact fun ρ' H' cls d s q => o ρ' σ H' cls d s (rl.step rp s) q
    | ok xs h1 =>
      rw [e1] at o
      intro ρ1 H1 vs s1 q1
      have hl := evEs_len e1
      have o : OutS t W D ρ H (evG C (run C n) (.tup [i, j, k]) (.tup xs) l h1) := o
      unfold evG at o
      cases q1 with
      | nil => cases hl
      | cons r1 q1 =>
        cases q1 with
        | nil => cases hl
        | cons r2 q1 =>
          cases q1 with
          | nil => cases hl
          | cons r3 q1 =>
            cases q1 with
            | cons _ _ => simp [Es.len] at hl
            | nil => exact ⟨_, _, _, rfl, o ρ1 _ H1 s1 ((((rl.step rp s1).set i r1).set j r2).set k r3)⟩
/-! ### op= -/
theorem ip_aug (op : Bin) : PIp X (opOf op) (rB t W (augD op)) := by
  intro pins s σ H v u v' u' Q I rv ru hh
  obtain ⟨σ', ρ, h, x, y, rp, rx, ry, o⟩ := hh
  cases op with
  | pow => exact (show False from o).elim
  | add =>
    cases rx with
    | int i =>
      cases ry with
      | int j => exact iop_add pins s σ H _ _ _ _ Q I rv ru ⟨i, j, rfl, rfl, o.here rp (.int _)⟩
      | _ => exact (show False from o).elim
    | str s1 =>
      cases ry with
      | str s2 =>
        have o : Out t W σ' ρ H (if _ then _ else _) Q := o
        split at o
        · rename_i c
          refine iop_add_str pins s σ H _ _ _ _ Q I rv ru ⟨_, _, rfl, rfl, by rw [sOf_len, sOf_len]; exact size_le c, ?_⟩
          rw [sOf_app]
          exact o.here rp (.str fun c hc => (List.mem_append.mp hc).elim (s1 c) (s2 c))
        · exact o.elim
      | _ => exact (show False from o).elim
    | _ => exact (show False from o).elim
  | sub =>
    cases rx with
    | int i =>
      cases ry with
      | int j => exact iop_sub pins s σ H _ _ _ _ Q I rv ru ⟨i, j, rfl, rfl, o.here rp (.int _)⟩
      | _ => exact (show False from o).elim
    | str _ => cases ry <;> exact (show False from o).elim
    | _ => exact (show False from o).elim
  | mul =>
    cases rx with
    | int i =>
      cases ry with
      | int j =>
        have o : Out t W σ' ρ H (if small64 i || small64 j then .ok (.int (i * j)) h else .no) Q := o
        by_cases c : (small64 i || small64 j) = true
        · rw [if_pos c] at o
          rw [Bool.or_eq_true] at c
          exact iop_mul pins s σ H _ _ _ _ Q I rv ru ⟨i, j, rfl, rfl, c.imp small_ok small_ok, o.here rp (.int _)⟩
        · rw [if_neg c] at o
          exact o.elim
      | _ => exact (show False from o).elim
    | str _ => cases ry <;> exact (show False from o).elim
    | _ => exact (show False from o).elim
  | fdv =>
    cases rx with
    | int i =>
      cases ry with
      | int j =>
        have o : Out t W σ' ρ H (if 0 < j ∧ j < 1073741824 then .ok (.int (i / j)) h else .no) Q := o
        by_cases c : 0 < j ∧ j < 1073741824
        · rw [if_pos c] at o
          exact iop_fdiv pins s σ H _ _ _ _ Q I rv ru ⟨i, j, rfl, rfl, c, o.here rp (.int _)⟩
        · rw [if_neg c] at o
          exact o.elim
      | _ => exact (show False from o).elim
    | str _ => cases ry <;> exact (show False from o).elim
    | _ => exact (show False from o).elim
  | mod =>
    cases rx with
    | int i =>
      cases ry with
      | int j =>
        have o : Out t W σ' ρ H (if 0 < j then .ok (.int (i % j)) h else .no) Q := o
        by_cases c : 0 < j
        · rw [if_pos c] at o
          exact iop_mod pins s σ H _ _ _ _ Q I rv ru ⟨i, j, rfl, rfl, c, o.here rp (.int _)⟩
        · rw [if_neg c] at o
          exact o.elim
      | _ => exact (show False from o).elim
    | str _ => cases ry <;> exact (show False from o).elim
    | _ => exact (show False from o).elim
theorem ms_aug {i : Nat} {op : Bin} {x : Str} {pos' : Pos} (p : PS X (.AugAssign (.Name x pos') (opOf op) e pos) (tAug i (tE t C (run C n) W a) (rB t W (augD op)))) : PS X (.AugAssign (.Name x pos') (opOf op) e pos) (tS t C (run C n) W (.aug i op a)) :=
  PS.imp p fun D σ H ⟨ρ, l, h, rp, rl, o⟩ => by
    unfold evS at o
    cases e1 : l[i]? with
    | none => rw [e1] at o; exact (show False from o).elim
    | some x =>
      rw [e1] at o
      cases x with
      | none => exact (show False from o).elim
      | some x =>
        obtain ⟨v, e2, q⟩ := rl.2 i x e1
        refine ⟨v, e2, ρ, l, h, rp, rl, OutS.bind rp rl o fun y h1 ρ1 H1 u s1 q1 rl1 o1 => ⟨σ, ρ1, h1, x, y, s1.rep, s1.rd rp q, q1, OutS.bind s1.rep rl1 o1 fun z h2 ρ2 H2 w s2 q2 rl2 o2 => ?_⟩⟩
        exact o2 ρ2 _ H2 (Step.refl s2.rep) (rl2.set i q2)
/-! ### for -/
theorem ms_for {g : G} {it : I} {tg iter : Expr} {b : Ss} {body : List Stmt} (p : PS X (.For tg iter body [] pos) (tFor (tI t C (run C n) W it) (tG t C (run C n) W g) (tSs t C (run C n) W b))) : PS X (.For tg iter body [] pos) (tS t C (run C n) W (.for_ g it b)) :=
  PS.imp p fun D σ H ⟨ρ, l, h, rp, rl, o⟩ => by
    unfold evS at o
    refine ⟨ρ, l, h, rp, rl, ?_⟩
    cases e0 : evI C (run C n) it l h with
    | no => rw [e0] at o; exact o
    | ex c p h' => rw [e0] at o; exact fun ρ' H' cls d s q => o ρ' σ H' cls d s (rl.step rp s) q
    | ok cu h1 =>
      rw [e0] at o
      intro ρ1 H1 J s1 wk
      have o1 : OutS t W D ρ1 H1 (itGo cu (fun x l h => evG C (run C n) g x l h) (fun l h => evSs C (run C n) b l h) loopFuel 0 l h1) := OutS.step s1 o
      refine ⟨fun i m σ H => ∃ ρ l h, Step t.K t.T ρ1 H1 ρ h H ∧ RL t ρ H l σ ∧ OutS t W D ρ H (itGo cu (fun x l h => evG C (run C n) g x l h) (fun l h => evSs C (run C n) b l h) m i l h), ⟨loopFuel, ρ1, l, h1, Step.refl s1.rep, rl.step rp s1, o1⟩, ?_⟩
      rintro i m σ H ⟨ρ, l, h, s, rl, o⟩
      cases m with
      | zero => exact (show False from o).elim
      | succ m =>
        rw [itGo] at o
        obtain ⟨w1, w2⟩ := wk i ρ h H s
        cases e3 : cu.next i h with
        | none => rw [e3] at o; exact (show False from o).elim
        | some it =>
          rw [e3] at o
          cases it with
          | none => exact .inl ⟨w1 e3, o ρ σ H (Step.refl s.rep) rl⟩
          | some y =>
            simp only at o
            obtain ⟨w3, w4⟩ := w2 y e3
            refine .inr ⟨w3, fun σ' H' => ∃ ρ l h, Step t.K t.T ρ1 H1 ρ h H' ∧ RL t ρ H' l σ' ∧ OutS t W D ρ H' (itGo cu (fun x l h => evG C (run C n) g x l h) (fun l h => evSs C (run C n) b l h) m (i + 1) l h), fun σ' H' w => ⟨m, Nat.lt_succ_self m, w⟩, fun x' H' hy => ?_⟩
            obtain ⟨s2, ry⟩ := w4 x' H' hy
            refine ⟨ρ, l, h, y, s2.rep, rl.step s.rep s2, ry, ?_⟩
            have o2 := OutS.step s2 o
            cases e4 : evG C (run C n) g y l h with
            | ex c p l1 h2 => rw [e4] at o2; exact o2
            | nx l1 h2 =>
              rw [e4] at o2
              simp only at o2
              intro ρ3 σ3 H3 s3 rl3
              refine ⟨ρ3, l1, h2, s3.rep, rl3, ?_⟩
              have o3 := OutS.step s3 o2
              have s13 := (s.trans s2).trans s3
              cases e5 : evSs C (run C n) b l1 h2 with
              | nx l2 h3 => rw [e5] at o3; exact fun ρ' σ' H' s' r => ⟨ρ', l2, h3, s13.trans s', r, OutS.step s' o3⟩
              | ct l2 h3 => rw [e5] at o3; exact fun ρ' σ' H' s' r => ⟨ρ', l2, h3, s13.trans s', r, OutS.step s' o3⟩
              | bk l2 h3 => rw [e5] at o3; exact o3
              | rt d h => rw [e5] at o3; exact o3
              | ex c p l h => rw [e5] at o3; exact o3
              | no => rw [e5] at o3; exact o3
            | rt d h => rw [e4] at o2; exact (show False from o2).elim
            | bk l h => rw [e4] at o2; exact (show False from o2).elim
            | ct l h => rw [e4] at o2; exact (show False from o2).elim
            | no => rw [e4] at o2; exact (show False from o2).elim
end
end
end Ev

/-! The checker of statements and its soundness. -/
namespace Ev
open PySem PySem.Spec PyProof.Rows L2

def notComp : Expr → Bool
  | .ListComp .. => false
  | .SetComp .. => false
  | .DictComp .. => false
  | _ => true
def notTuple : Expr → Bool
  | .Tuple .. => false
  | _ => true
def Sy.bnd (Y : Sy) (x : Str) : Bool := match Y.sc.names.lookup x with
  | some .local => true
  | some .cell => true
  | _ => false
/-- the names of a tuple target -/
def namesB (Y : Sy) : List Nat → List Expr → Bool
  | [], es => match es with
    | [] => true
    | _ => false
  | i :: is, es => match es with
    | .Name x _ :: es => decide (Y.N[i]? = some x) && Y.bnd x && namesB Y is es
    | _ => false
/-- the local names of a tuple target that stand on its first line -/
def swNames (sc : Scope) (ts : List Expr) : List Str := ts.filterMap fun
  | .Name id pos => if sc.names.lookup id == some .local && pos.line == (ts.head?.map (·.pos.line)).getD 0 then some id else none
  | _ => none
/-- nothing is swapped -/
def swNone (sc : Scope) (ts vs : List Expr) : Bool := !(ts.length == 2 || ts.length == 3) || vs.length != ts.length || (vs.all noStar && ((swNames sc ts).length != ts.length || (swNames sc ts).eraseDups.length != (swNames sc ts).length || vs.all (foldedForSure 8)))
def swSome (sc : Scope) (ts vs : List Expr) : Bool := (ts.length == 2 || ts.length == 3) && vs.length == ts.length && vs.all noStar && (swNames sc ts).length == ts.length && (swNames sc ts).eraseDups.length == (swNames sc ts).length && !(vs.all (foldedForSure 8)) && !(vs.all (constantsAlone 8))
theorem stars_none {vs : List Expr} (h : vs.all noStar = true) : (vs.any fun | .Starred .. => true | _ => false) = false := by
  rw [List.any_eq_false]
  intro e he
  have := List.all_eq_true.mp h e he
  cases e <;> first | exact Bool.false_ne_true | (exact absurd this (by simp [noStar]))
theorem sw_none {sc : Scope} {ts vs : List Expr} {k k2 : Nat} {p p2 : Pos} {env : Env} (hs : env.scope = sc) (h : swNone sc ts vs = true) : swappedStores [.Tuple ts k p] (.Tuple vs k2 p2) env = pure none := by
  subst hs
  unfold swappedStores
  simp only [pure_bind]
  unfold swNone at h
  by_cases h1 : (!(ts.length == 2 || ts.length == 3) || vs.length != ts.length || env.blockKind != .function) = true
  · exact if_pos h1
  · refine (if_neg h1).trans ?_
    have h1' : (!(ts.length == 2 || ts.length == 3) || vs.length != ts.length) = false := by
      revert h1
      cases (!(ts.length == 2 || ts.length == 3) || vs.length != ts.length) <;> simp
    rw [h1', Bool.false_or, Bool.and_eq_true] at h
    refine (if_neg fun z => Bool.false_ne_true ((stars_none h.1).symm.trans z)).trans ?_
    by_cases hA : ((swNames env.scope ts).length != ts.length || (swNames env.scope ts).eraseDups.length != (swNames env.scope ts).length) = true
    · exact if_pos hA
    · refine (if_neg hA).trans ?_
      have h3 := h.2
      rw [Bool.or_eq_true] at h3
      exact if_pos (h3.resolve_left hA)
theorem sw_some {sc : Scope} {ts vs : List Expr} {k k2 : Nat} {p p2 : Pos} {env : Env} (hs : env.scope = sc) (hk : sc.kind = .function) (h : swSome sc ts vs = true) : swappedStores [.Tuple ts k p] (.Tuple vs k2 p2) env = pure (some (swNames sc ts)) := by
  subst hs
  unfold swappedStores
  simp only [pure_bind]
  unfold swSome at h
  simp only [Bool.and_eq_true, Bool.not_eq_true'] at h
  obtain ⟨⟨⟨⟨⟨⟨h1, h2⟩, h3⟩, h4⟩, h5⟩, h6⟩, h7⟩ := h
  have hb : env.blockKind = .function := by
    unfold Env.blockKind
    rw [hk]
    rfl
  refine (if_neg ?_).trans ?_
  · rw [h1, hb]
    have h2' : (vs.length != ts.length) = false := by rw [bne, h2]; rfl
    rw [h2']
    decide
  refine (if_neg fun z => Bool.false_ne_true ((stars_none h3).symm.trans z)).trans ?_
  refine (if_neg ?_).trans ?_
  · intro z
    have h4' : ((swNames env.scope ts).length != ts.length) = false := by rw [bne, h4]; rfl
    have h5' : ((swNames env.scope ts).eraseDups.length != (swNames env.scope ts).length) = false := by rw [bne, h5]; rfl
    have z' : ((swNames env.scope ts).length != ts.length || (swNames env.scope ts).eraseDups.length != (swNames env.scope ts).length) = true := z
    rw [h4', h5'] at z'
    cases z'
  refine (if_neg (by rw [h6]; decide)).trans ?_
  refine (if_neg (by rw [h7]; decide)).trans ?_
  rfl
theorem sw_plain {tg e : Expr} {env : Env} (h : notTuple e = true) : swappedStores [tg] e env = pure none := by
  cases e with
  | Tuple _ _ _ => cases h
  | _ => cases tg <;> rfl
def notSeqT : Expr → Bool
  | .Tuple .. => false
  | .List .. => false
  | _ => true
theorem sw_other {tg e : Expr} {env : Env} (h : notSeqT tg = true) : swappedStores [tg] e env = pure none := by
  cases tg with
  | Tuple _ _ _ => cases h
  | List _ _ => cases h
  | _ => cases e <;> rfl
theorem swaps_no {e : Expr} {tg : Option Expr} {l : Nat} {env : Env} (h : notComp e = true) : swapsWith e tg l env = pure false := by
  cases e with
  | ListComp _ _ _ _ => cases h
  | SetComp _ _ _ _ => cases h
  | DictComp _ _ _ _ _ => cases h
  | _ => rfl
/-- target = value -/
def chkG (Y : Sy) (g : G) (tg : Expr) : Bool := match g with
  | .nam i => match tg with
    | .Name x _ => decide (Y.N[i]? = some x) && Y.bnd x
    | _ => false
  | .tup is => match tg with
    | .Tuple es _ _ => namesB Y is es
    | _ => false
  | .idx a b => match tg with
    | .Subscript x y _ => notSlice y && chkE Y a x && chkE Y b y
    | _ => false
/-- x, y = .. by locals, stored from the right -/
def chkPar (Y : Sy) (g : G) (a : E) (tg e : Expr) : Bool := match g, a, tg, e with
  | .tup [i, j], .tup (.cons _ (.cons _ .nil)), .Tuple [.Name x p, .Name y q] _ _, .Tuple vs _ _ => decide (Y.N[i]? = some x) && decide (Y.N[j]? = some y) && Y.loc x && Y.loc y && decide (i ≠ j) && decide (Y.sc.kind = .function) && decide (swNames Y.sc [.Name x p, .Name y q] = [x, y]) && swSome Y.sc [.Name x p, .Name y q] vs && chkE Y a e
  | .tup [i, j, k], .tup (.cons _ (.cons _ (.cons _ .nil))), .Tuple [.Name x p, .Name y q, .Name z r] _ _, .Tuple vs _ _ => decide (Y.N[i]? = some x) && decide (Y.N[j]? = some y) && decide (Y.N[k]? = some z) && Y.loc x && Y.loc y && Y.loc z && decide (i ≠ j) && decide (i ≠ k) && decide (j ≠ k) && decide (Y.sc.kind = .function) && decide (swNames Y.sc [.Name x p, .Name y q, .Name z r] = [x, y, z]) && swSome Y.sc [.Name x p, .Name y q, .Name z r] vs && chkE Y a e
  | _, _, _, _ => false
def noSwap (Y : Sy) (tg e : Expr) : Bool := match tg with
  | .Tuple ts _ _ => (match e with
    | .Tuple vs _ _ => swNone Y.sc ts vs
    | _ => true)
  | .List .. => false
  | _ => true
mutual
def chkS (Y : Sy) : S → Stmt → Bool
  | .exp a, st => match st with
    | .Expr e _ => notComp e && chkE Y a e
    | _ => false
  | .set g a, st => match st with
    | .Assign [tg] e _ => notComp e && ((noSwap Y tg e && chkG Y g tg && chkE Y a e) || chkPar Y g a tg e)
    | _ => false
  | .aug i op a, st => match st with
    | .AugAssign (.Name x _) o e _ => decide (o = opOf op) && decide (Y.N[i]? = some x) && Y.bnd x && chkE Y a e
    | _ => false
  | .ret a, st => match st with
    | .Return (some e) _ => chkE Y a e
    | _ => false
  | .retN, st => match st with
    | .Return none _ => true
    | _ => false
  | .pas, st => match st with
    | .Pass _ => true
    | _ => false
  | .brk, st => match st with
    | .Break _ => true
    | _ => false
  | .cnt, st => match st with
    | .Continue _ => true
    | _ => false
  | .ite c a b, st => match st with
    | .If e p q _ => chkE Y c e && chkSs Y a p && chkSs Y b q
    | _ => false
  | .whl c b, st => match st with
    | .While e p [] _ => chkE Y c e && chkSs Y b p
    | _ => false
  | .for_ g it b, st => match st with
    | .For tg e p [] _ => noSet e && chkG Y g tg && chkI Y tg it e && chkSs Y b p
    | _ => false
  | .rse c, st => match st with
    | .Raise (some (.Call (.Name x _) [.Constant (.str _) _ _] [] _)) none _ => Y.gl x && decide (Y.erm.lookup x = some c)
    | _ => false
  | .rsep c a, st => match st with
    | .Raise (some (.Call (.Name x _) [e] [] _)) none _ => Y.gl x && (match Y.erp.lookup x with | some (c', _) => decide (c' = c) | none => false) && noStar e && chkE Y a e
    | _ => false
  | .tryp b c i, st => match st with
    | .Try body [.ExceptHandler (some (.Name x _)) (some nm) [.Return (some (.Attribute (.Name n2 _) fl _)) _] _] [] [] _ => Y.gl x && decide (Y.erp.lookup x = some (c, fl)) && decide (Y.N[i]? = some nm) && Y.loc nm && decide (n2 = nm) && nmOk nm && chkSs { Y with lam := false } b body
    | _ => false
def chkSs (Y : Sy) : Ss → List Stmt → Bool
  | .nil, st => match st with
    | [] => true
    | _ => false
  | .cons s ss, st => match st with
    | x :: xs => chkS Y s x && chkSs Y ss xs
    | _ => false
end
end Ev

/-! Soundness of the checker: statements. -/
namespace Ev
open PySem PySem.Spec PyProof.Rows L2
section
variable {t : Tx} {C : Cfg} {n : Nat} {W : WX} {Y : Sy} {X : Cx}
theorem OkS.bnd (k : OkS t C n W Y X) {x : Str} (h : Y.bnd x = true) : L2.Loc X.env.scope x := by
  unfold Sy.bnd at h
  unfold L2.Loc
  rw [k.sc]
  split at h
  · rename_i e; exact .inl e
  · rename_i e; exact .inr e
  · cases h
theorem Ok.loc (k : Ok t C n W Y X) {x : Str} (h : Y.loc x = true) : X.env.scope.names.lookup x = some .local := by
  rw [k.sc]
  exact of_decide_eq_true h
theorem names_pg (k : OkS t C n W Y X) : ∀ {is : List Nat} {es : List Expr}, namesB Y is es = true → PGs X es (gNames is) ∧ (assignEach es X.env).length = is.length ∧ (assignEach es X.env).findIdx? (·.1) = none
  | [], es, h => by
    unfold namesB at h
    split at h
    · exact ⟨pgs_nil, rfl, rfl⟩
    · cases h
  | i :: is, es, h => by
    unfold namesB at h
    split at h
    · rename_i x p es
      simp only [Bool.and_eq_true, decide_eq_true_eq] at h
      obtain ⟨⟨h1, h2⟩, h3⟩ := h
      obtain ⟨a, b, c⟩ := names_pg k h3
      refine ⟨pgs_cons (pg_name k.nd (by rw [k.N]; exact h1) (k.bnd h2) (.inl (k.fn x))) a rfl, ?_, ?_⟩
      · show (assignEach es X.env).length + 1 = is.length + 1
        rw [b]
      · show ((false, assign (.Name x p) X.env) :: assignEach es X.env).findIdx? (·.1) = none
        rw [List.findIdx?_cons, c]
        rfl
    · cases h
theorem s_G (k : OkS t C n W Y X) {g : G} {tg : Expr} (h : chkG Y g tg = true) : PG X tg (tG t C (run C n) W g) := by
  unfold chkG at h
  cases g with
  | nam i =>
    simp only at h
    split at h
    · simp only [Bool.and_eq_true, decide_eq_true_eq] at h
      exact mg_nam (pg_name k.nd (by rw [k.N]; exact h.1) (k.bnd h.2) (.inl (k.fn _)))
    · cases h
  | tup is =>
    simp only at h
    split at h
    · obtain ⟨a, b, c⟩ := names_pg k h
      exact mg_tup k.fa.hK (pg_tup k.calm a b c) (pg_unl k.calm a b c)
    · cases h
  | idx a b =>
    simp only at h
    split at h
    · rename_i x y p
      simp only [Bool.and_eq_true] at h
      obtain ⟨⟨h1, h2⟩, h3⟩ := h
      have pa := (sE a W Y X k.toOk _ h2).1
      have pb := (sE b W Y X k.toOk _ h3).1
      refine mg_idx pa pb (pg_sub pa pb set_list fun v => ?_)
      cases y <;> first | rfl | (exact absurd h1 (by simp [notSlice]))
    · cases h
theorem assign_one {tg : Expr} {env : Env} (h : noStar tg = true) : (assignEach [tg] env).map (·.2) = [assign tg env] := by
  cases tg <;> first | rfl | (exact absurd h (by simp [noStar]))
theorem chkG_star {g : G} {tg : Expr} (h : chkG Y g tg = true) : noStar tg = true := by
  unfold chkG at h
  cases g <;> simp only at h <;> split at h <;> first | rfl | cases h
theorem s_set {g : G} {a : E} (k : OkS t C n W Y X) {st : Stmt} (h : chkS Y (.set g a) st = true) : PS X st (tS t C (run C n) W (.set g a)) := by
  unfold chkS at h
  split at h
  · rename_i tg e pos
    rw [Bool.and_eq_true, Bool.or_eq_true] at h
    obtain ⟨h0, h | h⟩ := h
    · simp only [Bool.and_eq_true] at h
      obtain ⟨⟨h1, h2⟩, h3⟩ := h
      have pe := (sE a W Y X k.toOk _ h3).1
      have pg := s_G k h2
      refine ms_asg (gt := tG t C (run C n) W g) pe pg (ps_asg pe pg (swaps_no h0) ?_ (assign_one (chkG_star h2)))
      cases tg with
      | Tuple ts kk pp =>
        cases e with
        | Tuple vs k2 p2 => exact sw_none k.sc h1
        | _ => exact sw_plain rfl
      | List _ _ => cases h1
      | _ => exact sw_other rfl
    · unfold chkPar at h
      split at h
      · rename_i i j A B x p y q kt pt vs k2 pt2
        simp only [Bool.and_eq_true, decide_eq_true_eq] at h
        obtain ⟨⟨⟨⟨⟨⟨⟨⟨h1, h2⟩, h3⟩, h4⟩, h5⟩, h6⟩, h7⟩, h8⟩, h9⟩ := h
        have hv := h9
        unfold chkE at hv
        simp only [Bool.and_eq_true] at hv
        have pa := sEs (.cons A (.cons B .nil)) W Y X k.toOk _ hv.2
        have hl : ∃ a b, vs = [a, b] := by
          have z := h8
          unfold swSome at z
          simp only [Bool.and_eq_true, beq_iff_eq] at z
          have zl : vs.length = 2 := z.1.1.1.1.1.2
          match vs, zl with
          | [a, b], _ => exact ⟨a, b, rfl⟩
        obtain ⟨va, vb, rfl⟩ := hl
        refine ms_par (ps_par k.calm k.nd (by rw [k.N]; exact h1) (by rw [k.N]; exact h2) h5 (k.toOk.loc h3) (k.toOk.loc h4) pa ?_ rfl)
        rw [sw_some k.sc h6 h8, h7]
      · rename_i i j l A B B2 x p y q z r kt pt vs k2 pt2
        simp only [Bool.and_eq_true, decide_eq_true_eq] at h
        obtain ⟨⟨⟨⟨⟨⟨⟨⟨⟨⟨⟨⟨h1, h2⟩, h2'⟩, h3⟩, h4⟩, h4'⟩, h5⟩, h5'⟩, h5''⟩, h6⟩, h7⟩, h8⟩, h9⟩ := h
        have hv := h9
        unfold chkE at hv
        simp only [Bool.and_eq_true] at hv
        have pa := sEs (.cons A (.cons B (.cons B2 .nil))) W Y X k.toOk _ hv.2
        have hl : ∃ a b c, vs = [a, b, c] := by
          have z := h8
          unfold swSome at z
          simp only [Bool.and_eq_true, beq_iff_eq] at z
          have zl : vs.length = 3 := z.1.1.1.1.1.2
          match vs, zl with
          | [a, b, c], _ => exact ⟨a, b, c, rfl⟩
        obtain ⟨va, vb, vc, rfl⟩ := hl
        refine ms_par3 (ps_par3 k.calm k.nd (by rw [k.N]; exact h1) (by rw [k.N]; exact h2) (by rw [k.N]; exact h2') h5 h5' h5'' (k.toOk.loc h3) (k.toOk.loc h4) (k.toOk.loc h4') pa ?_ rfl)
        rw [sw_some k.sc h6 h8, h7]
      · cases h
  · cases h
theorem s_aug {i : Nat} {op : Bin} {a : E} (k : OkS t C n W Y X) {st : Stmt} (h : chkS Y (.aug i op a) st = true) : PS X st (tS t C (run C n) W (.aug i op a)) := by
  unfold chkS at h
  split at h
  · simp only [Bool.and_eq_true, decide_eq_true_eq] at h
    obtain ⟨⟨⟨h1, h2⟩, h3⟩, h4⟩ := h
    subst h1
    exact ms_aug (ps_aug k.nd (by rw [k.N]; exact h2) (k.bnd h3) (sE a W Y X k.toOk _ h4).1 (ip_aug op) (.inl (k.fn _)))
  · cases h
theorem s_rse {c : Nat} (k : OkS t C n W Y X) {st : Stmt} (h : chkS Y (.rse c) st = true) : PS X st (tS t C (run C n) W (.rse c)) := by
  unfold chkS at h
  split at h
  · simp only [Bool.and_eq_true, decide_eq_true_eq] at h
    obtain ⟨h1, h2⟩ := h
    obtain ⟨g1, g2, _⟩ := k.toOk.gl h1
    obtain ⟨a, m1, m2, M⟩ := k.fa.erm _ _ h2
    refine PS.imp (ps_raise k.calm k.tk (pmk_own PySem.F.excBase_ValueError M.exc m1 M.keep (raises_own M.sub M.typ) g1 g2)) fun D σ H ⟨ρ, l, h, rp, rl, o⟩ => ?_
    unfold evS at o
    exact o ρ σ H _ _ (Step.refl rp) rl ⟨a, m2, rfl, .inl ⟨rfl, rfl⟩⟩
  · cases h
theorem s_rsep {c : Nat} {a : E} (k : OkS t C n W Y X) {st : Stmt} (h : chkS Y (.rsep c a) st = true) : PS X st (tS t C (run C n) W (.rsep c a)) := by
  unfold chkS at h
  split at h
  · simp only [Bool.and_eq_true, decide_eq_true_eq] at h
    obtain ⟨⟨⟨h1, h2⟩, h3⟩, h4⟩ := h
    obtain ⟨g1, g2, _⟩ := k.toOk.gl h1
    split at h2
    rotate_left
    · cases h2
    rename_i c' f' h5
    rw [decide_eq_true_eq] at h2
    rw [h2] at h5
    obtain ⟨ca, fI, _, m1, m2, T, _, hsup⟩ := k.fa.erp _ _ _ h5
    have pa := pa_cons (sE a W Y X k.toOk _ h4).1 pa_nil (star_ok h3 _ _)
    refine PS.imp (ps_raise k.calm k.tk (pmk_pay T m1 hsup k.room pa g1 g2 (star_ok h3 _ _))) fun D σ H ⟨ρ, l, h, rp, rl, o⟩ => ?_
    unfold evS at o
    refine ⟨ρ, l, h, rp, rl, OutS.bind rp rl o fun d h1 ρ1 H1 v s1 q1 rl1 o1 => ?_⟩
    refine ⟨v, rfl, fun dd hd => ?_⟩
    have s2 : Step t.K t.T ρ1 H1 ρ1 h1 (upd H1 dd (.xd [(t.fl c, v)])) := s1.rep.newT hd
    exact o1 ρ1 σ _ _ _ s2 (rl1.step s1.rep s2) ⟨ca, m2, rfl, .inr ⟨dd, v, rfl, upd_same, q1.newT hd⟩⟩
  · cases h
/-! ### try: .. except c as e: return e.f -/
theorem s_tryp {b : Ss} {c i : Nat} (k : OkS t C n W Y X) (hb : ∀ W Y X, OkS t C n W Y X → ∀ st, chkSs Y b st = true → PSs X st (tSs t C (run C n) W b)) {st : Stmt} (h : chkS Y (.tryp b c i) st = true) : PS X st (tS t C (run C n) W (.tryp b c i)) := by
  unfold chkS at h
  split at h
  · rename_i body x np nm n2 pn2 fl pa pr ph pos
    simp only [Bool.and_eq_true, decide_eq_true_eq] at h
    obtain ⟨⟨⟨⟨⟨⟨h1, h2⟩, h3⟩, h4⟩, rfl⟩, h6⟩, h8⟩ := h
    obtain ⟨g1, g2, _⟩ := k.toOk.gl h1
    obtain ⟨ca, fI, efl, m1, m2, T, Xf, hsup⟩ := k.fa.erp _ _ _ h2
    have eN : X.N[i]? = some n2 := by rw [k.N]; exact h3
    have hloc := k.toOk.loc h4
    have hno : PySem.W.findIn X.K (.ref ca) fl = some none := by rw [efl]; exact T.noN
    refine PS.imp (ps_try_as (i := i) (c := .ref ca) (tb := fun W' => tSs t C (run C n) W' b) (ts := fun a cls d => tRet (tXf a cls d ca fl (tVar i))) k.stk k.frm k.nd eN hloc ⟨g1, g2, .inl m1⟩ k.tk
      (fun W' pn xe tk po => hb W' { Y with lam := false } _ ?_ _ h8) (fun a oe cls d pn hz hf => pss_one (ps_ret (pe_xf Xf hno hz hf (pe_var eN (.inl hloc) (nm_ok h6).1 (nm_ok h6).2))))) fun D σ H ⟨ρ, l, h, rp, rl, o⟩ => ?_
    · exact ⟨⟨⟨k.fa.hK, k.fa.fns, k.fa.fre, k.fa.glo, k.fa.kds, k.fa.ers, k.fa.erm, k.fa.erp, k.fa.sub, k.fa.tls⟩, tk, k.nd, k.N, k.sc, k.calm, k.room, fun z => by cases z⟩, po, k.fn, k.stk, k.frm⟩
    · unfold evS at o
      refine ⟨ρ, l, h, rp, rl, ?_⟩
      cases e1 : evSs C (run C n) b l h with
      | nx l1 h1 => rw [e1] at o; exact o
      | rt d h => rw [e1] at o; exact o
      | bk l h => rw [e1] at o; exact o
      | ct l h => rw [e1] at o; exact o
      | no => rw [e1] at o; exact o
      | ex kk p l1 h1 =>
        rw [e1] at o
        simp only at o
        intro ρ' σ' H' cls d s' rl' rx
        obtain ⟨a, r1, r2, r3⟩ := id rx
        subst r2
        refine ⟨C.sub kk c, k.fa.sub kk c a ca r1 m2, fun hbt ae hae => ?_, fun hbf => ?_⟩
        · rw [if_pos hbt] at o
          split at o
          · rename_i hc
            rw [Bool.and_eq_true, Bool.and_eq_true, beq_iff_eq, decide_eq_true_eq] at hc
            obtain ⟨⟨rfl, hp⟩, hlt⟩ := hc
            rw [m2] at r1
            cases r1
            rcases r3 with ⟨_, r3⟩ | ⟨dd, v, r3, r4, r5⟩
            · subst r3
              cases hp
            · refine ⟨.ref ae, ?_, rfl, rfl, dd, _, v, r3, r4, ?_, ?_⟩
              · rw [rl'.1] at hlt
                exact List.getElem?_set_self hlt
              · rw [efl]
                simp [List.lookup]
              · exact o ρ' H' v s' r5
          · exact o.elim
        · rw [if_neg (by rw [hbf]; decide)] at o
          exact o ρ' σ' H' _ d s' rl' rx
  · cases h
/-! ### all -/
mutual
theorem sS : ∀ (s : S) (W : WX) (Y : Sy) (X : Cx), OkS t C n W Y X → ∀ st, chkS Y s st = true → PS X st (tS t C (run C n) W s)
  | .exp a, W, Y, X, k, st, h => by
    unfold chkS at h
    split at h
    · rw [Bool.and_eq_true] at h
      exact ms_exp (sE a W Y X k.toOk _ h.2).1 (swaps_no h.1)
    · cases h
  | .set g a, W, Y, X, k, st, h => s_set k h
  | .aug i op a, W, Y, X, k, st, h => s_aug k h
  | .ret a, W, Y, X, k, st, h => by
    unfold chkS at h
    split at h
    · exact ms_ret (sE a W Y X k.toOk _ h).1
    · cases h
  | .retN, W, Y, X, k, st, h => by
    unfold chkS at h
    split at h
    · exact ms_retN
    · cases h
  | .pas, W, Y, X, k, st, h => by
    unfold chkS at h
    split at h
    · exact ms_pas
    · cases h
  | .brk, W, Y, X, k, st, h => by
    unfold chkS at h
    split at h
    · exact ms_brk
    · cases h
  | .cnt, W, Y, X, k, st, h => by
    unfold chkS at h
    split at h
    · exact ms_cnt
    · cases h
  | .ite c a b, W, Y, X, k, st, h => by
    unfold chkS at h
    split at h
    · simp only [Bool.and_eq_true] at h
      exact ms_ite (sE c W Y X k.toOk _ h.1.1).2 (sSs a W Y X k _ h.1.2) (sSs b W Y X k _ h.2)
    · cases h
  | .whl c b, W, Y, X, k, st, h => by
    unfold chkS at h
    split at h
    · simp only [Bool.and_eq_true] at h
      exact ms_whl k.po (sE c W Y X k.toOk _ h.1).2 (sSs b W Y X k _ h.2)
    · cases h
  | .for_ g it b, W, Y, X, k, st, h => by
    unfold chkS at h
    split at h
    · simp only [Bool.and_eq_true] at h
      obtain ⟨⟨⟨h1, h2⟩, h3⟩, h4⟩ := h
      exact ms_for (ps_for k.po k.calm (sI it W Y X _ k.toOk _ h3) (s_G k h2) (sSs b W Y X k _ h4) (set_ok h1 _))
    · cases h
  | .rse c, W, Y, X, k, st, h => s_rse k h
  | .rsep c a, W, Y, X, k, st, h => s_rsep k h
  | .tryp b c i, W, Y, X, k, st, h => s_tryp k (fun W Y X k st h => sSs b W Y X k st h) h
theorem sSs : ∀ (s : Ss) (W : WX) (Y : Sy) (X : Cx), OkS t C n W Y X → ∀ st, chkSs Y s st = true → PSs X st (tSs t C (run C n) W s)
  | .nil, W, Y, X, k, st, h => by
    unfold chkSs at h
    split at h
    · exact mss_nil
    · cases h
  | .cons s ss, W, Y, X, k, st, h => by
    unfold chkSs at h
    split at h
    · rw [Bool.and_eq_true] at h
      exact mss_cons (sS s W Y X k _ h.1) (sSs ss W Y X k _ h.2)
    · cases h
end
end
end Ev

/-! Defs keep the evaluator's promise; the law's end. -/
namespace Ev
open PySem PySem.Spec PyProof.Rows L2

/-- a def: its name, how many parameters, its names (parameters first), the room beyond the fuel, are lambdas made -/
structure Ds where
  x : Str
  np : Nat
  N : List Str
  s : Nat
  lam : Bool
/-- the text's names -/
structure Gs where
  ds : List Ds
  fre : List Str
  glo : List (Str × Nat)
  kds : List (Str × Nat)
  ers : List (Str × Nat)
  erm : List (Str × Nat)
  erp : List (Str × Nat × Str)
  tls : List (Str × Nat)
def Gs.fns (g : Gs) : List (Str × Nat × Nat) := g.ds.zipIdx.map fun p => (p.1.x, p.2, p.1.s)
def Gs.sy (g : Gs) (d : Ds) (sc : Scope) : Sy := ⟨d.N, sc, d.s, g.fns, g.fre, g.glo, g.kds, g.ers, g.erm, g.erp, g.tls, d.lam⟩
theorem fns_at {g : Gs} {x : Str} {f k : Nat} (h : g.fns.lookup x = some (f, k)) : ∃ d, g.ds[f]? = some d ∧ d.x = x ∧ d.s = k := by
  have hm := PySem.mem_of_lookup h
  unfold Gs.fns at hm
  obtain ⟨⟨d, i⟩, hp, e⟩ := List.mem_map.mp hm
  have e1 : d.x = x ∧ i = f ∧ d.s = k := by
    injection e with e1 e2
    injection e2 with e2 e3
    exact ⟨e1, e2, e3⟩
  obtain ⟨h1, rfl, h3⟩ := e1
  refine ⟨d, ?_, h1, h3⟩
  have := List.mem_zipIdx_iff_getElem?.mp hp
  exact this
/-- a def as it stands behind the top -/
def DfOk (K : PySem.W.Frag) (mg : Str → Option Value) (C : Cfg) (g : Gs) (f : Nat) (d : Ds) : Prop :=
  ∃ (a : Addr) (fd : FuncData) (params : Arguments) (body : List Stmt) (scope : Scope) (b : Ss), mg d.x = some (.ref a) ∧ FunD K d.x d.x params body scope [] [] a fd ∧ L2.Binds K fd (d.N.take d.np) [] ∧ FnScope d.N (d.N.take d.np) scope ∧ d.np ≤ d.N.length ∧
    C.fns[f]? = some ⟨d.np, d.N.length, b⟩ ∧ chkSs (g.sy d scope) b body = true
/-- where lambdas are made: the def's code object and its table -/
def LmOk (K : PySem.W.Frag) (mg : Str → Option Value) (base : Heap) (T : List (Addr × Str)) (d : Ds) : Prop :=
  ∃ c P : Addr, (∀ a oc od fd osl, mg d.x = some (.ref a) → K.lookup a = some ⟨oc, od, .func fd, osl⟩ → fd.code = .ref c) ∧ LamX.TabB base mg c P ∧ (P, d.x ++ ".<locals>." ++ "<lambda>") ∈ T ∧ ∀ p ∈ T, p.1 = P → p.2 = d.x ++ ".<locals>." ++ "<lambda>"
/-- all but the defs -/
structure FaR (P : Program) (w : World) (K : PySem.W.Frag) (mg : Str → Option Value) (t : Tx) (C : Cfg) (g : Gs) : Prop where
  hK : K = t.K
  fre : ∀ x ∈ g.fre, mg x = none
  glo : ∀ x k, g.glo.lookup x = some k → ∃ u d v, mg x = some u ∧ RelV v u ∧ C.glo[k]? = some d ∧ ∀ ρ H, RD t.K ρ H d v
  kds : ∀ x k, g.kds.lookup x = some k → ∃ a es m kvs, mg x = some (.ref a) ∧ KDict K w a es m ∧ C.kds[k]? = some kvs ∧
    ∀ s : List Nat, ∃ r v, PySem.W.nsIn K a (sOf s) = some r ∧ r.isSome = (kvs.lookup s).isSome ∧ RelV v (r.getD .none) ∧ ∀ ρ H, RD t.K ρ H ((kvs.lookup s).getD .non) v
  ers : ∀ x c, g.ers.lookup x = some c → ∃ a, mg x = some (.ref a) ∧ t.cl c = some a
  erm : ∀ x c, g.erm.lookup x = some c → ∃ a, mg x = some (.ref a) ∧ t.cl c = some a ∧ MsgOk K a
  erp : ∀ x c f, g.erp.lookup x = some (c, f) → ∃ a fI, f = t.fl c ∧ mg x = some (.ref a) ∧ t.cl c = some a ∧ PayTxt P K a fI (t.fl c) ∧ XfC K a ∧ mg "super" = none
  sub : ∀ c c' a a', t.cl c = some a → t.cl c' = some a' → PySem.W.exmOne K (.ref a) (.ref a') = some (C.sub c c')
  tls : ∀ x k, g.tls.lookup x = some k → TldOk K mg C g.ers x k
section
variable {P : Program} {w : World} {K : PySem.W.Frag} {mg : Str → Option Value} {base : Heap} {t : Tx} {C : Cfg} {g : Gs}
theorem rl_start {ρ : List Addr} {H : Hp} {N : List Str} {xs : List D} {vs : List V} (r : RDs t.K ρ H xs vs) : RL t ρ H (startL N.length xs) (L2.start N vs) := by
  have hl := r.length
  unfold startL L2.start
  refine ⟨by simp [hl], fun i d e => ?_⟩
  by_cases hi : i < xs.length
  · rw [List.getElem?_append_left (by simpa using hi), List.getElem?_map] at e
    cases e1 : xs[i]? with
    | none => rw [e1] at e; cases e
    | some x =>
      rw [e1] at e
      cases e
      obtain ⟨v, e2, q⟩ := r.get e1
      refine ⟨v, ?_, q⟩
      rw [List.getElem?_append_left (by rw [List.length_map, ← hl]; exact hi), List.getElem?_map, e2]
      rfl
  · rw [List.getElem?_append_right (by simpa using hi), List.getElem?_replicate] at e
    split at e
    · cases e
    · cases e
theorem run_len {n f : Nat} {b : Ss} {np ns : Nat} {xs : List D} {h : VH} (hf : C.fns[f]? = some ⟨np, ns, b⟩) (hr : run C n f xs h ≠ .no) : xs.length = np := by
  cases n with
  | zero => exact absurd rfl hr
  | succ n =>
    unfold run at hr
    rw [hf] at hr
    simp only at hr
    split at hr
    · assumption
    · exact absurd rfl hr
theorem out_ne {W : WX} {σ : L2.St} {ρ : List Addr} {H : Hp} {r : R D} {Q : VK} (o : Out t W σ ρ H r Q) : r ≠ .no := fun e => by rw [e] at o; exact o
theorem fn_all (FR : FaR P w K mg t C g) (hd : ∀ (f : Nat) (d : Ds), g.ds[f]? = some d → DfOk K mg C g f d) (hl : ∀ (f : Nat) (d : Ds), g.ds[f]? = some d → d.lam = true → LmOk K mg base t.T d) :
    ∀ (n f : Nat) (d : Ds), g.ds[f]? = some d → ∃ a fd, mg d.x = some (.ref a) ∧ PySem.W.keepIn K (.ref a) = true ∧ L2.Binds K fd (d.N.take d.np) [] ∧ FnOk P w K mg base (L2.CX P w) (n + d.s) a fd (d.N.take d.np) (spEv t C n f) ∧ ∃ oc od osl, K.lookup a = some ⟨oc, od, .func fd, osl⟩ := by
  intro n
  induction n with
  | zero =>
    intro f d e
    obtain ⟨a, fd, params, body, scope, b, h1, h2, h3, h4, h5, h6, h7⟩ := hd f d e
    exact ⟨a, fd, h1, h2.kp, h3, ⟨fun vs H Q E h => by obtain ⟨ρ, hh, xs, _, _, o⟩ := h; exact (show False from o).elim, fun A outer s H args us vs Q E hr e0 hb r hsp => by obtain ⟨ρ, hh, xs, _, _, o⟩ := hsp; exact (show False from o).elim⟩, by obtain ⟨oc, od, dV, kV, doc, pm, an, cdv, ct, osl, rfl, lk, _⟩ := h2.ex; exact ⟨oc, od, osl, lk⟩⟩
  | succ n ih =>
    intro f d e
    obtain ⟨a, fd, params, body, scope, b, h1, h2, h3, h4, h5, h6, h7⟩ := hd f d e
    obtain ⟨oc, od, dV, kV, doc, pm, an, cdv, ct, osl, rfl, lk, hcd, _, _⟩ := id h2.ex
    refine ⟨a, _, h1, h2.kp, h3, ?_, oc, od, osl, lk⟩
    have hs : n + 1 + d.s = (n + d.s) + 1 := by omega
    rw [hs]
    have hln : (d.N.take d.np).length = d.np := by rw [List.length_take]; omega
    refine fn_of lk hcd h4 (fun vs H Q E h => ?_) (fun A outer s H vs Q E hr hsp => ?_)
    · obtain ⟨ρ, hh, xs, _, rx, o⟩ := h
      rw [hln, ← rx.length]
      exact run_len h6 (out_ne o)
    · obtain ⟨ρ, hh, xs, rp, rx, o⟩ := hsp
      have Fx : Facts P w K mg base t C n (g.sy d scope) := ⟨FR.hK, fun x f' k' ef => by
        obtain ⟨d', e1, e2, e3⟩ := fns_at ef
        obtain ⟨a', fd', m1, m2, m3, m4, _⟩ := ih f' d' e1
        subst e2 e3
        exact ⟨a', fd', _, m1, m2, m3, m4⟩, FR.fre, FR.glo, FR.kds, FR.ers, FR.erm, FR.erp, FR.sub, FR.tls⟩
      have ok : OkS t C n (fun cls d _ H => E cls d H) (g.sy d scope) (cxOf (L2.CX P w) P w K mg base d.N d.x scope a cdv A outer s H E) := ⟨⟨Fx, takes_of rfl rfl rfl rfl, h4.nd, rfl, rfl, rfl, hr, fun hlam => by
        obtain ⟨c, Pa, l1, l2, l3, l4⟩ := hl f d e hlam
        exact ⟨c, Pa, l2, l1 a _ _ _ _ h1 lk, l3, l4⟩⟩, passes_of rfl, fun _ => rfl, rfl, rfl⟩
      refine ⟨_, sSs b _ _ _ ok _ h7, ρ, startL d.N.length xs, hh, rp, rl_start rx, ?_⟩
      have hx : xs.length = d.np := run_len h6 (out_ne o)
      unfold run at o
      rw [h6] at o
      simp only [hx, if_true] at o
      cases e1 : evSs C (run C n) b (startL d.N.length xs) hh with
      | nx l h1 => rw [e1] at o; exact fun ρ' σ' H' s' r => o ρ' H' .non s' .non
      | rt d h1 => rw [e1] at o; exact fun ρ' H' v s' r => o ρ' H' v s' r
      | ex c p l h1 => rw [e1] at o; exact fun ρ' σ' H' cls d s' r x => o ρ' H' cls d s' x
      | bk l h1 => rw [e1] at o; exact (show False from o).elim
      | ct l h1 => rw [e1] at o; exact (show False from o).elim
      | no => rw [e1] at o; exact (show False from o).elim
end
end Ev

/-! The written part's facts by Bools. -/
namespace Ev
open PySem PySem.Spec PyProof.Rows L2

/-! ### an error with a payload -/
def bodyB (f : Str) (b : FuncBody) : Bool := match b with
  | .stmts [.Expr (.Call (.Attribute (.Call (.Name s0 _) [] [] _) i0 p2) [.Constant (.str _) _ _] [] p4) _, .Assign [.Attribute (.Name s1 _) f1 _] (.Name f2 _) _] =>
    decide (s0 = "super") && decide (i0 = "__init__") && decide (s1 = "self") && decide (f1 = f) && decide (f2 = f) && (p2.endLine == p4.line)
  | _ => false
theorem bodyB_ok {f : Str} {b : FuncBody} (h : bodyB f b = true) : ∃ msg j p0 p1 p2 p3 p4 p5 q1 q2 q3 q4, b = .stmts (iB f msg j p0 p1 p2 p3 p4 p5 q1 q2 q3 q4) ∧ (p2.endLine == p4.line) = true := by
  unfold bodyB at h
  split at h
  · simp only [Bool.and_eq_true, decide_eq_true_eq] at h
    obtain ⟨⟨⟨⟨⟨rfl, rfl⟩, rfl⟩, rfl⟩, rfl⟩, h⟩ := h
    exact ⟨_, _, _, _, _, _, _, _, _, _, _, _, rfl, h⟩
  · cases h
def parB (f : Str) (a : Arguments) : Bool := match a with
  | ⟨[], [⟨a1, none, _⟩, ⟨a2, none, _⟩], none, [], [], none, []⟩ => decide (a1 = "self") && decide (a2 = f)
  | _ => false
theorem parB_ok {f : Str} {a : Arguments} (h : parB f a = true) : ∃ p1 p2, a = iA f p1 p2 := by
  unfold parB at h
  split at h
  · simp only [Bool.and_eq_true, decide_eq_true_eq] at h
    obtain ⟨rfl, rfl⟩ := h
    exact ⟨_, _, rfl⟩
  · cases h
def scB (f : Str) (sc : Scope) : Bool := decide (sc.kind = .function) && !sc.isCoroutine && !sc.isGenerator && (sc.names.all fun y => !decide (y.2 = .cell)) && decide (sc.names.lookup ("self" : Str) = some .local) && decide (sc.names.lookup f = some .local) &&
  decide (sc.names.lookup ("super" : Str) = some .globalImplicit) && decide (sc.names.lookup ("__class__" : Str) = some .free)
def fileB (P : Program) (K : PySem.W.Frag) (c : Addr) : Bool := match K.lookup c with
  | some ⟨_, _, .fields vs, _⟩ => (match (vs[2]? : Option Value) with
    | some (Value.str file _) => (P.main.file : Str) == file
    | _ => false)
  | _ => false
theorem fileB_ok {P : Program} {K : PySem.W.Frag} {c : Addr} (h : fileB P K c = true) : ∃ ccl cdd vs ccs file tf, K.lookup c = some ⟨ccl, cdd, .fields vs, ccs⟩ ∧ vs[2]? = some (.str file tf) ∧ ((P.main.file : Str) == file) = true := by
  unfold fileB at h
  split at h
  · rename_i ho
    split at h
    · rename_i hv
      exact ⟨_, _, _, _, _, _, ho, hv, h⟩
    · cases h
  · cases h
def cellB (K : PySem.W.Frag) (c C : Addr) : Bool := match K.lookup c with
  | some ⟨_, _, .cell (some (.ref D)), _⟩ => D == C
  | _ => false
theorem cellB_ok {K : PySem.W.Frag} {c C : Addr} (h : cellB K c C = true) : ∃ cl cld csl, K.lookup c = some ⟨cl, cld, .cell (some (.ref C)), csl⟩ := by
  unfold cellB at h
  split at h
  · rename_i ho
    rw [beq_iff_eq.mp h] at ho
    exact ⟨_, _, _, ho⟩
  · cases h
def initB (P : Program) (K : PySem.W.Frag) (C fI : Addr) (f : Str) : Bool := match K.lookup fI with
  | some ⟨_, _, .func fd, _⟩ => (match fd.defaults, fd.kwdefaults, fd.code, fd.closure with
    | .none, .none, .ref cda, [(x, cc)] => decide (fd.name = "__init__") && decide (fd.globals = mainGlobals) && decide (fd.builtins = builtinsNs) && decide (x = "__class__") && bodyB f fd.body && parB f fd.params && scB f fd.scope && PySem.W.codeIn K (.ref cda) fd.qualname && fileB P K cda && cellB K cc C
    | _, _, _, _ => false)
  | _ => false
def veB (K : PySem.W.Frag) (C : Addr) : Bool := match K.lookup C with
  | some ⟨.type "type", _, .cls cd, sl⟩ => (match cd.mro, sl.toList with
    | .ref C' :: bm, [_, _, _, _, some (.builtin n), _] => C' == C && n == "ValueError.__new__" && !cd.hasDel && cd.hasDict && HandSPX.refsVE bm
    | _, _ => false)
  | _ => false
theorem veB_ok {K : PySem.W.Frag} {C : Addr} (h : veB K C = true) : ∃ nm q N bs bm sn sub ab col dd k0 k1 k2 k3 k5, K.lookup C = some (excClassObj nm q C N bs bm true sn sub ab col dd k0 k1 k2 k3 k5 "ValueError.__new__") ∧ HandSPX.refsVE bm = true := by
  unfold veB at h
  split at h
  · rename_i dd cd sl ho
    split at h
    · rename_i C' bm k0 k1 k2 k3 n k5 hm hs
      simp only [Bool.and_eq_true, beq_iff_eq, Bool.not_eq_true'] at h
      obtain ⟨⟨⟨⟨rfl, rfl⟩, hdel⟩, hdi⟩, hr⟩ := h
      obtain ⟨nm, bs, mro, ns, qn, hd, sn, sub, ab, col, del⟩ := cd
      dsimp only at hm hdel hdi
      subst hm hdel hdi
      have hsl : sl = #[k0, k1, k2, k3, some (.builtin "ValueError.__new__"), k5] := by
        obtain ⟨l⟩ := sl
        simp only at hs
        rw [hs]
      subst hsl
      exact ⟨nm, qn, ns, bs, bm, sn, sub, ab, col, dd, k0, k1, k2, k3, k5, ho, hr⟩
    · cases h
  · cases h
def payB (P : Program) (K : PySem.W.Frag) (C : Addr) (f : Str) : Bool :=
  veB K C && He.eqO (PySem.W.findIn K (.ref C) "__setattr__") (some (some (.builtin "object.__setattr__"))) && He.eqO (PySem.W.findIn K (.ref C) f) (some none) && He.eqO (PySem.W.findIn K (.ref C) "__init__") (some (some (.ref (He.ma K C "__init__")))) &&
  decide (PySem.W.typeIn K (.ref (He.ma K C "__init__")) = some (.type "function")) && PySem.W.keepIn K (.ref C) && decide (PySem.W.subIn K (.ref C) (.type "BaseException") = some true) && decide (PySem.W.subIn K (.ref C) (.type "ValueError") = some true) &&
  decide (PySem.W.typeIn K (.ref C) = some (.type "type")) && decide (PySem.W.mroIn K C (.ref C) = some true) && He.eqO (PySem.W.ks_superIn K C C "__init__") (some (some (.builtin "ValueError.__init__"))) && He.eqO (PySem.W.nsIn K cStatics "thirdparty.any") (some none) &&
  !(P.main.scope.names.lookup ("super" : Str)).isSome && initB P K C (He.ma K C "__init__") f && (decide (f = "row") || decide (f = "turns") || decide (f = "part"))
theorem payB_ok {P : Program} {K : PySem.W.Frag} {C : Addr} {f : Str} (h : payB P K C f = true) : PayTxt P K C (He.ma K C "__init__") f := by
  unfold payB at h
  simp only [Bool.and_eq_true, Bool.or_eq_true, decide_eq_true_eq, Bool.not_eq_true'] at h
  obtain ⟨⟨⟨⟨⟨⟨⟨⟨⟨⟨⟨⟨⟨⟨h1, h2⟩, h3⟩, h4⟩, h5⟩, h6⟩, h7⟩, h8⟩, h9⟩, h10⟩, h11⟩, h12⟩, h13⟩, h14⟩, h15⟩ := h
  refine ⟨veB_ok h1, He.eqO_ok h2, He.eqO_ok h3, He.eqO_ok h4, h5, h6, h7, h8, h9, h10, He.eqO_ok h11, He.eqO_ok h12, h13, ?_, ?_⟩
  · unfold initB at h14
    split at h14
    · rename_i oc od fd osl ho
      split at h14
      · rename_i cda x cc e1 e2 e3 e4
        simp only [Bool.and_eq_true, decide_eq_true_eq] at h14
        obtain ⟨⟨⟨⟨⟨⟨⟨⟨⟨a1, a2⟩, a3⟩, a4⟩, a5⟩, a6⟩, a7⟩, a8⟩, a9⟩, a10⟩ := h14
        obtain ⟨n1, n2, n3, n4, n5, n6, n7, n8, n9, n10, n11, n12, n13, n14, n15⟩ := fd
        simp only at e1 e2 e3 e4 a1 a2 a3 a5 a6 a7 a8
        obtain ⟨msg, j, p0, p1, p2, p3, p4, p5, q1, q2, q3, q4, rfl, hl⟩ := bodyB_ok a5
        obtain ⟨b1, b2, rfl⟩ := parB_ok a6
        subst e1 e2 e3 e4 a1 a2 a3 a4
        unfold scB at a7
        simp only [Bool.and_eq_true, decide_eq_true_eq, Bool.not_eq_true', List.all_eq_true, decide_eq_false_iff_not] at a7
        obtain ⟨⟨⟨⟨⟨⟨⟨s1, s2⟩, s3⟩, s4⟩, s5⟩, s6⟩, s7⟩, s8⟩ := a7
        exact ⟨oc, od, n10, n11, n12, cda, cc, n14, osl, n2, msg, j, n5, b1, b2, p0, p1, p2, p3, p4, p5, q1, q2, q3, q4, ho, a8, hl, s1, s2, s3, s4, s5, s6, s7, s8, fileB_ok a9, cellB_ok a10⟩
      · cases h14
    · cases h14
  · rcases h15 with (h | h) | h
    · exact .inl h
    · exact .inr (.inl h)
    · exact .inr (.inr h)
/-! ### a written dict: texts to plain values -/
def litB : D → Value → Bool
  | .non, .none => true
  | .bl b, .bool c => b == c
  | .int i, .int j _ => i == j
  | .str s, .str x _ => x.cps.toList == s && s.all (fun c => decide (c < 1114112))
  | _, _ => false
theorem litB_ok {K : PySem.W.Frag} {d : D} {u : Value} (h : litB d u = true) : ∃ v, RelV v u ∧ ∀ ρ H, RD K ρ H d v := by
  unfold litB at h
  split at h
  · exact ⟨.non, rfl, fun _ _ => .non⟩
  · rw [beq_iff_eq.mp h]; exact ⟨.bl _, rfl, fun _ _ => .bl _⟩
  · rw [beq_iff_eq.mp h]; exact ⟨.int _, ⟨_, rfl⟩, fun _ _ => .int _⟩
  · simp only [Bool.and_eq_true, List.all_eq_true, decide_eq_true_eq, beq_iff_eq] at h
    obtain ⟨h1, h2⟩ := h
    subst h1
    refine ⟨.str _, ⟨_, rfl⟩, fun ρ H => ?_⟩
    have := RD.str (K := K) (ρ := ρ) (H := H) h2
    rw [sOf_of] at this
    exact this
  · cases h
def entsB : List (List Nat × D) → List DictEntry → Bool
  | [], [] => true
  | (s, d) :: r, e :: es => (match e.key with
    | .str x _ => x.cps.toList == s
    | _ => false) && litB d e.val && entsB r es
  | _, _ => false
def kdB (K : PySem.W.Frag) (a : Addr) (kvs : List (List Nat × D)) : Bool := match K.lookup a with
  | some ⟨_, _, .dict es _, _⟩ => entsB kvs es.toList
  | _ => false
theorem ents_find {K : PySem.W.Frag} (s : List Nat) : ∀ {kvs : List (List Nat × D)} {es : List DictEntry}, entsB kvs es = true →
    (es.any (·.refKey)) = false ∧ ((kvs.lookup s = none ∧ es.find? (·.key.isStr (sOf s)) = none) ∨ ∃ d e, kvs.lookup s = some d ∧ es.find? (·.key.isStr (sOf s)) = some e ∧ litB d e.val = true)
  | [], [], _ => ⟨rfl, .inl ⟨rfl, rfl⟩⟩
  | [], _ :: _, h => by cases h
  | (_, _) :: _, [], h => by cases h
  | (s0, d0) :: r, e :: es, h => by
    have h' : ((match e.key with | .str x _ => x.cps.toList == s0 | _ => false) && litB d0 e.val && entsB r es) = true := h
    simp only [Bool.and_eq_true] at h'
    obtain ⟨⟨h1, h2⟩, h3⟩ := h'
    obtain ⟨i1, i2⟩ := ents_find (K := K) s h3
    split at h1
    · rename_i x tk ek
      have ex : x = sOf s0 := by rw [← beq_iff_eq.mp h1, sOf_of]
      have rk : e.refKey = false := by unfold DictEntry.refKey; rw [ek]
      refine ⟨by rw [List.any_cons, rk, i1]; rfl, ?_⟩
      have ke : e.key.isStr (sOf s) = (s == s0) := by
        rw [ek, ex]
        show (sOf s0 == sOf s) = _
        rw [str_beq, Bool.eq_iff_iff]
        simp only [beq_iff_eq]
        exact ⟨Eq.symm, Eq.symm⟩
      by_cases hs : s = s0
      · refine .inr ⟨d0, e, ?_, ?_, h2⟩
        · rw [List.lookup_cons, hs]; simp
        · rw [List.find?_cons, ke, hs]; simp
      · have hb : (s == s0) = false := by simpa using hs
        rw [List.lookup_cons, List.find?_cons, ke, hb]
        exact i2
    · cases h1
theorem kdB_ok {K : PySem.W.Frag} {a : Addr} {kvs : List (List Nat × D)} (h : kdB K a kvs = true) (s : List Nat) : ∃ r v, PySem.W.nsIn K a (sOf s) = some r ∧ r.isSome = (kvs.lookup s).isSome ∧ RelV v (r.getD .none) ∧ ∀ ρ H, RD K ρ H ((kvs.lookup s).getD .non) v := by
  unfold kdB at h
  split at h
  · rename_i es m sl ho
    obtain ⟨h1, h2⟩ := ents_find (K := K) s h
    unfold PySem.W.nsIn
    rw [ho]
    simp only
    rcases h2 with ⟨e1, e2⟩ | ⟨d, e, e1, e2, e3⟩
    · rw [e2, h1, e1]
      exact ⟨none, .non, rfl, rfl, rfl, fun _ _ => .non⟩
    · rw [e2, e1]
      obtain ⟨v, r, q⟩ := litB_ok (K := K) e3
      exact ⟨some e.val, v, rfl, rfl, r, q⟩
  · cases h
end Ev

/-! From the head's facts to the law's end. -/
namespace Ev
open PySem PySem.Spec PyProof.Rows L2

/-- a text: its names, its compact form, its statements (aligned with the names), its told defs -/
structure Pr where
  P : Program
  g : Gs
  C : Cfg
  st : List Stmt
  /-- name, parameter, names, statement -/
  tl : List (Str × Str × List Str × Stmt)
def ddOf (x : Str) (s : Stmt) : He.DefD := ⟨(x, none), x, x, defArgs s, defBody s, defScope s, [], []⟩
def Pr.fn (p : Pr) : List He.DefD := (p.g.ds.zip p.st).map (fun q => ddOf q.1.x q.2) ++ p.tl.map (fun q => ddOf q.1 q.2.2.2)
def Pr.fa (p : Pr) : List He.Fa := (p.g.ds.map fun d => .glo d.x) ++ ((p.tl.map fun q => .glo q.1) ++ ((p.g.fre.map fun x => .free x) ++ (.free "super" :: ((p.g.ers.map fun q => .glo q.1) ++ ((p.g.erm.map fun q => .exc q.1) ++ (p.g.kds.map fun q => .glo q.1))))))
def Pr.ts (p : Pr) : List He.Tab := p.g.kds.map fun q => ((fun K => He.ga K q.1), ((p.C.kds[q.2]?).getD []).map fun e => sOf e.1)
def Pr.lms (p : Pr) : List Ds := p.g.ds.filter (·.lam)
def Pr.tf (p : Pr) : List He.Defn := p.lms.map fun d => (d.x, none)
def Pr.tx (p : Pr) (K : PySem.W.Frag) : Tx := ⟨K, p.lms.map fun d => ((He.cT K (d.x, none)).2, d.x ++ ".<locals>." ++ "<lambda>"), fun c => (p.g.ers.find? fun q => q.2 == c).map fun q => He.ga K q.1, fun c => ((p.g.erp.find? fun q => q.2.1 == c).map (·.2.2)).getD ""⟩
def Pr.ex (p : Pr) (K : PySem.W.Frag) : Bool := (p.g.erp.all fun q => payB p.P K (He.ga K q.1) q.2.2 && xfB K (He.ga K q.1)) && (p.g.ers.all fun a => p.g.ers.all fun b => decide (PySem.W.exmOne K (.ref (He.ga K a.1)) (.ref (He.ga K b.1)) = some (p.C.sub a.2 b.2))) &&
  (p.g.kds.all fun q => kdB K (He.ga K q.1) ((p.C.kds[q.2]?).getD [])) && decide ((p.lms.map fun d => (He.cT K (d.x, none)).2).Nodup) &&
  (p.g.glo.all fun q => match PySem.W.nsIn K mainGlobals q.1, p.C.glo[q.2]? with
    | some (some u), some d => litB d u
    | _, _ => false)
/-- the def's scope -/
def fnScB (N ps : List Str) (sc : Scope) : Bool := decide (sc.kind = .function) && !sc.isCoroutine && !sc.isGenerator && decide N.Nodup && decide (N.take ps.length = ps) && (ps.all fun x => decide (sc.names.lookup x = some .local) || decide (sc.names.lookup x = some .cell)) && sc.names.all fun y => !decide (y.2 = .free)
theorem fnScB_ok {N ps : List Str} {sc : Scope} (h : fnScB N ps sc = true) : FnScope N ps sc := by
  unfold fnScB at h
  simp only [Bool.and_eq_true, Bool.not_eq_true', decide_eq_true_eq, List.all_eq_true, Bool.or_eq_true, decide_eq_false_iff_not] at h
  obtain ⟨⟨⟨⟨⟨⟨h1, h2⟩, h3⟩, h4⟩, h5⟩, h6⟩, h7⟩ := h
  exact ⟨h1, h2, h3, h4, h5, h6, h7⟩
/-- one def's text -/
def dfB (p : Pr) (f : Nat) (d : Ds) (s : Stmt) : Bool := match p.C.fns[f]? with
  | some F => decide (F.np = d.np) && decide (F.ns = d.N.length) && decide (d.np ≤ d.N.length) && fnScB d.N (d.N.take d.np) (defScope s) && chkSs (p.g.sy d (defScope s)) F.body (defBody s)
  | none => false
def visB (sc : Scope) (x : Str) : Bool := decide (sc.names.lookup x = some .local) || decide (sc.names.lookup x = some .cell)
def tlB (p : Pr) (q : Str × Nat) : Bool := match p.tl[q.2]?, p.C.tls[q.2]? with
  | some (x, a, N, s), some cs => decide (x = q.1) && decide (N[0]? = some a) && nmOk a && visB (defScope s) a && fnScB N [a] (defScope s) && tldB p.g.ers (defScope s) a cs (defBody s)
  | _, _ => false
/-- what is seen of the text alone -/
structure Pr.Ok (p : Pr) : Prop where
  len : p.st.length = p.g.ds.length
  defs : ∀ (f : Nat) (d : Ds) (s : Stmt), p.g.ds[f]? = some d → p.st[f]? = some s → dfB p f d s = true
  bnd : ∀ (f : Nat) (d : Ds) (s : Stmt), p.g.ds[f]? = some d → p.st[f]? = some s → ∀ (kV doc pm : Value) (an : Option Addr) (cdv ct : Value) (us : List Value), us.length = (d.N.take d.np).length →
    bindArgs (PySem.W.fnOf d.x d.x (defArgs s) (defBody s) (defScope s) .none kV doc pm an cdv ct) ⟨us, []⟩ = pure ((d.N.take d.np).zip us)
  tls : (p.g.tls.all fun q => tlB p q) = true
  bndT : ∀ q ∈ p.tl, ∀ (kV doc pm : Value) (an : Option Addr) (cdv ct : Value) (us : List Value), us.length = [q.2.1].length →
    bindArgs (PySem.W.fnOf q.1 q.1 (defArgs q.2.2.2) (defBody q.2.2.2) (defScope q.2.2.2) .none kV doc pm an cdv ct) ⟨us, []⟩ = pure ([q.2.1].zip us)
  ers : (decide (p.g.ers.map (·.2)).Nodup && (p.g.erm.all fun q => decide (p.g.ers.lookup q.1 = some q.2)) && (p.g.erp.all fun q => decide (p.g.ers.lookup q.1 = some q.2.1)) && decide (p.g.erp.map (·.2.1)).Nodup && (p.g.kds.all fun q => decide (p.C.kds[q.2]?).isSome)) = true
theorem find_nodup {α : Type} {l : List (α × Nat)} {x : α} {c : Nat} (hn : (l.map (·.2)).Nodup) (h : (x, c) ∈ l) : l.find? (fun q => q.2 == c) = some (x, c) := by
  induction l with
  | nil => cases h
  | cons y r ih =>
    rw [List.map_cons, List.nodup_cons] at hn
    rw [List.find?_cons]
    rcases List.mem_cons.mp h with rfl | h
    · simp
    · have ne : (y.2 == c) = false := by
        rw [beq_eq_false_iff_ne]
        intro z
        exact hn.1 (z ▸ List.mem_map.mpr ⟨_, h, rfl⟩)
      rw [ne]
      exact ih hn.2 h
theorem find_nodup3 {α β : Type} {l : List (α × Nat × β)} {x : α} {c : Nat} {b : β} (hn : (l.map (·.2.1)).Nodup) (h : (x, c, b) ∈ l) : l.find? (fun q => q.2.1 == c) = some (x, c, b) := by
  induction l with
  | nil => cases h
  | cons y r ih =>
    rw [List.map_cons, List.nodup_cons] at hn
    rw [List.find?_cons]
    rcases List.mem_cons.mp h with rfl | h
    · simp
    · have ne : (y.2.1 == c) = false := by
        rw [beq_eq_false_iff_ne]
        intro z
        exact hn.1 (z ▸ List.mem_map.mpr ⟨_, h, rfl⟩)
      rw [ne]
      exact ih hn.2 h
theorem inj_map {α β : Type} {f : α → β} : ∀ {l : List α}, (l.map f).Nodup → ∀ {a b : α}, a ∈ l → b ∈ l → f a = f b → a = b
  | [], _, _, _, ha, _, _ => by cases ha
  | x :: r, hn, a, b, ha, hb, e => by
    rw [List.map_cons, List.nodup_cons] at hn
    rcases List.mem_cons.mp ha with ea | ha'
    · rcases List.mem_cons.mp hb with eb | hb'
      · rw [ea, eb]
      · exact absurd (by rw [← ea, e]; exact List.mem_map.mpr ⟨b, hb', rfl⟩) hn.1
    · rcases List.mem_cons.mp hb with eb | hb'
      · exact absurd (by rw [← eb, ← e]; exact List.mem_map.mpr ⟨a, ha', rfl⟩) hn.1
      · exact inj_map hn.2 ha' hb' e
section
variable {p : Pr} {w : World} {K : PySem.W.Frag} {h : Heap} {mg : Str → Option Value}
theorem Pr.far (ok : p.Ok) (X : K.In h) (G : h.Ns mainGlobals mg) (c : He.SaysX p.fa p.fn p.ts p.tf p.ex w h K) : FaR p.P w K mg (p.tx K) p.C p.g := by
  have fact : ∀ {f : He.Fa}, f ∈ p.fa → f.ok K = true := fun hf => c.t.d.facts hf
  have m := c.more
  unfold Pr.ex at m
  simp only [Bool.and_eq_true, List.all_eq_true, decide_eq_true_eq] at m
  obtain ⟨⟨⟨⟨m1, m2⟩, m3⟩, m4⟩, m5⟩ := m
  have e0 := ok.ers
  simp only [Bool.and_eq_true, List.all_eq_true, decide_eq_true_eq] at e0
  obtain ⟨⟨⟨⟨e1, e2⟩, e3⟩, e4⟩, e5⟩ := e0
  have gers : ∀ q ∈ p.g.ers, mg q.1 = some (.ref (He.ga K q.1)) ∧ (p.tx K).cl q.2 = some (He.ga K q.1) := fun q hq => by
    refine ⟨He.glo_ok X G (fact ?_), ?_⟩
    · unfold Pr.fa
      simp only [List.mem_append, List.mem_cons, List.mem_map]
      exact .inr (.inr (.inr (.inr (.inl ⟨q, hq, rfl⟩))))
    · show (p.g.ers.find? fun z => z.2 == q.2).map (fun z => He.ga K z.1) = _
      rw [find_nodup e1 (show (q.1, q.2) ∈ p.g.ers from hq)]
      rfl
  refine ⟨rfl, fun x hx => He.free_ok X G (fact ?_), fun x k ek => ?_, fun x k ek => ?_, fun x cc ec => ⟨_, gers _ (PySem.mem_of_lookup ec)⟩, fun x cc ec => ?_, fun x cc f ec => ?_, fun cc cc' a a' h1 h2 => ?_, fun x k ek => ?_⟩
  · unfold Pr.fa
    simp only [List.mem_append, List.mem_cons, List.mem_map]
    exact .inr (.inr (.inl ⟨x, hx, rfl⟩))
  · have h5 := m5 _ (PySem.mem_of_lookup ek)
    simp only at h5
    split at h5
    · rename_i u d hu hd
      obtain ⟨v, r, q⟩ := litB_ok (K := K) h5
      exact ⟨u, d, v, PySem.W.mg_of X G hu, r, hd, q⟩
    · cases h5
  · have hm := PySem.mem_of_lookup ek
    obtain ⟨i, hi, ei⟩ := List.getElem_of_mem hm
    have e6 := e5 _ hm
    simp only at e6
    cases e7 : p.C.kds[k]? with
    | none => rw [e7] at e6; cases e6
    | some kvs =>
      obtain ⟨es, n, D⟩ := c.t.tab i (t := ((fun K => He.ga K x), ((p.C.kds[k]?).getD []).map fun e => sOf e.1)) (by unfold Pr.ts; rw [List.getElem?_map, List.getElem?_eq_getElem hi, ei]; rfl)
      have h3 := m3 _ hm
      rw [e7] at h3
      refine ⟨_, es, n, kvs, He.glo_ok X G (fact ?_), D, rfl, fun s => kdB_ok h3 s⟩
      unfold Pr.fa
      simp only [List.mem_append, List.mem_cons, List.mem_map]
      exact .inr (.inr (.inr (.inr (.inr (.inr ⟨(x, k), hm, rfl⟩)))))
  · have hm := PySem.mem_of_lookup ec
    have hx := e2 _ hm
    obtain ⟨g1, g2⟩ := gers _ (PySem.mem_of_lookup hx)
    obtain ⟨f1, f2, f3, f4⟩ := He.exc_ok (fact (f := .exc x) (by
      unfold Pr.fa
      simp only [List.mem_append, List.mem_cons, List.mem_map]
      exact .inr (.inr (.inr (.inr (.inr (.inl ⟨(x, cc), hm, rfl⟩)))))))
    exact ⟨_, g1, g2, ⟨f1, f2, f3, f4⟩⟩
  · have hm := PySem.mem_of_lookup ec
    have hx := e3 _ hm
    obtain ⟨g1, g2⟩ := gers _ (PySem.mem_of_lookup hx)
    obtain ⟨p1, p2⟩ := m1 _ hm
    have efl : f = (p.tx K).fl cc := by
      show f = ((p.g.erp.find? fun q => q.2.1 == cc).map (·.2.2)).getD ("" : Str)
      rw [find_nodup3 e4 hm]
      rfl
    refine ⟨_, _, efl, g1, g2, efl ▸ payB_ok p1, xfB_ok p2, He.free_ok X G (fact ?_)⟩
    unfold Pr.fa
    simp only [List.mem_append, List.mem_cons, List.mem_map]
    exact .inr (.inr (.inr (.inl (by first | rfl | trivial))))
  · have key : ∀ {z : Nat} {b : Addr}, (p.tx K).cl z = some b → ∃ q ∈ p.g.ers, q.2 = z ∧ b = He.ga K q.1 := fun {z b} hz => by
      have hz : (p.g.ers.find? fun q => q.2 == z).map (fun q => He.ga K q.1) = some b := hz
      rw [Option.map_eq_some_iff] at hz
      obtain ⟨q, hq, rfl⟩ := hz
      exact ⟨q, List.mem_of_find?_eq_some hq, by simpa using List.find?_some hq, rfl⟩
    obtain ⟨q1, a1, rfl, rfl⟩ := key h1
    obtain ⟨q2, a2, rfl, rfl⟩ := key h2
    exact m2 q1 a1 q2 a2
  · have ht := List.all_eq_true.mp ok.tls _ (PySem.mem_of_lookup ek)
    unfold tlB at ht
    simp only at ht
    split at ht
    · rename_i x' a N s cs hl hcs
      simp only [Bool.and_eq_true, decide_eq_true_eq] at ht
      obtain ⟨⟨⟨⟨⟨rfl, t2⟩, t3⟩, t4⟩, t5⟩, t6⟩ := ht
      have hmem : (x', a, N, s) ∈ p.tl := List.mem_of_getElem? hl
      obtain ⟨fd, F⟩ := c.t.d.defs (d := ddOf x' s) (by
        unfold Pr.fn
        exact List.mem_append_right _ (List.mem_map.mpr ⟨_, hmem, rfl⟩))
      have B := FunD.bindsN (ps := [a]) F (ok.bndT _ hmem)
      obtain ⟨oc, od, dV, kV, doc, pm, an, cdv, ct, osl, rfl, lk, hcd, _, _⟩ := F.ex
      have gm : mg x' = some (.ref (He.fAd K (x', none))) := He.glo_ok X G (fact (f := .glo x') (by
        unfold Pr.fa
        simp only [List.mem_append, List.mem_cons, List.mem_map]
        exact .inr (.inl ⟨_, hmem, rfl⟩)))
      have vis : Vis (defScope s) a := by
        unfold visB at t4
        rw [Bool.or_eq_true, decide_eq_true_eq, decide_eq_true_eq] at t4
        exact t4.elim .inl fun z => .inr (.inl z)
      exact ⟨_, a, cs, _, _, _, dV, kV, doc, pm, cdv, ct, oc, an, od, osl, N, gm, F.kp, lk, hcd, B, fnScB_ok t5, t2, vis, t3, hcs, t6⟩
    · cases ht
theorem Pr.dfs (ok : p.Ok) (X : K.In h) (G : h.Ns mainGlobals mg) (c : He.SaysX p.fa p.fn p.ts p.tf p.ex w h K) (f : Nat) (d : Ds) (e : p.g.ds[f]? = some d) : DfOk K mg p.C p.g f d := by
  have hl : f < p.st.length := by rw [ok.len]; exact (List.getElem?_eq_some_iff.mp e).1
  have es : p.st[f]? = some p.st[f] := List.getElem?_eq_getElem hl
  obtain ⟨fd, F⟩ := c.t.d.defs (d := ddOf d.x p.st[f]) (by
    unfold Pr.fn
    refine List.mem_append_left _ (List.mem_map.mpr ⟨(d, p.st[f]), ?_, rfl⟩)
    exact List.mem_of_getElem? (i := f) (by rw [List.getElem?_zip_eq_some]; exact ⟨e, es⟩))
  have B := FunD.bindsN (ps := d.N.take d.np) F (ok.bnd f d _ e es)
  have hd := ok.defs f d _ e es
  unfold dfB at hd
  split at hd
  · rename_i Fn hf
    simp only [Bool.and_eq_true, decide_eq_true_eq] at hd
    obtain ⟨⟨⟨⟨d1, d2⟩, d3⟩, d4⟩, d5⟩ := hd
    obtain ⟨np, ns, b⟩ := Fn
    simp only at d1 d2 d5
    subst d1 d2
    refine ⟨He.fAd K (d.x, none), fd, _, _, _, b, He.glo_ok X G (c.t.d.facts (f := .glo d.x) ?_), F, B, fnScB_ok d4, d3, hf, d5⟩
    unfold Pr.fa
    simp only [List.mem_append, List.mem_cons, List.mem_map]
    exact .inl ⟨d, List.mem_of_getElem? e, rfl⟩
  · cases hd
theorem Pr.lmk (ok : p.Ok) (X : K.In h) (G : h.Ns mainGlobals mg) (c : He.SaysX p.fa p.fn p.ts p.tf p.ex w h K) {base : Heap} (TB : ∀ q ∈ p.tf.map (He.cT K), LamX.TabB base mg q.1 q.2) (f : Nat) (d : Ds) (e : p.g.ds[f]? = some d) (hl : d.lam = true) : LmOk K mg base (p.tx K).T d := by
  have hm : d ∈ p.lms := List.mem_filter.mpr ⟨List.mem_of_getElem? e, hl⟩
  have m := c.more
  unfold Pr.ex at m
  simp only [Bool.and_eq_true, List.all_eq_true, decide_eq_true_eq] at m
  obtain ⟨⟨⟨⟨m1, m2⟩, m3⟩, m4⟩, m5⟩ := m
  refine ⟨(He.cT K (d.x, none)).1, (He.cT K (d.x, none)).2, fun a oc od fd osl h1 lk => ?_, TB _ (List.mem_map.mpr ⟨_, List.mem_map.mpr ⟨d, hm, rfl⟩, rfl⟩), List.mem_map.mpr ⟨d, hm, rfl⟩, fun q hq eq => ?_⟩
  · obtain ⟨a', fd', params, body, scope, b, g1, F, _⟩ := Pr.dfs ok X G c f d e
    rw [h1] at g1
    cases g1
    obtain ⟨oc', od', dV, kV, doc, pm, an, cdv, ct, osl', rfl, lk', hcd, _, _⟩ := F.ex
    rw [lk] at lk'
    cases lk'
    obtain ⟨cc, rfl⟩ := He.codeIn_ref hcd
    have ea : He.fAd K (d.x, none) = a := by
      have g2 : mg d.x = some (.ref (He.fAd K (d.x, none))) := He.glo_ok X G (c.t.d.facts (f := .glo d.x) (by
        unfold Pr.fa
        simp only [List.mem_append, List.mem_cons, List.mem_map]
        exact .inl ⟨d, List.mem_of_getElem? e, rfl⟩))
      rw [h1] at g2
      cases g2
      rfl
    have : He.codeOf K (d.x, none) = cc := He.codeOf_eq (by rw [ea]; exact lk) rfl
    show Value.ref cc = .ref (He.codeOf K (d.x, none))
    rw [this]
  · obtain ⟨d', hd', rfl⟩ := List.mem_map.mp hq
    have : d' = d := inj_map m4 hd' hm eq
    rw [this]
end
end Ev

/-! A law's end by the evaluator. -/
namespace Ev
open PySem PySem.Spec PyProof.Rows L2
section
variable {p : Pr}
theorem rds_ints {K : PySem.W.Frag} {ρ : List Addr} {H : Hp} : ∀ ns : List Int, RDs K ρ H (ns.map D.int) (ns.map V.int)
  | [] => .nil
  | n :: r => .cons (.int n) (rds_ints r)
theorem Pr.lawAt {l : PySem.W.OpenLaw} {w : World} {K : PySem.W.Frag} {h : Heap} {mg : Str → Option Value} {fa : Addr} {n f m : Nat} {d : Ds} {x : Str} (hP : p.P = l.prog) (ok : p.Ok) (X : K.In h) (G : h.Ns mainGlobals mg) (c : He.SaysX p.fa p.fn p.ts p.tf p.ex w h K)
    (e : p.g.ds[f]? = some d) (hx : d.N.take d.np = [x]) (hmg : mg d.x = some (.ref fa)) (pure_ : ∀ ns : List Int, ns.length ≤ m → (∀ z ∈ ns, Builtin.Int.intBits z ≤ 1048576) → ∃ h', run p.C n f [.fro (ns.map D.int)] VH.nil = .ok (.bl true) h') :
    LamX.LawAtS l w K (L2.CX l.prog w) (n + d.s) m x mg fa h := by
  have FR := Pr.far ok X G c
  have DF := Pr.dfs ok X G c
  have hl : f < p.st.length := by rw [ok.len]; exact (List.getElem?_eq_some_iff.mp e).1
  have es : p.st[f]? = some p.st[f] := List.getElem?_eq_getElem hl
  obtain ⟨fd, F⟩ := c.t.d.defs (d := ddOf d.x p.st[f]) (by
    unfold Pr.fn
    refine List.mem_append_left _ (List.mem_map.mpr ⟨(d, p.st[f]), ?_, rfl⟩)
    exact List.mem_of_getElem? (i := f) (by rw [List.getElem?_zip_eq_some]; exact ⟨e, es⟩))
  have BA := FunD.bindsA (ps := d.N.take d.np) F (ok.bnd f d _ e es)
  have ea : He.fAd K (d.x, none) = fa := by
    have g2 : mg d.x = some (.ref (He.fAd K (d.x, none))) := He.glo_ok X G (c.t.d.facts (f := .glo d.x) (by
      unfold Pr.fa
      simp only [List.mem_append, List.mem_cons, List.mem_map]
      exact .inl ⟨d, List.mem_of_getElem? e, rfl⟩))
    rw [hmg] at g2
    cases g2
    rfl
  refine ⟨fd, p.tf.map (He.cT K), spEv (p.tx K) p.C n f, fun q hq => ?_, fun q hq => ?_, fun q hq => ?_, fun s u => ?_, fun H a ns hlen hb hT hS => ?_, fun base Kb Gb TB => ?_⟩
  · obtain ⟨y, hy, rfl⟩ := List.mem_map.mp hq
    exact c.empty y hy
  · obtain ⟨y, hy, rfl⟩ := List.mem_map.mp hq
    exact c.out y hy
  · obtain ⟨y, hy, rfl⟩ := List.mem_map.mp hq
    exact PySem.W.codeHd_of_K X (c.hd y hy)
  · have := BA s [u] (by rw [hx]; rfl)
    rw [hx] at this
    exact this
  · obtain ⟨h', hr⟩ := pure_ ns hlen hb
    refine ⟨[], VH.nil, [.fro (ns.map D.int)], Rep.nil fun q hq => ?_, .cons (.fro (vs := ns.map V.int) ?_ (rds_ints ns)) .nil, ?_⟩
    · obtain ⟨d', hd', rfl⟩ := List.mem_map.mp hq
      exact LamX.TabS.nil (hT (He.cT K (d'.x, none)) (List.mem_map.mpr ⟨_, List.mem_map.mpr ⟨d', hd', rfl⟩, rfl⟩))
    · rcases hS with hS | hS
      · exact .inl ⟨hS, by simp⟩
      · exact .inr hS
    · rw [hr]
      intro ρ' H' v s r
      cases r
      rfl
  · obtain ⟨a', fd', g1, _, _, FO, oc, od, osl, lk⟩ := fn_all (P := p.P) (w := w) (base := base) FR DF (fun f d e hl => Pr.lmk ok X G c TB f d e hl) n f d e
    rw [hmg] at g1
    cases g1
    obtain ⟨oc', od', dV, kV, doc, pm, an, cdv, ct, osl', hfd, lk', _⟩ := F.ex
    have lk2 : K.lookup fa = some ⟨oc', od', .func fd, osl'⟩ := by rw [← ea]; exact lk'
    rw [lk] at lk2
    cases lk2
    rw [hx, hP] at FO
    exact FO
/-- the defs' parameters -/
def BdOk (q : Ds × Stmt) : Prop := ∀ (kV doc pm : Value) (an : Option Addr) (cdv ct : Value) (us : List Value), us.length = (q.1.N.take q.1.np).length →
    bindArgs (PySem.W.fnOf q.1.x q.1.x (defArgs q.2) (defBody q.2) (defScope q.2) .none kV doc pm an cdv ct) ⟨us, []⟩ = pure ((q.1.N.take q.1.np).zip us)
def BtOk (q : Str × Str × List Str × Stmt) : Prop := ∀ (kV doc pm : Value) (an : Option Addr) (cdv ct : Value) (us : List Value), us.length = [q.2.1].length →
    bindArgs (PySem.W.fnOf q.1 q.1 (defArgs q.2.2.2) (defBody q.2.2.2) (defScope q.2.2.2) .none kV doc pm an cdv ct) ⟨us, []⟩ = pure ([q.2.1].zip us)
def AllP {α : Type} (P : α → Prop) : List α → Prop
  | [] => True
  | x :: r => P x ∧ AllP P r
theorem AllP.mem {α : Type} {P : α → Prop} : ∀ {l : List α}, AllP P l → ∀ {x : α}, x ∈ l → P x
  | [], _, _, h => by cases h
  | y :: r, ⟨h1, h2⟩, x, h => by
    rcases List.mem_cons.mp h with rfl | h
    · exact h1
    · exact h2.mem h
theorem Pr.mkOk (h1 : p.st.length = p.g.ds.length) (h2 : ((p.g.ds.zip p.st).zipIdx.all fun q => dfB p q.2 q.1.1 q.1.2) = true) (h3 : AllP BdOk (p.g.ds.zip p.st)) (h4 : (p.g.tls.all fun q => tlB p q) = true) (h5 : AllP BtOk p.tl)
    (h6 : (decide (p.g.ers.map (·.2)).Nodup && (p.g.erm.all fun q => decide (p.g.ers.lookup q.1 = some q.2)) && (p.g.erp.all fun q => decide (p.g.ers.lookup q.1 = some q.2.1)) && decide (p.g.erp.map (·.2.1)).Nodup && (p.g.kds.all fun q => decide (p.C.kds[q.2]?).isSome)) = true) : p.Ok := by
  have zm : ∀ (f : Nat) (d : Ds) (s : Stmt), p.g.ds[f]? = some d → p.st[f]? = some s → (p.g.ds.zip p.st)[f]? = some (d, s) := fun f d s e1 e2 => by
    rw [List.getElem?_zip_eq_some]
    exact ⟨e1, e2⟩
  refine ⟨h1, fun f d s e1 e2 => ?_, fun f d s e1 e2 => ?_, h4, fun q hq => h5.mem hq, h6⟩
  · have := List.all_eq_true.mp h2 ((d, s), f) (List.mem_zipIdx_iff_getElem?.mpr (zm f d s e1 e2))
    exact this
  · exact h3.mem (List.mem_of_getElem? (zm f d s e1 e2))
theorem cx_no {P : Program} {w : World} {H : Hp} {s : Shared} {e : Value} {s' : Shared} (h : L2.CX P w [] H s (fun _ _ _ => False) e s') : False := by
  obtain ⟨_, _, _, _, _, _, _, _, _, _, _, _, z⟩ := h
  exact z
/-- the walk that the head asks for -/
theorem Pr.walk {l : PySem.W.OpenLaw} {q : Program} {loose : List Str} {XP : (Str → Option Value) → Heap → Prop} {dr : DefRec} {n f m : Nat} {d : Ds} {x : Str} (hP : p.P = l.prog) (ok : p.Ok) (hm : l.most = some m) (hm2 : m ≤ sizeLine) (hdf : dr.params.defaults = []) (hr : Room (n + d.s) callerA)
    (e : p.g.ds[f]? = some d) (hx : d.N.take d.np = [x]) (hn : dr.name = d.x) (pure_ : ∀ ns : List Int, ns.length ≤ m → (∀ z ∈ ns, Builtin.Int.intBits z ≤ 1048576) → ∃ h', run p.C n f [.fro (ns.map D.int)] VH.nil = .ok (.bl true) h') :
    PySem.W.WalkO q loose XP (fun w h => ∃ K : PySem.W.Frag, K.In h ∧ He.SaysX p.fa p.fn p.ts p.tf p.ex w h K) l.row.toRowW dr [] (fun f vs => PySem.call f vs) := by
  refine LamX.walk_ofTsE (l := l) (n := m) (k := n + d.s) (x := x) (CX := fun w => L2.CX l.prog w) hm hm2 hdf hr (fun w mg fa h Y G hmg => ?_) (fun w H s e s' z => cx_no z)
  obtain ⟨K, KX, c⟩ := Y
  exact ⟨K, KX, Pr.lawAt hP ok KX G c e hx (by rw [← hn]; exact hmg) pure_⟩
end
end Ev

/-! The Hook: as the library's hookX, with one more address looked at. -/
namespace Ev
open PySem PySem.Spec PyProof.Rows L2 He
section
variable {fa : List Fa} {fn : List DefD} {ts : List Tab} {tf : List Defn} {ex : PySem.W.Frag → Bool}
def asY (g : Addr → Option Obj) (n : Nat) : List Addr := cStatics :: asD g n
def obsY (n : Nat) (fa : List Fa) (fn : List DefD) (ts : List Tab) (tf : List Defn) (ex : PySem.W.Frag → Bool) (g : Addr → Option Obj) : AlX := (obsT fa fn ts (frT g (asY g n)), ex (frT g (asY g n)) && tabsB g tf (frT g (asY g n)))
theorem saysY_of {n : Nat} {w : World} {h : Heap} (e : obsY n fa fn ts tf ex h.get? = valX fn ts w) : SaysX fa fn ts tf ex w h (frT h.get? (asY h.get? n)) := by
  unfold obsY at e
  generalize hK : frT h.get? (asY h.get? n) = K at e
  have none_of : ∀ {a : Addr} {o : Obj}, h.get? a = some o → emptyTab o = true → K.lookup a = none := fun ho ht => by rw [← hK]; exact frT_none ho ht
  have e1 : obsT fa fn ts K = valT fn ts w := congrArg (fun z : AlX => z.1) e
  have e2 : (ex K && tabsB h.get? tf K) = true := congrArg (fun z : AlX => z.2) e
  obtain ⟨h1, h2⟩ := ba e2
  have key : ∀ p ∈ tf, PySem.W.codeHdIn K (cT K p).1 (cT K p).2 = true ∧ ∃ o, h.get? (cT K p).2 = some o ∧ emptyTab o = true := fun p hp => by
    obtain ⟨h3, h4⟩ := ba (List.all_eq_true.mp h2 p hp)
    refine ⟨h3, ?_⟩
    cases q : h.get? (cT K p).2 with
    | none => rw [q] at h4; cases h4
    | some o => rw [q] at h4; exact ⟨o, rfl, h4⟩
  exact ⟨e1, h1, fun p hp => (key p hp).1, fun p hp => let ⟨_, o, q, z⟩ := key p hp; none_of q z, fun p hp => by
    obtain ⟨_, o, q, z⟩ := key p hp
    rw [q, emptyTab_eq z]⟩
def hookY (n : Nat) (fa : List Fa) (fn : List DefD) (ts : List Tab) (tf : List Defn) (ex : PySem.W.Frag → Bool) : PySem.W.Hook where
  α := AlX
  obs := fun s => obsY n fa fn ts tf ex s.heap.get?
  val := fun w => valX fn ts w
  says := fun w h => ∃ K : PySem.W.Frag, K.In h ∧ SaysX fa fn ts tf ex w h K
  of := fun _ _ e => ⟨_, frT_in, saysY_of e⟩
  keeps := fun _ _ _ ⟨K, hK, c⟩ k => ⟨K, PySem.W.Frag.In.keeps hK k, ⟨c.t, c.more, c.hd, c.out, fun p hp => k _ _ (c.empty p hp)⟩⟩
theorem obsY_eq {n : Nat} {g : Addr → Option Obj} {s : Shared} (h : ∀ a, g a = s.heap.get? a) : obsY n fa fn ts tf ex g = (hookY n fa fn ts tf ex).obs s := by
  have e : g = s.heap.get? := funext h
  rw [e] <;> rfl
end
end Ev

/-! Reasoning about runs: for every law. -/
namespace Ev
variable {C : Cfg}
/-- a body's end -/
def fin : Q → R D
  | .nx _ h1 => .ok .non h1
  | .rt d h1 => .ok d h1
  | .ex c p _ h1 => .ex c p h1
  | _ => .no
theorem run_succ {n f : Nat} {xs : List D} {h : VH} {F : Fn} (hF : C.fns[f]? = some F) (hl : xs.length = F.np) : run C (n + 1) f xs h = fin (evSs C (run C n) F.body (startL F.ns xs) h) := by
  show (match C.fns[f]? with | some F => _ | none => _) = _
  rw [hF]
  simp only [hl, if_true]
  cases evSs C (run C n) F.body (startL F.ns xs) h <;> rfl
theorem ss_nx {call : Call} {s : S} {ss : Ss} {l l1 : Lc} {h h1 : VH} (e : evS C call s l h = .nx l1 h1) : evSs C call (.cons s ss) l h = evSs C call ss l1 h1 := by
  show (match evS C call s l h with | .nx l1 h1 => evSs C call ss l1 h1 | r => r) = _
  rw [e]
theorem ss_rt {call : Call} {s : S} {ss : Ss} {l : Lc} {h h1 : VH} {d : D} (e : evS C call s l h = .rt d h1) : evSs C call (.cons s ss) l h = .rt d h1 := by
  show (match evS C call s l h with | .nx l1 h1 => evSs C call ss l1 h1 | r => r) = _
  rw [e]
theorem ss_ex {call : Call} {s : S} {ss : Ss} {l l1 : Lc} {h h1 : VH} {c : Nat} {p : D} (e : evS C call s l h = .ex c p l1 h1) : evSs C call (.cons s ss) l h = .ex c p l1 h1 := by
  show (match evS C call s l h with | .nx l1 h1 => evSs C call ss l1 h1 | r => r) = _
  rw [e]
theorem get_new (h : VH) (o : O) : (h.new o).get h.n = some o := by
  show (if h.n < h.n + 1 then (o :: h.os)[h.n + 1 - 1 - h.n]? else none) = _
  rw [if_pos (Nat.lt_succ_self _), show h.n + 1 - 1 - h.n = 0 by omega]
  rfl
theorem set_new (h : VH) (o o2 : O) : (h.new o).set h.n o2 = h.new o2 := by
  show VH.mk (h.n + 1) ((o :: h.os).set (h.n + 1 - 1 - h.n) o2) = _
  rw [show h.n + 1 - 1 - h.n = 0 by omega]
  rfl
theorem get_old {h : VH} {a : Nat} {x : O} (o : O) (e : h.get a = some x) : (h.new o).get a = some x := by
  have hl : a < h.n := by
    unfold VH.get at e
    split at e
    · assumption
    · cases e
  unfold VH.get at e ⊢
  rw [if_pos hl] at e
  show (if a < h.n + 1 then (o :: h.os)[h.n + 1 - 1 - a]? else none) = _
  rw [if_pos (by omega), show h.n + 1 - 1 - a = (h.n - 1 - a) + 1 by omega, List.getElem?_cons_succ]
  exact e
theorem get_lt {h : VH} {a : Nat} {x : O} (e : h.get a = some x) : a < h.n ∧ h.n - 1 - a < h.os.length := by
  unfold VH.get at e
  split at e
  · next h1 => exact ⟨h1, by
      rcases Nat.lt_or_ge (h.n - 1 - a) h.os.length with h2 | h2
      · exact h2
      · rw [List.getElem?_eq_none h2] at e; cases e⟩
  · cases e
theorem get_set {h : VH} {a : Nat} {x : O} (o : O) (e : h.get a = some x) : (h.set a o).get a = some o := by
  obtain ⟨h1, h2⟩ := get_lt e
  show (if a < h.n then (h.os.set (h.n - 1 - a) o)[h.n - 1 - a]? else none) = _
  rw [if_pos h1, List.getElem?_set_self h2]
theorem get_other {h : VH} {a b : Nat} {x : O} (o : O) (ha : a < h.n) (hb : b ≠ a) (e : h.get b = some x) : (h.set a o).get b = some x := by
  obtain ⟨h1, h2⟩ := get_lt e
  unfold VH.get at e
  rw [if_pos h1] at e
  show (if b < h.n then (h.os.set (h.n - 1 - a) o)[h.n - 1 - b]? else none) = _
  rw [if_pos h1, List.getElem?_set_ne (by omega)]
  exact e
theorem set_set (h : VH) (a : Nat) (o o2 : O) : (h.set a o).set a o2 = h.set a o2 := by
  show VH.mk h.n ((h.os.set (h.n - 1 - a) o).set (h.n - 1 - a) o2) = VH.mk h.n (h.os.set (h.n - 1 - a) o2)
  rw [List.set_set]
theorem idx_get {h : VH} {a : Nat} {xs : List D} (e : h.get a = some (.lst xs)) (i : Int) : idxD (.ref a) (.int i) h = atD xs i := by
  show (match h.get a with | some (.lst xs) => atD xs i | _ => none) = _
  rw [e]
theorem setAt_get {h : VH} {a : Nat} {xs : List D} (e : h.get a = some (.lst xs)) (i : Int) (v : D) : setAtD (.ref a) (.int i) v h = (atPlace xs.length i).map fun k => h.set a (.lst (xs.set k v)) := by
  show (match h.get a with | some (.lst xs) => _ | _ => none) = _
  rw [e]
theorem it_end {cu : Cu} {g : D → Lc → VH → Q} {b : Lc → VH → Q} {m i : Nat} {l : Lc} {h : VH} (e : cu.next i h = some none) : itGo cu g b (m + 1) i l h = .nx l h := by
  rw [itGo, e]
theorem it_nx {cu : Cu} {g : D → Lc → VH → Q} {b : Lc → VH → Q} {m i : Nat} {l l1 l2 : Lc} {h h1 h2 : VH} {x : D} (e : cu.next i h = some (some x)) (eg : g x l h = .nx l1 h1) (eb : b l1 h1 = .nx l2 h2) : itGo cu g b (m + 1) i l h = itGo cu g b m (i + 1) l2 h2 := by
  rw [itGo, e]
  simp only [eg, eb]
theorem it_ct {cu : Cu} {g : D → Lc → VH → Q} {b : Lc → VH → Q} {m i : Nat} {l l1 l2 : Lc} {h h1 h2 : VH} {x : D} (e : cu.next i h = some (some x)) (eg : g x l h = .nx l1 h1) (eb : b l1 h1 = .ct l2 h2) : itGo cu g b (m + 1) i l h = itGo cu g b m (i + 1) l2 h2 := by
  rw [itGo, e]
  simp only [eg, eb]
theorem it_rt {cu : Cu} {g : D → Lc → VH → Q} {b : Lc → VH → Q} {m i : Nat} {l l1 : Lc} {h h1 h2 : VH} {x d : D} (e : cu.next i h = some (some x)) (eg : g x l h = .nx l1 h1) (eb : b l1 h1 = .rt d h2) : itGo cu g b (m + 1) i l h = .rt d h2 := by
  rw [itGo, e]
  simp only [eg, eb]
/-! ### dice -/
def isDice : O → Bool
  | .lst [.int _, .int _, .int _] => true
  | _ => false
/-- a heap behind another: nothing changed but dice -/
def Keeps (h h' : VH) : Prop := ∀ b o, h.get b = some o → ∃ o', h'.get b = some o' ∧ (o' = o ∨ isDice o = true ∧ isDice o' = true)
theorem Keeps.refl (h : VH) : Keeps h h := fun b o e => ⟨o, e, Or.inl rfl⟩
theorem Keeps.trans {h h1 h2 : VH} (a : Keeps h h1) (b : Keeps h1 h2) : Keeps h h2 := fun c o e => by
  obtain ⟨o1, e1, k1⟩ := a c o e
  obtain ⟨o2, e2, k2⟩ := b c o1 e1
  refine ⟨o2, e2, ?_⟩
  rcases k1 with k1 | k1 <;> rcases k2 with k2 | k2
  · exact Or.inl (k2.trans k1)
  · subst k1; exact Or.inr k2
  · subst k2; exact Or.inr k1
  · exact Or.inr ⟨k1.1, k2.2⟩
theorem Keeps.new (h : VH) (o : O) : Keeps h (h.new o) := fun b x e => ⟨x, get_old o e, Or.inl rfl⟩
theorem Keeps.set {h : VH} {a : Nat} {o o' : O} (e : h.get a = some o) (d : isDice o = true) (d' : isDice o' = true) : Keeps h (h.set a o') := fun b x ex => by
  by_cases hb : b = a
  · subst hb
    rw [e] at ex
    cases ex
    exact ⟨o', get_set o' e, Or.inr ⟨d, d'⟩⟩
  · exact ⟨x, get_other o' (get_lt e).1 hb ex, Or.inl rfl⟩
theorem Keeps.get {h h' : VH} (k : Keeps h h') {b : Nat} {o : O} (e : h.get b = some o) (hd : isDice o = false) : h'.get b = some o := by
  obtain ⟨o', e', k'⟩ := k b o e
  rcases k' with k' | k'
  · rw [e', k']
  · rw [hd] at k'; cases k'.1
def DiceAt (h : VH) (a : Nat) : Prop := ∃ x y s : Int, h.get a = some (.lst [.int x, .int y, .int s])
theorem dice_of {o : O} (h : isDice o = true) : ∃ x y s : Int, o = .lst [.int x, .int y, .int s] := by
  unfold isDice at h
  split at h
  · exact ⟨_, _, _, rfl⟩
  · cases h
theorem Keeps.dice {h h' : VH} (k : Keeps h h') {a : Nat} (d : DiceAt h a) : DiceAt h' a := by
  obtain ⟨x, y, s, e⟩ := d
  obtain ⟨o', e', k'⟩ := k a _ e
  rcases k' with k' | k'
  · exact ⟨x, y, s, by rw [e', k']⟩
  · obtain ⟨x', y', s', q⟩ := dice_of k'.2
    exact ⟨x', y', s', by rw [e', q]⟩
abbrev rollB : Ss := (.cons (.ite (.or (.cmp .eq (.idx (.var 0) (.con (.int (2)))) (.con (.int (2)))) (.and (.cmp .eq (.idx (.var 0) (.con (.int (2)))) (.con (.int (1)))) (.cmp .gt (.idx (.var 0) (.con (.int (0)))) (.con (.int (0)))))) (.cons (.set (.nam 2) (.bin .mod (.blt .int (.cons (.idx (.var 0) (.con (.int (0)))) .nil)) (.var 1)))
  (.cons (.set (.idx (.var 0) (.con (.int (0)))) (.bin .fdv (.idx (.var 0) (.con (.int (0)))) (.var 1)))
  (.cons (.ret (.var 2))
  .nil))) .nil)
  (.cons (.set (.idx (.var 0) (.con (.int (2)))) (.con (.int (0))))
  (.cons (.set (.idx (.var 0) (.con (.int (0)))) (.bin .mod (.blt .int (.cons (.bin .add (.bin .add (.bin .mul (.idx (.var 0) (.con (.int (0)))) (.con (.int (48271)))) (.bin .mul (.idx (.var 0) (.con (.int (1)))) (.con (.int (69621))))) (.con (.int (11)))) .nil)) (.con (.int (2147483647)))))
  (.cons (.set (.idx (.var 0) (.con (.int (1)))) (.bin .add (.idx (.var 0) (.con (.int (1)))) (.con (.int (1)))))
  (.cons (.ret (.bin .mod (.blt .int (.cons (.bin .add (.bin .fdv (.idx (.var 0) (.con (.int (0)))) (.con (.int (7)))) (.idx (.var 0) (.con (.int (0))))) .nil)) (.var 1)))
  .nil)))))
abbrev rollC : E := .or (.cmp .eq (.idx (.var 0) (.con (.int (2)))) (.con (.int (2)))) (.and (.cmp .eq (.idx (.var 0) (.con (.int (2)))) (.con (.int (1)))) (.cmp .gt (.idx (.var 0) (.con (.int (0)))) (.con (.int (0)))))
theorem idx_e {call : Call} {a : Nat} {xs : List D} {h : VH} {l : Lc} {d : D} (e : h.get a = some (.lst xs)) (i : Int) (hd : atD xs i = some d) : evE C call (.idx (.var 0) (.con (.int i))) (some (.ref a) :: l) h = .ok d h := by
  simp only [evE, R.bind, List.getElem?_cons_zero, idx_get e, hd]
theorem roll_run {f : Nat} (hf : C.fns[f]? = some ⟨2, 3, rollB⟩) (n a : Nat) (m : Int) (hm : 0 < m) (hm2 : m < 1073741824) (h : VH) (hd : DiceAt h a) :
    ∃ (r : Nat) (h' : VH), (r : Int) < m ∧ Keeps h h' ∧ h'.n = h.n ∧ run C (n + 1) f [.ref a, .int m] h = .ok (.int r) h' := by
  obtain ⟨x, y, s, e⟩ := hd
  have h2 : evE C (run C n) (.idx (.var 0) (.con (.int 2))) [some (.ref a), some (.int m), none] h = .ok (.int s) h := idx_e e 2 rfl
  have h0 : evE C (run C n) (.idx (.var 0) (.con (.int 0))) [some (.ref a), some (.int m), none] h = .ok (.int x) h := idx_e e 0 rfl
  have c2 : cmpD .eq (.int s) (.int 2) h = some (s == 2) := rfl
  have c1 : cmpD .eq (.int s) (.int 1) h = some (s == 1) := rfl
  have c0 : cmpD .gt (.int x) (.int 0) h = some (decide (0 < x)) := rfl
  have hc : evE C (run C n) rollC [some (.ref a), some (.int m), none] h = .ok (.bl ((s == 2) || ((s == 1) && decide (0 < x)))) h := by
    have i2 : idxD (.ref a) (.int 2) h = some (.int s) := idx_get e 2
    have i0 : idxD (.ref a) (.int 0) h = some (.int x) := idx_get e 0
    simp only [evE, R.bind, List.getElem?_cons_zero, i2, c2]
    cases (s == 2)
    · simp only [c1]
      cases (s == 1)
      · rfl
      · simp only [i0, c0]
        rfl
    · rfl
  rw [run_succ hf rfl]
  show ∃ (r : Nat) (h' : VH), (r : Int) < m ∧ Keeps h h' ∧ h'.n = h.n ∧ fin (evSs C (run C n) rollB [some (.ref a), some (.int m), none] h) = _
  have md : ∀ (i j : Int) (h : VH), 0 < j → binD .mod (.int i) (.int j) h = .ok (.int (i % j)) h := fun i j h hj => by
    show (if 0 < j then R.ok (D.int (i % j)) h else .no) = _
    rw [if_pos hj]
  have fd : ∀ (i j : Int) (h : VH), 0 < j ∧ j < 1073741824 → binD .fdv (.int i) (.int j) h = .ok (.int (i / j)) h := fun i j h hj => by
    show (if 0 < j ∧ j < 1073741824 then R.ok (D.int (i / j)) h else .no) = _
    rw [if_pos hj]
  have bi : ∀ (i : Int) (h : VH), bltD .int [.int i] h = .ok (.int i) h := fun i h => rfl
  by_cases hb : ((s == 2) || ((s == 1) && decide (0 < x))) = true
  · rw [hb] at hc
    refine ⟨(x % m).toNat, h.set a (.lst [.int (x / m), .int y, .int s]), ?_, Keeps.set e rfl rfl, rfl, ?_⟩
    · have := Int.emod_lt_of_pos x hm; have := Int.emod_nonneg x (show m ≠ 0 by omega); omega
    rw [show (((x % m).toNat : Nat) : Int) = x % m from Int.toNat_of_nonneg (Int.emod_nonneg x (by omega))]
    have h0' : idxD (.ref a) (.int 0) h = some (.int x) := idx_get e 0
    have sa : setAtD (.ref a) (.int 0) (.int (x / m)) h = some (h.set a (.lst [.int (x / m), .int y, .int s])) := setAt_get e 0 _
    rw [ss_rt (d := .int (x % m)) (h1 := h.set a (.lst [.int (x / m), .int y, .int s])) (by
      rw [evS, hc]
      simp only [R.thn]
      simp only [evSs, evS, evE, evEs, R.bind, R.thn, List.getElem?_cons_zero, List.getElem?_cons_succ, h0', bi, md x m h hm, fd x m h ⟨hm, hm2⟩, evG, List.set_cons_zero, List.set_cons_succ, sa])]
    rfl
  · rw [Bool.not_eq_true] at hb
    rw [hb] at hc
    have g1 := get_set (.lst [.int x, .int y, .int 0]) e
    have sa1 : setAtD (.ref a) (.int 2) (.int 0) h = some (h.set a (.lst [.int x, .int y, .int 0])) := setAt_get e 2 _
    have mu : ∀ (i : Int) (h : VH), binD .mul (.int i) (.int 48271) h = .ok (.int (i * 48271)) h := fun i h => by
      show (if (small64 i || small64 48271) = true then R.ok (D.int (i * 48271)) h else .no) = _
      rw [show small64 48271 = true from rfl, Bool.or_true]; rfl
    have mu2 : ∀ (i : Int) (h : VH), binD .mul (.int i) (.int 69621) h = .ok (.int (i * 69621)) h := fun i h => by
      show (if (small64 i || small64 69621) = true then R.ok (D.int (i * 69621)) h else .no) = _
      rw [show small64 69621 = true from rfl, Bool.or_true]; rfl
    have ad : ∀ (i j : Int) (h : VH), binD .add (.int i) (.int j) h = .ok (.int (i + j)) h := fun i j h => rfl
    generalize hx' : (x * 48271 + y * 69621 + 11) % 2147483647 = x'
    have i0 : ∀ (h : VH) (y s : Int), h.get a = some (.lst [.int x', .int y, .int s]) → idxD (.ref a) (.int 0) h = some (.int x') := fun h y s e => idx_get e 0
    have j0 : idxD (.ref a) (.int 0) (h.set a (.lst [.int x, .int y, .int 0])) = some (.int x) := idx_get g1 0
    have j1 : idxD (.ref a) (.int 1) (h.set a (.lst [.int x, .int y, .int 0])) = some (.int y) := idx_get g1 1
    have g2 := get_set (.lst [.int x', .int y, .int 0]) e
    have g3 := get_set (.lst [.int x', .int (y + 1), .int 0]) e
    have sa2 : setAtD (.ref a) (.int 0) (.int x') (h.set a (.lst [.int x, .int y, .int 0])) = some (h.set a (.lst [.int x', .int y, .int 0])) := by
      rw [← set_set h a (.lst [.int x, .int y, .int 0]) (.lst [.int x', .int y, .int 0])]
      exact setAt_get g1 0 _
    have k1 : idxD (.ref a) (.int 1) (h.set a (.lst [.int x', .int y, .int 0])) = some (.int y) := idx_get g2 1
    have sa3 : setAtD (.ref a) (.int 1) (.int (y + 1)) (h.set a (.lst [.int x', .int y, .int 0])) = some (h.set a (.lst [.int x', .int (y + 1), .int 0])) := by
      rw [← set_set h a (.lst [.int x', .int y, .int 0]) (.lst [.int x', .int (y + 1), .int 0])]
      exact setAt_get g2 1 _
    have l0 : idxD (.ref a) (.int 0) (h.set a (.lst [.int x', .int (y + 1), .int 0])) = some (.int x') := idx_get g3 0
    generalize hr : (x' / 7 + x') % m = r
    have r0 : 0 ≤ r := by rw [← hr]; exact Int.emod_nonneg _ (by omega)
    have r1 : r < m := by rw [← hr]; exact Int.emod_lt_of_pos _ hm
    refine ⟨r.toNat, h.set a (.lst [.int x', .int (y + 1), .int 0]), by omega, Keeps.set e rfl rfl, rfl, ?_⟩
    rw [Int.toNat_of_nonneg r0]
    rw [ss_nx (l1 := [some (.ref a), some (.int m), none]) (h1 := h) (by
      rw [evS, hc]
      rfl)]
    rw [ss_nx (l1 := [some (.ref a), some (.int m), none]) (h1 := h.set a (.lst [.int x, .int y, .int 0])) (by
      simp only [evS, evE, evG, R.bind, R.thn, List.getElem?_cons_zero, sa1])]
    rw [ss_nx (l1 := [some (.ref a), some (.int m), none]) (h1 := h.set a (.lst [.int x', .int y, .int 0])) (by
      simp only [evS, evE, evEs, evG, R.bind, R.thn, List.getElem?_cons_zero, j0, j1, mu, mu2, ad, bi, md _ 2147483647 _ (by decide), hx', sa2])]
    rw [ss_nx (l1 := [some (.ref a), some (.int m), none]) (h1 := h.set a (.lst [.int x', .int (y + 1), .int 0])) (by
      simp only [evS, evE, evEs, evG, R.bind, R.thn, List.getElem?_cons_zero, k1, ad, sa3])]
    rw [ss_rt (d := .int r) (h1 := h.set a (.lst [.int x', .int (y + 1), .int 0])) (by
      simp only [evS, evE, evEs, evG, R.bind, R.thn, List.getElem?_cons_zero, List.getElem?_cons_succ, l0, ad, bi, md _ m _ hm, fd _ 7 _ ⟨by decide, by decide⟩, hr])]
    rfl
end Ev

/-! Dice and rounds: for every law. -/
namespace Ev
variable {C : Cfg}
abbrev diceB : Ss :=
  (.cons (.ite (.chn .lt .lt (.bin .sub (.con (.int (0))) (.con (.int (10)))) (.var 0) (.con (.int (10)))) (.cons (.ret (.lst (.cons (.blt .abs (.cons (.var 0) .nil)) (.cons (.con (.int (0))) (.cons (.con (.int (2))) .nil)))))
  .nil) .nil)
  (.cons (.ret (.lst (.cons (.var 0) (.cons (.bin .add (.con (.int (1))) (.bin .mod (.blt .int (.cons (.var 0) .nil)) (.con (.int (1009))))) (.cons (.blt .int (.cons (.cmp .ge (.var 0) (.bin .pow (.con (.int (10))) (.con (.int (18))))) .nil)) .nil)))))
  .nil))
theorem dice_run {f : Nat} (hf : C.fns[f]? = some ⟨1, 1, diceB⟩) (n : Nat) (c : Int) (h : VH) : ∃ x y s : Int, run C (n + 1) f [.int c] h = .ok (.ref h.n) (h.new (.lst [.int x, .int y, .int s])) := by
  rw [run_succ hf rfl]
  show ∃ x y s : Int, fin (evSs C (run C n) diceB [some (.int c)] h) = _
  have cc : evE C (run C n) (.chn .lt .lt (.bin .sub (.con (.int (0))) (.con (.int (10)))) (.var 0) (.con (.int (10)))) [some (.int c)] h = .ok (.bl (decide (-10 < c) && decide (c < 10))) h := by
    have s1 : binD .sub (.int 0) (.int 10) h = .ok (.int (-10)) h := rfl
    have l1 : cmpD .lt (.int (-10)) (.int c) h = some (decide (-10 < c)) := rfl
    have l2 : cmpD .lt (.int c) (.int 10) h = some (decide (c < 10)) := rfl
    simp only [evE, R.bind, List.getElem?_cons_zero, s1, l1]
    cases decide (-10 < c)
    · rfl
    · simp only [l2]; rfl
  cases hb : (decide (-10 < c) && decide (c < 10)) with
  | true =>
    rw [hb] at cc
    refine ⟨if c < 0 then -c else c, 0, 2, ?_⟩
    rw [ss_rt (d := .ref h.n) (h1 := h.new (.lst [.int (if c < 0 then -c else c), .int 0, .int 2])) (by rw [evS, cc]; rfl)]
    rfl
  | false =>
    rw [hb] at cc
    refine ⟨c, 1 + c % 1009, b2i (decide (c ≥ 10 ^ 18)), ?_⟩
    rw [ss_nx (l1 := [some (.int c)]) (h1 := h) (by rw [evS, cc]; rfl)]
    have m1 : binD .mod (.int c) (.int 1009) h = .ok (.int (c % 1009)) h := rfl
    have p1 : binD .pow (.int 10) (.int 18) h = .ok (.int (10 ^ 18)) h := rfl
    have g1 : cmpD .ge (.int c) (.int (10 ^ 18)) h = some (decide (c ≥ 10 ^ 18)) := rfl
    have bi : bltD .int [.int c] h = .ok (.int c) h := rfl
    have bb : ∀ b, bltD .int [.bl b] h = .ok (.int (b2i b)) h := fun b => rfl
    have ad : ∀ i j : Int, binD .add (.int i) (.int j) h = .ok (.int (i + j)) h := fun i j => rfl
    generalize decide (c ≥ 10 ^ 18) = b at g1
    simp only [evSs, evS, evE, evEs, R.bind, R.thn, List.getElem?_cons_zero, bi, m1, ad, p1, g1, bb, fin]
abbrev roundsB (fd : Nat) : Ss :=
  (.cons (.set (.nam 2) (.slc false true (.var 0) (.con .non) (.var 1)))
  (.cons (.ite (.cmp .eq (.var 2) (.lst .nil)) (.cons (.set (.nam 2) (.lst (.cons (.con (.int (0))) .nil)))
  .nil) .nil)
  (.cons (.ret (.lc [3] (.fix (.var 2)) (.con (.bl true)) (.cal false fd (.cons (.var 3) .nil))))
  .nil)))
def intDs (ns : List Int) : List D := ns.map D.int
def refs (as : List Nat) : List D := as.map D.ref
theorem plains_ints : ∀ ns : List Int, plains (intDs ns) = true
  | [] => rfl
  | n :: ns => plains_ints ns
theorem refs_not : ∀ as : List Nat, isDice (.lst (refs as)) = false
  | [] => rfl
  | [_] => rfl
  | [_, _] => rfl
  | [_, _, _] => rfl
  | _ :: _ :: _ :: _ :: _ => rfl
theorem rounds_go (g : D → VH → R (Option D)) (hgo : ∀ (c : Int) (h : VH), ∃ x y s : Int, g (.int c) h = .ok (some (.ref h.n)) (h.new (.lst [.int x, .int y, .int s]))) (c A : Nat) (ns : List Int) (hA : A ≠ c) (hs : ns.length ≤ 90000) : ∀ (k i m : Nat) (as : List Nat) (h : VH), i + k = ns.length → k < m → as.length = i →
    h.get c = some (.lst (intDs ns)) → h.get A = some (.lst (refs as)) → (∀ a ∈ as, DiceAt h a) → (∀ a ∈ as, a ≠ A) →
    ∃ h' as', lcGo g (.live c) A m i h = .ok (.ref A) h' ∧ h'.get A = some (.lst (refs as')) ∧ (∀ a ∈ as', DiceAt h' a) ∧ as'.length = ns.length
  | 0, i, m + 1, as, h, e, hm, ha, hc, hg, hdc, hne => by
    refine ⟨h, as, ?_, hg, hdc, by omega⟩
    rw [lcGo]
    have : Cu.next (.live c) i h = some none := by
      show (match h.get c with | some (.lst xs) => some xs[i]? | _ => none) = _
      rw [hc]
      show some (intDs ns)[i]? = _
      rw [List.getElem?_eq_none (by rw [intDs, List.length_map]; omega)]
    rw [this]
  | k + 1, i, m + 1, as, h, e, hm, ha, hc, hg, hdc, hne => by
    have hi : i < ns.length := by omega
    have nx : Cu.next (.live c) i h = some (some (.int ns[i])) := by
      show (match h.get c with | some (.lst xs) => some xs[i]? | _ => none) = _
      rw [hc]
      show some (intDs ns)[i]? = _
      rw [intDs, List.getElem?_map, List.getElem?_eq_getElem hi]
      rfl
    obtain ⟨x, y, s, dr⟩ := hgo ns[i] h
    have hAn : A < h.n := (get_lt hg).1
    have hcn : c < h.n := (get_lt hc).1
    have g1 : (h.new (.lst [.int x, .int y, .int s])).get A = some (.lst (refs as)) := get_old _ hg
    have gA := get_set (.lst (refs (as ++ [h.n]))) g1
    have gc : ((h.new (.lst [.int x, .int y, .int s])).set A (.lst (refs (as ++ [h.n])))).get c = some (.lst (intDs ns)) := get_other _ (get_lt g1).1 (Ne.symm hA) (get_old _ hc)
    have hnA : h.n ≠ A := by omega
    obtain ⟨h', as', r, q⟩ := rounds_go g hgo c A ns hA hs k (i + 1) m (as ++ [h.n]) ((h.new (.lst [.int x, .int y, .int s])).set A (.lst (refs (as ++ [h.n])))) (by omega) (by omega) (by simp [ha]) gc gA (by
      intro a ha
      rw [List.mem_append, List.mem_singleton] at ha
      rcases ha with ha | ha
      · obtain ⟨x', y', s', q⟩ := hdc a ha
        exact ⟨x', y', s', get_other _ (get_lt g1).1 (hne a ha) (get_old _ q)⟩
      · subst ha
        exact ⟨x, y, s, get_other _ (get_lt g1).1 hnA (get_new h _)⟩) (by
      intro a ha
      rw [List.mem_append, List.mem_singleton] at ha
      rcases ha with ha | ha
      · exact hne a ha
      · subst ha; exact hnA)
    refine ⟨h', as', ?_, q⟩
    rw [← r, lcGo, nx]
    have ll : (refs as).length < sizeMax := by rw [refs, List.length_map]; show _ < 100000; omega
    have ap : refs as ++ [D.ref h.n] = refs (as ++ [h.n]) := by rw [refs, refs, List.map_append]; rfl
    simp only [dr, g1, ll, if_true, ap]
theorem rounds_run {f fd : Nat} (hd : C.fns[fd]? = some ⟨1, 1, diceB⟩) (hf : C.fns[f]? = some ⟨2, 4, roundsB fd⟩) (n most : Nat) (hmost : most ≤ 1000) (ns : List Int) :
    ∃ h' L as, run C (n + 2) f [.fro (intDs ns), .int most] VH.nil = .ok (.ref L) h' ∧ h'.get L = some (.lst (refs as)) ∧ (∀ a ∈ as, DiceAt h' a) ∧ as.length ≤ max most 1 := by
  rw [run_succ hf rfl]
  show ∃ h' L as, fin (evSs C (run C (n + 1)) (roundsB fd) [some (.fro (intDs ns)), some (.int most), none, none] VH.nil) = _ ∧ _
  have sl : slcD (.fro (intDs ns)) none (some (most : Int)) VH.nil = .ok (.ref 0) (VH.nil.new (.lst (intDs (ns.take most)))) := by
    show R.ok (D.ref 0) (VH.nil.new (.lst (cut (intDs ns) none (some (most : Int))))) = _
    have : cut (intDs ns) none (some (most : Int)) = intDs (ns.take most) := by
      have c1 : cutAt (intDs ns).length (intDs ns).length (some (most : Int)) = min most (intDs ns).length := by
        show (if (most : Int) < 0 then ((most : Int) + ((intDs ns).length : Int)).toNat else min ((most : Int)).toNat (intDs ns).length) = _
        rw [if_neg (by omega), Int.toNat_natCast]
      unfold cut
      rw [c1]
      show List.take (min most (intDs ns).length - 0) (List.drop 0 (intDs ns)) = _
      rw [List.drop_zero, Nat.sub_zero, intDs, intDs, List.map_take, List.take_eq_take_iff]
      simp
    rw [this]
  rw [ss_nx (l1 := [some (.fro (intDs ns)), some (.int most), some (.ref 0), none]) (h1 := VH.nil.new (.lst (intDs (ns.take most)))) (by
    simp only [evS, evE, R.bind, R.thn, List.getElem?_cons_zero, List.getElem?_cons_succ, Bool.false_eq_true, if_false, if_true, ordOf, sl, evG, List.set_cons_zero, List.set_cons_succ])]
  have fin2 : ∀ (c : Nat) (ms : List Int) (h : VH) (l : Lc), l.length = 4 → l[2]? = some (some (.ref c)) → h.get c = some (.lst (intDs ms)) → ms.length ≤ max most 1 →
      ∃ h' L as, fin (evSs C (run C (n + 1)) (.cons (.ret (.lc [3] (.fix (.var 2)) (.con (.bl true)) (.cal false fd (.cons (.var 3) .nil)))) .nil) l h) = .ok (.ref L) h' ∧ h'.get L = some (.lst (refs as)) ∧ (∀ a ∈ as, DiceAt h' a) ∧ as.length ≤ max most 1 := by
    intro c ms h l hl h2 hc hms
    have hcn : c < h.n := (get_lt hc).1
    have il : isLst h c = true := by
      show (match h.get c with | some (.lst _) => true | _ => false) = _
      rw [hc]
    have ei : evI C (run C (n + 1)) (.fix (.var 2)) l h = .ok (.live c) h := by
      rw [evI, evE, h2]
      simp only [R.bind, il, if_true]
    have el : ∃ h' as', evE C (run C (n + 1)) (.lc [3] (.fix (.var 2)) (.con (.bl true)) (.cal false fd (.cons (.var 3) .nil))) l h = .ok (.ref h.n) h' ∧ h'.get h.n = some (.lst (refs as')) ∧ (∀ a ∈ as', DiceAt h' a) ∧ as'.length = ms.length := by
      rw [evE, ei]
      have rb : ∀ (f : Cu → VH → R D) (cu : Cu) (h : VH), R.bind (.ok cu h) f = f cu h := fun _ _ _ => rfl
      rw [rb]
      refine rounds_go _ ?_ c h.n ms (by omega) (by omega) ms.length 0 loopFuel [] (h.new (.lst [])) (by omega) (by show ms.length < 100000; omega) rfl (get_old _ hc) (get_new h _) (by simp) (by simp)
      intro k h1
      obtain ⟨x, y, s, dr⟩ := dice_run hd n k h1
      refine ⟨x, y, s, ?_⟩
      have bd : bindD [3] (.int k) l h1 = some (l.set 3 (some (.int k))) := rfl
      have gv : (l.set 3 (some (.int k)))[3]? = some (some (.int k)) := List.getElem?_set_self (by omega)
      simp only [bd, evE, evEs, R.bind, gv, Bool.false_eq_true, if_false, dr]
    obtain ⟨h', as', r, q1, q2, q3⟩ := el
    refine ⟨h', h.n, as', ?_, q1, q2, by omega⟩
    rw [evSs, evS, r]
    rfl
  have vw : viewOf (.ref 0) ((VH.nil.new (.lst (intDs (ns.take most)))).new (.lst [])) = some (.lst (intDs (ns.take most))) := by
    show (if plains (intDs (ns.take most)) = true then some (View.lst (intDs (ns.take most))) else none) = _
    rw [plains_ints]; rfl
  have ce : cmpD .eq (.ref 0) (.ref 1) ((VH.nil.new (.lst (intDs (ns.take most)))).new (.lst [])) = some (eqvs (intDs (ns.take most)) []) := by
    show eqD _ _ _ = _
    unfold eqD
    rw [vw]
    show (if min _ (deeps [] + 1) ≤ 64 then some (eqvs (intDs (ns.take most)) []) else none) = _
    rw [if_pos (Nat.le_trans (Nat.min_le_right _ _) (by decide))]
  cases hns : ns.take most with
  | nil =>
    rw [hns] at ce
    rw [ss_nx (l1 := [some (.fro (intDs ns)), some (.int most), some (.ref 2), none]) (h1 := ((VH.nil.new (.lst (intDs []))).new (.lst [])).new (.lst [.int 0])) (by
      rw [evS, evE]
      simp only [evE, evEs, R.bind, R.thn, List.getElem?_cons_zero, List.getElem?_cons_succ]
      rw [show (VH.nil.new (.lst (intDs []))).n = 1 from rfl, ce]
      rfl)]
    exact fin2 2 [0] _ _ rfl rfl rfl (by simp; omega)
  | cons k ks =>
    rw [hns] at ce
    rw [ss_nx (l1 := [some (.fro (intDs ns)), some (.int most), some (.ref 0), none]) (h1 := (VH.nil.new (.lst (intDs (k :: ks)))).new (.lst [])) (by
      rw [evS, evE]
      simp only [evE, evEs, R.bind, R.thn, List.getElem?_cons_zero, List.getElem?_cons_succ]
      rw [show (VH.nil.new (.lst (intDs (k :: ks)))).n = 1 from rfl, ce]
      rfl)]
    refine fin2 0 (k :: ks) _ _ rfl rfl rfl ?_
    rw [← hns, List.length_take]
    omega
/-- the law: for dice in rounds: body; return True -/
theorem law_for {fl f fd N : Nat} {B : Ss} {most : Nat} (hd : C.fns[fd]? = some ⟨1, 1, diceB⟩) (hf : C.fns[f]? = some ⟨2, 4, roundsB fd⟩) (hmost : most ≤ 1000)
    (hl : C.fns[fl]? = some ⟨1, N, .cons (.for_ (.nam 1) (.fix (.cal false f (.cons (.var 0) (.cons (.con (.int most)) .nil)))) B) (.cons (.ret (.con (.bl true))) .nil)⟩) (hN : 2 ≤ N) (n : Nat)
    (body : ∀ (l : Lc) (h : VH) (a : Nat), l.length = N → l[1]? = some (some (.ref a)) → DiceAt h a → ∃ l' h', l'.length = N ∧ (evSs C (run C (n + 2)) B l h = .nx l' h' ∨ evSs C (run C (n + 2)) B l h = .ct l' h') ∧ Keeps h h') (ns : List Int) :
    ∃ h', run C (n + 3) fl [.fro (ns.map .int)] VH.nil = .ok (.bl true) h' := by
  rw [run_succ hl rfl]
  obtain ⟨h0, L, as, r, gL, gd, la⟩ := rounds_run hd hf n most hmost ns
  have r' : run C (n + 2) f [.fro (ns.map .int), .int most] VH.nil = .ok (.ref L) h0 := r
  have go : ∀ (k i m : Nat) (l : Lc) (h : VH), l.length = N → Keeps h0 h → i + k = as.length → k < m → ∃ l' h', itGo (.live L) (fun x l h => evG C (run C (n + 2)) (.nam 1) x l h) (fun l h => evSs C (run C (n + 2)) B l h) m i l h = .nx l' h' := by
    intro k
    induction k with
    | zero =>
      intro i m l h hl kp e hm
      match m, hm with
      | m + 1, hm =>
      refine ⟨l, h, it_end ?_⟩
      show (match h.get L with | some (.lst xs) => some xs[i]? | _ => none) = _
      rw [kp.get gL (refs_not as)]
      show some (refs as)[i]? = _
      rw [List.getElem?_eq_none (by rw [refs, List.length_map]; omega)]
    | succ k ih =>
      intro i m l h hl kp e hm
      match m, hm with
      | m + 1, hm =>
      have hi : i < as.length := by omega
      have nx : Cu.next (.live L) i h = some (some (.ref as[i])) := by
        show (match h.get L with | some (.lst xs) => some xs[i]? | _ => none) = _
        rw [kp.get gL (refs_not as)]
        show some (refs as)[i]? = _
        rw [refs, List.getElem?_map, List.getElem?_eq_getElem hi]
        rfl
      obtain ⟨l', h', hl', e', kp'⟩ := body (l.set 1 (some (.ref as[i]))) h as[i] (by rw [List.length_set]; exact hl) (List.getElem?_set_self (by omega)) (kp.dice (gd _ (List.getElem_mem hi)))
      obtain ⟨l2, h2, q⟩ := ih (i + 1) m l' h' hl' (kp.trans kp') (by omega) (by omega)
      rcases e' with e' | e'
      · exact ⟨l2, h2, (it_nx nx rfl e').trans q⟩
      · exact ⟨l2, h2, (it_ct nx rfl e').trans q⟩
  have hstart : (startL N [D.fro (ns.map .int)]).length = N := by
    rw [startL, List.length_append, List.length_replicate]; simp; omega
  obtain ⟨l', h', q⟩ := go as.length 0 loopFuel (startL N [.fro (ns.map .int)]) h0 hstart (Keeps.refl _) (by omega) (by show _ < 100000; omega)
  refine ⟨h', ?_⟩
  have s0 : (startL N [D.fro (ns.map .int)])[0]? = some (some (.fro (ns.map .int))) := rfl
  have il : isLst h0 L = true := by
    show (match h0.get L with | some (.lst _) => true | _ => false) = _
    rw [gL]
  rw [ss_nx (l1 := l') (h1 := h') (by
    rw [evS, evI, evE]
    simp only [evEs, evE, R.bind, s0, Bool.false_eq_true, if_false, r', il, if_true, R.thn]
    exact q)]
  rfl
end Ev

namespace K15
open Ev
/-- read_term: text 0, stack 1, k 2, sign 3, one 4 -/
def b_read_term : Ss :=
  (.cons (.ite (.cmp .gt (.blt .len (.cons (.var 0) .nil)) (.con (.int (400)))) (.cons (.rsep 5 (.con (.int (400))))
  .nil) .nil)
  (.cons (.set (.nam 1) (.lst (.cons (.con .non) .nil)))
  (.cons (.for_ (.tup [2, 3]) (.enum (.var 0)) (.cons (.ite (.cmp .eq (.var 3) (.con (.str [32]))) (.cons .cnt
  .nil) .nil)
  (.cons (.ite (.cmp .eq (.var 3) (.con (.str [40]))) (.cons (.ite (.cmp .gt (.blt .len (.cons (.var 1) .nil)) (.con (.int (60)))) (.cons (.rsep 5 (.var 2))
  .nil) .nil)
  (.cons (.exp (.mth .append (.var 1) (.cons (.con .non) .nil)))
  (.cons .cnt
  .nil))) .nil)
  (.cons (.ite (.cmp .eq (.var 3) (.con (.str [41]))) (.cons (.ite (.or (.cmp .lt (.blt .len (.cons (.var 1) .nil)) (.con (.int (2)))) (.cmp .is (.idx (.var 1) (.neg (.con (.int (1))))) (.con .non))) (.cons (.rsep 5 (.var 2))
  .nil) .nil)
  (.cons (.set (.nam 4) (.mth .pop (.var 1) .nil))
  .nil)) (.cons (.ite (.or (.kin 0 (.var 3)) (.chn .le .le (.con (.str [97])) (.var 3) (.con (.str [122])))) (.cons (.set (.nam 4) (.var 3))
  .nil) (.cons (.rsep 5 (.var 2))
  .nil))
  .nil))
  (.cons (.set (.idx (.var 1) (.neg (.con (.int (1))))) (.ifx (.cmp .is (.idx (.var 1) (.neg (.con (.int (1))))) (.con .non)) (.var 4) (.tup (.cons (.idx (.var 1) (.neg (.con (.int (1))))) (.cons (.var 4) .nil)))))
  .nil)))))
  (.cons (.ite (.or (.cmp .ne (.blt .len (.cons (.var 1) .nil)) (.con (.int (1)))) (.cmp .is (.idx (.var 1) (.con (.int (0)))) (.con .non))) (.cons (.rsep 5 (.blt .len (.cons (.var 0) .nil)))
  .nil) .nil)
  (.cons (.ret (.idx (.var 1) (.con (.int (0)))))
  .nil)))))
/-- told_term: term 0, last 1 -/
def b_told_term : Ss :=
  (.cons (.ite (.blt .isStr (.cons (.var 0) .nil)) (.cons (.ret (.var 0))
  .nil) .nil)
  (.cons (.set (.nam 1) (.cal true 1 (.cons (.idx (.var 0) (.con (.int (1)))) .nil)))
  (.cons (.ret (.bin .add (.cal true 1 (.cons (.idx (.var 0) (.con (.int (0)))) .nil)) (.ifx (.blt .isStr (.cons (.idx (.var 0) (.con (.int (1)))) .nil)) (.var 1) (.bin .add (.bin .add (.con (.str [40])) (.var 1)) (.con (.str [41]))))))
  .nil)))
/-- size: term 0, left 1, found 2, one 3 -/
def b_size : Ss :=
  (.cons (.set (.tup [1, 2]) (.tup (.cons (.lst (.cons (.var 0) .nil)) (.cons (.con (.int (0))) .nil))))
  (.cons (.whl (.cmp .ne (.var 1) (.lst .nil)) (.cons (.set (.nam 3) (.mth .pop (.var 1) .nil))
  (.cons (.ite (.blt .isStr (.cons (.var 3) .nil)) (.cons (.aug 2 .add (.con (.int (1))))
  .nil) (.cons (.exp (.mth .extend (.var 1) (.cons (.var 3) .nil)))
  .nil))
  .nil)))
  (.cons (.ret (.var 2))
  .nil)))
/-- spine: term 0, row 1, last 2 -/
def b_spine : Ss :=
  (.cons (.set (.nam 1) (.lst .nil))
  (.cons (.whl (.not (.blt .isStr (.cons (.var 0) .nil))) (.cons (.set (.tup [0, 2]) (.var 0))
  (.cons (.exp (.mth .append (.var 1) (.cons (.var 2) .nil)))
  .nil)))
  (.cons (.ret (.tup (.cons (.var 0) (.cons (.blt .listRev (.cons (.var 1) .nil)) .nil))))
  .nil)))
/-- put: head 0, row 1, one 2 -/
def b_put : Ss :=
  (.cons (.for_ (.nam 2) (.fix (.var 1)) (.cons (.set (.nam 0) (.tup (.cons (.var 0) (.cons (.var 2) .nil))))
  .nil))
  (.cons (.ret (.var 0))
  .nil))
/-- step_term: term 0, head 1, row 2, need 3, k 4, one 5, there 6 -/
def b_step_term : Ss :=
  (.cons (.set (.tup [1, 2]) (.cal false 3 (.cons (.var 0) .nil)))
  (.cons (.set (.nam 3) (.kget 0 (.var 1)))
  (.cons (.ite (.and (.cmp .isn (.var 3) (.con .non)) (.cmp .ge (.blt .len (.cons (.var 2) .nil)) (.var 3))) (.cons (.ret (.cal false 4 (.cons (.cal false 6 (.cons (.var 1) (.cons (.slc false true (.var 2) (.con .non) (.var 3)) .nil))) (.cons (.slc true false (.var 2) (.var 3) (.con .non)) .nil))))
  .nil) .nil)
  (.cons (.for_ (.tup [4, 5]) (.enum (.var 2)) (.cons (.set (.nam 6) (.cal true 5 (.cons (.var 5) .nil)))
  (.cons (.ite (.cmp .isn (.var 6) (.con .non)) (.cons (.ret (.cal false 4 (.cons (.var 1) (.cons (.bin .add (.bin .add (.slc false true (.var 2) (.con .non) (.var 4)) (.lst (.cons (.var 6) .nil))) (.slc true false (.var 2) (.bin .add (.var 4) (.con (.int (1)))) (.con .non))) .nil))))
  .nil) .nil)
  .nil)))
  (.cons (.ret (.con .non))
  .nil)))))
/-- worked: head 0, row 1, a 2, b 3, c 4 -/
def b_worked : Ss :=
  (.cons (.ite (.cmp .eq (.var 0) (.con (.str [73]))) (.cons (.ret (.idx (.var 1) (.con (.int (0)))))
  .nil) .nil)
  (.cons (.ite (.cmp .eq (.var 0) (.con (.str [75]))) (.cons (.ret (.idx (.var 1) (.con (.int (0)))))
  .nil) .nil)
  (.cons (.set (.tup [2, 3, 4]) (.var 1))
  (.cons (.ite (.cmp .eq (.var 0) (.con (.str [83]))) (.cons (.ret (.tup (.cons (.tup (.cons (.var 2) (.cons (.var 4) .nil))) (.cons (.tup (.cons (.var 3) (.cons (.var 4) .nil))) .nil))))
  .nil) .nil)
  (.cons (.ret (.ifx (.cmp .eq (.var 0) (.con (.str [66]))) (.tup (.cons (.var 2) (.cons (.tup (.cons (.var 3) (.cons (.var 4) .nil))) .nil))) (.tup (.cons (.tup (.cons (.var 2) (.cons (.var 4) .nil))) (.cons (.var 3) .nil)))))
  .nil)))))
/-- run_term: term 0, most 1, turns 2, there 3 -/
def b_run_term : Ss :=
  (.cons (.set (.nam 2) (.con (.int (0))))
  (.cons (.whl (.con (.bl true)) (.cons (.set (.nam 3) (.cal true 5 (.cons (.var 0) .nil)))
  (.cons (.ite (.cmp .is (.var 3) (.con .non)) (.cons (.ret (.tup (.cons (.var 0) (.cons (.var 2) .nil))))
  .nil) .nil)
  (.cons (.set (.nam 0) (.var 3))
  (.cons (.aug 2 .add (.con (.int (1))))
  (.cons (.ite (.or (.cmp .gt (.var 2) (.var 1)) (.cmp .gt (.cal true 2 (.cons (.var 0) .nil)) (.con (.int (400))))) (.cons (.rsep 7 (.var 2))
  .nil) .nil)
  .nil))))))
  .nil))
/-- holds: term 0, name 1 -/
def b_holds : Ss :=
  (.cons (.ret (.ifx (.blt .isStr (.cons (.var 0) .nil)) (.cmp .eq (.var 0) (.var 1)) (.or (.cal true 8 (.cons (.idx (.var 0) (.con (.int (0)))) (.cons (.var 1) .nil))) (.cal true 8 (.cons (.idx (.var 0) (.con (.int (1)))) (.cons (.var 1) .nil))))))
  .nil)
/-- taken_out: term 0, name 1, with_more 2, one 3, other 4 -/
def b_taken_out : Ss :=
  (.cons (.ite (.cmp .eq (.var 0) (.var 1)) (.cons (.ret (.con (.str [73])))
  .nil) .nil)
  (.cons (.ite (.not (.cal true 8 (.cons (.var 0) (.cons (.var 1) .nil)))) (.cons (.ret (.tup (.cons (.con (.str [75])) (.cons (.var 0) .nil))))
  .nil) .nil)
  (.cons (.set (.tup [3, 4]) (.var 0))
  (.cons (.ite (.and (.var 2) (.and (.cmp .eq (.var 4) (.var 1)) (.not (.cal true 8 (.cons (.var 3) (.cons (.var 1) .nil)))))) (.cons (.ret (.var 3))
  .nil) .nil)
  (.cons (.ite (.and (.var 2) (.not (.cal true 8 (.cons (.var 3) (.cons (.var 1) .nil))))) (.cons (.ret (.tup (.cons (.tup (.cons (.con (.str [66])) (.cons (.var 3) .nil))) (.cons (.cal true 9 (.cons (.var 4) (.cons (.var 1) (.cons (.var 2) .nil)))) .nil))))
  .nil) .nil)
  (.cons (.ite (.and (.var 2) (.not (.cal true 8 (.cons (.var 4) (.cons (.var 1) .nil))))) (.cons (.ret (.tup (.cons (.tup (.cons (.con (.str [67])) (.cons (.cal true 9 (.cons (.var 3) (.cons (.var 1) (.cons (.var 2) .nil)))) .nil))) (.cons (.var 4) .nil))))
  .nil) .nil)
  (.cons (.ret (.tup (.cons (.tup (.cons (.con (.str [83])) (.cons (.cal true 9 (.cons (.var 3) (.cons (.var 1) (.cons (.var 2) .nil)))) .nil))) (.cons (.cal true 9 (.cons (.var 4) (.cons (.var 1) (.cons (.var 2) .nil)))) .nil))))
  .nil)))))))
/-- function: names 0, term 1, with_more 2, name 3 -/
def b_function : Ss :=
  (.cons (.for_ (.nam 3) (.rev (.var 0)) (.cons (.set (.nam 1) (.cal true 9 (.cons (.var 1) (.cons (.var 3) (.cons (.var 2) .nil)))))
  .nil))
  (.cons (.ret (.var 1))
  .nil))
/-- number_term: count 0, found 1, turn 2 -/
def b_number_term : Ss :=
  (.cons (.set (.nam 1) (.tup (.cons (.con (.str [75])) (.cons (.con (.str [73])) .nil))))
  (.cons (.for_ (.nam 2) (.rng (.con (.int 0)) (.var 0)) (.cons (.set (.nam 1) (.tup (.cons (.tup (.cons (.con (.str [83])) (.cons (.con (.str [66])) .nil))) (.cons (.var 1) .nil))))
  .nil))
  (.cons (.ret (.var 1))
  .nil)))
/-- counted: term 0, most 1, found 2, turns 3, count 4 -/
def b_counted : Ss :=
  (.cons (.set (.tup [2, 3]) (.cal true 7 (.cons (.tup (.cons (.tup (.cons (.var 0) (.cons (.con (.str [102])) .nil))) (.cons (.con (.str [120])) .nil))) (.cons (.var 1) .nil))))
  (.cons (.set (.nam 4) (.con (.int (0))))
  (.cons (.whl (.cmp .ne (.var 2) (.con (.str [120]))) (.cons (.ite (.or (.blt .isStr (.cons (.var 2) .nil)) (.cmp .ne (.idx (.var 2) (.con (.int (0)))) (.con (.str [102])))) (.cons (.rse 2)
  .nil) .nil)
  (.cons (.set (.nam 2) (.idx (.var 2) (.con (.int (1)))))
  (.cons (.aug 4 .add (.con (.int (1))))
  .nil))))
  (.cons (.ret (.var 4))
  .nil))))
/-- adding_term:  -/
def b_adding_term : Ss :=
  (.cons (.ret (.cal true 10 (.cons (.tup (.cons (.con (.str [109])) (.cons (.con (.str [110])) (.cons (.con (.str [102])) (.cons (.con (.str [120])) .nil))))) (.cons (.cal true 0 (.cons (.con (.str [109, 102, 40, 110, 102, 120, 41])) .nil)) (.cons (.con (.bl true)) .nil)))))
  .nil)
/-- timesing_term:  -/
def b_timesing_term : Ss :=
  (.cons (.ret (.con (.str [66])))
  .nil)
/-- powering_term:  -/
def b_powering_term : Ss :=
  (.cons (.ret (.cal true 10 (.cons (.tup (.cons (.con (.str [109])) (.cons (.con (.str [110])) .nil))) (.cons (.cal true 0 (.cons (.con (.str [110, 109])) .nil)) (.cons (.con (.bl true)) .nil)))))
  .nil)
/-- pair:  -/
def b_pair : Ss :=
  (.cons (.ret (.cal true 10 (.cons (.tup (.cons (.con (.str [97])) (.cons (.con (.str [98])) (.cons (.con (.str [99])) .nil)))) (.cons (.cal true 0 (.cons (.con (.str [99, 97, 98])) .nil)) (.cons (.con (.bl true)) .nil)))))
  .nil)
/-- is_nought:  -/
def b_is_nought : Ss :=
  (.cons (.ret (.cal true 10 (.cons (.tup (.cons (.con (.str [110])) (.cons (.con (.str [97])) (.cons (.con (.str [98])) .nil)))) (.cons (.cal true 0 (.cons (.con (.str [110, 40, 75, 98, 41, 97])) .nil)) (.cons (.con (.bl true)) .nil)))))
  .nil)
/-- one_less: step_there 0, filled 1, start 2, body 3 -/
def b_one_less : Ss :=
  (.cons (.set (.nam 0) (.cal true 10 (.cons (.tup (.cons (.con (.str [112])) .nil)) (.cons (.cal false 4 (.cons (.con (.str [80])) (.cons (.lst (.cons (.cal false 4 (.cons (.con (.str [112])) (.cons (.lst (.cons (.tup (.cons (.con (.str [75])) (.cons (.con (.str [73])) .nil))) .nil)) .nil))) (.cons (.cal false 4 (.cons (.con (.str [81])) (.cons (.lst (.cons (.cal false 4 (.cons (.con (.str [112])) (.cons (.lst (.cons (.tup (.cons (.con (.str [75])) (.cons (.con (.str [73])) .nil))) .nil)) .nil))) .nil)) .nil))) .nil))) .nil))) (.cons (.con (.bl true)) .nil)))))
  (.cons (.set (.nam 1) (.cal true 20 (.cons (.cal true 20 (.cons (.var 0) (.cons (.con (.str [80])) (.cons (.cal true 16 .nil) .nil)))) (.cons (.con (.str [81])) (.cons (.cal true 19 .nil) .nil)))))
  (.cons (.set (.nam 2) (.cal false 4 (.cons (.cal true 16 .nil) (.cons (.lst (.cons (.cal true 11 (.cons (.con (.int (0))) .nil)) (.cons (.cal true 11 (.cons (.con (.int (0))) .nil)) .nil))) .nil))))
  (.cons (.set (.nam 3) (.cal false 4 (.cons (.con (.str [110])) (.cons (.lst (.cons (.con (.str [84])) (.cons (.con (.str [85])) (.cons (.con (.str [75])) .nil)))) .nil))))
  (.cons (.ret (.cal true 20 (.cons (.cal true 20 (.cons (.cal true 10 (.cons (.tup (.cons (.con (.str [110])) .nil)) (.cons (.var 3) (.cons (.con (.bl true)) .nil)))) (.cons (.con (.str [84])) (.cons (.var 1) .nil)))) (.cons (.con (.str [85])) (.cons (.var 2) .nil)))))
  .nil)))))
/-- more_by_one:  -/
def b_more_by_one : Ss :=
  (.cons (.ret (.tup (.cons (.con (.str [83])) (.cons (.con (.str [66])) .nil))))
  .nil)
/-- put_in: term 0, name 1, thing 2 -/
def b_put_in : Ss :=
  (.cons (.ite (.cmp .eq (.var 0) (.var 1)) (.cons (.ret (.var 2))
  .nil) .nil)
  (.cons (.ret (.ifx (.blt .isStr (.cons (.var 0) .nil)) (.var 0) (.tup (.cons (.cal true 20 (.cons (.idx (.var 0) (.con (.int (0)))) (.cons (.var 1) (.cons (.var 2) .nil)))) (.cons (.cal true 20 (.cons (.idx (.var 0) (.con (.int (1)))) (.cons (.var 1) (.cons (.var 2) .nil)))) .nil)))))
  .nil))
/-- by_two: term 0, table 1 -/
def b_by_two : Ss :=
  (.cons (.set (.nam 1) (.dct (.cons (.con (.str [73])) (.cons (.cal true 0 (.cons (.con (.str [83, 75, 75])) .nil)) (.cons (.con (.str [66])) (.cons (.cal true 0 (.cons (.con (.str [83, 40, 75, 83, 41, 75])) .nil)) (.cons (.con (.str [67])) (.cons (.cal true 0 (.cons (.con (.str [83, 40, 83, 40, 75, 40, 83, 40, 75, 83, 41, 75, 41, 41, 83, 41, 40, 75, 75, 41])) .nil)) .nil))))))))
  (.cons (.ite (.blt .isStr (.cons (.var 0) .nil)) (.cons (.ret (.mth .get2 (.var 1) (.cons (.var 0) (.cons (.var 0) .nil))))
  .nil) .nil)
  (.cons (.ret (.tup (.cons (.cal true 21 (.cons (.idx (.var 0) (.con (.int (0)))) .nil)) (.cons (.cal true 21 (.cons (.idx (.var 0) (.con (.int (1)))) .nil)) .nil))))
  .nil)))
/-- same: one 0, other 1, names 2, most 3, a 4, turns 5, b 6, more 7 -/
def b_same : Ss :=
  (.cons (.set (.tup [4, 5]) (.cal true 7 (.cons (.cal false 4 (.cons (.var 0) (.cons (.var 2) .nil))) (.cons (.var 3) .nil))))
  (.cons (.set (.tup [6, 7]) (.cal true 7 (.cons (.cal false 4 (.cons (.var 1) (.cons (.var 2) .nil))) (.cons (.var 3) .nil))))
  (.cons (.ret (.cmp .eq (.var 4) (.var 6)))
  .nil)))
/-- _law_dice: cell 0 -/
def b__law_dice : Ss :=
  (.cons (.ite (.chn .lt .lt (.bin .sub (.con (.int (0))) (.con (.int (10)))) (.var 0) (.con (.int (10)))) (.cons (.ret (.lst (.cons (.blt .abs (.cons (.var 0) .nil)) (.cons (.con (.int (0))) (.cons (.con (.int (2))) .nil)))))
  .nil) .nil)
  (.cons (.ret (.lst (.cons (.var 0) (.cons (.bin .add (.con (.int (1))) (.bin .mod (.blt .int (.cons (.var 0) .nil)) (.con (.int (1009))))) (.cons (.blt .int (.cons (.cmp .ge (.var 0) (.bin .pow (.con (.int (10))) (.con (.int (18))))) .nil)) .nil)))))
  .nil))
/-- _law_roll: dice 0, many 1, found 2 -/
def b__law_roll : Ss :=
  (.cons (.ite (.or (.cmp .eq (.idx (.var 0) (.con (.int (2)))) (.con (.int (2)))) (.and (.cmp .eq (.idx (.var 0) (.con (.int (2)))) (.con (.int (1)))) (.cmp .gt (.idx (.var 0) (.con (.int (0)))) (.con (.int (0)))))) (.cons (.set (.nam 2) (.bin .mod (.blt .int (.cons (.idx (.var 0) (.con (.int (0)))) .nil)) (.var 1)))
  (.cons (.set (.idx (.var 0) (.con (.int (0)))) (.bin .fdv (.idx (.var 0) (.con (.int (0)))) (.var 1)))
  (.cons (.ret (.var 2))
  .nil))) .nil)
  (.cons (.set (.idx (.var 0) (.con (.int (2)))) (.con (.int (0))))
  (.cons (.set (.idx (.var 0) (.con (.int (0)))) (.bin .mod (.blt .int (.cons (.bin .add (.bin .add (.bin .mul (.idx (.var 0) (.con (.int (0)))) (.con (.int (48271)))) (.bin .mul (.idx (.var 0) (.con (.int (1)))) (.con (.int (69621))))) (.con (.int (11)))) .nil)) (.con (.int (2147483647)))))
  (.cons (.set (.idx (.var 0) (.con (.int (1)))) (.bin .add (.idx (.var 0) (.con (.int (1)))) (.con (.int (1)))))
  (.cons (.ret (.bin .mod (.blt .int (.cons (.bin .add (.bin .fdv (.idx (.var 0) (.con (.int (0)))) (.con (.int (7)))) (.idx (.var 0) (.con (.int (0))))) .nil)) (.var 1)))
  .nil)))))
/-- _law_rounds: script 0, most 1, cells 2, cell 3 -/
def b__law_rounds : Ss :=
  (.cons (.set (.nam 2) (.slc false true (.var 0) (.con .non) (.var 1)))
  (.cons (.ite (.cmp .eq (.var 2) (.lst .nil)) (.cons (.set (.nam 2) (.lst (.cons (.con (.int (0))) .nil)))
  .nil) .nil)
  (.cons (.ret (.lc [3] (.fix (.var 2)) (.con (.bl true)) (.cal false 23 (.cons (.var 3) .nil))))
  .nil)))
/-- _law_term: dice 0, deep 1 -/
def b__law_term : Ss :=
  (.cons (.ite (.or (.cmp .eq (.var 1) (.con (.int (0)))) (.cmp .eq (.cal false 24 (.cons (.var 0) (.cons (.con (.int (3))) .nil))) (.con (.int (0))))) (.cons (.ret (.idx (.lst (.cons (.con (.str [120])) (.cons (.con (.str [121])) (.cons (.con (.str [83])) (.cons (.con (.str [75])) (.cons (.con (.str [73])) .nil)))))) (.cal false 24 (.cons (.var 0) (.cons (.con (.int (5))) .nil)))))
  .nil) .nil)
  (.cons (.ret (.tup (.cons (.cal false 26 (.cons (.var 0) (.cons (.bin .sub (.var 1) (.con (.int (1)))) .nil))) (.cons (.cal false 26 (.cons (.var 0) (.cons (.bin .sub (.var 1) (.con (.int (1)))) .nil))) .nil))))
  .nil))
/-- _law_size: term 0 -/
def b__law_size : Ss :=
  (.cons (.ret (.ifx (.blt .isStr (.cons (.var 0) .nil)) (.con (.int (1))) (.bin .add (.cal true 27 (.cons (.idx (.var 0) (.con (.int (0)))) .nil)) (.cal true 27 (.cons (.idx (.var 0) (.con (.int (1)))) .nil)))))
  .nil)
/-- _law_put: term 0, thing 1 -/
def b__law_put : Ss :=
  (.cons (.ite (.blt .isStr (.cons (.var 0) .nil)) (.cons (.ret (.ifx (.cmp .eq (.var 0) (.con (.str [120]))) (.var 1) (.var 0)))
  .nil) .nil)
  (.cons (.ret (.tup (.cons (.cal true 28 (.cons (.idx (.var 0) (.con (.int (0)))) (.cons (.var 1) .nil))) (.cons (.cal true 28 (.cons (.idx (.var 0) (.con (.int (1)))) (.cons (.var 1) .nil))) .nil))))
  .nil))
/-- _law_place: text 0, e 1 -/
def b__law_place : Ss :=
  (.cons (.tryp (.cons (.exp (.cal true 0 (.cons (.var 0) .nil)))
  .nil) 5 1)
  (.cons (.ret (.con (.str [114, 101, 97, 100])))
  .nil))
/-- _law_numbers: a 0, b 1, one 2, other 3, raised 4, turn 5 -/
def b__law_numbers : Ss :=
  (.cons (.set (.nam 4) (.con (.int (1))))
  (.cons (.for_ (.nam 5) (.rng (.con (.int 0)) (.var 1)) (.cons (.set (.nam 4) (.bin .mul (.var 4) (.var 0)))
  .nil))
  (.cons (.ite (.and (.cmp .gt (.var 0) (.con (.int (0)))) (.and (.cmp .lt (.var 4) (.con (.int (10)))) (.cmp .ne (.cal true 12 (.cons (.tup (.cons (.tup (.cons (.cal true 15 .nil) (.cons (.var 2) .nil))) (.cons (.var 3) .nil))) (.cons (.con (.int (900))) .nil))) (.var 4)))) (.cons (.ret (.con (.bl false)))
  .nil) .nil)
  (.cons (.ite (.or (.cmp .ne (.cal true 12 (.cons (.tup (.cons (.cal true 18 .nil) (.cons (.var 2) .nil))) (.cons (.con (.int (900))) .nil))) (.blt .max2 (.cons (.con (.int (0))) (.cons (.bin .sub (.var 0) (.con (.int (1)))) .nil)))) (.cmp .ne (.cal true 12 (.cons (.tup (.cons (.cal true 19 .nil) (.cons (.var 2) .nil))) (.cons (.con (.int (99))) .nil))) (.bin .add (.var 0) (.con (.int (1)))))) (.cons (.ret (.con (.bl false)))
  .nil) .nil)
  (.cons (.ite (.cmp .ne (.idx (.cal true 7 (.cons (.cal false 4 (.cons (.cal true 17 .nil) (.cons (.lst (.cons (.var 2) (.cons (.con (.str [112])) (.cons (.con (.str [113])) .nil)))) .nil))) (.cons (.con (.int (99))) .nil))) (.con (.int (0)))) (.ifx (.cmp .eq (.var 0) (.con (.int (0)))) (.con (.str [112])) (.con (.str [113])))) (.cons (.ret (.con (.bl false)))
  .nil) .nil)
  (.cons (.ite (.cmp .ne (.idx (.cal true 7 (.cons (.cal false 4 (.cons (.cal true 16 .nil) (.cons (.lst (.cons (.con (.str [112])) (.cons (.con (.str [113])) (.cons (.con (.str [75])) .nil)))) .nil))) (.cons (.con (.int (99))) .nil))) (.con (.int (0)))) (.con (.str [112]))) (.cons (.ret (.con (.bl false)))
  .nil) .nil)
  (.cons (.ite (.cmp .ne (.idx (.cal true 7 (.cons (.cal false 4 (.cons (.cal true 16 .nil) (.cons (.lst (.cons (.con (.str [112])) (.cons (.con (.str [113])) (.cons (.tup (.cons (.con (.str [75])) (.cons (.con (.str [73])) .nil))) .nil)))) .nil))) (.cons (.con (.int (99))) .nil))) (.con (.int (0)))) (.con (.str [113]))) (.cons (.ret (.con (.bl false)))
  .nil) .nil)
  (.cons (.ret (.con (.bl true)))
  .nil))))))))
/-- _law_worked:  -/
def b__law_worked : Ss :=
  (.cons (.ite (.cmp .ne (.cal false 6 (.cons (.con (.str [83])) (.cons (.lst (.cons (.con (.str [112])) (.cons (.con (.str [113])) (.cons (.con (.str [114])) .nil)))) .nil))) (.tup (.cons (.tup (.cons (.con (.str [112])) (.cons (.con (.str [114])) .nil))) (.cons (.tup (.cons (.con (.str [113])) (.cons (.con (.str [114])) .nil))) .nil)))) (.cons (.ret (.con (.bl false)))
  .nil) .nil)
  (.cons (.ite (.cmp .ne (.cal false 6 (.cons (.con (.str [67])) (.cons (.lst (.cons (.con (.str [112])) (.cons (.con (.str [113])) (.cons (.con (.str [114])) .nil)))) .nil))) (.tup (.cons (.tup (.cons (.con (.str [112])) (.cons (.con (.str [114])) .nil))) (.cons (.con (.str [113])) .nil)))) (.cons (.ret (.con (.bl false)))
  .nil) .nil)
  (.cons (.ite (.cmp .ne (.cal true 5 (.cons (.cal true 0 (.cons (.con (.str [75, 40, 73, 112, 41, 40, 73, 113, 41])) .nil)) .nil)) (.cal true 0 (.cons (.con (.str [73, 112])) .nil))) (.cons (.ret (.con (.bl false)))
  .nil) .nil)
  (.cons (.ret (.con (.bl true)))
  .nil))))
/-- _law_first: term 0, head 1, row 2, there 3 -/
def b__law_first : Ss :=
  (.cons (.set (.tup [1, 2]) (.cal false 3 (.cons (.var 0) .nil)))
  (.cons (.ite (.or (.cmp .ne (.cal false 4 (.cons (.var 1) (.cons (.var 2) .nil))) (.var 0)) (.not (.blt .isStr (.cons (.var 1) .nil)))) (.cons (.ret (.con (.bl false)))
  .nil) .nil)
  (.cons (.set (.nam 3) (.cal true 5 (.cons (.var 0) .nil)))
  (.cons (.ite (.and (.cmp .is (.var 3) (.con .non)) (.cmp .ne (.cal true 7 (.cons (.var 0) (.cons (.con (.int (9))) .nil))) (.tup (.cons (.var 0) (.cons (.con (.int (0))) .nil))))) (.cons (.ret (.con (.bl false)))
  .nil) .nil)
  (.cons (.ite (.and (.cmp .isn (.var 3) (.con .non)) (.cmp .ne (.tld 0 (.cal true 7 (.cons (.var 0) (.cons (.con (.int (0))) .nil)))) (.con (.str [108, 111, 110, 103])))) (.cons (.ret (.con (.bl false)))
  .nil) .nil)
  (.cons (.ret (.con (.bl true)))
  .nil))))))
/-- _law_wrong_texts: bad 0, place 1 -/
def b__law_wrong_texts : Ss :=
  (.cons (.for_ (.tup [0, 1]) (.fix (.lst (.cons (.tup (.cons (.con (.str [])) (.cons (.con (.int (0))) .nil))) (.cons (.tup (.cons (.con (.str [40, 120])) (.cons (.con (.int (2))) .nil))) (.cons (.tup (.cons (.con (.str [120, 41])) (.cons (.con (.int (1))) .nil))) (.cons (.tup (.cons (.con (.str [40, 41])) (.cons (.con (.int (1))) .nil))) (.cons (.tup (.cons (.con (.str [120, 81])) (.cons (.con (.int (1))) .nil))) .nil))))))) (.cons (.ite (.cmp .ne (.cal true 29 (.cons (.var 0) .nil)) (.var 1)) (.cons (.ret (.con (.bl false)))
  .nil) .nil)
  .nil))
  (.cons (.ret (.con (.bl true)))
  .nil))
/-- law: script 0, dice 1, a 2, b 3, one 4, other 5, term 6, due 7, more 8, out 9, there 10, flat 11, one_way 12, other_way 13 -/
def b_law : Ss :=
  (.cons (.for_ (.nam 1) (.fix (.cal false 25 (.cons (.var 0) (.cons (.con (.int (2))) .nil)))) (.cons (.set (.tup [2, 3]) (.tup (.cons (.cal false 24 (.cons (.var 1) (.cons (.con (.int (3))) .nil))) (.cons (.cal false 24 (.cons (.var 1) (.cons (.con (.int (3))) .nil))) .nil))))
  (.cons (.set (.tup [4, 5]) (.tup (.cons (.cal true 11 (.cons (.var 2) .nil)) (.cons (.cal true 11 (.cons (.var 3) .nil)) .nil))))
  (.cons (.ite (.or (.cmp .ne (.cal true 12 (.cons (.var 4) (.cons (.con (.int (99))) .nil))) (.var 2)) (.cmp .ne (.cal true 12 (.cons (.tup (.cons (.tup (.cons (.cal true 13 .nil) (.cons (.var 4) .nil))) (.cons (.var 5) .nil))) (.cons (.con (.int (299))) .nil))) (.bin .add (.var 2) (.var 3)))) (.cons (.ret (.con (.bl false)))
  .nil) .nil)
  (.cons (.ite (.cmp .ne (.cal true 12 (.cons (.tup (.cons (.tup (.cons (.cal true 14 .nil) (.cons (.var 4) .nil))) (.cons (.var 5) .nil))) (.cons (.con (.int (299))) .nil))) (.bin .mul (.var 2) (.var 3))) (.cons (.ret (.con (.bl false)))
  .nil) .nil)
  (.cons (.ite (.not (.cal true 30 (.cons (.var 2) (.cons (.var 3) (.cons (.var 4) (.cons (.var 5) .nil)))))) (.cons (.ret (.con (.bl false)))
  .nil) .nil)
  (.cons (.set (.nam 6) (.cal false 26 (.cons (.var 1) (.cons (.con (.int (3))) .nil))))
  (.cons (.ite (.or (.cmp .ne (.cal true 0 (.cons (.cal true 1 (.cons (.var 6) .nil)) .nil)) (.var 6)) (.cmp .ne (.cal true 2 (.cons (.var 6) .nil)) (.cal true 27 (.cons (.var 6) .nil)))) (.cons (.ret (.con (.bl false)))
  .nil) .nil)
  (.cons (.ite (.or (.cmp .ne (.cal true 8 (.cons (.var 6) (.cons (.con (.str [120])) .nil))) (.cmp .ne (.cal true 28 (.cons (.var 6) (.cons (.con (.str [122])) .nil))) (.var 6))) (.cmp .ne (.cal true 20 (.cons (.var 6) (.cons (.con (.str [120])) (.cons (.con (.str [122])) .nil)))) (.cal true 28 (.cons (.var 6) (.cons (.con (.str [122])) .nil))))) (.cons (.ret (.con (.bl false)))
  .nil) .nil)
  (.cons (.set (.nam 7) (.tld 0 (.cal true 7 (.cons (.cal true 28 (.cons (.var 6) (.cons (.con (.str [122])) .nil))) (.cons (.con (.int (60))) .nil)))))
  (.cons (.ite (.cmp .ne (.var 7) (.con (.str [108, 111, 110, 103]))) (.cons (.for_ (.nam 8) (.fix (.lst (.cons (.con (.bl true)) (.cons (.con (.bl false)) .nil)))) (.cons (.set (.nam 9) (.cal true 9 (.cons (.var 6) (.cons (.con (.str [120])) (.cons (.var 8) .nil)))))
  (.cons (.set (.nam 10) (.tld 0 (.cal true 7 (.cons (.tup (.cons (.var 9) (.cons (.con (.str [122])) .nil))) (.cons (.con (.int (900))) .nil)))))
  (.cons (.ite (.or (.cal true 8 (.cons (.var 9) (.cons (.con (.str [120])) .nil))) (.and (.cmp .ne (.var 10) (.con (.str [108, 111, 110, 103]))) (.cmp .ne (.idx (.var 10) (.con (.int (0)))) (.idx (.var 7) (.con (.int (0))))))) (.cons (.ret (.con (.bl false)))
  .nil) .nil)
  .nil))))
  .nil) .nil)
  (.cons (.set (.nam 11) (.cal true 20 (.cons (.cal true 20 (.cons (.cal true 20 (.cons (.var 6) (.cons (.con (.str [83])) (.cons (.con (.str [121])) .nil)))) (.cons (.con (.str [75])) (.cons (.con (.str [121])) .nil)))) (.cons (.con (.str [73])) (.cons (.con (.str [121])) .nil)))))
  (.cons (.set (.nam 10) (.tld 0 (.cal true 7 (.cons (.tup (.cons (.cal true 21 (.cons (.cal true 10 (.cons (.tup (.cons (.con (.str [120])) .nil)) (.cons (.var 11) (.cons (.con (.bl true)) .nil)))) .nil)) (.cons (.con (.str [122])) .nil))) (.cons (.con (.int (900))) .nil)))))
  (.cons (.ite (.and (.cmp .ne (.var 10) (.con (.str [108, 111, 110, 103]))) (.cmp .ne (.idx (.var 10) (.con (.int (0)))) (.cal true 28 (.cons (.var 11) (.cons (.con (.str [122])) .nil))))) (.cons (.ret (.con (.bl false)))
  .nil) .nil)
  (.cons (.set (.tup [12, 13]) (.tup (.cons (.cal true 10 (.cons (.tup (.cons (.con (.str [120])) .nil)) (.cons (.var 11) (.cons (.con (.bl true)) .nil)))) (.cons (.cal true 10 (.cons (.tup (.cons (.con (.str [120])) .nil)) (.cons (.var 11) (.cons (.con (.bl false)) .nil)))) .nil))))
  (.cons (.ite (.cmp .nin (.tld 0 (.cal false 22 (.cons (.var 12) (.cons (.var 13) (.cons (.lst (.cons (.con (.str [122])) .nil)) (.cons (.con (.int (900))) .nil)))))) (.lst (.cons (.con (.bl true)) (.cons (.con (.str [108, 111, 110, 103])) .nil)))) (.cons (.ret (.con (.bl false)))
  .nil) .nil)
  (.cons (.ite (.not (.cal true 32 (.cons (.var 6) .nil))) (.cons (.ret (.con (.bl false)))
  .nil) .nil)
  (.cons (.ite (.not (.cal true 31 .nil)) (.cons (.ret (.con (.bl false)))
  .nil) .nil)
  (.cons (.ite (.not (.cal true 33 .nil)) (.cons (.ret (.con (.bl false)))
  .nil) .nil)
  (.cons (.ite (.cmp .ne (.tld 0 (.cal true 12 (.cons (.con (.str [75])) (.cons (.con (.int (99))) .nil)))) (.con (.str [112, 108, 97, 110]))) (.cons (.ret (.con (.bl false)))
  .nil) .nil)
  (.cons (.ite (.cmp .ne (.tld 0 (.cal true 7 (.cons (.cal true 0 (.cons (.con (.str [83, 73, 73, 40, 83, 73, 73, 41])) .nil)) (.cons (.con (.int (50))) .nil)))) (.con (.str [108, 111, 110, 103]))) (.cons (.ret (.con (.bl false)))
  .nil) .nil)
  .nil)))))))))))))))))))))
  (.cons (.ret (.con (.bl true)))
  .nil))
def fns : List Fn := [⟨1, 5, b_read_term⟩, ⟨1, 2, b_told_term⟩, ⟨1, 4, b_size⟩, ⟨1, 3, b_spine⟩, ⟨2, 3, b_put⟩, ⟨1, 7, b_step_term⟩, ⟨2, 5, b_worked⟩, ⟨2, 4, b_run_term⟩, ⟨2, 2, b_holds⟩, ⟨3, 5, b_taken_out⟩, ⟨3, 4, b_function⟩, ⟨1, 3, b_number_term⟩, ⟨2, 5, b_counted⟩, ⟨0, 0, b_adding_term⟩, ⟨0, 0, b_timesing_term⟩, ⟨0, 0, b_powering_term⟩, ⟨0, 0, b_pair⟩, ⟨0, 0, b_is_nought⟩, ⟨0, 4, b_one_less⟩, ⟨0, 0, b_more_by_one⟩, ⟨3, 3, b_put_in⟩, ⟨1, 2, b_by_two⟩, ⟨4, 8, b_same⟩, ⟨1, 1, b__law_dice⟩, ⟨2, 3, b__law_roll⟩, ⟨2, 4, b__law_rounds⟩, ⟨2, 2, b__law_term⟩, ⟨1, 1, b__law_size⟩, ⟨2, 2, b__law_put⟩, ⟨1, 2, b__law_place⟩, ⟨4, 6, b__law_numbers⟩, ⟨0, 0, b__law_worked⟩, ⟨1, 4, b__law_first⟩, ⟨0, 2, b__law_wrong_texts⟩, ⟨1, 14, b_law⟩]
def glos : List D := []
def kdss : List (List (List Nat × D)) := [[([83], (.int (3))), ([75], (.int (2))), ([73], (.int (1))), ([66], (.int (3))), ([67], (.int (3)))]]
def tlss : List (List (Nat × D)) := [[(1, (.str [110, 117, 109, 98, 101, 114])), (2, (.str [112, 108, 97, 110])), (3, (.str [112, 97, 115, 116])), (4, (.str [110, 111, 116, 32, 114, 101, 97, 100, 121])), (5, (.str [116, 101, 120, 116])), (6, (.str [115, 119, 105, 110, 103, 115])), (7, (.str [108, 111, 110, 103])), (8, (.str [115, 116, 117, 99, 107]))]]
def subs : List (Nat × Nat) := [(0, 0), (1, 1), (1, 0), (2, 2), (2, 0), (3, 3), (3, 0), (4, 4), (4, 0), (5, 5), (5, 0), (6, 6), (6, 0), (7, 7), (7, 0), (8, 8), (8, 0)]
def C : Cfg := ⟨fns, glos, kdss, tlss, fun a b => subs.contains (a, b)⟩
abbrev f_read_term : Nat := 0
abbrev f_told_term : Nat := 1
abbrev f_size : Nat := 2
abbrev f_spine : Nat := 3
abbrev f_put : Nat := 4
abbrev f_step_term : Nat := 5
abbrev f_worked : Nat := 6
abbrev f_run_term : Nat := 7
abbrev f_holds : Nat := 8
abbrev f_taken_out : Nat := 9
abbrev f_function : Nat := 10
abbrev f_number_term : Nat := 11
abbrev f_counted : Nat := 12
abbrev f_adding_term : Nat := 13
abbrev f_timesing_term : Nat := 14
abbrev f_powering_term : Nat := 15
abbrev f_pair : Nat := 16
abbrev f_is_nought : Nat := 17
abbrev f_one_less : Nat := 18
abbrev f_more_by_one : Nat := 19
abbrev f_put_in : Nat := 20
abbrev f_by_two : Nat := 21
abbrev f_same : Nat := 22
abbrev f__law_dice : Nat := 23
abbrev f__law_roll : Nat := 24
abbrev f__law_rounds : Nat := 25
abbrev f__law_term : Nat := 26
abbrev f__law_size : Nat := 27
abbrev f__law_put : Nat := 28
abbrev f__law_place : Nat := 29
abbrev f__law_numbers : Nat := 30
abbrev f__law_worked : Nat := 31
abbrev f__law_first : Nat := 32
abbrev f__law_wrong_texts : Nat := 33
abbrev f_law : Nat := 34
end K15
namespace K15
open PySem PySem.Spec PyProof.Rows L2 Ev
def top (i : Nat) : Stmt := PySem.Challenge.pw_wheelhall_k15_combinators.main.body.getD i (.Pass ⟨0, 0, 0, 0⟩)
def ds : List Ds := [⟨"read_term", 1, ["text", "stack", "k", "sign", "one"], 0, false⟩,
  ⟨"told_term", 1, ["term", "last"], 0, false⟩,
  ⟨"size", 1, ["term", "left", "found", "one"], 0, false⟩,
  ⟨"spine", 1, ["term", "row", "last"], 0, false⟩,
  ⟨"put", 2, ["head", "row", "one"], 0, false⟩,
  ⟨"step_term", 1, ["term", "head", "row", "need", "k", "one", "there"], 0, false⟩,
  ⟨"worked", 2, ["head", "row", "a", "b", "c"], 0, false⟩,
  ⟨"run_term", 2, ["term", "most", "turns", "there"], 0, false⟩,
  ⟨"holds", 2, ["term", "name"], 0, false⟩,
  ⟨"taken_out", 3, ["term", "name", "with_more", "one", "other"], 0, false⟩,
  ⟨"function", 3, ["names", "term", "with_more", "name"], 0, false⟩,
  ⟨"number_term", 1, ["count", "found", "turn"], 0, false⟩,
  ⟨"counted", 2, ["term", "most", "found", "turns", "count"], 0, false⟩,
  ⟨"adding_term", 0, [], 0, false⟩,
  ⟨"timesing_term", 0, [], 0, false⟩,
  ⟨"powering_term", 0, [], 0, false⟩,
  ⟨"pair", 0, [], 0, false⟩,
  ⟨"is_nought", 0, [], 0, false⟩,
  ⟨"one_less", 0, ["step_there", "filled", "start", "body"], 0, false⟩,
  ⟨"more_by_one", 0, [], 0, false⟩,
  ⟨"put_in", 3, ["term", "name", "thing"], 0, false⟩,
  ⟨"by_two", 1, ["term", "table"], 0, false⟩,
  ⟨"same", 4, ["one", "other", "names", "most", "a", "turns", "b", "more"], 0, false⟩,
  ⟨"_law_dice", 1, ["cell"], 0, false⟩,
  ⟨"_law_roll", 2, ["dice", "many", "found"], 0, false⟩,
  ⟨"_law_rounds", 2, ["script", "most", "cells", "cell"], 0, false⟩,
  ⟨"_law_term", 2, ["dice", "deep"], 0, false⟩,
  ⟨"_law_size", 1, ["term"], 0, false⟩,
  ⟨"_law_put", 2, ["term", "thing"], 0, false⟩,
  ⟨"_law_place", 1, ["text", "e"], 0, false⟩,
  ⟨"_law_numbers", 4, ["a", "b", "one", "other", "raised", "turn"], 0, false⟩,
  ⟨"_law_worked", 0, [], 0, false⟩,
  ⟨"_law_first", 1, ["term", "head", "row", "there"], 2, true⟩,
  ⟨"_law_wrong_texts", 0, ["bad", "place"], 0, false⟩,
  ⟨"law", 1, ["script", "dice", "a", "b", "one", "other", "term", "due", "more", "out", "there", "flat", "one_way", "other_way"], 2, true⟩]
def gs : Gs := ⟨ds, ["enumerate", "len", "isinstance", "str", "list", "reversed", "range", "int", "abs", "max"], [], [("NEEDS", 0)], [("WheelFault", 0), ("BadNumber", 1), ("BadPlan", 2), ("PastEnd", 3), ("NotReady", 4), ("BadText", 5), ("Swings", 6), ("TooLong", 7), ("Stuck", 8)], [("WheelFault", 0), ("BadNumber", 1), ("BadPlan", 2), ("PastEnd", 3), ("NotReady", 4), ("Stuck", 8)], [("BadText", 5, "row"), ("Swings", 6, "turns"), ("TooLong", 7, "turns")], [("_law_told", 0)]⟩
def sts : List Stmt := [top 12, top 13, top 14, top 15, top 16, top 17, top 18, top 19, top 20, top 21, top 22, top 23, top 24, top 25, top 26, top 27, top 28, top 29, top 30, top 31, top 32, top 33, top 34, top 36, top 37, top 38, top 40, top 41, top 42, top 43, top 44, top 45, top 46, top 47, top 48]
def tls : List (Str × Str × List Str × Stmt) := [("_law_told", "what", ["what"], top 39)]
def pr : Pr := ⟨PySem.Challenge.rw_wheelhall_k15_combinators.prog, gs, C, sts, tls⟩
def loose0 : List Str := ["WheelFault", "BadNumber", "BadPlan", "PastEnd", "NotReady", "BadText", "Swings", "TooLong", "Stuck", "NEEDS", "read_term", "told_term", "size", "spine", "put", "step_term", "worked", "run_term", "holds", "taken_out", "function", "number_term", "counted", "adding_term", "timesing_term", "powering_term", "pair", "is_nought", "one_less", "more_by_one"]
def loose1 : List Str := ["put_in", "by_two", "same", "_law_dice", "_law_roll", "_law_rounds", "_law_told", "_law_term", "_law_size", "_law_put", "_law_place", "_law_numbers", "_law_worked", "_law_first", "_law_wrong_texts"]
abbrev loose : List Str := loose0 ++ loose1
abbrev Rw : PySem.W.OpenRow := PySem.W.OpenLaw.row PySem.Challenge.rw_wheelhall_k15_combinators
abbrev hk : PySem.W.Hook := hookY 5 pr.fa pr.fn pr.ts pr.tf pr.ex
def ob (s : PySem.W.SharedT) : He.AlX := obsY 5 pr.fa pr.fn pr.ts pr.tf pr.ex (HandSHeadRun.getT s)
theorem ob_eq (s : PySem.W.SharedT) : ob s = hk.obs s.abs := obsY_eq (HandSHeadRun.getT_eq s)
theorem run_top (w : World) : HandSHeadRun.RunEq Rw (PySem.W.view Rw.prog [48]) hk ob 6000 loose w := by
  refine PySem.W.byRow2 "special-get-raises" (P := fun w => HandSHeadRun.RunEq Rw (PySem.W.view Rw.prog [48]) hk ob 6000 loose w) ?_ ?_ w
  · intro w os
    kernel_rfl
  · intro w os
    kernel_rfl
theorem ok_pr : pr.Ok := Pr.mkOk (by kernel_rfl) (by kernel_rfl)
  ⟨fun _ _ _ _ _ _ us hl => match us, hl with | [_], _ => rfl,
   fun _ _ _ _ _ _ us hl => match us, hl with | [_], _ => rfl,
   fun _ _ _ _ _ _ us hl => match us, hl with | [_], _ => rfl,
   fun _ _ _ _ _ _ us hl => match us, hl with | [_], _ => rfl,
   fun _ _ _ _ _ _ us hl => match us, hl with | [_, _], _ => rfl,
   fun _ _ _ _ _ _ us hl => match us, hl with | [_], _ => rfl,
   fun _ _ _ _ _ _ us hl => match us, hl with | [_, _], _ => rfl,
   fun _ _ _ _ _ _ us hl => match us, hl with | [_, _], _ => rfl,
   fun _ _ _ _ _ _ us hl => match us, hl with | [_, _], _ => rfl,
   fun _ _ _ _ _ _ us hl => match us, hl with | [_, _, _], _ => rfl,
   fun _ _ _ _ _ _ us hl => match us, hl with | [_, _, _], _ => rfl,
   fun _ _ _ _ _ _ us hl => match us, hl with | [_], _ => rfl,
   fun _ _ _ _ _ _ us hl => match us, hl with | [_, _], _ => rfl,
   fun _ _ _ _ _ _ us hl => match us, hl with | [], _ => rfl,
   fun _ _ _ _ _ _ us hl => match us, hl with | [], _ => rfl,
   fun _ _ _ _ _ _ us hl => match us, hl with | [], _ => rfl,
   fun _ _ _ _ _ _ us hl => match us, hl with | [], _ => rfl,
   fun _ _ _ _ _ _ us hl => match us, hl with | [], _ => rfl,
   fun _ _ _ _ _ _ us hl => match us, hl with | [], _ => rfl,
   fun _ _ _ _ _ _ us hl => match us, hl with | [], _ => rfl,
   fun _ _ _ _ _ _ us hl => match us, hl with | [_, _, _], _ => rfl,
   fun _ _ _ _ _ _ us hl => match us, hl with | [_], _ => rfl,
   fun _ _ _ _ _ _ us hl => match us, hl with | [_, _, _, _], _ => rfl,
   fun _ _ _ _ _ _ us hl => match us, hl with | [_], _ => rfl,
   fun _ _ _ _ _ _ us hl => match us, hl with | [_, _], _ => rfl,
   fun _ _ _ _ _ _ us hl => match us, hl with | [_, _], _ => rfl,
   fun _ _ _ _ _ _ us hl => match us, hl with | [_, _], _ => rfl,
   fun _ _ _ _ _ _ us hl => match us, hl with | [_], _ => rfl,
   fun _ _ _ _ _ _ us hl => match us, hl with | [_, _], _ => rfl,
   fun _ _ _ _ _ _ us hl => match us, hl with | [_], _ => rfl,
   fun _ _ _ _ _ _ us hl => match us, hl with | [_, _, _, _], _ => rfl,
   fun _ _ _ _ _ _ us hl => match us, hl with | [], _ => rfl,
   fun _ _ _ _ _ _ us hl => match us, hl with | [_], _ => rfl,
   fun _ _ _ _ _ _ us hl => match us, hl with | [], _ => rfl,
   fun _ _ _ _ _ _ us hl => match us, hl with | [_], _ => rfl, trivial⟩ (by kernel_rfl)
  ⟨fun _ _ _ _ _ _ us hl => match us, hl with | [_], _ => rfl, trivial⟩ (by kernel_rfl)
end K15
-- LAW INDEX 48; law def 34 of 35

/-! k15: terms and their turns, plain. -/
namespace K15
inductive Tm where
  | at (s : List Nat)
  | ap (f a : Tm)
  deriving DecidableEq
def Tm.ht : Tm → Nat
  | .at _ => 0
  | .ap f a => max f.ht a.ht + 1
def Tm.sz : Tm → Nat
  | .at _ => 1
  | .ap f a => f.sz + a.sz
theorem sz_pos : ∀ t : Tm, 1 ≤ t.sz
  | .at _ => Nat.le_refl 1
  | .ap f a => Nat.le_trans (sz_pos f) (Nat.le_add_right _ _)
def isAt : Tm → Bool
  | .at _ => true
  | _ => false
abbrev sI : List Nat := [73]
abbrev sK : List Nat := [75]
abbrev sS : List Nat := [83]
abbrev sB : List Nat := [66]
abbrev sC : List Nat := [67]
def holdsT (t : Tm) (nm : List Nat) : Bool := match t with
  | .at s => decide (Tm.at s = .at nm)
  | .ap f a => holdsT f nm || holdsT a nm
def subT (nm : List Nat) (u : Tm) : Tm → Tm
  | .at s => if s = nm then u else .at s
  | .ap f a => .ap (subT nm u f) (subT nm u a)
theorem sub_none (nm : List Nat) (u : Tm) : ∀ t : Tm, holdsT t nm = false → subT nm u t = t
  | .at s, h => by
    have : ¬ s = nm := by simpa [holdsT] using h
    simp [subT, this]
  | .ap f a, h => by
    have h' : holdsT f nm = false ∧ holdsT a nm = false := by simpa [holdsT] using h
    simp only [subT, sub_none nm u f h'.1, sub_none nm u a h'.2]
/-! ### the spine -/
def headOf : Tm → List Nat
  | .at s => s
  | .ap f _ => headOf f
def argsOf : Tm → List Tm
  | .at _ => []
  | .ap f a => argsOf f ++ [a]
def putT (t : Tm) (row : List Tm) : Tm := row.foldl .ap t
theorem put_snoc (t : Tm) (row : List Tm) (a : Tm) : putT t (row ++ [a]) = .ap (putT t row) a := by simp [putT]
theorem put_args : ∀ t : Tm, putT (.at (headOf t)) (argsOf t) = t
  | .at s => rfl
  | .ap f a => by
    show putT (.at (headOf f)) (argsOf f ++ [a]) = _
    rw [put_snoc, put_args f]
/-- how many a sign needs -/
def needT (s : List Nat) : Option Nat := if s = sS then some 3 else if s = sK then some 2 else if s = sI then some 1 else if s = sB then some 3 else if s = sC then some 3 else none
/-- a sign worked on as many as it needs -/
def workT (s : List Nat) (row : List Tm) : Option Tm := match row with
  | [a] => if s = sI then some a else none
  | [a, _] => if s = sK then some a else none
  | [a, b, c] => if s = sS then some (.ap (.ap a c) (.ap b c)) else if s = sB then some (.ap a (.ap b c)) else if s = sC then some (.ap (.ap a c) b) else none
  | _ => none
/-- the turn at the very front -/
def headT : Tm → Option Tm
  | .at _ => none
  | .ap f a => match headT f with
    | some g => some (.ap g a)
    | none => workT (headOf f) (argsOf f ++ [a])
def innerT : Tm → Option Tm
  | .at _ => none
  | .ap f a => match innerT f with
    | some g => some (.ap g a)
    | none => match headT a with
      | some b => some (.ap f b)
      | none => (innerT a).map (.ap f)
/-- the leftmost turn -/
def stepT (t : Tm) : Option Tm := match headT t with
  | some u => some u
  | none => innerT t
theorem inner_ap (f a : Tm) : innerT (.ap f a) = match innerT f with
    | some g => some (.ap g a)
    | none => (stepT a).map (.ap f) := by
  show (match innerT f with | some g => some (Tm.ap g a) | none => match headT a with | some b => some (Tm.ap f b) | none => (innerT a).map (Tm.ap f)) = _
  unfold stepT
  cases innerT f <;> cases headT a <;> rfl
theorem work_need {s : List Nat} {row : List Tm} {u : Tm} (h : workT s row = some u) : needT s = some row.length := by
  unfold workT at h
  split at h
  · split at h
    · next h1 => subst h1; rfl
    · cases h
  · split at h
    · next h1 => subst h1; rfl
    · cases h
  · split at h
    · next h1 => subst h1; rfl
    · split at h
      · next h1 => subst h1; rfl
      · split at h
        · next h1 => subst h1; rfl
        · cases h
  · cases h
theorem need_work {s : List Nat} {row : List Tm} (h : needT s = some row.length) : ∃ u, workT s row = some u := by
  unfold needT at h
  repeat' split at h
  all_goals first | cases h | skip
  all_goals
    have hl := Option.some.inj h
    rename_i hs
    subst hs
  · match row, hl with
    | [a, b, c], _ => exact ⟨_, rfl⟩
  · match row, hl with
    | [a, b], _ => exact ⟨_, rfl⟩
  · match row, hl with
    | [a], _ => exact ⟨_, rfl⟩
  · match row, hl with
    | [a, b, c], _ => exact ⟨_, rfl⟩
  · match row, hl with
    | [a, b, c], _ => exact ⟨_, rfl⟩
/-- by the spine -/
theorem head_spine : ∀ t : Tm, headT t = match needT (headOf t) with
    | none => none
    | some k => if k ≤ (argsOf t).length then (workT (headOf t) ((argsOf t).take k)).map (fun u => putT u ((argsOf t).drop k)) else none
  | .at s => by
    show none = (match needT s with | none => none | some k => if k ≤ 0 then (workT s ([].take k)).map (fun u => putT u (List.drop k [])) else none)
    cases h : needT s with
    | none => rfl
    | some k =>
      show none = if k ≤ 0 then _ else none
      by_cases hk : k ≤ 0
      · have : k = 0 := by omega
        subst this
        exfalso
        unfold needT at h
        repeat' split at h
        all_goals cases h
      · rw [if_neg hk]
  | .ap f a => by
    show (match headT f with | some g => some (.ap g a) | none => workT (headOf f) (argsOf f ++ [a])) = (match needT (headOf f) with | none => none | some k => if k ≤ (argsOf f ++ [a]).length then (workT (headOf f) ((argsOf f ++ [a]).take k)).map (fun u => putT u ((argsOf f ++ [a]).drop k)) else none)
    rw [head_spine f]
    cases h : needT (headOf f) with
    | none =>
      show workT (headOf f) (argsOf f ++ [a]) = none
      cases hw : workT (headOf f) (argsOf f ++ [a]) with
      | none => rfl
      | some u => rw [work_need hw] at h; cases h
    | some k =>
      show (match (if k ≤ (argsOf f).length then (workT (headOf f) ((argsOf f).take k)).map (fun u => putT u ((argsOf f).drop k)) else none) with | some g => some (.ap g a) | none => workT (headOf f) (argsOf f ++ [a])) = if k ≤ (argsOf f ++ [a]).length then (workT (headOf f) ((argsOf f ++ [a]).take k)).map (fun u => putT u ((argsOf f ++ [a]).drop k)) else none
      by_cases hk : k ≤ (argsOf f).length
      · rw [if_pos hk, if_pos (by simp; omega), List.take_append_of_le_length hk, List.drop_append_of_le_length hk]
        have : needT (headOf f) = some ((argsOf f).take k).length := by rw [h, List.length_take, Nat.min_eq_left hk]
        obtain ⟨u, hu⟩ := need_work this
        rw [hu]
        show some (Tm.ap (putT u ((argsOf f).drop k)) a) = some (putT u ((argsOf f).drop k ++ [a]))
        rw [put_snoc]
      · rw [if_neg hk]
        by_cases hk2 : k ≤ (argsOf f ++ [a]).length
        · rw [if_pos hk2]
          have hl : (argsOf f ++ [a]).length = k := by simp at hk2 ⊢; omega
          rw [← hl, List.take_length, List.drop_length]
          show workT (headOf f) (argsOf f ++ [a]) = _
          cases workT (headOf f) (argsOf f ++ [a]) <;> rfl
        · rw [if_neg hk2]
          show workT (headOf f) (argsOf f ++ [a]) = none
          cases hw : workT (headOf f) (argsOf f ++ [a]) with
          | none => rfl
          | some u =>
            rw [work_need hw] at h
            have := Option.some.inj h
            omega
/-! ### turns side by side -/
inductive Par : Tm → Tm → Prop where
  | at {s} : Par (.at s) (.at s)
  | ap {f g a b} : Par f g → Par a b → Par (.ap f a) (.ap g b)
  | I {s a a'} : s = sI → Par a a' → Par (.ap (.at s) a) a'
  | K {s a a' b} : s = sK → Par a a' → Par (.ap (.ap (.at s) a) b) a'
  | S {s a a' b b' c c'} : s = sS → Par a a' → Par b b' → Par c c' → Par (.ap (.ap (.ap (.at s) a) b) c) (.ap (.ap a' c') (.ap b' c'))
  | B {s a a' b b' c c'} : s = sB → Par a a' → Par b b' → Par c c' → Par (.ap (.ap (.ap (.at s) a) b) c) (.ap a' (.ap b' c'))
  | C {s a a' b b' c c'} : s = sC → Par a a' → Par b b' → Par c c' → Par (.ap (.ap (.ap (.at s) a) b) c) (.ap (.ap a' c') b')
theorem Par.refl : ∀ t : Tm, Par t t
  | .at _ => .at
  | .ap f a => .ap (Par.refl f) (Par.refl a)
theorem inv1 {s : List Nat} {a u : Tm} (hs : s ≠ sI) (h : Par (.ap (.at s) a) u) : ∃ a', u = .ap (.at s) a' ∧ Par a a' := by
  cases h with
  | ap h1 h2 => cases h1; exact ⟨_, rfl, h2⟩
  | I h1 h2 => exact absurd h1 hs
theorem inv2 {s : List Nat} {a b u : Tm} (hs : s ≠ sI) (hk : s ≠ sK) (h : Par (.ap (.ap (.at s) a) b) u) : ∃ a' b', u = .ap (.ap (.at s) a') b' ∧ Par a a' ∧ Par b b' := by
  cases h with
  | ap h1 h2 =>
    obtain ⟨a', e, h3⟩ := inv1 hs h1
    exact ⟨a', _, by rw [e], h3, h2⟩
  | K h1 h2 => exact absurd h1 hk
/-- all at once -/
def dev : Tm → Tm
  | .at s => .at s
  | .ap (.at s) a => if s = sI then dev a else .ap (.at s) (dev a)
  | .ap (.ap (.at s) a) b => if s = sK then dev a else .ap (dev (.ap (.at s) a)) (dev b)
  | .ap (.ap (.ap (.at s) a) b) c => if s = sS then .ap (.ap (dev a) (dev c)) (.ap (dev b) (dev c)) else if s = sB then .ap (dev a) (.ap (dev b) (dev c)) else if s = sC then .ap (.ap (dev a) (dev c)) (dev b) else .ap (dev (.ap (.ap (.at s) a) b)) (dev c)
  | .ap (.ap (.ap (.ap f a) b) c) d => .ap (dev (.ap (.ap (.ap f a) b) c)) (dev d)
theorem par_dev {t u : Tm} (h : Par t u) : Par u (dev t) := by
  induction h with
  | «at» => exact .at
  | @ap f g a b h1 h2 i1 i2 =>
    match f, h1, i1 with
    | .at s, h1, i1 =>
      cases h1
      show Par _ (if s = sI then dev a else .ap (.at s) (dev a))
      split
      · next hs => exact .I hs i2
      · exact .ap .at i2
    | .ap (.at s) a1, h1, i1 =>
      show Par _ (if s = sK then dev a1 else .ap (dev (.ap (.at s) a1)) (dev a))
      split
      · next hs =>
        obtain ⟨a', e, h3⟩ := inv1 (by rw [hs]; decide) h1
        subst e
        have i1' : Par (.ap (.at s) a') (if s = sI then dev a1 else .ap (.at s) (dev a1)) := i1
        rw [if_neg (by rw [hs]; decide)] at i1'
        obtain ⟨a'', e, h4⟩ := inv1 (by rw [hs]; decide) i1'
        cases e
        exact .K hs h4
      · exact .ap i1 i2
    | .ap (.ap (.at s) a1) a2, h1, i1 =>
      have key : s ≠ sI → s ≠ sK → ∃ a' b', g = .ap (.ap (.at s) a') b' ∧ Par a' (dev a1) ∧ Par b' (dev a2) := by
        intro hi hk
        obtain ⟨a', b', e, h3, h4⟩ := inv2 hi hk h1
        subst e
        have i1' : Par (.ap (.ap (.at s) a') b') (if s = sK then dev a1 else .ap (if s = sI then dev a1 else .ap (.at s) (dev a1)) (dev a2)) := i1
        rw [if_neg hk, if_neg hi] at i1'
        obtain ⟨a'', b'', e, h5, h6⟩ := inv2 hi hk i1'
        cases e
        exact ⟨_, _, rfl, h5, h6⟩
      show Par _ (if s = sS then .ap (.ap (dev a1) (dev a)) (.ap (dev a2) (dev a)) else if s = sB then .ap (dev a1) (.ap (dev a2) (dev a)) else if s = sC then .ap (.ap (dev a1) (dev a)) (dev a2) else .ap (dev (.ap (.ap (.at s) a1) a2)) (dev a))
      split
      · next hs =>
        obtain ⟨a', b', e, h3, h4⟩ := key (by rw [hs]; decide) (by rw [hs]; decide)
        subst e
        exact .S hs h3 h4 i2
      · split
        · next hs =>
          obtain ⟨a', b', e, h3, h4⟩ := key (by rw [hs]; decide) (by rw [hs]; decide)
          subst e
          exact .B hs h3 h4 i2
        · split
          · next hs =>
            obtain ⟨a', b', e, h3, h4⟩ := key (by rw [hs]; decide) (by rw [hs]; decide)
            subst e
            exact .C hs h3 h4 i2
          · exact .ap i1 i2
    | .ap (.ap (.ap f a1) a2) a3, h1, i1 => exact .ap i1 i2
  | @I s a a' hs h1 i1 =>
    show Par _ (if s = sI then dev a else .ap (.at s) (dev a))
    rw [if_pos hs]
    exact i1
  | @K s a a' b hs h1 i1 =>
    show Par _ (if s = sK then dev a else .ap (dev (.ap (.at s) a)) (dev b))
    rw [if_pos hs]
    exact i1
  | @S s a a' b b' c c' hs h1 h2 h3 i1 i2 i3 =>
    show Par _ (if s = sS then .ap (.ap (dev a) (dev c)) (.ap (dev b) (dev c)) else _)
    rw [if_pos hs]
    exact .ap (.ap i1 i3) (.ap i2 i3)
  | @B s a a' b b' c c' hs h1 h2 h3 i1 i2 i3 =>
    show Par _ (if s = sS then _ else if s = sB then .ap (dev a) (.ap (dev b) (dev c)) else _)
    rw [if_neg (by rw [hs]; decide), if_pos hs]
    exact .ap i1 (.ap i2 i3)
  | @C s a a' b b' c c' hs h1 h2 h3 i1 i2 i3 =>
    show Par _ (if s = sS then _ else if s = sB then _ else if s = sC then .ap (.ap (dev a) (dev c)) (dev b) else _)
    rw [if_neg (by rw [hs]; decide), if_neg (by rw [hs]; decide), if_pos hs]
    exact .ap (.ap i1 i3) i2
/-- turns in a row -/
inductive Rds : Tm → Tm → Prop where
  | refl {t} : Rds t t
  | step {t u v} : Par t u → Rds u v → Rds t v
theorem Rds.trans {t u v : Tm} (h : Rds t u) (k : Rds u v) : Rds t v := by
  induction h with
  | refl => exact k
  | step h1 _ i => exact .step h1 (i k)
theorem Rds.ap {f g a b : Tm} (h : Rds f g) (k : Rds a b) : Rds (.ap f a) (.ap g b) := by
  induction h with
  | refl =>
    induction k with
    | refl => exact .refl
    | step h1 _ i => exact .step (.ap (Par.refl _) h1) i
  | step h1 _ i => exact .step (.ap h1 (Par.refl _)) i
theorem strip {t u v : Tm} (h : Rds t v) (k : Par t u) : ∃ w, Rds u w ∧ Par v w := by
  induction h generalizing u with
  | refl => exact ⟨u, .refl, k⟩
  | @step t x v h1 _ i =>
    obtain ⟨w, h2, h3⟩ := i (par_dev h1)
    exact ⟨w, .step (par_dev k) h2, h3⟩
theorem confl {t u v : Tm} (h : Rds t v) (k : Rds t u) : ∃ w, Rds u w ∧ Rds v w := by
  induction k generalizing v with
  | refl => exact ⟨v, h, .refl⟩
  | @step t x u h1 _ i =>
    obtain ⟨w, h2, h3⟩ := strip h h1
    obtain ⟨w2, h4, h5⟩ := i h2
    exact ⟨w2, h4, .step h3 h5⟩
/-! ### what stands -/
theorem head_par : ∀ {t u : Tm}, headT t = some u → Par t u
  | .at _, u, h => by cases h
  | .ap f a, u, h => by
    have h' : (match headT f with | some g => some (Tm.ap g a) | none => workT (headOf f) (argsOf f ++ [a])) = some u := h
    cases hf : headT f with
    | some g =>
      rw [hf] at h'
      cases h'
      exact .ap (head_par hf) (Par.refl a)
    | none =>
      rw [hf] at h'
      have h2 : workT (headOf f) (argsOf f ++ [a]) = some u := h'
      match f, h2 with
      | .at s, h2 =>
        have h3 : (if s = sI then some a else none) = some u := h2
        split at h3
        · next hs => cases h3; exact .I hs (Par.refl _)
        · cases h3
      | .ap (.at s) a1, h2 =>
        have h3 : (if s = sK then some a1 else none) = some u := h2
        split at h3
        · next hs => cases h3; exact .K hs (Par.refl _)
        · cases h3
      | .ap (.ap (.at s) a1) a2, h2 =>
        have h3 : (if s = sS then some (Tm.ap (.ap a1 a) (.ap a2 a)) else if s = sB then some (Tm.ap a1 (.ap a2 a)) else if s = sC then some (Tm.ap (.ap a1 a) a2) else none) = some u := h2
        split at h3
        · next hs => cases h3; exact .S hs (Par.refl _) (Par.refl _) (Par.refl _)
        · split at h3
          · next hs => cases h3; exact .B hs (Par.refl _) (Par.refl _) (Par.refl _)
          · split at h3
            · next hs => cases h3; exact .C hs (Par.refl _) (Par.refl _) (Par.refl _)
            · cases h3
      | .ap (.ap (.ap f1 a1) a2) a3, h2 =>
        exfalso
        have h3 := work_need h2
        have h4 : (argsOf (Tm.ap (.ap (.ap f1 a1) a2) a3) ++ [a]).length = (argsOf f1).length + 4 := by simp [argsOf]
        rw [h4] at h3
        unfold needT at h3
        repeat' split at h3
        all_goals first | cases h3 | (have := Option.some.inj h3; omega)
theorem inner_par : ∀ {t u : Tm}, innerT t = some u → Par t u
  | .at _, u, h => by cases h
  | .ap f a, u, h => by
    have h' : (match innerT f with | some g => some (Tm.ap g a) | none => match headT a with | some b => some (Tm.ap f b) | none => (innerT a).map (Tm.ap f)) = some u := h
    cases hf : innerT f with
    | some g =>
      rw [hf] at h'
      cases h'
      exact .ap (inner_par hf) (Par.refl a)
    | none =>
      rw [hf] at h'
      have h2 : (match headT a with | some b => some (Tm.ap f b) | none => (innerT a).map (Tm.ap f)) = some u := h'
      cases ha : headT a with
      | some b =>
        rw [ha] at h2
        cases h2
        exact .ap (Par.refl f) (head_par ha)
      | none =>
        rw [ha] at h2
        have h3 : (innerT a).map (Tm.ap f) = some u := h2
        cases hi : innerT a with
        | none => rw [hi] at h3; cases h3
        | some b =>
          rw [hi] at h3
          cases h3
          exact .ap (Par.refl f) (inner_par hi)
theorem step_par {t u : Tm} (h : stepT t = some u) : Par t u := by
  unfold stepT at h
  split at h
  · next h1 => cases h; exact head_par h1
  · exact inner_par h
/-- the parts of what stands stand -/
theorem stand_ap {f a : Tm} (h : stepT (.ap f a) = none) : headT (.ap f a) = none ∧ stepT f = none ∧ stepT a = none := by
  unfold stepT at h
  split at h
  · cases h
  · next h1 =>
    have hf : headT f = none := by
      cases hf : headT f with
      | none => rfl
      | some g =>
        exfalso
        have h1' : (match headT f with | some g => some (Tm.ap g a) | none => workT (headOf f) (argsOf f ++ [a])) = none := h1
        rw [hf] at h1'
        cases h1'
    rw [inner_ap] at h
    refine ⟨h1, ?_, ?_⟩
    · unfold stepT
      rw [hf]
      show innerT f = none
      cases hi : innerT f with
      | none => rfl
      | some g => rw [hi] at h; cases h
    · cases hi : innerT f with
      | some g => rw [hi] at h; cases h
      | none =>
        rw [hi] at h
        have h2 : (stepT a).map (Tm.ap f) = none := h
        cases hs : stepT a with
        | none => rfl
        | some b => rw [hs] at h2; cases h2
theorem stand_par {t u : Tm} (k : Par t u) : stepT t = none → u = t := by
  induction k with
  | «at» => intro _; rfl
  | ap h1 h2 i1 i2 =>
    intro h
    obtain ⟨_, h3, h4⟩ := stand_ap h
    rw [i1 h3, i2 h4]
  | I hs h1 i1 => intro h; subst hs; cases (stand_ap h).1
  | K hs h1 i1 => intro h; subst hs; cases (stand_ap h).1
  | S hs h1 h2 h3 i1 i2 i3 => intro h; subst hs; cases (stand_ap h).1
  | B hs h1 h2 h3 i1 i2 i3 => intro h; subst hs; cases (stand_ap h).1
  | C hs h1 h2 h3 i1 i2 i3 => intro h; subst hs; cases (stand_ap h).1
theorem stand_rds {t u : Tm} (k : Rds t u) (h : stepT t = none) : u = t := by
  induction k with
  | refl => rfl
  | @step t x u h1 _ i =>
    have := stand_par h1 h
    subst this
    exact i h
/-- what goes to what stands goes there from everywhere -/
theorem to_stand {t u v : Tm} (h : Rds t v) (hv : stepT v = none) (k : Rds t u) : Rds u v := by
  obtain ⟨w, h1, h2⟩ := confl h k
  rw [stand_rds h2 hv] at h1
  exact h1
theorem one_stand {t u v : Tm} (h : Rds t v) (hv : stepT v = none) (k : Rds t u) (hu : stepT u = none) : v = u :=
  stand_rds (to_stand h hv k) hu
/-! ### how deep the stepping looks -/
def Fits : Nat → Tm → Prop
  | 0, _ => False
  | n + 1, t => headT t = none → ∀ a ∈ argsOf t, Fits n a
theorem args_ht : ∀ (t : Tm) (a : Tm), a ∈ argsOf t → a.ht < t.ht
  | .at _, a, h => by cases h
  | .ap f b, a, h => by
    have h' : a ∈ argsOf f ++ [b] := h
    show a.ht < max f.ht b.ht + 1
    rw [List.mem_append, List.mem_singleton] at h'
    cases h' with
    | inl h1 => have := args_ht f a h1; omega
    | inr h1 => subst h1; omega
theorem fits_ht : ∀ (n : Nat) (t : Tm), t.ht < n → Fits n t
  | n + 1, t, h => fun _ a ha => fits_ht n a (by have := args_ht t a ha; omega)
/-- a stuck head stays; its parts go on by themselves -/
theorem stuck_par {t u : Tm} (k : Par t u) : headT t = none → headT u = none ∧ headOf u = headOf t ∧ (argsOf u).length = (argsOf t).length ∧ ∀ (i : Nat) (a : Tm), (argsOf t)[i]? = some a → ∃ b, (argsOf u)[i]? = some b ∧ Par a b := by
  induction k with
  | @«at» s => intro _; exact ⟨rfl, rfl, rfl, fun i a h => by cases h⟩
  | @ap f g a b h1 h2 i1 i2 =>
    intro h
    have hf : headT f = none := by
      cases hf : headT f with
      | none => rfl
      | some g =>
        exfalso
        have h1' : (match headT f with | some g => some (Tm.ap g a) | none => workT (headOf f) (argsOf f ++ [a])) = none := h
        rw [hf] at h1'
        cases h1'
    have h0 : workT (headOf f) (argsOf f ++ [a]) = none := by
      have h1' : (match headT f with | some g => some (Tm.ap g a) | none => workT (headOf f) (argsOf f ++ [a])) = none := h
      rw [hf] at h1'
      exact h1'
    obtain ⟨k1, k2, k3, k4⟩ := i1 hf
    refine ⟨?_, k2, ?_, ?_⟩
    · show (match headT g with | some g => some (Tm.ap g b) | none => workT (headOf g) (argsOf g ++ [b])) = none
      rw [k1]
      show workT (headOf g) (argsOf g ++ [b]) = none
      cases hw : workT (headOf g) (argsOf g ++ [b]) with
      | none => rfl
      | some u =>
        exfalso
        have h3 := work_need hw
        have : needT (headOf f) = some (argsOf f ++ [a]).length := by
          rw [← k2, h3]
          simp [k3]
        obtain ⟨u, hu⟩ := need_work this
        rw [hu] at h0
        cases h0
    · show (argsOf g ++ [b]).length = (argsOf f ++ [a]).length
      simp [k3]
    · intro i x hx
      have hx' : (argsOf f ++ [a])[i]? = some x := hx
      show ∃ y, (argsOf g ++ [b])[i]? = some y ∧ Par x y
      by_cases hi : i < (argsOf f).length
      · rw [List.getElem?_append_left hi] at hx'
        obtain ⟨y, hy, hp⟩ := k4 i x hx'
        exact ⟨y, by rw [List.getElem?_append_left (by omega)]; exact hy, hp⟩
      · rw [List.getElem?_append_right (by omega)] at hx'
        have : i - (argsOf f).length = 0 := by
          cases hj : i - (argsOf f).length with
          | zero => rfl
          | succ j => rw [hj] at hx'; simp at hx'
        rw [this] at hx'
        cases hx'
        refine ⟨b, ?_, h2⟩
        rw [List.getElem?_append_right (by omega), k3, this]
        rfl
  | I hs h1 i1 => intro h; subst hs; cases h
  | K hs h1 i1 => intro h; subst hs; cases h
  | S hs h1 h2 h3 i1 i2 i3 => intro h; subst hs; cases h
  | B hs h1 h2 h3 i1 i2 i3 => intro h; subst hs; cases h
  | C hs h1 h2 h3 i1 i2 i3 => intro h; subst hs; cases h
theorem stuck_rds {t u : Tm} (k : Rds t u) : headT t = none → ∀ (i : Nat) (a : Tm), (argsOf t)[i]? = some a → ∃ b, (argsOf u)[i]? = some b ∧ Rds a b := by
  induction k with
  | refl => intro _ i a h; exact ⟨a, h, .refl⟩
  | step h1 _ i1 =>
    intro h i a ha
    obtain ⟨k1, _, _, k4⟩ := stuck_par h1 h
    obtain ⟨b, hb, hp⟩ := k4 i a ha
    obtain ⟨c, hc, hr⟩ := i1 k1 i b hb
    exact ⟨c, hc, .step hp hr⟩
theorem args_stand : ∀ (t : Tm) (a : Tm), stepT t = none → a ∈ argsOf t → stepT a = none
  | .at _, a, _, h => by cases h
  | .ap f b, a, h0, h => by
    have h' : a ∈ argsOf f ++ [b] := h
    obtain ⟨_, h1, h2⟩ := stand_ap h0
    rw [List.mem_append, List.mem_singleton] at h'
    cases h' with
    | inl h3 => exact args_stand f a h1 h3
    | inr h3 => subst h3; exact h2
theorem fits_stand : ∀ (n : Nat) (t v : Tm), Rds t v → stepT v = none → v.ht < n → Fits n t
  | n + 1, t, v, h, hv, hn => fun h0 a ha => by
    obtain ⟨i, hi⟩ := List.getElem?_of_mem ha
    obtain ⟨b, hb, hr⟩ := stuck_rds h h0 i a hi
    have hm := List.mem_of_getElem? hb
    exact fits_stand n a b hr (args_stand v b hv hm) (by have := args_ht v b hm; omega)
end K15

/-! k15: names taken out, told by two signs; turns counted. -/
namespace K15
abbrev tS : Tm := .at sS
abbrev tK : Tm := .at sK
abbrev tI : Tm := .at sI
abbrev tB : Tm := .at sB
abbrev tC : Tm := .at sC
theorem rI (a : Tm) : Rds (.ap tI a) a := .step (.I rfl (Par.refl _)) .refl
theorem rK (a b : Tm) : Rds (.ap (.ap tK a) b) a := .step (.K rfl (Par.refl _)) .refl
theorem rS (a b c : Tm) : Rds (.ap (.ap (.ap tS a) b) c) (.ap (.ap a c) (.ap b c)) := .step (.S rfl (Par.refl _) (Par.refl _) (Par.refl _)) .refl
theorem rB (a b c : Tm) : Rds (.ap (.ap (.ap tB a) b) c) (.ap a (.ap b c)) := .step (.B rfl (Par.refl _) (Par.refl _) (Par.refl _)) .refl
theorem rC (a b c : Tm) : Rds (.ap (.ap (.ap tC a) b) c) (.ap (.ap a c) b) := .step (.C rfl (Par.refl _) (Par.refl _) (Par.refl _)) .refl
def takeT (more : Bool) (x : List Nat) : Tm → Tm
  | .at s => if s = x then tI else .ap tK (.at s)
  | .ap f a => if holdsT (.ap f a) x = false then .ap tK (.ap f a) else if more = true ∧ a = .at x ∧ holdsT f x = false then f else if more = true ∧ holdsT f x = false then .ap (.ap tB f) (takeT more x a) else if more = true ∧ holdsT a x = false then .ap (.ap tC (takeT more x f)) a else .ap (.ap tS (takeT more x f)) (takeT more x a)
theorem take_rds (more : Bool) (x : List Nat) (z : Tm) : ∀ t : Tm, Rds (.ap (takeT more x t) z) (subT x z t)
  | .at s => by
    show Rds (.ap (if s = x then tI else .ap tK (.at s)) z) (if s = x then z else .at s)
    split
    · exact rI z
    · exact rK _ z
  | .ap f a => by
    have i1 := take_rds more x z f
    have i2 := take_rds more x z a
    unfold takeT
    split
    · next h =>
      rw [sub_none x z _ h]
      exact rK _ z
    · split
      · next h =>
        obtain ⟨_, h2, h3⟩ := h
        subst h2
        show Rds _ (.ap (subT x z f) (if x = x then z else _))
        rw [if_pos rfl, sub_none x z f h3]
        exact .refl
      · split
        · next h =>
          show Rds _ (.ap (subT x z f) (subT x z a))
          rw [sub_none x z f h.2]
          exact (rB _ _ _).trans (.ap .refl i2)
        · split
          · next h =>
            show Rds _ (.ap (subT x z f) (subT x z a))
            rw [sub_none x z a h.2]
            exact (rC _ _ _).trans (.ap i1 .refl)
          · exact (rS _ _ _).trans (.ap i1 i2)
def over (p : List Nat → Bool) : Tm → Bool
  | .at s => p s
  | .ap f a => over p f && over p a
theorem take_not (more : Bool) (x : List Nat) (hx : x ≠ sI ∧ x ≠ sK ∧ x ≠ sS ∧ x ≠ sB ∧ x ≠ sC) : ∀ t : Tm, holdsT (takeT more x t) x = false
  | .at s => by
    show holdsT (if s = x then tI else .ap tK (.at s)) x = false
    split
    · show decide (Tm.at sI = .at x) = false
      simp [Ne.symm hx.1]
    · next h =>
      show (decide (Tm.at sK = .at x) || decide (Tm.at s = .at x)) = false
      simp [Ne.symm hx.2.1, h]
  | .ap f a => by
    have i1 := take_not more x hx f
    have i2 := take_not more x hx a
    have kK : holdsT tK x = false := by show decide (Tm.at sK = .at x) = false; simp [Ne.symm hx.2.1]
    have kS : holdsT tS x = false := by show decide (Tm.at sS = .at x) = false; simp [Ne.symm hx.2.2.1]
    have kB : holdsT tB x = false := by show decide (Tm.at sB = .at x) = false; simp [Ne.symm hx.2.2.2.1]
    have kC : holdsT tC x = false := by show decide (Tm.at sC = .at x) = false; simp [Ne.symm hx.2.2.2.2]
    have hap : ∀ u v : Tm, holdsT u x = false → holdsT v x = false → holdsT (.ap u v) x = false := by
      intro u v h1 h2
      show (holdsT u x || holdsT v x) = false
      rw [h1, h2]; rfl
    unfold takeT
    split
    · next h => exact hap _ _ kK h
    · split
      · next h => exact h.2.2
      · split
        · next h => exact hap _ _ (hap _ _ kB h.2) i2
        · split
          · next h => exact hap _ _ (hap _ _ kC i1) h.2
          · exact hap _ _ (hap _ _ kS i1) i2
theorem take_ht (more : Bool) (x : List Nat) : ∀ t : Tm, (takeT more x t).ht ≤ 2 * t.ht + 1
  | .at s => by
    show (if s = x then tI else .ap tK (.at s)).ht ≤ 1
    split
    · exact Nat.zero_le _
    · exact Nat.le_refl _
  | .ap f a => by
    have i1 := take_ht more x f
    have i2 := take_ht more x a
    have e : (Tm.ap f a).ht = max f.ht a.ht + 1 := rfl
    unfold takeT
    split
    · show max 0 (Tm.ap f a).ht + 1 ≤ _
      omega
    · split
      · omega
      · split
        · show max (max 0 f.ht + 1) (takeT more x a).ht + 1 ≤ _
          omega
        · split
          · show max (max 0 (takeT more x f).ht + 1) a.ht + 1 ≤ _
            omega
          · show max (max 0 (takeT more x f).ht + 1) (takeT more x a).ht + 1 ≤ _
            omega
theorem take_sz (more : Bool) (x : List Nat) : ∀ t : Tm, (takeT more x t).sz + 1 ≤ 3 * t.sz
  | .at s => by
    show (if s = x then tI else .ap tK (.at s)).sz + 1 ≤ 3
    split
    · decide
    · exact Nat.le_refl _
  | .ap f a => by
    have i1 := take_sz more x f
    have i2 := take_sz more x a
    have p1 := sz_pos f
    have p2 := sz_pos a
    have e : (Tm.ap f a).sz = f.sz + a.sz := rfl
    unfold takeT
    split
    · show 1 + (Tm.ap f a).sz + 1 ≤ _
      omega
    · split
      · omega
      · split
        · show 1 + f.sz + (takeT more x a).sz + 1 ≤ _
          omega
        · split
          · show 1 + (takeT more x f).sz + a.sz + 1 ≤ _
            omega
          · show 1 + (takeT more x f).sz + (takeT more x a).sz + 1 ≤ _
            omega
/-! ### by two -/
abbrev iT : Tm := .ap (.ap tS tK) tK
abbrev bT : Tm := .ap (.ap tS (.ap tK tS)) tK
abbrev cT : Tm := .ap (.ap tS (.ap (.ap tS (.ap tK (.ap (.ap tS (.ap tK tS)) tK))) tS)) (.ap tK tK)
def twoA (s : List Nat) : Tm := if s = sI then iT else if s = sB then bT else if s = sC then cT else .at s
def twoT : Tm → Tm
  | .at s => twoA s
  | .ap f a => .ap (twoT f) (twoT a)
theorem r2I (a : Tm) : Rds (.ap iT a) a := (rS _ _ _).trans (rK _ _)
theorem r2B (a b c : Tm) : Rds (.ap (.ap (.ap bT a) b) c) (.ap a (.ap b c)) :=
  (Rds.ap (.ap (rS _ _ _) .refl) .refl).trans ((Rds.ap (.ap (.ap (rK _ _) .refl) .refl) .refl).trans ((rS _ _ _).trans (.ap (rK _ _) .refl)))
theorem r2C (a b c : Tm) : Rds (.ap (.ap (.ap cT a) b) c) (.ap (.ap a c) b) := by
  -- S (S (K B) S) (K K) a b c
  refine (Rds.ap (.ap (rS _ _ _) .refl) .refl).trans ?_
  -- (S (K B) S a) (K K a) b c
  refine (Rds.ap (.ap (.ap (rS _ _ _) (rK _ _)) .refl) .refl).trans ?_
  -- (K B a (S a)) K b c
  refine (Rds.ap (.ap (.ap (.ap (rK _ _) .refl) .refl) .refl) .refl).trans ?_
  -- B (S a) K b c
  refine (Rds.ap (r2B _ _ _) .refl).trans ?_
  -- S a (K b) c
  exact (rS _ _ _).trans (.ap .refl (rK _ _))
theorem two_flat : ∀ t : Tm, over (fun s => s != sI && (s != sB && s != sC)) t = true → twoT t = t
  | .at s, h => by
    have h' : (s != sI && (s != sB && s != sC)) = true := h
    simp only [Bool.and_eq_true, bne_iff_ne] at h'
    show twoA s = _
    unfold twoA
    rw [if_neg h'.1, if_neg h'.2.1, if_neg h'.2.2]
  | .ap f a, h => by
    have h' : (over (fun s => s != sI && (s != sB && s != sC)) f && over (fun s => s != sI && (s != sB && s != sC)) a) = true := h
    rw [Bool.and_eq_true] at h'
    show Tm.ap (twoT f) (twoT a) = _
    rw [two_flat f h'.1, two_flat a h'.2]
theorem two_take (more : Bool) (x : List Nat) (z : Tm) : ∀ t : Tm, over (fun s => s != sI && (s != sB && s != sC)) t = true → Rds (.ap (twoT (takeT more x t)) z) (subT x z t)
  | .at s, h => by
    show Rds (.ap (twoT (if s = x then tI else .ap tK (.at s))) z) (if s = x then z else .at s)
    split
    · exact r2I z
    · show Rds (.ap (.ap (twoA sK) (twoT (.at s))) z) _
      rw [two_flat _ h]
      exact rK _ z
  | .ap f a, h => by
    have h' : (over (fun s => s != sI && (s != sB && s != sC)) f && over (fun s => s != sI && (s != sB && s != sC)) a) = true := h
    rw [Bool.and_eq_true] at h'
    have i1 := two_take more x z f h'.1
    have i2 := two_take more x z a h'.2
    unfold takeT
    split
    · next h0 =>
      rw [sub_none x z _ h0]
      show Rds (.ap (.ap (twoA sK) (twoT (.ap f a))) z) _
      rw [two_flat _ h]
      exact rK _ z
    · split
      · next h0 =>
        obtain ⟨_, h2, h3⟩ := h0
        subst h2
        show Rds _ (.ap (subT x z f) (if x = x then z else _))
        rw [if_pos rfl, sub_none x z f h3, two_flat f h'.1]
        exact .refl
      · split
        · next h0 =>
          show Rds (.ap (.ap (.ap (twoA sB) (twoT f)) _) z) (.ap (subT x z f) (subT x z a))
          rw [sub_none x z f h0.2, two_flat f h'.1]
          exact (r2B _ _ _).trans (.ap .refl i2)
        · split
          · next h0 =>
            show Rds (.ap (.ap (.ap (twoA sC) _) (twoT a)) z) (.ap (subT x z f) (subT x z a))
            rw [sub_none x z a h0.2, two_flat a h'.2]
            exact (r2C _ _ _).trans (.ap i1 .refl)
          · exact (rS _ _ _).trans (.ap i1 i2)
/-! ### flat terms stand -/
theorem over_mono {p q : List Nat → Bool} (hpq : ∀ s, p s = true → q s = true) : ∀ t : Tm, over p t = true → over q t = true
  | .at s, h => hpq s h
  | .ap f a, h => by
    have h' : (over p f && over p a) = true := h
    rw [Bool.and_eq_true] at h'
    show (over q f && over q a) = true
    rw [over_mono hpq f h'.1, over_mono hpq a h'.2]; rfl
theorem over_head {p : List Nat → Bool} : ∀ t : Tm, over p t = true → p (headOf t) = true
  | .at s, h => h
  | .ap f a, h => by
    have h' : (over p f && over p a) = true := h
    rw [Bool.and_eq_true] at h'
    exact over_head f h'.1
theorem flat_stand : ∀ t : Tm, over (fun s => (needT s).isNone) t = true → stepT t = none ∧ innerT t = none ∧ headT t = none
  | .at s, h => ⟨rfl, rfl, rfl⟩
  | .ap f a, h => by
    have h0 := over_head _ h
    have h' : (over (fun s => (needT s).isNone) f && over (fun s => (needT s).isNone) a) = true := h
    rw [Bool.and_eq_true] at h'
    have i1 := flat_stand f h'.1
    have i2 := flat_stand a h'.2
    have k1 : headT (.ap f a) = none := by
      rw [head_spine]
      have : needT (headOf (Tm.ap f a)) = none := by simpa using h0
      rw [this]
    have k2 : innerT (.ap f a) = none := by
      rw [inner_ap, i1.2.1, i2.1]; rfl
    refine ⟨?_, k2, k1⟩
    unfold stepT
    rw [k1]
    exact k2
theorem over_sub {p q : List Nat → Bool} (x : List Nat) (z : Tm) (hz : over q z = true) (hpq : ∀ s, p s = true → s ≠ x → q s = true) : ∀ t : Tm, over p t = true → over q (subT x z t) = true
  | .at s, h => by
    show over q (if s = x then z else .at s) = true
    split
    · exact hz
    · next hs => exact hpq s h hs
  | .ap f a, h => by
    have h' : (over p f && over p a) = true := h
    rw [Bool.and_eq_true] at h'
    show (over q (subT x z f) && over q (subT x z a)) = true
    rw [over_sub x z hz hpq f h'.1, over_sub x z hz hpq a h'.2]; rfl
theorem sub_ht_at (x s : List Nat) : ∀ t : Tm, (subT x (.at s) t).ht = t.ht
  | .at r => by
    show (if r = x then Tm.at s else .at r).ht = 0
    split <;> rfl
  | .ap f a => by
    show max (subT x (.at s) f).ht (subT x (.at s) a).ht + 1 = max f.ht a.ht + 1
    rw [sub_ht_at x s f, sub_ht_at x s a]
theorem sub_sz_at (x s : List Nat) : ∀ t : Tm, (subT x (.at s) t).sz = t.sz
  | .at r => by
    show (if r = x then Tm.at s else .at r).sz = 1
    split <;> rfl
  | .ap f a => by
    show (subT x (.at s) f).sz + (subT x (.at s) a).sz = f.sz + a.sz
    rw [sub_sz_at x s f, sub_sz_at x s a]
theorem sub_same (x s : List Nat) (hs : s ≠ x) : ∀ t : Tm, (subT x (.at s) t = t) ↔ holdsT t x = false
  | .at r => by
    show ((if r = x then Tm.at s else .at r) = .at r) ↔ decide (Tm.at r = .at x) = false
    split
    · next h => subst h; simp [hs]
    · next h => simp [h]
  | .ap f a => by
    have i1 := sub_same x s hs f
    have i2 := sub_same x s hs a
    show Tm.ap (subT x (.at s) f) (subT x (.at s) a) = .ap f a ↔ (holdsT f x || holdsT a x) = false
    rw [Tm.ap.injEq, i1, i2, Bool.or_eq_false_iff]
/-! ### bounds of a turn -/
theorem work_ht {s : List Nat} {f a u : Tm} (h : workT (headOf f) (argsOf f ++ [a]) = some u) : u.ht ≤ (Tm.ap f a).ht + 1 ∧ u.sz ≤ 2 * (Tm.ap f a).sz := by
  match f, h with
  | .at s, h2 =>
    have h3 : (if s = sI then some a else none) = some u := h2
    split at h3
    · cases h3
      have e1 : (Tm.ap (.at s) a).ht = max 0 a.ht + 1 := rfl
      have e2 : (Tm.ap (.at s) a).sz = 1 + a.sz := rfl
      omega
    · cases h3
  | .ap (.at s) a1, h2 =>
    have h3 : (if s = sK then some a1 else none) = some u := h2
    have e1 : (Tm.ap (.ap (.at s) a1) a).ht = max (max 0 a1.ht + 1) a.ht + 1 := rfl
    have e2 : (Tm.ap (.ap (.at s) a1) a).sz = 1 + a1.sz + a.sz := rfl
    split at h3
    · cases h3
      omega
    · cases h3
  | .ap (.ap (.at s) a1) a2, h2 =>
    have h3 : (if s = sS then some (Tm.ap (.ap a1 a) (.ap a2 a)) else if s = sB then some (Tm.ap a1 (.ap a2 a)) else if s = sC then some (Tm.ap (.ap a1 a) a2) else none) = some u := h2
    have e1 : (Tm.ap (.ap (.ap (.at s) a1) a2) a).ht = max (max (max 0 a1.ht + 1) a2.ht + 1) a.ht + 1 := rfl
    have e2 : (Tm.ap (.ap (.ap (.at s) a1) a2) a).sz = 1 + a1.sz + a2.sz + a.sz := rfl
    split at h3
    · cases h3
      have e3 : (Tm.ap (.ap a1 a) (.ap a2 a)).ht = max (max a1.ht a.ht + 1) (max a2.ht a.ht + 1) + 1 := rfl
      have e4 : (Tm.ap (.ap a1 a) (.ap a2 a)).sz = a1.sz + a.sz + (a2.sz + a.sz) := rfl
      omega
    · split at h3
      · cases h3
        have e3 : (Tm.ap a1 (.ap a2 a)).ht = max a1.ht (max a2.ht a.ht + 1) + 1 := rfl
        have e4 : (Tm.ap a1 (.ap a2 a)).sz = a1.sz + (a2.sz + a.sz) := rfl
        omega
      · split at h3
        · cases h3
          have e3 : (Tm.ap (.ap a1 a) a2).ht = max (max a1.ht a.ht + 1) a2.ht + 1 := rfl
          have e4 : (Tm.ap (.ap a1 a) a2).sz = a1.sz + a.sz + a2.sz := rfl
          omega
        · cases h3
  | .ap (.ap (.ap f1 a1) a2) a3, h2 =>
    exfalso
    have h3 := work_need h2
    have h4 : (argsOf (Tm.ap (.ap (.ap f1 a1) a2) a3) ++ [a]).length = (argsOf f1).length + 4 := by simp [argsOf]
    rw [h4] at h3
    unfold needT at h3
    repeat' split at h3
    all_goals first | cases h3 | (have := Option.some.inj h3; omega)
theorem head_bd : ∀ {t u : Tm}, headT t = some u → u.ht ≤ t.ht + 1 ∧ u.sz ≤ 2 * t.sz
  | .at _, u, h => by cases h
  | .ap f a, u, h => by
    have h' : (match headT f with | some g => some (Tm.ap g a) | none => workT (headOf f) (argsOf f ++ [a])) = some u := h
    cases hf : headT f with
    | some g =>
      rw [hf] at h'
      cases h'
      have i := head_bd hf
      have e1 : (Tm.ap g a).ht = max g.ht a.ht + 1 := rfl
      have e2 : (Tm.ap f a).ht = max f.ht a.ht + 1 := rfl
      have e3 : (Tm.ap g a).sz = g.sz + a.sz := rfl
      have e4 : (Tm.ap f a).sz = f.sz + a.sz := rfl
      omega
    | none =>
      rw [hf] at h'
      exact work_ht (s := []) h'
theorem inner_bd : ∀ {t u : Tm}, innerT t = some u → u.ht ≤ t.ht + 1 ∧ u.sz ≤ 2 * t.sz
  | .at _, u, h => by cases h
  | .ap f a, u, h => by
    have h' : (match innerT f with | some g => some (Tm.ap g a) | none => match headT a with | some b => some (Tm.ap f b) | none => (innerT a).map (Tm.ap f)) = some u := h
    have key : ∀ g b : Tm, g.ht ≤ f.ht + 1 ∧ g.sz ≤ 2 * f.sz → b.ht ≤ a.ht + 1 ∧ b.sz ≤ 2 * a.sz → (Tm.ap g b).ht ≤ (Tm.ap f a).ht + 1 ∧ (Tm.ap g b).sz ≤ 2 * (Tm.ap f a).sz := by
      intro g b h1 h2
      have e1 : (Tm.ap g b).ht = max g.ht b.ht + 1 := rfl
      have e2 : (Tm.ap f a).ht = max f.ht a.ht + 1 := rfl
      have e3 : (Tm.ap g b).sz = g.sz + b.sz := rfl
      have e4 : (Tm.ap f a).sz = f.sz + a.sz := rfl
      omega
    cases hf : innerT f with
    | some g =>
      rw [hf] at h'
      cases h'
      exact key _ _ (inner_bd hf) (by omega)
    | none =>
      rw [hf] at h'
      have h2 : (match headT a with | some b => some (Tm.ap f b) | none => (innerT a).map (Tm.ap f)) = some u := h'
      cases ha : headT a with
      | some b =>
        rw [ha] at h2
        cases h2
        exact key _ _ (by omega) (head_bd ha)
      | none =>
        rw [ha] at h2
        have h3 : (innerT a).map (Tm.ap f) = some u := h2
        cases hi : innerT a with
        | none => rw [hi] at h3; cases h3
        | some b =>
          rw [hi] at h3
          cases h3
          exact key _ _ (by omega) (inner_bd hi)
theorem step_bd {t u : Tm} (h : stepT t = some u) : u.ht ≤ t.ht + 1 ∧ u.sz ≤ 2 * t.sz := by
  unfold stepT at h
  split at h
  · next h1 => cases h; exact head_bd h1
  · exact inner_bd h
theorem args_len : ∀ t : Tm, (argsOf t).length < t.sz
  | .at _ => Nat.lt_succ_self 0
  | .ap f a => by
    have := args_len f
    have := sz_pos a
    show (argsOf f ++ [a]).length < f.sz + a.sz
    rw [List.length_append]
    show (argsOf f).length + 1 < _
    omega
/-! ### turns counted; none: too long -/
def goT (most : Nat) : Nat → Nat → Tm → Option (Tm × Nat)
  | 0, _, _ => none
  | m + 1, k, t => match stepT t with
    | none => some (t, k)
    | some u => if most < k + 1 ∨ 400 < u.sz then none else goT most m (k + 1) u
theorem go_end {most : Nat} : ∀ {m k : Nat} {t v : Tm} {j : Nat}, goT most m k t = some (v, j) → Rds t v ∧ stepT v = none ∧ k ≤ j ∧ v.ht + k ≤ t.ht + j ∧ (k ≤ most → j ≤ most)
  | 0, k, t, v, j, h => by cases h
  | m + 1, k, t, v, j, h => by
    have h' : (match stepT t with | none => some (t, k) | some u => if most < k + 1 ∨ 400 < u.sz then none else goT most m (k + 1) u) = some (v, j) := h
    cases hs : stepT t with
    | none =>
      rw [hs] at h'
      cases h'
      exact ⟨.refl, hs, Nat.le_refl _, Nat.le_refl _, id⟩
    | some u =>
      rw [hs] at h'
      have h2 : (if most < k + 1 ∨ 400 < u.sz then none else goT most m (k + 1) u) = some (v, j) := h'
      split at h2
      · cases h2
      · next hc =>
        obtain ⟨h3, h4, h5, h6, h7⟩ := go_end h2
        have := step_bd hs
        exact ⟨.step (step_par hs) h3, h4, by omega, by omega, fun _ => h7 (by omega)⟩
end K15

/-! k15: what the functions compute, on terms. -/
namespace K15
open Ev
def Tm.enc : Tm → D
  | .at s => .str s
  | .ap f a => .tup [f.enc, a.enc]
theorem enc_plain : ∀ t : Tm, t.enc.plain = true
  | .at _ => rfl
  | .ap f a => by
    show (f.enc.plain && (a.enc.plain && true)) = true
    rw [enc_plain f, enc_plain a]
    rfl
def told : Tm → List Nat
  | .at s => s
  | .ap f a => told f ++ (if isAt a then told a else ([40] ++ told a) ++ [41])
/-- all signs one letter long -/
def Tm.one : Tm → Bool
  | .at s => s.length == 1
  | .ap f a => f.one && a.one
theorem told_len : ∀ t : Tm, t.one = true → (told t).length + 2 ≤ 3 * t.sz
  | .at s, h => by
    have : s.length = 1 := by simpa [Tm.one] using h
    show s.length + 2 ≤ 3 * 1
    omega
  | .ap f a, h => by
    have h' : (f.one && a.one) = true := h
    rw [Bool.and_eq_true] at h'
    have h1 := told_len f h'.1
    have h2 := told_len a h'.2
    show (told f ++ (if isAt a then told a else ([40] ++ told a) ++ [41])).length + 2 ≤ 3 * (f.sz + a.sz)
    rw [List.length_append]
    split
    · omega
    · simp only [List.length_append, List.length_singleton]
      omega
/-- a body's end -/
def fin : Q → R D
  | .nx _ h1 => .ok .non h1
  | .rt d h1 => .ok d h1
  | .ex c p _ h1 => .ex c p h1
  | _ => .no
theorem run_succ {n f : Nat} {xs : List D} {h : VH} {F : Fn} (hF : C.fns[f]? = some F) (hl : xs.length = F.np) : run C (n + 1) f xs h = fin (evSs C (run C n) F.body (startL F.ns xs) h) := by
  show (match C.fns[f]? with | some F => _ | none => _) = _
  rw [hF]
  simp only [hl, if_true]
  cases evSs C (run C n) F.body (startL F.ns xs) h <;> rfl
theorem lenOk {s t : List Nat} (h : s.length + t.length ≤ 100000) (hp : VH) : binD .add (.str s) (.str t) hp = .ok (.str (s ++ t)) hp := by
  show (if s.length + t.length ≤ sizeMax then R.ok (D.str (s ++ t)) hp else .no) = _
  rw [if_pos h]
theorem isStr_enc (t : Tm) (h : VH) : bltD .isStr [t.enc] h = .ok (.bl (isAt t)) h := by cases t <;> rfl
theorem told_run : ∀ (t : Tm) (n : Nat), t.one = true → t.sz ≤ 1000 → t.ht < n → ∃ h', run C n f_told_term [t.enc] VH.nil = .ok (.str (told t)) h'
  | .at s, n + 1, _, _, _ => ⟨_, rfl⟩
  | .ap f a, n + 1, h1, h2, h3 => by
    have h1' : (f.one && a.one) = true := h1
    rw [Bool.and_eq_true] at h1'
    have h2' : f.sz + a.sz ≤ 1000 := h2
    have h3' : max f.ht a.ht + 1 < n + 1 := h3
    obtain ⟨hf, ef⟩ := told_run f n h1'.1 (by omega) (by omega)
    obtain ⟨ha, ea⟩ := told_run a n h1'.2 (by omega) (by omega)
    have lf := told_len f h1'.1
    have la := told_len a h1'.2
    have ef' : run C n 1 [f.enc] VH.nil = .ok (.str (told f)) hf := ef
    have ea' : run C n 1 [a.enc] VH.nil = .ok (.str (told a)) ha := ea
    refine ⟨VH.nil, ?_⟩
    rw [run_succ (F := ⟨1, 2, b_told_term⟩) rfl rfl]
    show fin (evSs C (run C n) b_told_term [some (.tup [f.enc, a.enc]), none] VH.nil) = _
    have i0 : idxD (.tup [f.enc, a.enc]) (.int 0) VH.nil = some f.enc := rfl
    have i1 : idxD (.tup [f.enc, a.enc]) (.int 1) VH.nil = some a.enc := rfl
    have b0 : bltD .isStr [.tup [f.enc, a.enc]] VH.nil = .ok (.bl false) VH.nil := rfl
    have pl : ∀ t : Tm, plains [t.enc] = true := fun t => by show (t.enc.plain && true) = true; rw [enc_plain]; rfl
    have l1 : binD .add (.str [40]) (.str (told a)) VH.nil = .ok (.str ([40] ++ told a)) VH.nil := lenOk (by simp; omega) _
    have l2 : binD .add (.str ([40] ++ told a)) (.str [41]) VH.nil = .ok (.str (([40] ++ told a) ++ [41])) VH.nil := lenOk (by simp; omega) _
    have l3 : binD .add (.str (told f)) (.str (told a)) VH.nil = .ok (.str (told f ++ told a)) VH.nil := lenOk (by omega) _
    have l4 : binD .add (.str (told f)) (.str (([40] ++ told a) ++ [41])) VH.nil = .ok (.str (told f ++ (([40] ++ told a) ++ [41]))) VH.nil := lenOk (by simp; omega) _
    simp only [b_told_term, evSs, evS, evE, evEs, R.bind, R.thn, evG, List.getElem?_cons_zero, List.getElem?_cons_succ, b0, i0, i1, pl, ef', ea', if_true, D.plain, List.set_cons_zero, List.set_cons_succ, isStr_enc]
    cases hat : isAt a with
    | true =>
      simp only [l3, fin]
      show R.ok (D.str _) _ = R.ok (D.str (told f ++ (if isAt a = true then told a else ([40] ++ told a) ++ [41]))) _
      rw [if_pos hat]
    | false =>
      simp only [l1, l2, l4, fin]
      show R.ok (D.str _) _ = R.ok (D.str (told f ++ (if isAt a = true then told a else ([40] ++ told a) ++ [41]))) _
      rw [if_neg (by rw [hat]; decide)]
/-! ### helpers -/
theorem idx0 (x y : D) (h : VH) : idxD (.tup [x, y]) (.int 0) h = some x := rfl
theorem idx1 (x y : D) (h : VH) : idxD (.tup [x, y]) (.int 1) h = some y := rfl
theorem pl1 (t : Tm) : plains [t.enc] = true := by show (t.enc.plain && true) = true; rw [enc_plain]; rfl
theorem pl2 (t : Tm) (d : D) (h : d.plain = true) : plains [t.enc, d] = true := by show (t.enc.plain && (d.plain && true)) = true; rw [enc_plain, h]; rfl
theorem pl3 (t : Tm) (d e : D) (h : d.plain = true) (h2 : e.plain = true) : plains [t.enc, d, e] = true := by show (t.enc.plain && (d.plain && (e.plain && true))) = true; rw [enc_plain, h, h2]; rfl
theorem view_enc (t : Tm) (h : VH) : viewOf t.enc h = some (.val t.enc) := by
  cases t with
  | «at» r => rfl
  | ap f a =>
    show (if (D.tup [f.enc, a.enc]).plain = true then some (View.val (.tup [f.enc, a.enc])) else none) = _
    rw [if_pos (show (D.tup [f.enc, a.enc]).plain = true from enc_plain (.ap f a))]
    rfl
theorem deep_enc : ∀ t : Tm, t.enc.deep = t.ht
  | .at _ => rfl
  | .ap f a => by
    show max f.enc.deep (max a.enc.deep 0) + 1 = max f.ht a.ht + 1
    rw [deep_enc f, deep_enc a]
    omega
theorem eqv_enc : ∀ t u : Tm, t.enc.eqv u.enc = decide (t = u)
  | .at s, .at r => by
    show (s == r) = _
    rw [Bool.eq_iff_iff]
    simp
  | .at s, .ap f a => by
    show false = _
    simp
  | .ap f a, .at s => by
    show false = _
    simp
  | .ap f a, .ap g b => by
    show (f.enc.eqv g.enc && (a.enc.eqv b.enc && true)) = _
    rw [eqv_enc f g, eqv_enc a b, Bool.eq_iff_iff]
    simp
theorem eq_enc (t u : Tm) (h : VH) (hd : min t.ht u.ht ≤ 64) : eqD t.enc u.enc h = some (decide (t = u)) := by
  unfold eqD
  rw [view_enc, view_enc]
  show (if min t.enc.deep u.enc.deep ≤ 64 then some (t.enc.eqv u.enc) else none) = _
  rw [deep_enc, deep_enc, if_pos hd, eqv_enc]
theorem eq_at (t : Tm) (s : List Nat) (h : VH) : cmpD .eq t.enc (.str s) h = some (decide (t = .at s)) :=
  eq_enc t (.at s) h (Nat.le_trans (Nat.min_le_right _ _) (Nat.zero_le _))
/-! ### holds -/
theorem holds_run (nm : List Nat) : ∀ (t : Tm) (n : Nat), t.ht < n → run C n f_holds [t.enc, .str nm] VH.nil = .ok (.bl (holdsT t nm)) VH.nil
  | .at s, n + 1, _ => by
    rw [run_succ (F := ⟨2, 2, b_holds⟩) rfl rfl]
    show fin (evSs C (run C n) b_holds [some (.str s), some (.str nm)] VH.nil) = _
    have e := eq_at (.at s) nm VH.nil
    have b0 : bltD .isStr [.str s] VH.nil = .ok (.bl true) VH.nil := rfl
    simp only [b_holds, evSs, evS, evE, evEs, R.bind, R.thn, List.getElem?_cons_zero, List.getElem?_cons_succ, b0]
    rw [show D.str s = (Tm.at s).enc from rfl]
    simp only [e, fin, holdsT]
  | .ap f a, n + 1, h => by
    have h' : max f.ht a.ht + 1 < n + 1 := h
    have ef := holds_run nm f n (by omega)
    have ea := holds_run nm a n (by omega)
    have ef' : run C n 8 [f.enc, .str nm] VH.nil = _ := ef
    have ea' : run C n 8 [a.enc, .str nm] VH.nil = _ := ea
    rw [run_succ (F := ⟨2, 2, b_holds⟩) rfl rfl]
    show fin (evSs C (run C n) b_holds [some (.tup [f.enc, a.enc]), some (.str nm)] VH.nil) = _
    have b0 : bltD .isStr [.tup [f.enc, a.enc]] VH.nil = .ok (.bl false) VH.nil := rfl
    simp only [b_holds, evSs, evS, evE, evEs, R.bind, R.thn, List.getElem?_cons_zero, List.getElem?_cons_succ, b0, idx0, idx1, pl2 _ (.str nm) rfl, ef', ea', if_true, D.plain]
    cases hf : holdsT f nm <;> cases ha : holdsT a nm <;> simp [fin, holdsT, hf, ha]
/-! ### _law_size -/
theorem lsize_run : ∀ (t : Tm) (n : Nat), t.ht < n → run C n f__law_size [t.enc] VH.nil = .ok (.int t.sz) VH.nil
  | .at s, n + 1, _ => rfl
  | .ap f a, n + 1, h => by
    have h' : max f.ht a.ht + 1 < n + 1 := h
    have ef' : run C n 27 [f.enc] VH.nil = _ := lsize_run f n (by omega)
    have ea' : run C n 27 [a.enc] VH.nil = _ := lsize_run a n (by omega)
    rw [run_succ (F := ⟨1, 1, b__law_size⟩) rfl rfl]
    show fin (evSs C (run C n) b__law_size [some (.tup [f.enc, a.enc])] VH.nil) = _
    have b0 : bltD .isStr [.tup [f.enc, a.enc]] VH.nil = .ok (.bl false) VH.nil := rfl
    simp only [b__law_size, evSs, evS, evE, evEs, R.bind, R.thn, List.getElem?_cons_zero, List.getElem?_cons_succ, b0, idx0, idx1, pl1, ef', ea', if_true, D.plain, binD, fin]
    show R.ok (D.int ((f.sz : Int) + (a.sz : Int))) _ = R.ok (D.int ((f.sz + a.sz : Nat) : Int)) _
    rw [Int.natCast_add]
/-! ### put_in, _law_put -/
theorem putin_run (nm : List Nat) (u : Tm) : ∀ (t : Tm) (n : Nat), t.ht < n → run C n f_put_in [t.enc, .str nm, u.enc] VH.nil = .ok (subT nm u t).enc VH.nil
  | .at s, n + 1, _ => by
    rw [run_succ (F := ⟨3, 3, b_put_in⟩) rfl rfl]
    show fin (evSs C (run C n) b_put_in [some (.str s), some (.str nm), some u.enc] VH.nil) = _
    have b0 : bltD .isStr [.str s] VH.nil = .ok (.bl true) VH.nil := rfl
    have e := eq_at (.at s) nm VH.nil
    have e' : cmpD .eq (.str s) (.str nm) VH.nil = some (decide (Tm.at s = .at nm)) := e
    by_cases hs : s = nm
    · rw [show decide (Tm.at s = .at nm) = true by simp [hs]] at e'
      simp only [b_put_in, evSs, evS, evE, evEs, R.bind, R.thn, List.getElem?_cons_zero, List.getElem?_cons_succ, b0, e', fin, subT, if_pos hs]
    · rw [show decide (Tm.at s = .at nm) = false by simp [hs]] at e'
      simp only [b_put_in, evSs, evS, evE, evEs, R.bind, R.thn, List.getElem?_cons_zero, List.getElem?_cons_succ, b0, e', fin, subT, if_neg hs]
      rfl
  | .ap f a, n + 1, h => by
    have h' : max f.ht a.ht + 1 < n + 1 := h
    have ef' : run C n 20 [f.enc, .str nm, u.enc] VH.nil = _ := putin_run nm u f n (by omega)
    have ea' : run C n 20 [a.enc, .str nm, u.enc] VH.nil = _ := putin_run nm u a n (by omega)
    rw [run_succ (F := ⟨3, 3, b_put_in⟩) rfl rfl]
    show fin (evSs C (run C n) b_put_in [some (.tup [f.enc, a.enc]), some (.str nm), some u.enc] VH.nil) = _
    have b0 : bltD .isStr [.tup [f.enc, a.enc]] VH.nil = .ok (.bl false) VH.nil := rfl
    have e' : cmpD .eq (.tup [f.enc, a.enc]) (.str nm) VH.nil = some false := by
      have := eq_at (.ap f a) nm VH.nil
      rw [show decide (Tm.ap f a = .at nm) = false by simp] at this
      exact this
    simp only [b_put_in, evSs, evS, evE, evEs, R.bind, R.thn, List.getElem?_cons_zero, List.getElem?_cons_succ, b0, e', idx0, idx1, pl3 _ (.str nm) u.enc rfl (enc_plain u), ef', ea', if_true, enc_plain, fin, subT]
    rfl
theorem lput_run (u : Tm) : ∀ (t : Tm) (n : Nat), t.ht < n → run C n f__law_put [t.enc, u.enc] VH.nil = .ok (subT [120] u t).enc VH.nil
  | .at s, n + 1, _ => by
    rw [run_succ (F := ⟨2, 2, b__law_put⟩) rfl rfl]
    show fin (evSs C (run C n) b__law_put [some (.str s), some u.enc] VH.nil) = _
    have b0 : bltD .isStr [.str s] VH.nil = .ok (.bl true) VH.nil := rfl
    have e' : cmpD .eq (.str s) (.str [120]) VH.nil = some (decide (Tm.at s = .at [120])) := eq_at (.at s) [120] VH.nil
    by_cases hs : s = [120]
    · rw [show decide (Tm.at s = .at [120]) = true by simp [hs]] at e'
      simp only [b__law_put, evSs, evS, evE, evEs, R.bind, R.thn, List.getElem?_cons_zero, List.getElem?_cons_succ, b0, e', fin, subT, if_pos hs]
    · rw [show decide (Tm.at s = .at [120]) = false by simp [hs]] at e'
      simp only [b__law_put, evSs, evS, evE, evEs, R.bind, R.thn, List.getElem?_cons_zero, List.getElem?_cons_succ, b0, e', fin, subT, if_neg hs]
      rfl
  | .ap f a, n + 1, h => by
    have h' : max f.ht a.ht + 1 < n + 1 := h
    have ef' : run C n 28 [f.enc, u.enc] VH.nil = _ := lput_run u f n (by omega)
    have ea' : run C n 28 [a.enc, u.enc] VH.nil = _ := lput_run u a n (by omega)
    rw [run_succ (F := ⟨2, 2, b__law_put⟩) rfl rfl]
    show fin (evSs C (run C n) b__law_put [some (.tup [f.enc, a.enc]), some u.enc] VH.nil) = _
    have b0 : bltD .isStr [.tup [f.enc, a.enc]] VH.nil = .ok (.bl false) VH.nil := rfl
    simp only [b__law_put, evSs, evS, evE, evEs, R.bind, R.thn, List.getElem?_cons_zero, List.getElem?_cons_succ, b0, idx0, idx1, pl2 _ u.enc (enc_plain u), ef', ea', if_true, enc_plain, fin, subT]
    rfl
end K15

/-! k15: stepping and going. -/
namespace K15
open Ev
theorem ss_nx {call : Call} {s : S} {ss : Ss} {l l1 : Lc} {h h1 : VH} (e : evS C call s l h = .nx l1 h1) : evSs C call (.cons s ss) l h = evSs C call ss l1 h1 := by
  show (match evS C call s l h with | .nx l1 h1 => evSs C call ss l1 h1 | r => r) = _
  rw [e]
theorem ss_rt {call : Call} {s : S} {ss : Ss} {l : Lc} {h h1 : VH} {d : D} (e : evS C call s l h = .rt d h1) : evSs C call (.cons s ss) l h = .rt d h1 := by
  show (match evS C call s l h with | .nx l1 h1 => evSs C call ss l1 h1 | r => r) = _
  rw [e]
theorem ss_ex {call : Call} {s : S} {ss : Ss} {l l1 : Lc} {h h1 : VH} {c : Nat} {p : D} (e : evS C call s l h = .ex c p l1 h1) : evSs C call (.cons s ss) l h = .ex c p l1 h1 := by
  show (match evS C call s l h with | .nx l1 h1 => evSs C call ss l1 h1 | r => r) = _
  rw [e]
theorem get_new (h : VH) (o : O) : (h.new o).get h.n = some o := by
  show (if h.n < h.n + 1 then (o :: h.os)[h.n + 1 - 1 - h.n]? else none) = _
  rw [if_pos (Nat.lt_succ_self _), show h.n + 1 - 1 - h.n = 0 by omega]
  rfl
theorem get_new2 (h : VH) (o o2 : O) : ((h.new o).new o2).get h.n = some o := by
  show (if h.n < h.n + 1 + 1 then (o2 :: o :: h.os)[h.n + 1 + 1 - 1 - h.n]? else none) = _
  rw [if_pos (by omega), show h.n + 1 + 1 - 1 - h.n = 1 by omega]
  rfl
theorem set_new (h : VH) (o o2 : O) : (h.new o).set h.n o2 = h.new o2 := by
  show VH.mk (h.n + 1) ((o :: h.os).set (h.n + 1 - 1 - h.n) o2) = _
  rw [show h.n + 1 - 1 - h.n = 0 by omega]
  rfl
theorem new_n (h : VH) (o : O) : (h.new o).n = h.n + 1 := rfl
def encs (ts : List Tm) : List D := ts.map Tm.enc
theorem notStr (call : Call) (t : Tm) (l : Lc) (h : VH) : evE C call (.not (.blt .isStr (.cons (.var 0) .nil))) (some t.enc :: l) h = .ok (.bl (!isAt t)) h := by
  simp only [evE, evEs, R.bind, List.getElem?_cons_zero, isStr_enc]
/-! ### spine -/
abbrev spB : Ss := (.cons (.set (.tup [0, 2]) (.var 0)) (.cons (.exp (.mth .append (.var 1) (.cons (.var 2) .nil))) .nil))
theorem append_new (h : VH) (ys : List D) (x : D) (hl : ys.length < 100000) : appendD (.ref h.n) [x] (h.new (.lst ys)) = .ok .non (h.new (.lst (ys ++ [x]))) := by
  show (match (h.new (.lst ys)).get h.n with | some (.lst ys) => if ys.length < sizeMax then R.ok D.non ((h.new (.lst _)).set h.n (.lst (ys ++ [x]))) else .no | _ => .no) = _
  rw [get_new]
  show (if ys.length < 100000 then _ else _) = _
  rw [if_pos hl, set_new]
theorem sp_loop (call : Call) (h : VH) : ∀ (t : Tm) (m : Nat) (acc : List D) (x : Option D), (argsOf t).length < m → acc.length + (argsOf t).length ≤ 100000 →
    ∃ x', whlGo (fun l h => evE C call (.not (.blt .isStr (.cons (.var 0) .nil))) l h) (fun l h => evSs C call spB l h) m [some t.enc, some (.ref h.n), x] (h.new (.lst acc)) = .nx [some (.str (headOf t)), some (.ref h.n), x'] (h.new (.lst (acc ++ encs (argsOf t).reverse)))
  | .at s, m + 1, acc, x, _, _ => by
    refine ⟨x, ?_⟩
    unfold whlGo
    rw [notStr]
    show Q.nx _ (h.new (.lst acc)) = Q.nx _ (h.new (.lst (acc ++ [])))
    rw [List.append_nil]
    rfl
  | .ap f a, m + 1, acc, x, h1, h2 => by
    have e : (argsOf (.ap f a)).length = (argsOf f).length + 1 := by
      show (argsOf f ++ [a]).length = _
      simp
    obtain ⟨x', ih⟩ := sp_loop call h f m (acc ++ [a.enc]) (some a.enc) (by omega) (by simp; omega)
    refine ⟨x', ?_⟩
    unfold whlGo
    rw [notStr]
    have hb : evSs C call spB [some (Tm.ap f a).enc, some (.ref h.n), x] (h.new (.lst acc)) = .nx [some f.enc, some (.ref h.n), some a.enc] (h.new (.lst (acc ++ [a.enc]))) := by
      have hr : rcvD .append (.ref h.n) (h.new (.lst acc)) = true := by
        show (match (h.new (.lst acc)).get h.n with | some (.lst _) => true | _ => false) = true
        rw [get_new]
      have ha := append_new h acc a.enc (by omega)
      simp only [spB, evSs, evS, evE, evEs, R.bind, R.thn, evG, List.getElem?_cons_zero, List.getElem?_cons_succ, Tm.enc, seqOf, setAll, List.set_cons_zero, List.set_cons_succ, hr, if_true, mthD, ha]
    show (match evSs C call spB [some (Tm.ap f a).enc, some (.ref h.n), x] (h.new (.lst acc)) with | .nx l2 h2 => whlGo _ _ m l2 h2 | .ct l2 h2 => whlGo _ _ m l2 h2 | .bk l2 h2 => .nx l2 h2 | r => r) = _
    rw [hb]
    refine Eq.trans ih ?_
    show Q.nx [some (.str (headOf f)), _, _] (h.new (.lst (acc ++ [a.enc] ++ encs (argsOf f).reverse))) = Q.nx _ (h.new (.lst (acc ++ encs (argsOf f ++ [a]).reverse)))
    rw [List.reverse_append, List.append_assoc]
    rfl
def spH (h : VH) (t : Tm) : VH := (h.new (.lst (encs (argsOf t).reverse))).new (.lst (encs (argsOf t)))
theorem spine_run (t : Tm) (n : Nat) (h : VH) (hs : (argsOf t).length ≤ 50000) : run C (n + 1) 3 [t.enc] h = .ok (.tup [.str (headOf t), .ref (h.n + 1)]) (spH h t) := by
  rw [run_succ (F := ⟨1, 3, b_spine⟩) rfl rfl]
  show fin (evSs C (run C n) b_spine [some t.enc, none, none] h) = _
  obtain ⟨x', e⟩ := sp_loop (run C n) h t loopFuel [] none (by show _ < 100000; omega) (by simp; omega)
  have el : lstOf (.ref h.n) (h.new (.lst (encs (argsOf t).reverse))) = some (encs (argsOf t).reverse) := by
    show (match (h.new (.lst _)).get h.n with | some (.lst xs) => some xs | _ => none) = _
    rw [get_new]
  have er : listRevD [.ref h.n] (h.new (.lst (encs (argsOf t).reverse))) = .ok (.ref (h.n + 1)) (spH h t) := by
    show (match lstOf (.ref h.n) (h.new (.lst (encs (argsOf t).reverse))) with | some ys => R.ok (D.ref (h.n + 1)) ((h.new (.lst (encs (argsOf t).reverse))).new (.lst ys.reverse)) | none => .no) = _
    rw [el]
    show R.ok _ ((h.new _).new (.lst (encs (argsOf t).reverse).reverse)) = _
    unfold spH encs
    rw [List.map_reverse, List.reverse_reverse]
  unfold b_spine
  rw [ss_nx (l1 := [some t.enc, some (.ref h.n), none]) (h1 := h.new (.lst [])) rfl]
  have e2 : evS C (run C n) (.whl (.not (.blt .isStr (.cons (.var 0) .nil))) spB) [some t.enc, some (.ref h.n), none] (h.new (.lst [])) = _ := e
  rw [ss_nx e2]
  rw [List.nil_append]
  rw [ss_rt (d := .tup [.str (headOf t), .ref (h.n + 1)]) (h1 := spH h t) (by simp only [evS, evE, evEs, R.bind, R.thn, List.getElem?_cons_zero, List.getElem?_cons_succ, bltD, er])]
  rfl
/-! ### put -/
theorem put_loop (call : Call) (h : VH) (a : Nat) (ts : List Tm) (ha : h.get a = some (.lst (encs ts))) : ∀ (m i : Nat) (u : Tm) (x : Option D), ts.length - i < m → i ≤ ts.length →
    ∃ x', itGo (.live a) (fun x l h => evG C call (.nam 2) x l h) (fun l h => evSs C call (.cons (.set (.nam 0) (.tup (.cons (.var 0) (.cons (.var 2) .nil)))) .nil) l h) m i [some u.enc, some (.ref a), x] h = .nx [some (putT u (ts.drop i)).enc, some (.ref a), x'] h
  | m + 1, i, u, x, h1, h2 => by
    have hn : Cu.next (.live a) i h = some (encs ts)[i]? := by
      show (match h.get a with | some (.lst xs) => some xs[i]? | _ => none) = _
      rw [ha]
    unfold itGo
    rw [hn]
    by_cases hi : i < ts.length
    · have e1 : (encs ts)[i]? = some (ts[i]).enc := by
        unfold encs
        rw [List.getElem?_map, List.getElem?_eq_getElem hi]
        rfl
      obtain ⟨x', ih⟩ := put_loop call h a ts ha m (i + 1) (.ap u ts[i]) (some (ts[i]).enc) (by omega) (by omega)
      refine ⟨x', ?_⟩
      rw [e1]
      simp only [evG, evSs, evS, evE, evEs, R.bind, R.thn, List.getElem?_cons_zero, List.getElem?_cons_succ, List.set_cons_zero, List.set_cons_succ]
      have ih' := ih
      simp only [evG, evSs, evS, evE, evEs, R.bind, R.thn] at ih'
      refine Eq.trans ih' ?_
      rw [List.drop_eq_getElem_cons hi]
      rfl
    · have e1 : (encs ts)[i]? = none := by
        unfold encs
        rw [List.getElem?_map, List.getElem?_eq_none (by omega)]
        rfl
      refine ⟨x, ?_⟩
      rw [e1, List.drop_eq_nil_of_le (by omega)]
      rfl
theorem put_run (u : Tm) (ts : List Tm) (a : Nat) (n : Nat) (h : VH) (ha : h.get a = some (.lst (encs ts))) (hs : ts.length ≤ 50000) : run C (n + 1) 4 [u.enc, .ref a] h = .ok (putT u ts).enc h := by
  rw [run_succ (F := ⟨2, 3, b_put⟩) rfl rfl]
  show fin (evSs C (run C n) b_put [some u.enc, some (.ref a), none] h) = _
  obtain ⟨x', e⟩ := put_loop (run C n) h a ts ha loopFuel 0 u none (by show _ < 100000; omega) (Nat.zero_le _)
  have hl : isLst h a = true := by
    unfold isLst
    rw [ha]
  unfold b_put
  rw [ss_nx (l1 := [some (putT u (ts.drop 0)).enc, some (.ref a), x']) (h1 := h) (by
    show R.thn (evI C (run C n) (.fix (.var 1)) [some u.enc, some (.ref a), none] h) _ (fun cu h1 => itGo cu _ _ loopFuel 0 _ h1) = _
    rw [show evI C (run C n) (.fix (.var 1)) [some u.enc, some (.ref a), none] h = .ok (.live a) h by
      simp only [evI, evE, R.bind, List.getElem?_cons_zero, List.getElem?_cons_succ, hl, if_true]]
    exact e)]
  rfl
end K15

namespace K15
open Ev
theorem get_old {h : VH} {a : Nat} {x : O} (o : O) (e : h.get a = some x) : (h.new o).get a = some x := by
  have hl : a < h.n := by
    unfold VH.get at e
    split at e
    · assumption
    · cases e
  unfold VH.get at e ⊢
  rw [if_pos hl] at e
  show (if a < h.n + 1 then (o :: h.os)[h.n + 1 - 1 - a]? else none) = _
  rw [if_pos (by omega), show h.n + 1 - 1 - a = (h.n - 1 - a) + 1 by omega, List.getElem?_cons_succ]
  exact e
theorem cutAt_nat (n d k : Nat) (hk : k ≤ n) : cutAt n d (some (k : Int)) = k := by
  unfold cutAt
  simp only [if_neg (show ¬ (k : Int) < 0 by omega), Int.toNat_natCast, Nat.min_eq_left hk]
theorem cut_take (xs : List D) (k : Nat) (hk : k ≤ xs.length) : cut xs none (some (k : Int)) = xs.take k := by
  unfold cut
  rw [cutAt_nat _ _ _ hk]
  rfl
theorem cut_drop (xs : List D) (k : Nat) (hk : k ≤ xs.length) : cut xs (some (k : Int)) none = xs.drop k := by
  unfold cut
  rw [cutAt_nat _ _ _ hk]
  show (xs.drop k).take (xs.length - k) = _
  rw [← List.length_drop, List.take_length]
theorem slc_take {h : VH} {a : Nat} {xs : List D} (e : h.get a = some (.lst xs)) (k : Nat) (hk : k ≤ xs.length) : slcD (.ref a) none (some (k : Int)) h = .ok (.ref h.n) (h.new (.lst (xs.take k))) := by
  show (match h.get a with | some (.lst xs) => R.ok (D.ref h.n) (h.new (.lst (cut xs none (some (k : Int))))) | _ => .no) = _
  rw [e]
  show R.ok _ (h.new (.lst (cut xs none (some (k : Int))))) = _
  rw [cut_take xs k hk]
theorem slc_drop {h : VH} {a : Nat} {xs : List D} (e : h.get a = some (.lst xs)) (k : Nat) (hk : k ≤ xs.length) : slcD (.ref a) (some (k : Int)) none h = .ok (.ref h.n) (h.new (.lst (xs.drop k))) := by
  show (match h.get a with | some (.lst xs) => R.ok (D.ref h.n) (h.new (.lst (cut xs (some (k : Int)) none))) | _ => .no) = _
  rw [e]
  show R.ok _ (h.new (.lst (cut xs (some (k : Int)) none))) = _
  rw [cut_drop xs k hk]
theorem add_lst {h : VH} {a b : Nat} {xs ys : List D} (e1 : h.get a = some (.lst xs)) (e2 : h.get b = some (.lst ys)) (hl : xs.length + ys.length ≤ 100000) : binD .add (.ref a) (.ref b) h = .ok (.ref h.n) (h.new (.lst (xs ++ ys))) := by
  show (match h.get a, h.get b with | some (.lst xs), some (.lst ys) => if xs.length + ys.length ≤ sizeMax then R.ok (D.ref h.n) (h.new (.lst (xs ++ ys))) else .no | _, _ => .no) = _
  rw [e1, e2]
  show (if xs.length + ys.length ≤ 100000 then _ else _) = _
  rw [if_pos hl]
theorem len_lst {h : VH} {a : Nat} {xs : List D} (e : h.get a = some (.lst xs)) : bltD .len [.ref a] h = .ok (.int xs.length) h := by
  show (match h.get a with | some (.lst xs) => R.ok (D.int xs.length) h | some (.dct kvs) => .ok (.int kvs.length) h | _ => .no) = _
  rw [e]
/-! ### worked -/
theorem seq_lst {h : VH} {a : Nat} {xs : List D} (e : h.get a = some (.lst xs)) : seqOf (.ref a) h = some xs := by
  show (match h.get a with | some (.lst xs) => some xs | _ => none) = _
  rw [e]
theorem idx_lst0 {h : VH} {a : Nat} {x : D} {xs : List D} (e : h.get a = some (.lst (x :: xs))) : idxD (.ref a) (.int 0) h = some x := by
  show (match h.get a with | some (.lst xs) => atD xs 0 | _ => none) = _
  rw [e]
  show (atPlace (xs.length + 1) 0).bind (fun j => (x :: xs)[j]?) = some x
  have : atPlace (xs.length + 1) 0 = some 0 := by
    unfold atPlace
    rw [if_pos (by decide), if_pos (by omega)]
    rfl
  rw [this]
  rfl
theorem work_run {s : List Nat} {row : List Tm} {u : Tm} (hw : workT s row = some u) {a n : Nat} {h : VH} (ha : h.get a = some (.lst (encs row))) : run C (n + 1) 6 [.str s, .ref a] h = .ok u.enc h := by
  rw [run_succ (F := ⟨2, 5, b_worked⟩) rfl rfl]
  show fin (evSs C (run C n) b_worked [some (.str s), some (.ref a), none, none, none] h) = _
  have q : ∀ r : List Nat, cmpD .eq (.str s) (.str r) h = some (decide (s = r)) := fun r => by
    have := eq_at (.at s) r h
    rw [show decide (Tm.at s = .at r) = decide (s = r) by simp] at this
    exact this
  unfold workT at hw
  split at hw
  · split at hw
    · next x hs =>
      cases hw
      have i0 := idx_lst0 ha
      subst hs
      simp only [b_worked, evSs, evS, evE, evEs, R.bind, R.thn, evG, List.getElem?_cons_zero, List.getElem?_cons_succ, q, i0, fin, decide_true, fin]
    · cases hw
  · split at hw
    · next x y hs =>
      cases hw
      have i0 := idx_lst0 ha
      subst hs
      have q1 : decide (sK = [73]) = false := by decide
      simp only [b_worked, evSs, evS, evE, evEs, R.bind, R.thn, evG, List.getElem?_cons_zero, List.getElem?_cons_succ, q, q1, i0, fin, decide_true]
    · cases hw
  · next x y z =>
    have sq := seq_lst ha
    have sq' : seqOf (.ref a) h = some [x.enc, y.enc, z.enc] := sq
    split at hw
    · next hs =>
      cases hw
      subst hs
      have q1 : decide (sS = [73]) = false := by decide
      have q2 : decide (sS = [75]) = false := by decide
      simp only [b_worked, evSs, evS, evE, evEs, R.bind, R.thn, evG, List.getElem?_cons_zero, List.getElem?_cons_succ, q, q1, q2, sq', setAll, List.set_cons_zero, List.set_cons_succ, fin, decide_true]
      rfl
    · split at hw
      · next hs =>
        cases hw
        subst hs
        have q1 : decide (sB = [73]) = false := by decide
        have q2 : decide (sB = [75]) = false := by decide
        have q3 : decide (sB = [83]) = false := by decide
        simp only [b_worked, evSs, evS, evE, evEs, R.bind, R.thn, evG, List.getElem?_cons_zero, List.getElem?_cons_succ, q, q1, q2, q3, sq', setAll, List.set_cons_zero, List.set_cons_succ, fin, decide_true]
        rfl
      · split at hw
        · next hs =>
          cases hw
          subst hs
          have q1 : decide (sC = [73]) = false := by decide
          have q2 : decide (sC = [75]) = false := by decide
          have q3 : decide (sC = [83]) = false := by decide
          have q4 : decide (sC = [66]) = false := by decide
          simp only [b_worked, evSs, evS, evE, evEs, R.bind, R.thn, evG, List.getElem?_cons_zero, List.getElem?_cons_succ, q, q1, q2, q3, q4, sq', setAll, List.set_cons_zero, List.set_cons_succ, fin, decide_true]
          rfl
        · cases hw
  · cases hw
/-! ### the first that steps -/
def firstS : List Tm → Option (List Tm)
  | [] => none
  | a :: r => match stepT a with
    | some b => some (b :: r)
    | none => (firstS r).map (a :: ·)
theorem first_snoc (a : Tm) : ∀ xs : List Tm, firstS (xs ++ [a]) = match firstS xs with
    | some ys => some (ys ++ [a])
    | none => (stepT a).map (fun b => xs ++ [b])
  | [] => by
    show (match stepT a with | some b => some [b] | none => (firstS []).map (a :: ·)) = _
    cases stepT a <;> rfl
  | x :: xs => by
    show (match stepT x with | some b => some (b :: (xs ++ [a])) | none => (firstS (xs ++ [a])).map (x :: ·)) = (match (match stepT x with | some b => some (b :: xs) | none => (firstS xs).map (x :: ·)) with | some ys => some (ys ++ [a]) | none => (stepT a).map (fun b => x :: xs ++ [b]))
    rw [first_snoc a xs]
    cases stepT x with
    | some b => rfl
    | none =>
      cases firstS xs with
      | some ys => rfl
      | none => cases stepT a <;> rfl
theorem inner_first : ∀ t : Tm, innerT t = (firstS (argsOf t)).map (putT (.at (headOf t)))
  | .at s => rfl
  | .ap f a => by
    rw [inner_ap, inner_first f]
    show _ = (firstS (argsOf f ++ [a])).map (putT (.at (headOf f)))
    rw [first_snoc]
    cases firstS (argsOf f) with
    | some ys =>
      show some (Tm.ap (putT _ ys) a) = some (putT _ (ys ++ [a]))
      rw [put_snoc]
    | none =>
      cases stepT a with
      | none => rfl
      | some b =>
        show some (Tm.ap f b) = some (putT (.at (headOf f)) (argsOf f ++ [b]))
        rw [put_snoc, put_args]
def optE : Option Tm → D
  | none => .non
  | some t => t.enc
theorem optE_plain (o : Option Tm) : (optE o).plain = true := by
  cases o with
  | none => rfl
  | some t => exact enc_plain t
theorem isn_opt (o : Option Tm) (h : VH) : cmpD .isn (optE o) .non h = some o.isSome := by
  cases o with
  | none => rfl
  | some t => cases t <;> rfl
theorem is_opt (o : Option Tm) (h : VH) : cmpD .is (optE o) .non h = some o.isNone := by
  cases o with
  | none => rfl
  | some t => cases t <;> rfl
theorem isn_enc (t : Tm) (h : VH) : cmpD .isn t.enc .non h = some true := isn_opt (some t) h
theorem is_enc (t : Tm) (h : VH) : cmpD .is t.enc .non h = some false := is_opt (some t) h
/-! ### step_term -/
abbrev stB : Ss := (.cons (.set (.nam 6) (.cal true 5 (.cons (.var 5) .nil)))
  (.cons (.ite (.cmp .isn (.var 6) (.con .non)) (.cons (.ret (.cal false 4 (.cons (.var 1) (.cons (.bin .add (.bin .add (.slc false true (.var 2) (.con .non) (.var 4)) (.lst (.cons (.var 6) .nil))) (.slc true false (.var 2) (.bin .add (.var 4) (.con (.int (1)))) (.con .non))) .nil))))
  .nil) .nil)
  .nil))
theorem st_loop (n : Nat) (s : List Nat) (ts : List Tm) (h : VH) (a : Nat) (ha : h.get a = some (.lst (encs ts))) (hl : ts.length ≤ 50000) (d0 d3 : Option D)
    (hr : ∀ t ∈ ts, ∃ h', run C (n + 1) 5 [t.enc] VH.nil = .ok (optE (stepT t)) h') : ∀ (m i : Nat) (x4 x5 x6 : Option D), ts.length - i < m → i ≤ ts.length →
    match firstS (ts.drop i) with
    | some ys => ∃ h', itGo (.enL a) (fun x l h => evG C (run C (n + 1)) (.tup [4, 5]) x l h) (fun l h => evSs C (run C (n + 1)) stB l h) m i [d0, some (.str s), some (.ref a), d3, x4, x5, x6] h = .rt (putT (.at s) (ts.take i ++ ys)).enc h'
    | none => ∃ y4 y5 y6, itGo (.enL a) (fun x l h => evG C (run C (n + 1)) (.tup [4, 5]) x l h) (fun l h => evSs C (run C (n + 1)) stB l h) m i [d0, some (.str s), some (.ref a), d3, x4, x5, x6] h = .nx [d0, some (.str s), some (.ref a), d3, y4, y5, y6] h
  | m + 1, i, x4, x5, x6, h1, h2 => by
    have hn : Cu.next (.enL a) i h = some ((encs ts)[i]?.map fun x => .tup [.int (i : Nat), x]) := by
      show (match h.get a with | some (.lst xs) => some (xs[i]?.map fun x => D.tup [.int (i : Nat), x]) | _ => none) = _
      rw [ha]
    unfold itGo
    rw [hn]
    by_cases hi : i < ts.length
    · have e1 : (encs ts)[i]? = some (ts[i]).enc := by
        unfold encs
        rw [List.getElem?_map, List.getElem?_eq_getElem hi]
        rfl
      rw [e1]
      have ed : ts.drop i = ts[i] :: ts.drop (i + 1) := List.drop_eq_getElem_cons hi
      rw [ed]
      obtain ⟨hh, er⟩ := hr ts[i] (List.getElem_mem hi)
      have ecall : evE C (run C (n + 1)) (.cal true 5 (.cons (.var 5) .nil)) [d0, some (.str s), some (.ref a), d3, some (.int i), some (ts[i]).enc, x6] h = .ok (optE (stepT ts[i])) h := by
        simp only [evE, evEs, R.bind, List.getElem?_cons_zero, List.getElem?_cons_succ, pl1, er, optE_plain, if_true]
      have e2 : evG C (run C (n + 1)) (.tup [4, 5]) (.tup [.int i, (ts[i]).enc]) [d0, some (.str s), some (.ref a), d3, x4, x5, x6] h = .nx [d0, some (.str s), some (.ref a), d3, some (.int i), some (ts[i]).enc, x6] h := rfl
      have e3 : evS C (run C (n + 1)) (.set (.nam 6) (.cal true 5 (.cons (.var 5) .nil))) [d0, some (.str s), some (.ref a), d3, some (.int i), some (ts[i]).enc, x6] h = .nx [d0, some (.str s), some (.ref a), d3, some (.int i), some (ts[i]).enc, some (optE (stepT ts[i]))] h := by
        show R.thn (evE C _ _ _ h) _ _ = _
        rw [ecall]
        rfl
      show match (match stepT ts[i] with | some b => some (b :: ts.drop (i + 1)) | none => (firstS (ts.drop (i + 1))).map (ts[i] :: ·)) with
        | some ys => ∃ h', (match evG C (run C (n + 1)) (.tup [4, 5]) (.tup [.int i, (ts[i]).enc]) [d0, some (.str s), some (.ref a), d3, x4, x5, x6] h with
          | .nx l1 h1 => (match evSs C (run C (n + 1)) stB l1 h1 with
            | .nx l2 h2 => itGo (.enL a) (fun x l h => evG C (run C (n + 1)) (.tup [4, 5]) x l h) (fun l h => evSs C (run C (n + 1)) stB l h) m (i + 1) l2 h2
            | .ct l2 h2 => itGo (.enL a) (fun x l h => evG C (run C (n + 1)) (.tup [4, 5]) x l h) (fun l h => evSs C (run C (n + 1)) stB l h) m (i + 1) l2 h2
            | .bk l2 h2 => .nx l2 h2
            | r => r)
          | .ex c p l1 h1 => .ex c p l1 h1
          | _ => .no) = .rt (putT (.at s) (ts.take i ++ ys)).enc h'
        | none => ∃ y4 y5 y6, (match evG C (run C (n + 1)) (.tup [4, 5]) (.tup [.int i, (ts[i]).enc]) [d0, some (.str s), some (.ref a), d3, x4, x5, x6] h with
          | .nx l1 h1 => (match evSs C (run C (n + 1)) stB l1 h1 with
            | .nx l2 h2 => itGo (.enL a) (fun x l h => evG C (run C (n + 1)) (.tup [4, 5]) x l h) (fun l h => evSs C (run C (n + 1)) stB l h) m (i + 1) l2 h2
            | .ct l2 h2 => itGo (.enL a) (fun x l h => evG C (run C (n + 1)) (.tup [4, 5]) x l h) (fun l h => evSs C (run C (n + 1)) stB l h) m (i + 1) l2 h2
            | .bk l2 h2 => .nx l2 h2
            | r => r)
          | .ex c p l1 h1 => .ex c p l1 h1
          | _ => .no) = .nx [d0, some (.str s), some (.ref a), d3, y4, y5, y6] h
      rw [e2]
      cases hs : stepT ts[i] with
      | some b =>
        rw [hs] at e3
        have g1 := get_old (.lst ((encs ts).take i)) ha
        have g2 := get_old (.lst [b.enc]) g1
        have g3 := get_old (.lst ((encs ts).take i ++ [b.enc])) g2
        have len : (encs ts).length = ts.length := by simp [encs]
        have s1 := slc_take ha i (by omega)
        have a1 := add_lst (get_old (.lst [b.enc]) (get_new h (.lst ((encs ts).take i)))) (get_new (h.new (.lst ((encs ts).take i))) (.lst [b.enc])) (by simp; omega)
        have s2 := slc_drop g3 (i + 1) (by omega)
        have a2 := add_lst (get_old (.lst ((encs ts).drop (i + 1))) (get_new ((h.new (.lst ((encs ts).take i))).new (.lst [b.enc])) (.lst ((encs ts).take i ++ [b.enc])))) (get_new (((h.new (.lst ((encs ts).take i))).new (.lst [b.enc])).new (.lst ((encs ts).take i ++ [b.enc]))) (.lst ((encs ts).drop (i + 1)))) (by simp; omega)
        have el : (encs ts).take i ++ [b.enc] ++ (encs ts).drop (i + 1) = encs (ts.take i ++ b :: ts.drop (i + 1)) := by
          simp [encs, List.map_take, List.map_drop]
        rw [el] at a2
        have pr := put_run (.at s) (ts.take i ++ b :: ts.drop (i + 1)) _ n _ (get_new ((((h.new (.lst ((encs ts).take i))).new (.lst [b.enc])).new (.lst ((encs ts).take i ++ [b.enc]))).new (.lst ((encs ts).drop (i + 1)))) (.lst (encs (ts.take i ++ b :: ts.drop (i + 1))))) (by simp; omega)
        have ia : binD .add (.int i) (.int 1) ((h.new (.lst ((encs ts).take i))).new (.lst [b.enc]) |>.new (.lst ((encs ts).take i ++ [b.enc]))) = .ok (.int ((i + 1 : Nat) : Int)) ((h.new (.lst ((encs ts).take i))).new (.lst [b.enc]) |>.new (.lst ((encs ts).take i ++ [b.enc]))) := rfl
        refine ⟨((((h.new (.lst ((encs ts).take i))).new (.lst [b.enc])).new (.lst ((encs ts).take i ++ [b.enc]))).new (.lst ((encs ts).drop (i + 1)))).new (.lst (encs (ts.take i ++ b :: ts.drop (i + 1)))), ?_⟩
        have eb : evSs C (run C (n + 1)) stB [d0, some (.str s), some (.ref a), d3, some (.int i), some (ts[i]).enc, x6] h = .rt (putT (.at s) (ts.take i ++ b :: ts.drop (i + 1))).enc (((((h.new (.lst ((encs ts).take i))).new (.lst [b.enc])).new (.lst ((encs ts).take i ++ [b.enc]))).new (.lst ((encs ts).drop (i + 1)))).new (.lst (encs (ts.take i ++ b :: ts.drop (i + 1))))) := by
          unfold stB
          rw [ss_nx e3]
          simp only [evSs, evS, evE, evEs, R.bind, R.thn, evG, List.getElem?_cons_zero, List.getElem?_cons_succ, isn_enc, ordOf, s1, if_true, Bool.false_eq_true, if_false, optE, a1, ia, s2, a2]
          rw [show D.str s = (Tm.at s).enc from rfl]
          simp only [pr]
        show (match evSs C (run C (n + 1)) stB [d0, some (.str s), some (.ref a), d3, some (.int i), some (ts[i]).enc, x6] h with
            | .nx l2 h2 => itGo (.enL a) (fun x l h => evG C (run C (n + 1)) (.tup [4, 5]) x l h) (fun l h => evSs C (run C (n + 1)) stB l h) m (i + 1) l2 h2
            | .ct l2 h2 => itGo (.enL a) (fun x l h => evG C (run C (n + 1)) (.tup [4, 5]) x l h) (fun l h => evSs C (run C (n + 1)) stB l h) m (i + 1) l2 h2
            | .bk l2 h2 => .nx l2 h2
            | r => r) = _
        rw [eb]
      | none =>
        rw [hs] at e3
        have eb : evSs C (run C (n + 1)) stB [d0, some (.str s), some (.ref a), d3, some (.int i), some (ts[i]).enc, x6] h = .nx [d0, some (.str s), some (.ref a), d3, some (.int i), some (ts[i]).enc, some (optE none)] h := by
          unfold stB
          rw [ss_nx e3]
          rfl
        have ih := st_loop n s ts h a ha hl d0 d3 hr m (i + 1) (some (.int i)) (some (ts[i]).enc) (some (optE none)) (by omega) (by omega)
        have et : ts.take (i + 1) = ts.take i ++ [ts[i]] := by
          rw [List.take_succ_eq_append_getElem hi]
        rw [et] at ih
        show match (firstS (ts.drop (i + 1))).map (ts[i] :: ·) with
          | some ys => ∃ h', (match evSs C (run C (n + 1)) stB [d0, some (.str s), some (.ref a), d3, some (.int i), some (ts[i]).enc, x6] h with
            | .nx l2 h2 => itGo (.enL a) (fun x l h => evG C (run C (n + 1)) (.tup [4, 5]) x l h) (fun l h => evSs C (run C (n + 1)) stB l h) m (i + 1) l2 h2
            | .ct l2 h2 => itGo (.enL a) (fun x l h => evG C (run C (n + 1)) (.tup [4, 5]) x l h) (fun l h => evSs C (run C (n + 1)) stB l h) m (i + 1) l2 h2
            | .bk l2 h2 => .nx l2 h2
            | r => r) = .rt (putT (.at s) (ts.take i ++ ys)).enc h'
          | none => ∃ y4 y5 y6, (match evSs C (run C (n + 1)) stB [d0, some (.str s), some (.ref a), d3, some (.int i), some (ts[i]).enc, x6] h with
            | .nx l2 h2 => itGo (.enL a) (fun x l h => evG C (run C (n + 1)) (.tup [4, 5]) x l h) (fun l h => evSs C (run C (n + 1)) stB l h) m (i + 1) l2 h2
            | .ct l2 h2 => itGo (.enL a) (fun x l h => evG C (run C (n + 1)) (.tup [4, 5]) x l h) (fun l h => evSs C (run C (n + 1)) stB l h) m (i + 1) l2 h2
            | .bk l2 h2 => .nx l2 h2
            | r => r) = .nx [d0, some (.str s), some (.ref a), d3, y4, y5, y6] h
        rw [eb]
        cases hf : firstS (ts.drop (i + 1)) with
        | none =>
          rw [hf] at ih
          exact ih
        | some ys =>
          rw [hf] at ih
          obtain ⟨h', ih⟩ := ih
          refine ⟨h', ?_⟩
          refine Eq.trans ih ?_
          rw [List.append_assoc]
          rfl
    · have e1 : (encs ts)[i]? = none := by
        unfold encs
        rw [List.getElem?_map, List.getElem?_eq_none (by omega)]
        rfl
      rw [e1, List.drop_eq_nil_of_le (by omega)]
      exact ⟨x4, x5, x6, rfl⟩
end K15

namespace K15
open Ev
theorem s_set {call : Call} {g : G} {e : E} {l : Lc} {h h1 : VH} {x : D} (he : evE C call e l h = .ok x h1) : evS C call (.set g e) l h = evG C call g x l h1 := by
  simp only [evS, he, R.thn]
theorem s_for {call : Call} {g : G} {it : I} {b : Ss} {l : Lc} {h h1 : VH} {cu : Cu} (he : evI C call it l h = .ok cu h1) : evS C call (.for_ g it b) l h = itGo cu (fun x l h => evG C call g x l h) (fun l h => evSs C call b l h) loopFuel 0 l h1 := by
  simp only [evS, he, R.thn]
theorem s_whl {call : Call} {c : E} {b : Ss} {l : Lc} {h : VH} : evS C call (.whl c b) l h = whlGo (fun l h => evE C call c l h) (fun l h => evSs C call b l h) loopFuel l h := by
  simp only [evS]
def optN : Option Nat → D
  | none => .non
  | some k => .int k
theorem kget_need (call : Call) (e : E) (s : List Nat) (l : Lc) (h h1 : VH) (he : evE C call e l h = .ok (.str s) h1) : evE C call (.kget 0 e) l h = .ok (optN (needT s)) h1 := by
  have hk : ((([([83], (.int (3))), ([75], (.int (2))), ([73], (.int (1))), ([66], (.int (3))), ([67], (.int (3)))] : List (List Nat × D)).lookup s).getD .non) = optN (needT s) := by
    unfold needT
    simp only [List.lookup]
    by_cases q1 : s = sS
    · subst q1; rfl
    · have r1 : (s == [83]) = false := by simpa using q1
      rw [if_neg q1, r1]
      by_cases q2 : s = sK
      · subst q2; rfl
      · have r2 : (s == [75]) = false := by simpa using q2
        rw [if_neg q2]
        simp only [r2]
        by_cases q3 : s = sI
        · subst q3; rfl
        · have r3 : (s == [73]) = false := by simpa using q3
          rw [if_neg q3]
          simp only [r3]
          by_cases q4 : s = sB
          · subst q4; rfl
          · have r4 : (s == [66]) = false := by simpa using q4
            rw [if_neg q4]
            simp only [r4]
            by_cases q5 : s = sC
            · subst q5; rfl
            · have r5 : (s == [67]) = false := by simpa using q5
              rw [if_neg q5]
              simp only [r5]
              rfl
  simp only [evE, he, R.bind]
  exact congrArg (fun d => R.ok d h1) hk
theorem isn_need (o : Option Nat) (h : VH) : cmpD .isn (optN o) .non h = some o.isSome := by cases o <;> rfl
theorem step_run : ∀ (n : Nat) (t : Tm), Fits n t → t.sz ≤ 40000 → ∃ h', run C (n + 1) 5 [t.enc] VH.nil = .ok (optE (stepT t)) h'
  | n + 1, t, hf, hz => by
    have hl : (argsOf t).length ≤ 50000 := by have := args_len t; omega
    rw [run_succ (F := ⟨1, 7, b_step_term⟩) rfl rfl]
    show ∃ h', fin (evSs C (run C (n + 1)) b_step_term [some t.enc, none, none, none, none, none, none] VH.nil) = _
    have sp := spine_run t n VH.nil hl
    have sp' : run C (n + 1) 3 [t.enc] VH.nil = .ok (.tup [.str (headOf t), .ref 1]) (spH VH.nil t) := sp
    have ga : (spH VH.nil t).get 1 = some (.lst (encs (argsOf t))) := get_new (VH.nil.new (.lst (encs (argsOf t).reverse))) _
    have len : (encs (argsOf t)).length = (argsOf t).length := by simp [encs]
    unfold b_step_term
    rw [ss_nx (l1 := [some t.enc, some (.str (headOf t)), some (.ref 1), none, none, none, none]) (h1 := spH VH.nil t) (by
      simp only [evS, evE, evEs, R.bind, R.thn, List.getElem?_cons_zero, sp', Bool.false_eq_true, if_false, evG, seqOf, setAll, List.set_cons_zero, List.set_cons_succ])]
    rw [ss_nx (l1 := [some t.enc, some (.str (headOf t)), some (.ref 1), some (optN (needT (headOf t))), none, none, none]) (h1 := spH VH.nil t) (by
      rw [s_set (kget_need _ _ (headOf t) _ _ (spH VH.nil t) rfl)]
      rfl)]
    have hsp := head_spine t
    have ll := len_lst ga
    rw [len] at ll
    cases hh : headT t with
    | some u =>
      rw [hh] at hsp
      cases hn : needT (headOf t) with
      | none => rw [hn] at hsp; cases hsp
      | some k =>
        rw [hn] at hsp
        have hsp2 : some u = if k ≤ (argsOf t).length then (workT (headOf t) ((argsOf t).take k)).map (fun u => putT u ((argsOf t).drop k)) else none := hsp
        split at hsp2
        case isFalse => cases hsp2
        case isTrue hk =>
        cases hw : workT (headOf t) ((argsOf t).take k) with
        | none => rw [hw] at hsp2; cases hsp2
        | some w =>
          rw [hw] at hsp2
          have hu : u = putT w ((argsOf t).drop k) := Option.some.inj hsp2
          have s1 := slc_take ga k (by omega)
          have et : (encs (argsOf t)).take k = encs ((argsOf t).take k) := by simp [encs, List.map_take]
          have ed : (encs (argsOf t)).drop k = encs ((argsOf t).drop k) := by simp [encs, List.map_drop]
          rw [et] at s1
          have wr := work_run (n := n) hw (get_new (spH VH.nil t) (.lst (encs ((argsOf t).take k))))
          have s2 := slc_drop (get_old (.lst (encs ((argsOf t).take k))) ga) k (by omega)
          rw [ed] at s2
          have pr := put_run w ((argsOf t).drop k) _ n _ (get_new ((spH VH.nil t).new (.lst (encs ((argsOf t).take k)))) (.lst (encs ((argsOf t).drop k)))) (by simp; omega)
          have c1 : cmpD .ge (.int ((argsOf t).length : Int)) (.int (k : Int)) (spH VH.nil t) = some true := by
            show some (decide ((k : Int) ≤ ((argsOf t).length : Int))) = _
            rw [decide_eq_true (by omega)]
          have c0 : cmpD .isn (.int (k : Int)) .non (spH VH.nil t) = some true := rfl
          have es : stepT t = some u := by unfold stepT; rw [hh]
          refine ⟨((spH VH.nil t).new (.lst (encs ((argsOf t).take k)))).new (.lst (encs ((argsOf t).drop k))), ?_⟩
          rw [ss_rt (d := u.enc) (h1 := ((spH VH.nil t).new (.lst (encs ((argsOf t).take k)))).new (.lst (encs ((argsOf t).drop k)))) (by
            simp only [evSs, evS, evE, evEs, R.bind, R.thn, List.getElem?_cons_zero, List.getElem?_cons_succ, optN, c0, ll, c1, ordOf, s1, if_true, Bool.false_eq_true, if_false, wr, s2, pr, hu])]
          rw [es]
          rfl
    | none =>
      have hnx : evS C (run C (n + 1)) (.ite (.and (.cmp .isn (.var 3) (.con .non)) (.cmp .ge (.blt .len (.cons (.var 2) .nil)) (.var 3))) (.cons (.ret (.cal false 4 (.cons (.cal false 6 (.cons (.var 1) (.cons (.slc false true (.var 2) (.con .non) (.var 3)) .nil))) (.cons (.slc true false (.var 2) (.var 3) (.con .non)) .nil))))
  .nil) .nil) [some t.enc, some (.str (headOf t)), some (.ref 1), some (optN (needT (headOf t))), none, none, none] (spH VH.nil t) = .nx [some t.enc, some (.str (headOf t)), some (.ref 1), some (optN (needT (headOf t))), none, none, none] (spH VH.nil t) := by
        cases hn : needT (headOf t) with
        | none => rfl
        | some k =>
          rw [hh, hn] at hsp
          have hsp2 : none = if k ≤ (argsOf t).length then (workT (headOf t) ((argsOf t).take k)).map (fun u => putT u ((argsOf t).drop k)) else none := hsp
          have hk : ¬ k ≤ (argsOf t).length := by
            intro hk
            rw [if_pos hk] at hsp2
            obtain ⟨w, hw⟩ := need_work (s := headOf t) (row := (argsOf t).take k) (by rw [hn, List.length_take, Nat.min_eq_left hk])
            rw [hw] at hsp2
            cases hsp2
          have c1 : cmpD .ge (.int ((argsOf t).length : Int)) (.int (k : Int)) (spH VH.nil t) = some false := by
            show some (decide ((k : Int) ≤ ((argsOf t).length : Int))) = _
            rw [decide_eq_false (by omega)]
          have c0 : cmpD .isn (.int (k : Int)) .non (spH VH.nil t) = some true := rfl
          simp only [evSs, evS, evE, evEs, R.bind, R.thn, List.getElem?_cons_zero, List.getElem?_cons_succ, optN, c0, ll, c1]
      rw [ss_nx hnx]
      have lp := st_loop n (headOf t) (argsOf t) (spH VH.nil t) 1 ga hl (some t.enc) (some (optN (needT (headOf t)))) (fun a ha => by
          cases n with
          | zero => exact absurd (hf hh a ha) (fun q => q)
          | succ n =>
            refine step_run (n + 1) a (hf hh a ha) ?_
            have : ∀ (t : Tm) (a : Tm), a ∈ argsOf t → a.sz ≤ t.sz := by
              intro t
              induction t with
              | «at» s => intro a ha; cases ha
              | ap f b i1 i2 =>
                intro a ha
                have ha' : a ∈ argsOf f ++ [b] := ha
                rw [List.mem_append, List.mem_singleton] at ha'
                show a.sz ≤ f.sz + b.sz
                cases ha' with
                | inl h3 => have := i1 a h3; omega
                | inr h3 => subst h3; omega
            have := this t a ha
            omega) loopFuel 0 none none none (by show _ < 100000; omega) (Nat.zero_le _)
      rw [List.drop_zero] at lp
      have ev : evI C (run C (n + 1)) (.enum (.var 2)) [some t.enc, some (.str (headOf t)), some (.ref 1), some (optN (needT (headOf t))), none, none, none] (spH VH.nil t) = .ok (.enL 1) (spH VH.nil t) := by
        have hl : isLst (spH VH.nil t) 1 = true := by unfold isLst; rw [ga]
        simp only [evI, evE, R.bind, List.getElem?_cons_zero, List.getElem?_cons_succ, hl, if_true]
      have ef := inner_first t
      have es : stepT t = innerT t := by unfold stepT; rw [hh]
      rw [es, ef]
      have efor : ∀ q, itGo (.enL 1) (fun x l h => evG C (run C (n + 1)) (.tup [4, 5]) x l h) (fun l h => evSs C (run C (n + 1)) stB l h) loopFuel 0 [some t.enc, some (.str (headOf t)), some (.ref 1), some (optN (needT (headOf t))), none, none, none] (spH VH.nil t) = q → evS C (run C (n + 1)) (.for_ (.tup [4, 5]) (.enum (.var 2)) stB) [some t.enc, some (.str (headOf t)), some (.ref 1), some (optN (needT (headOf t))), none, none, none] (spH VH.nil t) = q := by
        intro q hq
        rw [s_for ev]
        exact hq
      cases hfs : firstS (argsOf t) with
      | some ys =>
        rw [hfs] at lp
        obtain ⟨h', lp⟩ := lp
        refine ⟨h', ?_⟩
        rw [ss_rt (efor _ lp)]
        rfl
      | none =>
        rw [hfs] at lp
        obtain ⟨y4, y5, y6, lp⟩ := lp
        refine ⟨spH VH.nil t, ?_⟩
        rw [ss_nx (efor _ lp)]
        rfl
end K15

namespace K15
open Ev
theorem get_lt {h : VH} {a : Nat} {x : O} (e : h.get a = some x) : a < h.n ∧ h.n - 1 - a < h.os.length := by
  unfold VH.get at e
  split at e
  · next h1 => exact ⟨h1, by
      rcases Nat.lt_or_ge (h.n - 1 - a) h.os.length with h2 | h2
      · exact h2
      · rw [List.getElem?_eq_none h2] at e; cases e⟩
  · cases e
theorem get_set {h : VH} {a : Nat} {x : O} (o : O) (e : h.get a = some x) : (h.set a o).get a = some o := by
  obtain ⟨h1, h2⟩ := get_lt e
  show (if a < h.n then (h.os.set (h.n - 1 - a) o)[h.n - 1 - a]? else none) = _
  rw [if_pos h1, List.getElem?_set_self h2]
/-! ### size -/
def cnt : Tm → Nat
  | .at _ => 1
  | .ap f a => 1 + cnt f + cnt a
theorem cnt_sz : ∀ t : Tm, cnt t + 1 = 2 * t.sz
  | .at _ => rfl
  | .ap f a => by
    have := cnt_sz f
    have := cnt_sz a
    show 1 + cnt f + cnt a + 1 = 2 * (f.sz + a.sz)
    omega
def cnts : List Tm → Nat
  | [] => 0
  | t :: r => cnt t + cnts r
def szs : List Tm → Nat
  | [] => 0
  | t :: r => t.sz + szs r
theorem len_szs : ∀ r : List Tm, r.length ≤ szs r
  | [] => Nat.le_refl 0
  | t :: r => by
    have := len_szs r
    have := sz_pos t
    show r.length + 1 ≤ t.sz + szs r
    omega
abbrev szC : E := .cmp .ne (.var 1) (.lst .nil)
abbrev szB : Ss := (.cons (.set (.nam 3) (.mth .pop (.var 1) .nil))
  (.cons (.ite (.blt .isStr (.cons (.var 3) .nil)) (.cons (.aug 2 .add (.con (.int (1))))
  .nil) (.cons (.exp (.mth .extend (.var 1) (.cons (.var 3) .nil)))
  .nil))
  .nil))
theorem plains_encs : ∀ ts : List Tm, plains (encs ts) = true
  | [] => rfl
  | t :: r => by
    show (t.enc.plain && plains (encs r)) = true
    rw [enc_plain, plains_encs r]; rfl
theorem sz_cond (call : Call) {h : VH} {a : Nat} {ts : List Tm} (ha : h.get a = some (.lst (encs ts))) (d0 d2 d3 : Option D) : evE C call szC [d0, some (.ref a), d2, d3] h = .ok (.bl (!ts.isEmpty)) (h.new (.lst [])) := by
  have v1 : viewOf (.ref a) (h.new (.lst [])) = some (.lst (encs ts)) := by
    show (match (h.new (.lst [])).get a with | some (.lst xs) => if plains xs then some (View.lst xs) else none | _ => none) = _
    rw [get_old _ ha]
    show (if plains (encs ts) = true then _ else _) = _
    rw [if_pos (plains_encs ts)]
  have v2 : viewOf (.ref h.n) (h.new (.lst [])) = some (.lst []) := by
    show (match (h.new (.lst [])).get h.n with | some (.lst xs) => if plains xs then some (View.lst xs) else none | _ => none) = _
    rw [get_new]
    rfl
  have c : cmpD .ne (.ref a) (.ref h.n) (h.new (.lst [])) = some (!ts.isEmpty) := by
    show (eqD (.ref a) (.ref h.n) (h.new (.lst []))).map not = _
    have : eqD (.ref a) (.ref h.n) (h.new (.lst [])) = some ts.isEmpty := by
      unfold eqD
      rw [v1, v2]
      show (if min (deeps (encs ts) + 1) 1 ≤ 64 then some (eqvs (encs ts) []) else none) = _
      rw [if_pos (by omega)]
      cases ts <;> rfl
    rw [this]
    rfl
  simp only [evE, evEs, R.bind, List.getElem?_cons_zero, List.getElem?_cons_succ, c]
theorem sz_loop (call : Call) (a : Nat) (d0 : Option D) : ∀ (m : Nat) (ts : List Tm) (k : Nat) (h : VH) (x : Option D), h.get a = some (.lst (encs ts.reverse)) → cnts ts < m → szs ts ≤ 40000 →
    ∃ x' h', whlGo (fun l h => evE C call szC l h) (fun l h => evSs C call szB l h) m [d0, some (.ref a), some (.int k), x] h = .nx [d0, some (.ref a), some (.int ((k + szs ts : Nat) : Int)), x'] h'
  | m + 1, [], k, h, x, ha, _, _ => by
    refine ⟨x, h.new (.lst []), ?_⟩
    unfold whlGo
    rw [sz_cond call (ts := []) ha]
    rfl
  | m + 1, t :: r, k, h, x, ha, hm, hz => by
    have hm' : cnt t + cnts r < m + 1 := hm
    have hz' : t.sz + szs r ≤ 40000 := hz
    have hq : (!((t :: r).reverse).isEmpty) = true := by simp
    have ha1 := get_old (.lst []) ha
    have er : encs (t :: r).reverse = encs r.reverse ++ [t.enc] := by simp [encs]
    rw [er] at ha1
    have ha2 := get_set (.lst (encs r.reverse)) ha1
    have rc : rcvD .pop (.ref a) (h.new (.lst [])) = true := by
      show (match (h.new (.lst [])).get a with | some (.lst _) => true | _ => false) = true
      rw [ha1]
    have pp : mthD .pop (.ref a) [] (h.new (.lst [])) = .ok t.enc ((h.new (.lst [])).set a (.lst (encs r.reverse))) := by
      show (match (h.new (.lst [])).get a with | some (.lst ys) => (match ys.getLast? with | some y => R.ok y ((h.new (.lst [])).set a (.lst ys.dropLast)) | none => .no) | _ => .no) = _
      rw [ha1]
      show (match (encs r.reverse ++ [t.enc]).getLast? with | some y => R.ok y ((h.new (.lst [])).set a (.lst (encs r.reverse ++ [t.enc]).dropLast)) | none => .no) = _
      rw [List.getLast?_concat, List.dropLast_concat]
    have e1 : evS C call (.set (.nam 3) (.mth .pop (.var 1) .nil)) [d0, some (.ref a), some (.int k), x] (h.new (.lst [])) = .nx [d0, some (.ref a), some (.int k), some t.enc] ((h.new (.lst [])).set a (.lst (encs r.reverse))) := by
      simp only [evS, evE, evEs, R.bind, R.thn, List.getElem?_cons_zero, List.getElem?_cons_succ, rc, if_true, pp, evG, List.set_cons_zero, List.set_cons_succ]
    unfold whlGo
    rw [sz_cond call (ts := (t :: r).reverse) ha, hq]
    show ∃ x' h', (match evSs C call szB [d0, some (.ref a), some (.int k), x] (h.new (.lst [])) with
      | .nx l2 h2 => whlGo (fun l h => evE C call szC l h) (fun l h => evSs C call szB l h) m l2 h2
      | .ct l2 h2 => whlGo (fun l h => evE C call szC l h) (fun l h => evSs C call szB l h) m l2 h2
      | .bk l2 h2 => .nx l2 h2
      | r => r) = _
    cases t with
    | «at» s =>
      have eb : evSs C call szB [d0, some (.ref a), some (.int k), x] (h.new (.lst [])) = .nx [d0, some (.ref a), some (.int ((k + 1 : Nat) : Int)), some (.str s)] ((h.new (.lst [])).set a (.lst (encs r.reverse))) := by
        unfold szB
        rw [ss_nx e1]
        rfl
      rw [eb]
      obtain ⟨x', h', ih⟩ := sz_loop call a d0 m r (k + 1) _ (some (.str s)) ha2 (by have : cnt (Tm.at s) = 1 := rfl; omega) (by omega)
      refine ⟨x', h', Eq.trans ih ?_⟩
      have : k + 1 + szs r = k + szs (Tm.at s :: r) := by show k + 1 + szs r = k + (1 + szs r); omega
      rw [this]
    | ap f b =>
      have hl := len_szs r
      have ex : mthD .extend (.ref a) [.tup [f.enc, b.enc]] ((h.new (.lst [])).set a (.lst (encs r.reverse))) = .ok .non (((h.new (.lst [])).set a (.lst (encs r.reverse))).set a (.lst (encs (b :: f :: r).reverse))) := by
        show (match ((h.new (.lst [])).set a (.lst (encs r.reverse))).get a with | some (.lst ys) => if ys.length + 2 ≤ sizeMax then R.ok D.non (((h.new (.lst [])).set a (.lst (encs r.reverse))).set a (.lst (ys ++ [f.enc, b.enc]))) else .no | _ => .no) = _
        rw [ha2]
        show (if (encs r.reverse).length + 2 ≤ 100000 then _ else _) = _
        rw [if_pos (by simp [encs]; omega)]
        have : encs (b :: f :: r).reverse = encs r.reverse ++ [f.enc, b.enc] := by simp [encs]
        rw [this]
      have rc2 : rcvD .extend (.ref a) ((h.new (.lst [])).set a (.lst (encs r.reverse))) = true := by
        show (match ((h.new (.lst [])).set a (.lst (encs r.reverse))).get a with | some (.lst _) => true | _ => false) = true
        rw [ha2]
      have b0 : bltD .isStr [.tup [f.enc, b.enc]] ((h.new (.lst [])).set a (.lst (encs r.reverse))) = .ok (.bl false) ((h.new (.lst [])).set a (.lst (encs r.reverse))) := rfl
      have eb : evSs C call szB [d0, some (.ref a), some (.int k), x] (h.new (.lst [])) = .nx [d0, some (.ref a), some (.int k), some (.tup [f.enc, b.enc])] (((h.new (.lst [])).set a (.lst (encs r.reverse))).set a (.lst (encs (b :: f :: r).reverse))) := by
        unfold szB
        rw [ss_nx e1]
        simp only [Tm.enc, evSs, evS, evE, evEs, R.bind, R.thn, List.getElem?_cons_zero, List.getElem?_cons_succ, b0, rc2, if_true, ex]
      rw [eb]
      have ec : cnt (Tm.ap f b) = 1 + cnt f + cnt b := rfl
      have es : (Tm.ap f b).sz = f.sz + b.sz := rfl
      obtain ⟨x', h', ih⟩ := sz_loop call a d0 m (b :: f :: r) k _ (some (.tup [f.enc, b.enc])) (get_set _ ha2) (by show cnt b + (cnt f + cnts r) < m; omega) (by show b.sz + (f.sz + szs r) ≤ 40000; omega)
      refine ⟨x', h', Eq.trans ih ?_⟩
      have : k + szs (b :: f :: r) = k + szs (Tm.ap f b :: r) := by show k + (b.sz + (f.sz + szs r)) = k + ((f.sz + b.sz) + szs r); omega
      rw [this]
theorem size_run (t : Tm) (n : Nat) (hz : t.sz ≤ 40000) : ∃ h', run C (n + 1) 2 [t.enc] VH.nil = .ok (.int t.sz) h' := by
  rw [run_succ (F := ⟨1, 4, b_size⟩) rfl rfl]
  show ∃ h', fin (evSs C (run C n) b_size [some t.enc, none, none, none] VH.nil) = _
  unfold b_size
  rw [ss_nx (l1 := [some t.enc, some (.ref 0), some (.int 0), none]) (h1 := VH.nil.new (.lst [t.enc])) (by rfl)]
  have hc := cnt_sz t
  obtain ⟨x', h', e⟩ := sz_loop (run C n) 0 (some t.enc) loopFuel [t] 0 (VH.nil.new (.lst [t.enc])) none rfl (by show cnt t + 0 < 100000; omega) (by show t.sz + 0 ≤ 40000; omega)
  have e2 : evS C (run C n) (.whl szC szB) [some t.enc, some (.ref 0), some (.int 0), none] (VH.nil.new (.lst [t.enc])) = _ := e
  rw [ss_nx e2]
  refine ⟨h', ?_⟩
  have : 0 + szs [t] = t.sz := by show 0 + (t.sz + 0) = _; omega
  rw [this]
  rfl
/-! ### run_term -/
abbrev rnB : Ss := (.cons (.set (.nam 3) (.cal true 5 (.cons (.var 0) .nil)))
  (.cons (.ite (.cmp .is (.var 3) (.con .non)) (.cons (.ret (.tup (.cons (.var 0) (.cons (.var 2) .nil))))
  .nil) .nil)
  (.cons (.set (.nam 0) (.var 3))
  (.cons (.aug 2 .add (.con (.int (1))))
  (.cons (.ite (.or (.cmp .gt (.var 2) (.var 1)) (.cmp .gt (.cal true 2 (.cons (.var 0) .nil)) (.con (.int (400))))) (.cons (.rsep 7 (.var 2))
  .nil) .nil)
  .nil)))))
theorem rn_loop (most n : Nat) (P : Nat → Tm → Prop) (hP : ∀ k t, P k t → Fits n t ∧ t.sz ≤ 20000)
    (hs : ∀ k t u, P k t → stepT t = some u → k + 1 ≤ most → u.sz ≤ 400 → P (k + 1) u) : ∀ (m k : Nat) (t : Tm) (x : Option D), P k t → k ≤ most → most - k < m →
    match goT most m k t with
    | some (v, j) => whlGo (fun l h => evE C (run C (n + 1)) (.con (.bl true)) l h) (fun l h => evSs C (run C (n + 1)) rnB l h) m [some t.enc, some (.int most), some (.int k), x] VH.nil = .rt (.tup [v.enc, .int j]) VH.nil
    | none => ∃ (j : Nat) (l : Lc), whlGo (fun l h => evE C (run C (n + 1)) (.con (.bl true)) l h) (fun l h => evSs C (run C (n + 1)) rnB l h) m [some t.enc, some (.int most), some (.int k), x] VH.nil = .ex 7 (.int j) l VH.nil
  | m + 1, k, t, x, hp, hk, hm => by
    obtain ⟨hf, hz⟩ := hP k t hp
    obtain ⟨h0, er⟩ := step_run n t hf (by omega)
    have e1 : evS C (run C (n + 1)) (.set (.nam 3) (.cal true 5 (.cons (.var 0) .nil))) [some t.enc, some (.int most), some (.int k), x] VH.nil = .nx [some t.enc, some (.int most), some (.int k), some (optE (stepT t))] VH.nil := by
      simp only [evS, evE, evEs, R.bind, R.thn, List.getElem?_cons_zero, pl1, er, optE_plain, if_true, evG, List.set_cons_zero, List.set_cons_succ]
    have eu : whlGo (fun l h => evE C (run C (n + 1)) (.con (.bl true)) l h) (fun l h => evSs C (run C (n + 1)) rnB l h) (m + 1) [some t.enc, some (.int most), some (.int k), x] VH.nil = (match evSs C (run C (n + 1)) rnB [some t.enc, some (.int most), some (.int k), x] VH.nil with
      | .nx l2 h2 => whlGo (fun l h => evE C (run C (n + 1)) (.con (.bl true)) l h) (fun l h => evSs C (run C (n + 1)) rnB l h) m l2 h2
      | .ct l2 h2 => whlGo (fun l h => evE C (run C (n + 1)) (.con (.bl true)) l h) (fun l h => evSs C (run C (n + 1)) rnB l h) m l2 h2
      | .bk l2 h2 => .nx l2 h2
      | r => r) := by
      rw [whlGo]
      rfl
    rw [eu]
    show match (match stepT t with | none => some (t, k) | some u => if most < k + 1 ∨ 400 < u.sz then none else goT most m (k + 1) u) with
      | some (v, j) => (match evSs C (run C (n + 1)) rnB [some t.enc, some (.int most), some (.int k), x] VH.nil with
        | .nx l2 h2 => whlGo (fun l h => evE C (run C (n + 1)) (.con (.bl true)) l h) (fun l h => evSs C (run C (n + 1)) rnB l h) m l2 h2
        | .ct l2 h2 => whlGo (fun l h => evE C (run C (n + 1)) (.con (.bl true)) l h) (fun l h => evSs C (run C (n + 1)) rnB l h) m l2 h2
        | .bk l2 h2 => .nx l2 h2
        | r => r) = .rt (.tup [v.enc, .int j]) VH.nil
      | none => ∃ (j : Nat) (l : Lc), (match evSs C (run C (n + 1)) rnB [some t.enc, some (.int most), some (.int k), x] VH.nil with
        | .nx l2 h2 => whlGo (fun l h => evE C (run C (n + 1)) (.con (.bl true)) l h) (fun l h => evSs C (run C (n + 1)) rnB l h) m l2 h2
        | .ct l2 h2 => whlGo (fun l h => evE C (run C (n + 1)) (.con (.bl true)) l h) (fun l h => evSs C (run C (n + 1)) rnB l h) m l2 h2
        | .bk l2 h2 => .nx l2 h2
        | r => r) = .ex 7 (.int j) l VH.nil
    cases hst : stepT t with
    | none =>
      rw [hst] at e1
      have eb : evSs C (run C (n + 1)) rnB [some t.enc, some (.int most), some (.int k), x] VH.nil = .rt (.tup [t.enc, .int k]) VH.nil := by
        unfold rnB
        rw [ss_nx e1]
        rfl
      rw [eb]
    | some u =>
      rw [hst] at e1
      have hb := step_bd hst
      obtain ⟨h2, es⟩ := size_run u n (by omega)
      have eb1 : evSs C (run C (n + 1)) rnB [some t.enc, some (.int most), some (.int k), x] VH.nil = evSs C (run C (n + 1)) (.cons (.ite (.or (.cmp .gt (.var 2) (.var 1)) (.cmp .gt (.cal true 2 (.cons (.var 0) .nil)) (.con (.int (400))))) (.cons (.rsep 7 (.var 2))
  .nil) .nil) .nil) [some u.enc, some (.int most), some (.int ((k + 1 : Nat) : Int)), some u.enc] VH.nil := by
        unfold rnB
        rw [ss_nx e1]
        rw [ss_nx (l1 := [some t.enc, some (.int most), some (.int k), some u.enc]) (h1 := VH.nil) (by
          simp only [optE, evS, evSs, evE, R.bind, R.thn, List.getElem?_cons_zero, List.getElem?_cons_succ, is_enc])]
        rfl
      rw [eb1]
      have c1 : cmpD .gt (.int ((k + 1 : Nat) : Int)) (.int (most : Int)) VH.nil = some (decide (most < k + 1)) := by
        show some (decide ((most : Int) < ((k + 1 : Nat) : Int))) = _
        congr 1
        rw [decide_eq_decide]
        omega
      have c2 : cmpD .gt (.int (u.sz : Int)) (.int 400) VH.nil = some (decide (400 < u.sz)) := by
        show some (decide ((400 : Int) < (u.sz : Int))) = _
        congr 1
        rw [decide_eq_decide]
        omega
      have es' : run C (n + 1) 2 [u.enc] VH.nil = .ok (.int u.sz) h2 := es
      show match (if most < k + 1 ∨ 400 < u.sz then none else goT most m (k + 1) u) with
        | some (v, j) => _
        | none => _
      by_cases q1 : most < k + 1
      · rw [if_pos (Or.inl q1)]
        rw [decide_eq_true q1] at c1
        refine ⟨k + 1, [some u.enc, some (.int most), some (.int ((k + 1 : Nat) : Int)), some u.enc], ?_⟩
        simp only [evSs, evS, evE, evEs, R.bind, R.thn, List.getElem?_cons_zero, List.getElem?_cons_succ, c1]
      · rw [decide_eq_false q1] at c1
        by_cases q2 : 400 < u.sz
        · rw [if_pos (Or.inr q2)]
          rw [decide_eq_true q2] at c2
          refine ⟨k + 1, [some u.enc, some (.int most), some (.int ((k + 1 : Nat) : Int)), some u.enc], ?_⟩
          simp only [evSs, evS, evE, evEs, R.bind, R.thn, List.getElem?_cons_zero, List.getElem?_cons_succ, c1, pl1, if_true, es', D.plain, c2]
        · rw [if_neg (by omega)]
          rw [decide_eq_false q2] at c2
          have eb2 : evSs C (run C (n + 1)) (.cons (.ite (.or (.cmp .gt (.var 2) (.var 1)) (.cmp .gt (.cal true 2 (.cons (.var 0) .nil)) (.con (.int (400))))) (.cons (.rsep 7 (.var 2))
  .nil) .nil) .nil) [some u.enc, some (.int most), some (.int ((k + 1 : Nat) : Int)), some u.enc] VH.nil = .nx [some u.enc, some (.int most), some (.int ((k + 1 : Nat) : Int)), some u.enc] VH.nil := by
            simp only [evSs, evS, evE, evEs, R.bind, R.thn, List.getElem?_cons_zero, List.getElem?_cons_succ, c1, pl1, if_true, es', D.plain, c2]
          rw [eb2]
          exact rn_loop most n P hP hs m (k + 1) u (some u.enc) (hs k t u hp hst (by omega) (by omega)) (by omega) (by omega)
theorem run_run (most n : Nat) (t : Tm) (P : Nat → Tm → Prop) (hP : ∀ k t, P k t → Fits n t ∧ t.sz ≤ 20000)
    (hs : ∀ k t u, P k t → stepT t = some u → k + 1 ≤ most → u.sz ≤ 400 → P (k + 1) u) (h0 : P 0 t) (hm : most < 90000) :
    match goT most loopFuel 0 t with
    | some (v, j) => run C (n + 2) 7 [t.enc, .int most] VH.nil = .ok (.tup [v.enc, .int j]) VH.nil
    | none => ∃ j : Nat, run C (n + 2) 7 [t.enc, .int most] VH.nil = .ex 7 (.int j) VH.nil := by
  have lp := rn_loop most n P hP hs loopFuel 0 t none h0 (Nat.zero_le _) (by show _ < 100000; omega)
  rw [run_succ (F := ⟨2, 4, b_run_term⟩) rfl rfl]
  rw [show startL (Fn.mk 2 4 b_run_term).ns [t.enc, .int most] = [some t.enc, some (.int most), none, none] from rfl]
  show match goT most loopFuel 0 t with
    | some (v, j) => fin (evSs C (run C (n + 1)) b_run_term [some t.enc, some (.int most), none, none] VH.nil) = .ok (.tup [v.enc, .int j]) VH.nil
    | none => ∃ j : Nat, fin (evSs C (run C (n + 1)) b_run_term [some t.enc, some (.int most), none, none] VH.nil) = .ex 7 (.int j) VH.nil
  unfold b_run_term
  rw [ss_nx (l1 := [some t.enc, some (.int most), some (.int ((0 : Nat) : Int)), none]) (h1 := VH.nil) (by rfl)]
  cases hg : goT most loopFuel 0 t with
  | none =>
    rw [hg] at lp
    obtain ⟨j, l, lp⟩ := lp
    have e2 : evS C (run C (n + 1)) (.whl (.con (.bl true)) rnB) [some t.enc, some (.int most), some (.int ((0 : Nat) : Int)), none] VH.nil = _ := lp
    refine ⟨j, ?_⟩
    rw [ss_ex e2]
    rfl
  | some vj =>
    obtain ⟨v, j⟩ := vj
    rw [hg] at lp
    have e2 : evS C (run C (n + 1)) (.whl (.con (.bl true)) rnB) [some t.enc, some (.int most), some (.int ((0 : Nat) : Int)), none] VH.nil = _ := lp
    show fin _ = _
    rw [ss_rt e2]
    rfl
end K15

namespace K15
open Ev
theorem eq_nm (t : Tm) (s : List Nat) (h : VH) : cmpD .eq t.enc (.str s) h = some (decide (t = .at s)) := eq_at t s h
theorem dec_iff {p q : Prop} [Decidable p] [Decidable q] (h : p ↔ q) : decide p = decide q := by
  rw [decide_eq_decide]; exact h
/-! ### taken_out -/
theorem take_run (x : List Nat) (more : Bool) : ∀ (t : Tm) (n : Nat), t.ht + 1 < n → run C n 9 [t.enc, .str x, .bl more] VH.nil = .ok (takeT more x t).enc VH.nil
  | .at s, n + 2, _ => by
    rw [run_succ (F := ⟨3, 5, b_taken_out⟩) rfl rfl]
    show fin (evSs C (run C (n + 1)) b_taken_out [some (Tm.at s).enc, some (.str x), some (.bl more), none, none] VH.nil) = .ok (if s = x then tI else .ap tK (.at s)).enc VH.nil
    have e := eq_nm (.at s) x VH.nil
    have hr := holds_run x (.at s) (n + 1) (Nat.succ_pos n)
    have hr' : run C (n + 1) 8 [(Tm.at s).enc, .str x] VH.nil = .ok (.bl (decide (Tm.at s = .at x))) VH.nil := hr
    by_cases hs : s = x
    · rw [show decide (Tm.at s = .at x) = true by simp [hs]] at e
      rw [if_pos hs]
      simp only [b_taken_out, evSs, evS, evE, R.bind, R.thn, List.getElem?_cons_zero, List.getElem?_cons_succ, e]
      rfl
    · rw [show decide (Tm.at s = .at x) = false by simp [hs]] at e hr'
      rw [if_neg hs]
      simp only [b_taken_out, evSs, evS, evE, evEs, R.bind, R.thn, List.getElem?_cons_zero, List.getElem?_cons_succ, e, pl2 _ (.str x) rfl, if_true, hr', D.plain, Bool.not_false]
      rfl
  | .ap f a, n + 2, hn => by
    have hn' : max f.ht a.ht + 1 + 1 < n + 2 := hn
    rw [run_succ (F := ⟨3, 5, b_taken_out⟩) rfl rfl]
    show fin (evSs C (run C (n + 1)) b_taken_out [some (Tm.ap f a).enc, some (.str x), some (.bl more), none, none] VH.nil) = _
    have e : cmpD .eq (Tm.ap f a).enc (.str x) VH.nil = some false := by
      rw [eq_nm, show decide (Tm.ap f a = .at x) = false by simp]
    have ea := eq_nm a x VH.nil
    have hr : run C (n + 1) 8 [(Tm.ap f a).enc, .str x] VH.nil = .ok (.bl (holdsT (.ap f a) x)) VH.nil := holds_run x (.ap f a) (n + 1) (by show max f.ht a.ht + 1 < n + 1; omega)
    have hf : run C (n + 1) 8 [f.enc, .str x] VH.nil = .ok (.bl (holdsT f x)) VH.nil := holds_run x f (n + 1) (by omega)
    have ha : run C (n + 1) 8 [a.enc, .str x] VH.nil = .ok (.bl (holdsT a x)) VH.nil := holds_run x a (n + 1) (by omega)
    have tf : run C (n + 1) 9 [f.enc, .str x, .bl more] VH.nil = .ok (takeT more x f).enc VH.nil := take_run x more f (n + 1) (by omega)
    have ta : run C (n + 1) 9 [a.enc, .str x, .bl more] VH.nil = .ok (takeT more x a).enc VH.nil := take_run x more a (n + 1) (by omega)
    have sq : seqOf (Tm.ap f a).enc VH.nil = some [f.enc, a.enc] := rfl
    have e1 : evS C (run C (n + 1)) (.ite (.cmp .eq (.var 0) (.var 1)) (.cons (.ret (.con (.str [73]))) .nil) .nil) [some (Tm.ap f a).enc, some (.str x), some (.bl more), none, none] VH.nil = .nx [some (Tm.ap f a).enc, some (.str x), some (.bl more), none, none] VH.nil := by
      simp only [evSs, evS, evE, R.bind, R.thn, List.getElem?_cons_zero, List.getElem?_cons_succ, e]
    unfold b_taken_out
    rw [ss_nx e1]
    unfold takeT
    cases hh : holdsT (.ap f a) x with
    | false =>
      rw [hh] at hr
      rw [if_pos rfl]
      simp only [evSs, evS, evE, evEs, R.bind, R.thn, List.getElem?_cons_zero, List.getElem?_cons_succ, pl2 _ (.str x) rfl, if_true, hr, D.plain, Bool.not_false]
      rfl
    | true =>
      rw [hh] at hr
      rw [if_neg (by decide)]
      have e2 : evS C (run C (n + 1)) (.ite (.not (.cal true 8 (.cons (.var 0) (.cons (.var 1) .nil)))) (.cons (.ret (.tup (.cons (.con (.str [75])) (.cons (.var 0) .nil)))) .nil) .nil) [some (Tm.ap f a).enc, some (.str x), some (.bl more), none, none] VH.nil = .nx [some (Tm.ap f a).enc, some (.str x), some (.bl more), none, none] VH.nil := by
        simp only [evSs, evS, evE, evEs, R.bind, R.thn, List.getElem?_cons_zero, List.getElem?_cons_succ, pl2 _ (.str x) rfl, if_true, hr, D.plain, Bool.not_true]
      rw [ss_nx e2]
      rw [ss_nx (l1 := [some (Tm.ap f a).enc, some (.str x), some (.bl more), some f.enc, some a.enc]) (h1 := VH.nil) (by rfl)]
      cases more with
      | false =>
        rw [if_neg (by simp), if_neg (by simp), if_neg (by simp)]
        simp only [evSs, evS, evE, evEs, R.bind, R.thn, List.getElem?_cons_zero, List.getElem?_cons_succ, pl3 _ (.str x) (.bl false) rfl rfl, if_true, tf, ta, enc_plain]
        rfl
      | true =>
        cases hq : holdsT f x with
        | true =>
          rw [hq] at hf
          rw [if_neg (by simp), if_neg (by simp)]
          cases hp : holdsT a x with
          | true =>
            rw [hp] at ha
            rw [if_neg (by simp)]
            cases hd : decide (a = .at x) <;> rw [hd] at ea <;>
            · simp only [evSs, evS, evE, evEs, R.bind, R.thn, List.getElem?_cons_zero, List.getElem?_cons_succ, ea, pl3 _ (.str x) (.bl true) rfl rfl, pl2 _ (.str x) rfl, if_true, hf, ha, tf, ta, enc_plain, D.plain, Bool.not_true]
              rfl
          | false =>
            rw [hp] at ha
            rw [if_pos (by simp)]
            cases hd : decide (a = .at x) <;> rw [hd] at ea <;>
            · simp only [evSs, evS, evE, evEs, R.bind, R.thn, List.getElem?_cons_zero, List.getElem?_cons_succ, ea, pl3 _ (.str x) (.bl true) rfl rfl, pl2 _ (.str x) rfl, if_true, hf, ha, tf, ta, enc_plain, D.plain, Bool.not_true, Bool.not_false]
              rfl
        | false =>
          rw [hq] at hf
          by_cases hd : a = .at x
          · rw [decide_eq_true hd] at ea
            rw [if_pos ⟨rfl, hd, rfl⟩]
            simp only [evSs, evS, evE, evEs, R.bind, R.thn, List.getElem?_cons_zero, List.getElem?_cons_succ, ea, pl2 _ (.str x) rfl, if_true, hf, D.plain, Bool.not_false, fin]
          · rw [decide_eq_false hd] at ea
            rw [if_neg (by simp [hd]), if_pos ⟨rfl, rfl⟩]
            simp only [evSs, evS, evE, evEs, R.bind, R.thn, List.getElem?_cons_zero, List.getElem?_cons_succ, ea, pl3 _ (.str x) (.bl true) rfl rfl, pl2 _ (.str x) rfl, if_true, hf, ta, enc_plain, D.plain, Bool.not_false]
            rfl
theorem it_end {cu : Cu} {g : D → Lc → VH → Q} {b : Lc → VH → Q} {m i : Nat} {l : Lc} {h : VH} (e : cu.next i h = some none) : itGo cu g b (m + 1) i l h = .nx l h := by
  rw [itGo, e]
theorem it_nx {cu : Cu} {g : D → Lc → VH → Q} {b : Lc → VH → Q} {m i : Nat} {l l1 l2 : Lc} {h h1 h2 : VH} {x : D} (e : cu.next i h = some (some x)) (eg : g x l h = .nx l1 h1) (eb : b l1 h1 = .nx l2 h2) : itGo cu g b (m + 1) i l h = itGo cu g b m (i + 1) l2 h2 := by
  rw [itGo, e]
  show (match g x l h with
      | .nx l1 h1 => match b l1 h1 with
        | .nx l2 h2 => itGo cu g b m (i + 1) l2 h2
        | .ct l2 h2 => itGo cu g b m (i + 1) l2 h2
        | .bk l2 h2 => .nx l2 h2
        | r => r
      | .ex c p l1 h1 => .ex c p l1 h1
      | _ => .no) = _
  rw [eg]
  show (match b l1 h1 with
        | .nx l2 h2 => itGo cu g b m (i + 1) l2 h2
        | .ct l2 h2 => itGo cu g b m (i + 1) l2 h2
        | .bk l2 h2 => .nx l2 h2
        | r => r) = _
  rw [eb]
theorem it_rt {cu : Cu} {g : D → Lc → VH → Q} {b : Lc → VH → Q} {m i : Nat} {l l1 : Lc} {h h1 h2 : VH} {x d : D} (e : cu.next i h = some (some x)) (eg : g x l h = .nx l1 h1) (eb : b l1 h1 = .rt d h2) : itGo cu g b (m + 1) i l h = .rt d h2 := by
  rw [itGo, e]
  show (match g x l h with
      | .nx l1 h1 => match b l1 h1 with
        | .nx l2 h2 => itGo cu g b m (i + 1) l2 h2
        | .ct l2 h2 => itGo cu g b m (i + 1) l2 h2
        | .bk l2 h2 => .nx l2 h2
        | r => r
      | .ex c p l1 h1 => .ex c p l1 h1
      | _ => .no) = _
  rw [eg]
  show (match b l1 h1 with
        | .nx l2 h2 => itGo cu g b m (i + 1) l2 h2
        | .ct l2 h2 => itGo cu g b m (i + 1) l2 h2
        | .bk l2 h2 => .nx l2 h2
        | r => r) = _
  rw [eb]
/-! ### function, one name -/
theorem func_run (x : List Nat) (more : Bool) (t : Tm) (n : Nat) (hn : t.ht + 1 < n) : run C (n + 1) 10 [.tup [.str x], t.enc, .bl more] VH.nil = .ok (takeT more x t).enc VH.nil := by
  rw [run_succ (F := ⟨3, 4, b_function⟩) rfl rfl]
  show fin (evSs C (run C n) b_function [some (.tup [.str x]), some t.enc, some (.bl more), none] VH.nil) = _
  have tr := take_run x more t n hn
  unfold b_function
  have ei : evI C (run C n) (.rev (.var 0)) [some (.tup [.str x]), some t.enc, some (.bl more), none] VH.nil = .ok (.fix [.str x]) VH.nil := rfl
  rw [ss_nx (l1 := [some (.tup [.str x]), some (takeT more x t).enc, some (.bl more), some (.str x)]) (h1 := VH.nil) (by
    rw [s_for ei]
    have eb : evSs C (run C n) (.cons (.set (.nam 1) (.cal true 9 (.cons (.var 1) (.cons (.var 3) (.cons (.var 2) .nil))))) .nil) [some (.tup [.str x]), some t.enc, some (.bl more), some (.str x)] VH.nil = .nx [some (.tup [.str x]), some (takeT more x t).enc, some (.bl more), some (.str x)] VH.nil := by
      simp only [evSs, evS, evE, evEs, R.bind, R.thn, evG, List.getElem?_cons_zero, List.getElem?_cons_succ, pl3 _ (.str x) (.bl more) rfl rfl, if_true, tr, enc_plain, List.set_cons_zero, List.set_cons_succ]
    exact (it_nx (m := 99999) rfl rfl eb).trans (it_end (m := 99998) rfl))]
  rfl
end K15

namespace K15
open Ev
abbrev sH (st : List D) : VH := VH.nil.new (.lst st)
theorem sH_get (st : List D) : (sH st).get 0 = some (.lst st) := rfl
theorem place_last (n : Nat) : atPlace (n + 1) (-1) = some n := by
  unfold atPlace
  rw [if_neg (by decide), if_pos (by omega)]
  congr 1
  omega
theorem idx_last (st : List D) (d : D) : idxD (.ref 0) (.int (-1)) (sH (st ++ [d])) = some d := by
  show (atPlace (st ++ [d]).length (-1)).bind (fun j => (st ++ [d])[j]?) = some d
  rw [List.length_append]
  show (atPlace (st.length + 1) (-1)).bind (fun j => (st ++ [d])[j]?) = some d
  rw [place_last]
  show (st ++ [d])[st.length]? = some d
  simp
theorem set_last (st : List D) (d v : D) : setAtD (.ref 0) (.int (-1)) v (sH (st ++ [d])) = some (sH (st ++ [v])) := by
  show (atPlace (st ++ [d]).length (-1)).map (fun k => (sH (st ++ [d])).set 0 (.lst ((st ++ [d]).set k v))) = _
  rw [List.length_append]
  show (atPlace (st.length + 1) (-1)).map (fun k => (sH (st ++ [d])).set 0 (.lst ((st ++ [d]).set k v))) = _
  rw [place_last]
  show some (sH ((st ++ [d]).set st.length v)) = _
  rw [List.set_append_right _ _ (Nat.le_refl _), Nat.sub_self]
  rfl
/-- a sign that may stand -/
def goodC (c : Nat) : Bool := (needT [c]).isSome || (decide (97 ≤ c) && decide (c ≤ 122))
def okT : Tm → Bool
  | .at [c] => goodC c
  | .at _ => false
  | .ap f a => okT f && okT a
def join (d x : D) : D := if d.isNon then x else .tup [d, x]
abbrev rdB : Ss := (.cons (.ite (.cmp .eq (.var 3) (.con (.str [32]))) (.cons .cnt
  .nil) .nil)
  (.cons (.ite (.cmp .eq (.var 3) (.con (.str [40]))) (.cons (.ite (.cmp .gt (.blt .len (.cons (.var 1) .nil)) (.con (.int (60)))) (.cons (.rsep 5 (.var 2))
  .nil) .nil)
  (.cons (.exp (.mth .append (.var 1) (.cons (.con .non) .nil)))
  (.cons .cnt
  .nil))) .nil)
  (.cons (.ite (.cmp .eq (.var 3) (.con (.str [41]))) (.cons (.ite (.or (.cmp .lt (.blt .len (.cons (.var 1) .nil)) (.con (.int (2)))) (.cmp .is (.idx (.var 1) (.neg (.con (.int (1))))) (.con .non))) (.cons (.rsep 5 (.var 2))
  .nil) .nil)
  (.cons (.set (.nam 4) (.mth .pop (.var 1) .nil))
  .nil)) (.cons (.ite (.or (.kin 0 (.var 3)) (.chn .le .le (.con (.str [97])) (.var 3) (.con (.str [122])))) (.cons (.set (.nam 4) (.var 3))
  .nil) (.cons (.rsep 5 (.var 2))
  .nil))
  .nil))
  (.cons (.set (.idx (.var 1) (.neg (.con (.int (1))))) (.ifx (.cmp .is (.idx (.var 1) (.neg (.con (.int (1))))) (.con .non)) (.var 4) (.tup (.cons (.idx (.var 1) (.neg (.con (.int (1))))) (.cons (.var 4) .nil)))))
  .nil))))
theorem is_non (d : D) (hd : d.isNon = true ∨ d.plain = true) (h : VH) : cmpD .is d .non h = some d.isNon := by
  cases d <;> rfl
theorem last_set (call : Call) (st : List D) (d v : D) (d0 d2 d3 : Option D) : evS C call (.set (.idx (.var 1) (.neg (.con (.int (1))))) (.ifx (.cmp .is (.idx (.var 1) (.neg (.con (.int (1))))) (.con .non)) (.var 4) (.tup (.cons (.idx (.var 1) (.neg (.con (.int (1))))) (.cons (.var 4) .nil))))) [d0, some (.ref 0), d2, d3, some v] (sH (st ++ [d])) = .nx [d0, some (.ref 0), d2, d3, some v] (sH (st ++ [join d v])) := by
  have i := idx_last st d
  have c : cmpD .is d .non (sH (st ++ [d])) = some d.isNon := by cases d <;> rfl
  unfold join
  cases hd : d.isNon with
  | true =>
    rw [hd] at c
    have s := set_last st d v
    simp only [evS, evE, evEs, R.bind, R.thn, evG, List.getElem?_cons_zero, List.getElem?_cons_succ, i, c, s, if_true]
  | false =>
    rw [hd] at c
    have s := set_last st d (.tup [d, v])
    simp only [evS, evE, evEs, R.bind, R.thn, evG, List.getElem?_cons_zero, List.getElem?_cons_succ, i, c, s, Bool.false_eq_true, if_false]
theorem eqc (c b : Nat) (h : VH) : cmpD .eq (.str [c]) (.str [b]) h = some (decide (c = b)) := by
  have := eq_at (.at [c]) [b] h
  rw [show decide (Tm.at [c] = .at [b]) = decide (c = b) by simp] at this
  exact this
theorem kin_need (call : Call) (c : Nat) (l : Lc) (h : VH) (e : E) (he : evE C call e l h = .ok (.str [c]) h) : evE C call (.kin 0 e) l h = .ok (.bl (needT [c]).isSome) h := by
  have hk : ((([([83], (.int (3))), ([75], (.int (2))), ([73], (.int (1))), ([66], (.int (3))), ([67], (.int (3)))] : List (List Nat × D)).lookup [c])).isSome = (needT [c]).isSome := by
    unfold needT
    simp only [List.lookup]
    by_cases q1 : c = 83
    · subst q1; rfl
    · have r1 : ([c] == [83]) = false := by simpa using q1
      rw [if_neg (by simpa using q1), r1]
      by_cases q2 : c = 75
      · subst q2; rfl
      · have r2 : ([c] == [75]) = false := by simpa using q2
        rw [if_neg (by simpa using q2)]
        simp only [r2]
        by_cases q3 : c = 73
        · subst q3; rfl
        · have r3 : ([c] == [73]) = false := by simpa using q3
          rw [if_neg (by simpa using q3)]
          simp only [r3]
          by_cases q4 : c = 66
          · subst q4; rfl
          · have r4 : ([c] == [66]) = false := by simpa using q4
            rw [if_neg (by simpa using q4)]
            simp only [r4]
            by_cases q5 : c = 67
            · subst q5; rfl
            · have r5 : ([c] == [67]) = false := by simpa using q5
              rw [if_neg (by simpa using q5)]
              simp only [r5]
              rfl
  simp only [evE, he, R.bind]
  exact congrArg (fun d => R.ok (D.bl d) h) hk
theorem need_c {c : Nat} (h : (needT [c]).isSome = true) : c = 83 ∨ c = 75 ∨ c = 73 ∨ c = 66 ∨ c = 67 := by
  unfold needT at h
  repeat' split at h
  all_goals first | (cases h; done) | skip
  all_goals
    rename_i hs
    simp at hs
    omega
theorem letter (call : Call) (st : List D) (d : D) (c : Nat) (hc : goodC c = true) (d0 d2 d4 : Option D) : evSs C call rdB [d0, some (.ref 0), d2, some (.str [c]), d4] (sH (st ++ [d])) = .nx [d0, some (.ref 0), d2, some (.str [c]), some (.str [c])] (sH (st ++ [join d (.str [c])])) := by
  have hr : c = 83 ∨ c = 75 ∨ c = 73 ∨ c = 66 ∨ c = 67 ∨ (97 ≤ c ∧ c ≤ 122) := by
    unfold goodC at hc
    rw [Bool.or_eq_true] at hc
    cases hc with
    | inl h => rcases need_c h with h | h | h | h | h <;> simp [h]
    | inr h =>
      simp at h
      omega
  have q1 : decide (c = 32) = false := by simp; omega
  have q2 : decide (c = 40) = false := by simp; omega
  have q3 : decide (c = 41) = false := by simp; omega
  have hk := kin_need call c [d0, some (.ref 0), d2, some (.str [c]), d4] (sH (st ++ [d])) (.var 3) rfl
  have e4 : evS C call (.ite (.or (.kin 0 (.var 3)) (.chn .le .le (.con (.str [97])) (.var 3) (.con (.str [122])))) (.cons (.set (.nam 4) (.var 3))
  .nil) (.cons (.rsep 5 (.var 2))
  .nil)) [d0, some (.ref 0), d2, some (.str [c]), d4] (sH (st ++ [d])) = .nx [d0, some (.ref 0), d2, some (.str [c]), some (.str [c])] (sH (st ++ [d])) := by
    have eo : evE C call (.or (.kin 0 (.var 3)) (.chn .le .le (.con (.str [97])) (.var 3) (.con (.str [122])))) [d0, some (.ref 0), d2, some (.str [c]), d4] (sH (st ++ [d])) = .ok (.bl true) (sH (st ++ [d])) := by
      rw [evE, hk]
      cases hn : (needT [c]).isSome with
      | true => rfl
      | false =>
        have h2 : 97 ≤ c ∧ c ≤ 122 := by
          unfold goodC at hc
          rw [hn] at hc
          simpa using hc
        have c1 : cmpD .le (.str [97]) (.str [c]) (sH (st ++ [d])) = some true := by
          show some (!(decide (c < 97) || (c == 97 && false))) = _
          rw [decide_eq_false (by omega)]
          simp
        have c2 : cmpD .le (.str [c]) (.str [122]) (sH (st ++ [d])) = some true := by
          show some (!(decide (122 < c) || ((122 : Nat) == c && false))) = _
          rw [decide_eq_false (by omega)]
          simp
        simp only [evE, R.bind, List.getElem?_cons_zero, List.getElem?_cons_succ, c1, c2]
    rw [evS, eo]
    rfl
  unfold rdB
  rw [ss_nx (l1 := [d0, some (.ref 0), d2, some (.str [c]), d4]) (h1 := sH (st ++ [d])) (by simp only [evSs, evS, evE, R.bind, R.thn, List.getElem?_cons_zero, List.getElem?_cons_succ, eqc, q1])]
  rw [ss_nx (l1 := [d0, some (.ref 0), d2, some (.str [c]), d4]) (h1 := sH (st ++ [d])) (by simp only [evSs, evS, evE, R.bind, R.thn, List.getElem?_cons_zero, List.getElem?_cons_succ, eqc, q2])]
  rw [ss_nx (l1 := [d0, some (.ref 0), d2, some (.str [c]), some (.str [c])]) (h1 := sH (st ++ [d])) (by
    rw [evS]
    simp only [evE, R.bind, R.thn, List.getElem?_cons_zero, List.getElem?_cons_succ, eqc, q3]
    rw [ss_nx e4]
    rfl)]
  rw [ss_nx (last_set call st d (.str [c]) d0 d2 (some (.str [c])))]
  rfl
theorem len_st (st : List D) : bltD .len [.ref 0] (sH st) = .ok (.int st.length) (sH st) := rfl
theorem openp (call : Call) (st : List D) (d0 d2 d4 : Option D) (hl : st.length ≤ 60) : evSs C call rdB [d0, some (.ref 0), d2, some (.str [40]), d4] (sH st) = .ct [d0, some (.ref 0), d2, some (.str [40]), d4] (sH (st ++ [.non])) := by
  have c1 : cmpD .gt (.int (st.length : Int)) (.int 60) (sH st) = some false := by
    show some (decide ((60 : Int) < (st.length : Int))) = _
    rw [decide_eq_false (by omega)]
  have ap : mthD .append (.ref 0) [.non] (sH st) = .ok .non (sH (st ++ [.non])) := append_new VH.nil st .non (by omega)
  have rc : rcvD .append (.ref 0) (sH st) = true := rfl
  have q1 : decide ((40 : Nat) = 32) = false := by decide
  simp only [rdB, evSs, evS, evE, evEs, R.bind, R.thn, List.getElem?_cons_zero, List.getElem?_cons_succ, eqc, q1, decide_true, len_st, c1, rc, if_true, ap]
theorem closep (call : Call) (st : List D) (d x : D) (hx : x.isNon = false) (d0 d2 d4 : Option D) : evSs C call rdB [d0, some (.ref 0), d2, some (.str [41]), d4] (sH ((st ++ [d]) ++ [x])) = .nx [d0, some (.ref 0), d2, some (.str [41]), some x] (sH (st ++ [join d x])) := by
  have c1 : cmpD .lt (.int (((st ++ [d]) ++ [x]).length : Int)) (.int 2) (sH ((st ++ [d]) ++ [x])) = some false := by
    show some (decide ((((st ++ [d]) ++ [x]).length : Int) < 2)) = _
    rw [decide_eq_false (by simp; omega)]
  have c2 : cmpD .is x .non (sH ((st ++ [d]) ++ [x])) = some false := by
    cases x <;> first | (cases hx; done) | rfl
  have i := idx_last (st ++ [d]) x
  have pp : mthD .pop (.ref 0) [] (sH ((st ++ [d]) ++ [x])) = .ok x (sH (st ++ [d])) := by
    show (match ((st ++ [d]) ++ [x]).getLast? with | some y => R.ok y ((sH ((st ++ [d]) ++ [x])).set 0 (.lst ((st ++ [d]) ++ [x]).dropLast)) | none => .no) = _
    rw [List.getLast?_concat, List.dropLast_concat]
    rfl
  have rc : rcvD .pop (.ref 0) (sH ((st ++ [d]) ++ [x])) = true := rfl
  have q1 : decide ((41 : Nat) = 32) = false := by decide
  have q2 : decide ((41 : Nat) = 40) = false := by decide
  unfold rdB
  rw [ss_nx (l1 := [d0, some (.ref 0), d2, some (.str [41]), d4]) (h1 := sH ((st ++ [d]) ++ [x])) (by simp only [evSs, evS, evE, R.bind, R.thn, List.getElem?_cons_zero, List.getElem?_cons_succ, eqc, q1])]
  rw [ss_nx (l1 := [d0, some (.ref 0), d2, some (.str [41]), d4]) (h1 := sH ((st ++ [d]) ++ [x])) (by simp only [evSs, evS, evE, R.bind, R.thn, List.getElem?_cons_zero, List.getElem?_cons_succ, eqc, q2])]
  rw [ss_nx (l1 := [d0, some (.ref 0), d2, some (.str [41]), some x]) (h1 := sH (st ++ [d])) (by
    simp only [evSs, evS, evE, evEs, evG, R.bind, R.thn, List.getElem?_cons_zero, List.getElem?_cons_succ, eqc, decide_true, len_st, c1, i, c2, rc, if_true, pp, List.set_cons_zero, List.set_cons_succ])]
  rw [ss_nx (last_set call st d x d0 d2 (some (.str [41])))]
  rfl
theorem it_ct {cu : Cu} {g : D → Lc → VH → Q} {b : Lc → VH → Q} {m i : Nat} {l l1 l2 : Lc} {h h1 h2 : VH} {x : D} (e : cu.next i h = some (some x)) (eg : g x l h = .nx l1 h1) (eb : b l1 h1 = .ct l2 h2) : itGo cu g b (m + 1) i l h = itGo cu g b m (i + 1) l2 h2 := by
  rw [itGo, e]
  show (match g x l h with
      | .nx l1 h1 => match b l1 h1 with
        | .nx l2 h2 => itGo cu g b m (i + 1) l2 h2
        | .ct l2 h2 => itGo cu g b m (i + 1) l2 h2
        | .bk l2 h2 => .nx l2 h2
        | r => r
      | .ex c p l1 h1 => .ex c p l1 h1
      | _ => .no) = _
  rw [eg]
  show (match b l1 h1 with
        | .nx l2 h2 => itGo cu g b m (i + 1) l2 h2
        | .ct l2 h2 => itGo cu g b m (i + 1) l2 h2
        | .bk l2 h2 => .nx l2 h2
        | r => r) = _
  rw [eb]
theorem en_next {s post : List Nat} {i c : Nat} {h : VH} (e : s.drop i = c :: post) : Cu.next (.enS s) i h = some (some (.tup [.int (i : Nat), .str [c]])) := by
  show some (s[i]?.map fun c => D.tup [.int (i : Nat), .str [c]]) = _
  have : s[i]? = some c := by
    rw [← List.head?_drop, e]; rfl
  rw [this]
  rfl
theorem drop_next {s post : List Nat} {i c : Nat} (e : s.drop i = c :: post) : s.drop (i + 1) = post := by
  rw [← List.drop_drop, e]; rfl
theorem read_atom (call : Call) (s : List Nat) (d0 : Option D) (c : Nat) (hc : goodC c = true) (m i : Nat) (st : List D) (d : D) (post : List Nat) (x2 x3 x4 : Option D) (e : s.drop i = c :: post) :
    ∃ y2 y3 y4, itGo (.enS s) (fun x l h => evG C call (.tup [2, 3]) x l h) (fun l h => evSs C call rdB l h) (m + 1) i [d0, some (.ref 0), x2, x3, x4] (sH (st ++ [d])) = itGo (.enS s) (fun x l h => evG C call (.tup [2, 3]) x l h) (fun l h => evSs C call rdB l h) m (i + 1) [d0, some (.ref 0), y2, y3, y4] (sH (st ++ [join d (.str [c])])) :=
  ⟨_, _, _, it_nx (en_next e) rfl (letter call st d c hc d0 (some (.int (i : Nat))) x4)⟩
theorem read_loop (call : Call) (s : List Nat) (d0 : Option D) : ∀ (t : Tm) (m i : Nat) (st : List D) (post : List Nat) (x2 x3 x4 : Option D), okT t = true → s.drop i = told t ++ post → st.length + t.ht ≤ 59 →
    ∃ y2 y3 y4, itGo (.enS s) (fun x l h => evG C call (.tup [2, 3]) x l h) (fun l h => evSs C call rdB l h) (m + (told t).length) i [d0, some (.ref 0), x2, x3, x4] (sH (st ++ [.non])) = itGo (.enS s) (fun x l h => evG C call (.tup [2, 3]) x l h) (fun l h => evSs C call rdB l h) m (i + (told t).length) [d0, some (.ref 0), y2, y3, y4] (sH (st ++ [t.enc])) ∧ s.drop (i + (told t).length) = post
  | .at [], m, i, st, post, x2, x3, x4, ho, e, hl => by cases ho
  | .at (c :: c2 :: r), m, i, st, post, x2, x3, x4, ho, e, hl => by cases ho
  | .at [c], m, i, st, post, x2, x3, x4, ho, e, hl => by
    obtain ⟨y2, y3, y4, h⟩ := read_atom call s d0 c ho m i st .non post x2 x3 x4 e
    exact ⟨y2, y3, y4, h, drop_next e⟩
  | .ap f a, m, i, st, post, x2, x3, x4, ho, e, hl => by
    have ho' : (okT f && okT a) = true := ho
    rw [Bool.and_eq_true] at ho'
    have hl' : st.length + (max f.ht a.ht + 1) ≤ 59 := hl
    have hfn : f.enc.isNon = false := by cases f <;> rfl
    have han : a.enc.isNon = false := by cases a <;> rfl
    have hj : join f.enc a.enc = (Tm.ap f a).enc := by unfold join; rw [hfn]; rfl
    cases hat : isAt a with
    | true =>
      have et : told (.ap f a) = told f ++ told a := by
        show told f ++ (if isAt a = true then _ else _) = _
        rw [if_pos hat]
      rw [et, List.append_assoc] at e
      match a, hat, ho'.2 with
      | .at [c], _, hc =>
        obtain ⟨y2, y3, y4, h1, e1⟩ := read_loop call s d0 f (m + 1) i st (c :: post) x2 x3 x4 ho'.1 e (by omega)
        obtain ⟨z2, z3, z4, h2⟩ := read_atom call s d0 c hc m (i + (told f).length) st f.enc post y2 y3 y4 e1
        refine ⟨z2, z3, z4, ?_, ?_⟩
        · rw [et, List.length_append]
          show itGo _ _ _ (m + ((told f).length + 1)) i _ _ = itGo _ _ _ m (i + ((told f).length + 1)) _ _
          rw [show m + ((told f).length + 1) = m + 1 + (told f).length by omega, h1, h2]
          rw [show i + ((told f).length + 1) = i + (told f).length + 1 by omega, ← hj]
          rfl
        · rw [et, List.length_append]
          show s.drop (i + ((told f).length + 1)) = post
          rw [← Nat.add_assoc]
          exact drop_next e1
      | .at [], _, hc => cases hc
      | .at (c :: c2 :: r), _, hc => cases hc
    | false =>
      have et : told (.ap f a) = told f ++ (([40] ++ told a) ++ [41]) := by
        show told f ++ (if isAt a = true then _ else _) = _
        rw [if_neg (by rw [hat]; decide)]
      have e' : s.drop i = told f ++ (40 :: (told a ++ (41 :: post))) := by
        rw [e, et]; simp
      obtain ⟨y2, y3, y4, h1, e1⟩ := read_loop call s d0 f (m + 1 + (told a).length + 1) i st (40 :: (told a ++ (41 :: post))) x2 x3 x4 ho'.1 e' (by omega)
      have h2 := it_ct (m := m + 1 + (told a).length) (l := [d0, some (.ref 0), y2, y3, y4]) (g := fun x l h => evG C call (.tup [2, 3]) x l h) (b := fun l h => evSs C call rdB l h) (en_next (h := sH (st ++ [f.enc])) e1) rfl (openp call (st ++ [f.enc]) d0 (some (.int ((i + (told f).length : Nat) : Int))) y4 (by simp; omega))
      have e2 := drop_next e1
      obtain ⟨z2, z3, z4, h3, e3⟩ := read_loop call s d0 a (m + 1) (i + (told f).length + 1) (st ++ [f.enc]) (41 :: post) (some (.int ((i + (told f).length : Nat) : Int))) (some (.str [40])) y4 ho'.2 e2 (by simp; omega)
      have h4 := it_nx (m := m) (l := [d0, some (.ref 0), z2, z3, z4]) (g := fun x l h => evG C call (.tup [2, 3]) x l h) (b := fun l h => evSs C call rdB l h) (en_next (h := sH ((st ++ [f.enc]) ++ [a.enc])) e3) rfl (closep call st f.enc a.enc han d0 (some (.int ((i + (told f).length + 1 + (told a).length : Nat) : Int))) z4)
      rw [hj] at h4
      have el : (told (.ap f a)).length = (told f).length + 1 + (told a).length + 1 := by
        rw [et]; simp; omega
      refine ⟨some (.int ((i + (told f).length + 1 + (told a).length : Nat) : Int)), some (.str [41]), some a.enc, ?_, ?_⟩
      · rw [el]
        rw [show m + ((told f).length + 1 + (told a).length + 1) = m + 1 + (told a).length + 1 + (told f).length by omega, h1, h2, h3, h4]
        rw [show i + ((told f).length + 1 + (told a).length + 1) = i + (told f).length + 1 + (told a).length + 1 by omega]
      · rw [el, show i + ((told f).length + 1 + (told a).length + 1) = i + (told f).length + 1 + (told a).length + 1 by omega]
        exact drop_next e3
theorem read_run (t : Tm) (n : Nat) (ho : okT t = true) (hh : t.ht ≤ 59) (hl : (told t).length ≤ 400) : ∃ h', run C (n + 1) 0 [.str (told t)] VH.nil = .ok t.enc h' := by
  rw [run_succ (F := ⟨1, 5, b_read_term⟩) rfl rfl]
  show ∃ h', fin (evSs C (run C n) b_read_term [some (.str (told t)), none, none, none, none] VH.nil) = _
  have ln : bltD .len [.str (told t)] VH.nil = .ok (.int (told t).length) VH.nil := by
    show (if (told t).length ≤ 100000 then _ else _) = _
    rw [if_pos (by omega)]
  have c1 : cmpD .gt (.int ((told t).length : Int)) (.int 400) VH.nil = some false := by
    show some (decide ((400 : Int) < ((told t).length : Int))) = _
    rw [decide_eq_false (by omega)]
  obtain ⟨y2, y3, y4, e, e2⟩ := read_loop (run C n) (told t) (some (.str (told t))) t (99999 - (told t).length + 1) 0 [] [] none none none ho (by simp) (by show 0 + t.ht ≤ 59; omega)
  have hlf : 99999 - (told t).length + 1 + (told t).length = loopFuel := by show _ = 100000; omega
  rw [hlf] at e
  have en : Cu.next (.enS (told t)) (0 + (told t).length) (sH ([] ++ [t.enc])) = some none := by
    show some ((told t)[0 + (told t).length]?.map _) = _
    rw [List.getElem?_eq_none (by omega)]
    rfl
  rw [it_end en] at e
  unfold b_read_term
  rw [ss_nx (l1 := [some (.str (told t)), none, none, none, none]) (h1 := VH.nil) (by
    simp only [evSs, evS, evE, evEs, R.bind, R.thn, List.getElem?_cons_zero, ln, c1])]
  rw [ss_nx (l1 := [some (.str (told t)), some (.ref 0), none, none, none]) (h1 := sH [.non]) (by rfl)]
  have e3 : evS C (run C n) (.for_ (.tup [2, 3]) (.enum (.var 0)) rdB) [some (.str (told t)), some (.ref 0), none, none, none] (sH [.non]) = .nx [some (.str (told t)), some (.ref 0), y2, y3, y4] (sH [t.enc]) := by
    rw [s_for (cu := .enS (told t)) (h1 := sH [.non]) rfl]
    exact e
  rw [ss_nx e3]
  refine ⟨sH [t.enc], ?_⟩
  have i0 : idxD (.ref 0) (.int 0) (sH [t.enc]) = some t.enc := rfl
  have c2 : cmpD .ne (.int (([t.enc] : List D).length : Int)) (.int 1) (sH [t.enc]) = some false := rfl
  simp only [evSs, evS, evE, evEs, R.bind, R.thn, List.getElem?_cons_zero, List.getElem?_cons_succ, len_st, c2, i0, is_enc, fin]
end K15

namespace K15
open Ev
theorem rd_i (n : Nat) : ∃ h', run C (n + 1) 0 [.str [83, 75, 75]] VH.nil = .ok iT.enc h' := read_run iT n (by decide) (by decide) (by decide)
theorem rd_b (n : Nat) : ∃ h', run C (n + 1) 0 [.str [83, 40, 75, 83, 41, 75]] VH.nil = .ok bT.enc h' := read_run bT n (by decide) (by decide) (by decide)
theorem rd_c (n : Nat) : ∃ h', run C (n + 1) 0 [.str [83, 40, 83, 40, 75, 40, 83, 40, 75, 83, 41, 75, 41, 41, 83, 41, 40, 75, 75, 41]] VH.nil = .ok cT.enc h' := read_run cT n (by decide) (by decide) (by decide)
abbrev twTab : List (Ky × D) := [(.str [73], iT.enc), (.str [66], bT.enc), (.str [67], cT.enc)]
theorem two_lookup (s : List Nat) : (twTab.lookup (.str s)).getD (.str s) = (twoA s).enc := by
  unfold twoA twTab
  simp only [List.lookup]
  by_cases q1 : s = sI
  · subst q1; rfl
  · have r1 : ((Ky.str s) == .str [73]) = false := by simpa using q1
    rw [if_neg q1, r1]
    by_cases q2 : s = sB
    · subst q2; rfl
    · have r2 : ((Ky.str s) == .str [66]) = false := by simpa using q2
      rw [if_neg q2]
      simp only [r2]
      by_cases q3 : s = sC
      · subst q3; rfl
      · have r3 : ((Ky.str s) == .str [67]) = false := by simpa using q3
        rw [if_neg q3]
        simp only [r3]
        rfl
theorem two_tab (n : Nat) (x : D) : evS C (run C (n + 1)) (.set (.nam 1) (.dct (.cons (.con (.str [73])) (.cons (.cal true 0 (.cons (.con (.str [83, 75, 75])) .nil)) (.cons (.con (.str [66])) (.cons (.cal true 0 (.cons (.con (.str [83, 40, 75, 83, 41, 75])) .nil)) (.cons (.con (.str [67])) (.cons (.cal true 0 (.cons (.con (.str [83, 40, 83, 40, 75, 40, 83, 40, 75, 83, 41, 75, 41, 41, 83, 41, 40, 75, 75, 41])) .nil)) .nil)))))))) [some x, none] VH.nil = .nx [some x, some (.ref 0)] (VH.nil.new (.dct twTab)) := by
  obtain ⟨h1, e1⟩ := rd_i n
  obtain ⟨h2, e2⟩ := rd_b n
  obtain ⟨h3, e3⟩ := rd_c n
  have p : ∀ s : List Nat, plains [.str s] = true := fun s => rfl
  simp only [evS, evE, evEs, R.bind, R.thn, p, if_true, e1, e2, e3, enc_plain]
  rfl
theorem two_run : ∀ (t : Tm) (n : Nat), t.ht + 1 < n → ∃ h', run C n 21 [t.enc] VH.nil = .ok (twoT t).enc h'
  | .at s, n + 2, _ => by
    rw [run_succ (F := ⟨1, 2, b_by_two⟩) rfl rfl]
    show ∃ h', fin (evSs C (run C (n + 1)) b_by_two [some (.str s), none] VH.nil) = _
    unfold b_by_two
    rw [ss_nx (two_tab n (.str s))]
    refine ⟨VH.nil.new (.dct twTab), ?_⟩
    rw [ss_rt (d := (twTab.lookup (.str s)).getD (.str s)) (h1 := VH.nil.new (.dct twTab)) (by rfl)]
    show R.ok ((twTab.lookup (.str s)).getD (.str s)) (VH.nil.new (.dct twTab)) = .ok (twoA s).enc _
    rw [two_lookup]
  | .ap f a, n + 2, hn => by
    have hn' : max f.ht a.ht + 1 + 1 < n + 2 := hn
    obtain ⟨h1, e1⟩ := two_run f (n + 1) (by omega)
    obtain ⟨h2, e2⟩ := two_run a (n + 1) (by omega)
    rw [run_succ (F := ⟨1, 2, b_by_two⟩) rfl rfl]
    show ∃ h', fin (evSs C (run C (n + 1)) b_by_two [some (.tup [f.enc, a.enc]), none] VH.nil) = _
    unfold b_by_two
    rw [ss_nx (two_tab n (.tup [f.enc, a.enc]))]
    have b0 : bltD .isStr [.tup [f.enc, a.enc]] (VH.nil.new (.dct twTab)) = .ok (.bl false) (VH.nil.new (.dct twTab)) := rfl
    refine ⟨VH.nil.new (.dct twTab), ?_⟩
    simp only [evSs, evS, evE, evEs, R.bind, R.thn, List.getElem?_cons_zero, List.getElem?_cons_succ, b0, idx0, idx1, pl1, if_true, e1, e2, enc_plain]
    rfl
/-! ### same, on one list -/
end K15

namespace K15
open Ev
/-- by heights: a run of few turns from a low term -/
theorem run_low (most n : Nat) (t : Tm) (hn : t.ht + most < n) (hz : t.sz ≤ 20000) (hm : most < 90000) :
    match goT most loopFuel 0 t with
    | some (v, j) => run C (n + 2) 7 [t.enc, .int most] VH.nil = .ok (.tup [v.enc, .int j]) VH.nil
    | none => ∃ j : Nat, run C (n + 2) 7 [t.enc, .int most] VH.nil = .ex 7 (.int j) VH.nil :=
  run_run most n t (fun k u => u.ht + (most - k) < n ∧ u.sz ≤ 20000 ∧ k ≤ most) (fun k u h => ⟨fits_ht n u (by omega), h.2.1⟩)
    (fun k u v h hs h1 h2 => by have := step_bd hs; exact ⟨by omega, by omega, h1⟩) ⟨by omega, hz, Nat.zero_le _⟩ hm
/-- by where it ends -/
theorem run_to (most n : Nat) (t v : Tm) (hr : Rds t v) (hv : stepT v = none) (hn : v.ht < n) (hz : t.sz ≤ 20000) (hm : most < 90000) :
    match goT most loopFuel 0 t with
    | some (w, j) => w = v ∧ run C (n + 2) 7 [t.enc, .int most] VH.nil = .ok (.tup [v.enc, .int j]) VH.nil
    | none => ∃ j : Nat, run C (n + 2) 7 [t.enc, .int most] VH.nil = .ex 7 (.int j) VH.nil := by
  have h := run_run most n t (fun k u => Rds u v ∧ u.sz ≤ 20000) (fun k u h => ⟨fits_stand n u v h.1 hv hn, h.2⟩)
    (fun k u w h hs h1 h2 => ⟨to_stand h.1 hv (.step (step_par hs) .refl), by omega⟩) ⟨hr, hz⟩ hm
  cases hg : goT most loopFuel 0 t with
  | none => rw [hg] at h; exact h
  | some wj =>
    obtain ⟨w, j⟩ := wj
    rw [hg] at h
    have he := go_end hg
    have : v = w := one_stand hr hv he.1 he.2.1
    subst this
    exact ⟨rfl, h⟩
/-! ### same -/
theorem same_run (n : Nat) (t u v : Tm) (z : List Nat) (a : Nat) (h : VH) (ha : h.get a = some (.lst [.str z])) (ht : Rds (.ap t (.at z)) v) (hu : Rds (.ap u (.at z)) v) (hv : stepT v = none) (hn : v.ht < n) (hd : v.ht ≤ 64) (hzt : t.sz ≤ 10000) (hzu : u.sz ≤ 10000) :
    run C (n + 3) 22 [t.enc, u.enc, .ref a, .int 900] h = .ok (.bl true) h ∨ ∃ j : Nat, run C (n + 3) 22 [t.enc, u.enc, .ref a, .int 900] h = .ex 7 (.int j) h := by
  rw [run_succ (F := ⟨4, 8, b_same⟩) rfl rfl]
  show fin (evSs C (run C (n + 2)) b_same [some t.enc, some u.enc, some (.ref a), some (.int 900), none, none, none, none] h) = _ ∨ ∃ j : Nat, fin (evSs C (run C (n + 2)) b_same [some t.enc, some u.enc, some (.ref a), some (.int 900), none, none, none, none] h) = _
  have p1 : run C (n + 2) 4 [t.enc, .ref a] h = .ok (Tm.ap t (.at z)).enc h := put_run t [.at z] a (n + 1) h ha (by simp)
  have p2 : run C (n + 2) 4 [u.enc, .ref a] h = .ok (Tm.ap u (.at z)).enc h := put_run u [.at z] a (n + 1) h ha (by simp)
  have r1 := run_to 900 n (.ap t (.at z)) v ht hv hn (by show t.sz + 1 ≤ 20000; omega) (by decide)
  have r2 := run_to 900 n (.ap u (.at z)) v hu hv hn (by show u.sz + 1 ≤ 20000; omega) (by decide)
  have pp : ∀ w : Tm, plains [w.enc, .int 900] = true := fun w => pl2 w (.int 900) rfl
  unfold b_same
  cases g1 : goT 900 loopFuel 0 (.ap t (.at z)) with
  | none =>
    rw [g1] at r1
    obtain ⟨j, r1⟩ := r1
    have r1' : run C (n + 2) 7 [(Tm.ap t (.at z)).enc, .int 900] VH.nil = .ex 7 (.int j) VH.nil := r1
    refine Or.inr ⟨j, ?_⟩
    rw [ss_ex (c := 7) (p := .int j) (l1 := [some t.enc, some u.enc, some (.ref a), some (.int 900), none, none, none, none]) (h1 := h) (by
      simp only [evS, evE, evEs, R.bind, R.thn, List.getElem?_cons_zero, List.getElem?_cons_succ, p1, Bool.false_eq_true, if_false, if_true, pp, r1', D.plain])]
    rfl
  | some wj =>
    obtain ⟨w, j⟩ := wj
    rw [g1] at r1
    have r1' : run C (n + 2) 7 [(Tm.ap t (.at z)).enc, .int 900] VH.nil = .ok (.tup [v.enc, .int j]) VH.nil := r1.2
    have pv : ∀ j : Nat, (D.tup [v.enc, .int j]).plain = true := fun j => pl2 v (.int j) rfl
    rw [ss_nx (l1 := [some t.enc, some u.enc, some (.ref a), some (.int 900), some v.enc, some (.int j), none, none]) (h1 := h) (by
      simp only [evS, evE, evEs, R.bind, R.thn, List.getElem?_cons_zero, List.getElem?_cons_succ, p1, Bool.false_eq_true, if_false, if_true, pp, r1', pv, evG, seqOf, setAll, List.set_cons_zero, List.set_cons_succ])]
    cases g2 : goT 900 loopFuel 0 (.ap u (.at z)) with
    | none =>
      rw [g2] at r2
      obtain ⟨j2, r2⟩ := r2
      have r2' : run C (n + 2) 7 [(Tm.ap u (.at z)).enc, .int 900] VH.nil = .ex 7 (.int j2) VH.nil := r2
      refine Or.inr ⟨j2, ?_⟩
      rw [ss_ex (c := 7) (p := .int j2) (l1 := [some t.enc, some u.enc, some (.ref a), some (.int 900), some v.enc, some (.int j), none, none]) (h1 := h) (by
        simp only [evS, evE, evEs, R.bind, R.thn, List.getElem?_cons_zero, List.getElem?_cons_succ, p2, Bool.false_eq_true, if_false, if_true, pp, r2', D.plain])]
      rfl
    | some wj2 =>
      obtain ⟨w2, j2⟩ := wj2
      rw [g2] at r2
      have r2' : run C (n + 2) 7 [(Tm.ap u (.at z)).enc, .int 900] VH.nil = .ok (.tup [v.enc, .int j2]) VH.nil := r2.2
      rw [ss_nx (l1 := [some t.enc, some u.enc, some (.ref a), some (.int 900), some v.enc, some (.int j), some v.enc, some (.int j2)]) (h1 := h) (by
        simp only [evS, evE, evEs, R.bind, R.thn, List.getElem?_cons_zero, List.getElem?_cons_succ, p2, Bool.false_eq_true, if_false, if_true, pp, r2', pv, evG, seqOf, setAll, List.set_cons_zero, List.set_cons_succ])]
      have ce : cmpD .eq v.enc v.enc h = some true := by
        have := eq_enc v v h (by omega)
        rw [decide_eq_true rfl] at this
        exact this
      refine Or.inl ?_
      simp only [evSs, evS, evE, R.bind, R.thn, List.getElem?_cons_zero, List.getElem?_cons_succ, ce, fin]
/-! ### _law_first -/
theorem tldLong (call : Call) (e : E) (l : Lc) (h h1 : VH) (j : D) (he : evE C call e l h = .ex 7 j h1) : evE C call (.tld 0 e) l h = .ok (.str [108, 111, 110, 103]) h1 := by
  simp only [evE, he]
  rfl
theorem tldOk (call : Call) (e : E) (l : Lc) (h h1 : VH) (d : D) (he : evE C call e l h = .ok d h1) : evE C call (.tld 0 e) l h = .ok d h1 := by
  simp only [evE, he]
theorem first_run (n : Nat) (t : Tm) (hh : t.ht + 12 < n) (hd : t.ht ≤ 60) (hz : t.sz ≤ 10000) : ∃ h', run C (n + 3) 32 [t.enc] VH.nil = .ok (.bl true) h' := by
  have hl : (argsOf t).length ≤ 50000 := by have := args_len t; omega
  rw [run_succ (F := ⟨1, 4, b__law_first⟩) rfl rfl]
  show ∃ h', fin (evSs C (run C (n + 2)) b__law_first [some t.enc, none, none, none] VH.nil) = _
  have sp : run C (n + 2) 3 [t.enc] VH.nil = .ok (.tup [.str (headOf t), .ref 1]) (spH VH.nil t) := spine_run t (n + 1) VH.nil hl
  have ga : (spH VH.nil t).get 1 = some (.lst (encs (argsOf t))) := get_new (VH.nil.new (.lst (encs (argsOf t).reverse))) _
  have pr : run C (n + 2) 4 [.str (headOf t), .ref 1] (spH VH.nil t) = .ok t.enc (spH VH.nil t) := by
    have := put_run (.at (headOf t)) (argsOf t) 1 (n + 1) (spH VH.nil t) ga hl
    rw [put_args] at this
    exact this
  obtain ⟨h1, st⟩ := step_run (n + 1) t (fits_ht (n + 1) t (by omega)) (by omega)
  have ne : ∀ h : VH, cmpD .ne t.enc t.enc h = some false := fun h => by
    show (eqD t.enc t.enc h).map not = _
    rw [eq_enc t t h (by omega), decide_eq_true rfl]
    rfl
  unfold b__law_first
  rw [ss_nx (l1 := [some t.enc, some (.str (headOf t)), some (.ref 1), none]) (h1 := spH VH.nil t) (by
    simp only [evS, evE, evEs, R.bind, R.thn, List.getElem?_cons_zero, sp, Bool.false_eq_true, if_false, evG, seqOf, setAll, List.set_cons_zero, List.set_cons_succ])]
  have b1 : bltD .isStr [.str (headOf t)] (spH VH.nil t) = .ok (.bl true) (spH VH.nil t) := rfl
  rw [ss_nx (l1 := [some t.enc, some (.str (headOf t)), some (.ref 1), none]) (h1 := spH VH.nil t) (by
    simp only [evSs, evS, evE, evEs, R.bind, R.thn, List.getElem?_cons_zero, List.getElem?_cons_succ, Bool.false_eq_true, if_false, pr, ne, b1, Bool.not_true])]
  rw [ss_nx (l1 := [some t.enc, some (.str (headOf t)), some (.ref 1), some (optE (stepT t))]) (h1 := spH VH.nil t) (by
    simp only [evS, evE, evEs, R.bind, R.thn, List.getElem?_cons_zero, pl1, st, optE_plain, if_true, evG, List.set_cons_zero, List.set_cons_succ])]
  have pp : ∀ j : Int, plains [t.enc, .int j] = true := fun j => pl2 t (.int j) rfl
  refine ⟨spH VH.nil t, ?_⟩
  cases hs : stepT t with
  | none =>
    have r9 := run_low 9 n t (by omega) (by omega) (by decide)
    have g9 : goT 9 loopFuel 0 t = some (t, 0) := by
      show (match stepT t with | none => some (t, 0) | some u => _) = _
      rw [hs]
    rw [g9] at r9
    have r9' : run C (n + 2) 7 [t.enc, .int 9] VH.nil = .ok (.tup [t.enc, .int 0]) VH.nil := r9
    have pv : (D.tup [t.enc, .int 0]).plain = true := pl2 t (.int 0) rfl
    have nt : cmpD .ne (.tup [t.enc, .int 0]) (.tup [t.enc, .int 0]) (spH VH.nil t) = some false := by
      show (eqD (.tup [t.enc, .int 0]) (.tup [t.enc, .int 0]) (spH VH.nil t)).map not = _
      have : eqD (.tup [t.enc, .int 0]) (.tup [t.enc, .int 0]) (spH VH.nil t) = some true := by
        unfold eqD
        have vw : viewOf (.tup [t.enc, .int 0]) (spH VH.nil t) = some (.val (.tup [t.enc, .int 0])) := by
          show (if (D.tup [t.enc, .int 0]).plain = true then _ else _) = _
          rw [if_pos pv]
        rw [vw]
        show (if min (max t.enc.deep (max 0 0) + 1) (max t.enc.deep (max 0 0) + 1) ≤ 64 then some (t.enc.eqv t.enc && ((0 : Int) == 0 && true)) else none) = _
        rw [deep_enc, if_pos (by omega), eqv_enc, decide_eq_true rfl]
        rfl
      rw [this]
      rfl
    simp only [evSs, evS, evE, evEs, R.bind, R.thn, List.getElem?_cons_zero, List.getElem?_cons_succ, is_opt, isn_opt, Option.isNone, Option.isSome, pp, if_true, r9', pv, nt, fin]
  | some u =>
    have r0 := run_low 0 n t (by omega) (by omega) (by decide)
    have g0 : goT 0 loopFuel 0 t = none := by
      show (match stepT t with | none => some (t, 0) | some u => if 0 < 0 + 1 ∨ 400 < u.sz then none else _) = _
      rw [hs]
      rfl
    rw [g0] at r0
    obtain ⟨j, r0⟩ := r0
    have r0' : run C (n + 2) 7 [t.enc, .int 0] VH.nil = .ex 7 (.int j) VH.nil := r0
    have et := tldLong (run C (n + 2)) (.cal true 7 (.cons (.var 0) (.cons (.con (.int (0))) .nil))) [some t.enc, some (.str (headOf t)), some (.ref 1), some (optE (some u))] (spH VH.nil t) (spH VH.nil t) (.int j) (by
      simp only [evE, evEs, R.bind, List.getElem?_cons_zero, pp, if_true, r0', D.plain])
    have el : cmpD .ne (.str [108, 111, 110, 103]) (.str [108, 111, 110, 103]) (spH VH.nil t) = some false := rfl
    rw [ss_nx (l1 := [some t.enc, some (.str (headOf t)), some (.ref 1), some (optE (some u))]) (h1 := spH VH.nil t) (by
      simp only [evSs, evS, evE, R.bind, R.thn, List.getElem?_cons_zero, List.getElem?_cons_succ, is_opt, Option.isNone])]
    have eand : evE C (run C (n + 2)) (.and (.cmp .isn (.var 3) (.con .non)) (.cmp .ne (.tld 0 (.cal true 7 (.cons (.var 0) (.cons (.con (.int (0))) .nil)))) (.con (.str [108, 111, 110, 103])))) [some t.enc, some (.str (headOf t)), some (.ref 1), some (optE (some u))] (spH VH.nil t) = .ok (.bl false) (spH VH.nil t) := by
      rw [evE]
      rw [show evE C (run C (n + 2)) (.cmp .isn (.var 3) (.con .non)) [some t.enc, some (.str (headOf t)), some (.ref 1), some (optE (some u))] (spH VH.nil t) = .ok (.bl true) (spH VH.nil t) by
        simp only [evE, R.bind, List.getElem?_cons_zero, List.getElem?_cons_succ, isn_opt, Option.isSome]]
      show R.bind (evE C (run C (n + 2)) (.cmp .ne (.tld 0 _) (.con (.str [108, 111, 110, 103]))) _ (spH VH.nil t)) _ = _
      rw [evE, et]
      rfl
    rw [ss_nx (l1 := [some t.enc, some (.str (headOf t)), some (.ref 1), some (optE (some u))]) (h1 := spH VH.nil t) (by
      rw [evS, eand]
      rfl)]
    rfl
end K15

namespace K15
open Ev
/-! ### runs that are told by reckoning -/
def fitsB : Nat → Tm → Bool
  | 0, _ => false
  | n + 1, t => (headT t).isSome || (argsOf t).all (fitsB n)
theorem fits_b : ∀ (n : Nat) (t : Tm), fitsB n t = true → Fits n t
  | 0, t, h => by cases h
  | n + 1, t, h => by
    intro h0 a ha
    have h' : ((headT t).isSome || (argsOf t).all (fitsB n)) = true := h
    rw [h0] at h'
    have h2 : (argsOf t).all (fitsB n) = true := h'
    rw [List.all_eq_true] at h2
    exact fits_b n a (h2 a ha)
def goK (n most : Nat) : Nat → Nat → Tm → Option (Tm × Nat)
  | 0, _, _ => none
  | m + 1, k, t => if fitsB n t = true ∧ t.sz ≤ 20000 then match stepT t with
    | none => some (t, k)
    | some u => if most < k + 1 ∨ 400 < u.sz then none else goK n most m (k + 1) u
    else none
theorem goK_goT {n most : Nat} : ∀ {m k : Nat} {t : Tm} {r : Tm × Nat}, goK n most m k t = some r → ∀ m', m ≤ m' → goT most m' k t = some r
  | 0, k, t, r, h => by cases h
  | m + 1, k, t, r, h => by
    intro m' hm
    match m', hm with
    | m' + 1, hm =>
      have h' : (if fitsB n t = true ∧ t.sz ≤ 20000 then (match stepT t with
        | none => some (t, k)
        | some u => if most < k + 1 ∨ 400 < u.sz then none else goK n most m (k + 1) u) else none) = some r := h
      split at h'
      · show (match stepT t with | none => some (t, k) | some u => if most < k + 1 ∨ 400 < u.sz then none else goT most m' (k + 1) u) = some r
        cases hs : stepT t with
        | none => rw [hs] at h'; exact h'
        | some u =>
          rw [hs] at h'
          have h2 : (if most < k + 1 ∨ 400 < u.sz then none else goK n most m (k + 1) u) = some r := h'
          show (if most < k + 1 ∨ 400 < u.sz then none else goT most m' (k + 1) u) = some r
          split at h2
          · cases h2
          · next hc => rw [if_neg hc]; exact goK_goT h2 m' (by omega)
      · cases h'
theorem run_k (n most m : Nat) (t v : Tm) (j : Nat) (h : goK n most m 0 t = some (v, j)) (hm : most < 90000) (hm2 : m ≤ 100000) : run C (n + 2) 7 [t.enc, .int most] VH.nil = .ok (.tup [v.enc, .int j]) VH.nil := by
  have h1 := run_run most n t (fun k u => ∃ m, goK n most m k u = some (v, j)) (fun k u hp => by
      obtain ⟨m, hp⟩ := hp
      match m, hp with
      | m + 1, hp =>
        have h' : (if fitsB n u = true ∧ u.sz ≤ 20000 then (match stepT u with
          | none => some (u, k)
          | some w => if most < k + 1 ∨ 400 < w.sz then none else goK n most m (k + 1) w) else none) = some (v, j) := hp
        split at h'
        · next hc => exact ⟨fits_b n u hc.1, hc.2⟩
        · cases h') (fun k u w hp hs hk hz => by
      obtain ⟨m, hp⟩ := hp
      match m, hp with
      | m + 1, hp =>
        have h' : (if fitsB n u = true ∧ u.sz ≤ 20000 then (match stepT u with
          | none => some (u, k)
          | some w => if most < k + 1 ∨ 400 < w.sz then none else goK n most m (k + 1) w) else none) = some (v, j) := hp
        rw [hs] at h'
        split at h'
        · have h2 : (if most < k + 1 ∨ 400 < w.sz then none else goK n most m (k + 1) w) = some (v, j) := h'
          rw [if_neg (by omega)] at h2
          exact ⟨m, h2⟩
        · cases h') ⟨m, h⟩ hm
  rw [goK_goT h loopFuel (by show m ≤ 100000; exact hm2)] at h1
  exact h1
/-! ### numbers -/
def numT : Nat → Tm
  | 0 => .ap tK tI
  | k + 1 => .ap (.ap tS tB) (numT k)
/-- f(f(..x)) -/
def chainT : Nat → Tm
  | 0 => .at [120]
  | k + 1 => .ap (.at [102]) (chainT k)
abbrev coB : Ss := (.cons (.ite (.or (.blt .isStr (.cons (.var 2) .nil)) (.cmp .ne (.idx (.var 2) (.con (.int (0)))) (.con (.str [102])))) (.cons (.rse 2)
  .nil) .nil)
  (.cons (.set (.nam 2) (.idx (.var 2) (.con (.int (1)))))
  (.cons (.aug 4 .add (.con (.int (1))))
  .nil)))
theorem ne_x (t : Tm) (s : List Nat) (h : VH) : cmpD .ne t.enc (.str s) h = some (!decide (t = .at s)) := by
  show (eqD t.enc (Tm.at s).enc h).map not = _
  rw [eq_enc t (.at s) h (Nat.le_trans (Nat.min_le_right _ _) (Nat.zero_le _))]
  rfl
theorem co_loop (call : Call) (d0 d1 d3 : Option D) : ∀ (c m k : Nat), c < m → whlGo (fun l h => evE C call (.cmp .ne (.var 2) (.con (.str [120]))) l h) (fun l h => evSs C call coB l h) m [d0, d1, some (chainT c).enc, d3, some (.int k)] VH.nil = .nx [d0, d1, some (.str [120]), d3, some (.int ((k + c : Nat) : Int))] VH.nil
  | 0, m + 1, k, _ => by rw [whlGo]; rfl
  | c + 1, m + 1, k, h => by
    have ih := co_loop call d0 d1 d3 c m (k + 1) (by omega)
    have e1 := ne_x (chainT (c + 1)) [120] VH.nil
    rw [show decide (chainT (c + 1) = .at [120]) = false from rfl] at e1
    have ec : evE C call (.cmp .ne (.var 2) (.con (.str [120]))) [d0, d1, some (chainT (c + 1)).enc, d3, some (.int k)] VH.nil = .ok (.bl true) VH.nil := by
      simp only [evE, R.bind, List.getElem?_cons_zero, List.getElem?_cons_succ, e1, Bool.not_false]
    have eb : evSs C call coB [d0, d1, some (chainT (c + 1)).enc, d3, some (.int k)] VH.nil = .nx [d0, d1, some (chainT c).enc, d3, some (.int ((k + 1 : Nat) : Int))] VH.nil := by
      rfl
    rw [whlGo, ec]
    show (match evSs C call coB [d0, d1, some (chainT (c + 1)).enc, d3, some (.int k)] VH.nil with
      | .nx l2 h2 => whlGo (fun l h => evE C call (.cmp .ne (.var 2) (.con (.str [120]))) l h) (fun l h => evSs C call coB l h) m l2 h2
      | .ct l2 h2 => whlGo (fun l h => evE C call (.cmp .ne (.var 2) (.con (.str [120]))) l h) (fun l h => evSs C call coB l h) m l2 h2
      | .bk l2 h2 => .nx l2 h2
      | r => r) = _
    rw [eb]
    refine Eq.trans ih ?_
    rw [show k + 1 + c = k + (c + 1) by omega]
theorem count_run (n most m c j : Nat) (t : Tm) (h : goK n most m 0 (.ap (.ap t (.at [102])) (.at [120])) = some (chainT c, j)) (hm : most < 90000) (hm2 : m ≤ 100000) (hc : c < 100000) : run C (n + 3) 12 [t.enc, .int most] VH.nil = .ok (.int c) VH.nil := by
  rw [run_succ (F := ⟨2, 5, b_counted⟩) rfl rfl]
  show fin (evSs C (run C (n + 2)) b_counted [some t.enc, some (.int most), none, none, none] VH.nil) = _
  have r : run C (n + 2) 7 [.tup [.tup [t.enc, .str [102]], .str [120]], .int most] VH.nil = .ok (.tup [(chainT c).enc, .int j]) VH.nil := run_k n most m _ _ j h hm hm2
  have p1 : plains [.tup [.tup [t.enc, .str [102]], .str [120]], .int most] = true := pl2 (.ap (.ap t (.at [102])) (.at [120])) (.int most) rfl
  have p2 : (D.tup [(chainT c).enc, .int j]).plain = true := pl2 (chainT c) (.int j) rfl
  unfold b_counted
  rw [ss_nx (l1 := [some t.enc, some (.int most), some (chainT c).enc, some (.int j), none]) (h1 := VH.nil) (by
    simp only [evS, evE, evEs, R.bind, R.thn, List.getElem?_cons_zero, List.getElem?_cons_succ, p1, if_true, r, p2, evG, seqOf, setAll, List.set_cons_zero, List.set_cons_succ])]
  rw [ss_nx (l1 := [some t.enc, some (.int most), some (chainT c).enc, some (.int j), some (.int ((0 : Nat) : Int))]) (h1 := VH.nil) (by rfl)]
  have e2 : evS C (run C (n + 2)) (.whl (.cmp .ne (.var 2) (.con (.str [120]))) coB) [some t.enc, some (.int most), some (chainT c).enc, some (.int j), some (.int ((0 : Nat) : Int))] VH.nil = _ := co_loop (run C (n + 2)) (some t.enc) (some (.int most)) (some (.int j)) c loopFuel 0 hc
  rw [ss_nx e2, Nat.zero_add]
  rfl
end K15

namespace K15
open Ev
abbrev ch (c : Nat) : Tm := .at [c]
def addT : Tm := takeT true [109] (takeT true [110] (takeT true [102] (takeT true [120] (.ap (.ap (ch 109) (ch 102)) (.ap (.ap (ch 110) (ch 102)) (ch 120))))))
def powT : Tm := takeT true [109] (takeT true [110] (.ap (ch 110) (ch 109)))
def pairT : Tm := takeT true [97] (takeT true [98] (takeT true [99] (.ap (.ap (ch 99) (ch 97)) (ch 98))))
def noughtT : Tm := takeT true [110] (takeT true [97] (takeT true [98] (.ap (.ap (ch 110) (.ap tK (ch 98))) (ch 97))))
def moreT : Tm := .ap tS tB
abbrev kiT : Tm := .ap tK tI
def stepTh : Tm := takeT true [112] (.ap (.ap (ch 80) (.ap (ch 112) kiT)) (.ap (ch 81) (.ap (ch 112) kiT)))
def lessT : Tm := subT [85] (.ap (.ap pairT (numT 0)) (numT 0)) (subT [84] (subT [81] moreT (subT [80] pairT stepTh)) (takeT true [110] (.ap (.ap (.ap (ch 110) (ch 84)) (ch 85)) tK)))
theorem r13 (n : Nat) : run C (n + 10) 13 [] VH.nil = .ok addT.enc VH.nil := by kernel_rfl
theorem r14 (n : Nat) : run C (n + 10) 14 [] VH.nil = .ok tB.enc VH.nil := by kernel_rfl
theorem r15 (n : Nat) : run C (n + 10) 15 [] VH.nil = .ok powT.enc VH.nil := by kernel_rfl
theorem r16 (n : Nat) : run C (n + 10) 16 [] VH.nil = .ok pairT.enc VH.nil := by kernel_rfl
theorem r17 (n : Nat) : run C (n + 10) 17 [] VH.nil = .ok noughtT.enc VH.nil := by kernel_rfl
theorem r19 (n : Nat) : run C (n + 10) 19 [] VH.nil = .ok moreT.enc VH.nil := by kernel_rfl
def heapOf : R D → VH
  | .ok _ h => h
  | _ => VH.nil
theorem r18 (n : Nat) : ∃ h', run C (n + 20) 18 [] VH.nil = .ok lessT.enc h' := ⟨heapOf (run C (n + 20) 18 [] VH.nil), by kernel_rfl⟩
theorem r31 (n : Nat) : ∃ h', run C (n + 20) 31 [] VH.nil = .ok (.bl true) h' := ⟨heapOf (run C (n + 20) 31 [] VH.nil), by kernel_rfl⟩
theorem r33 (n : Nat) : ∃ h', run C (n + 20) 33 [] VH.nil = .ok (.bl true) h' := ⟨heapOf (run C (n + 20) 33 [] VH.nil), by kernel_rfl⟩
theorem r11_0 (n : Nat) : run C (n + 10) 11 [.int 0] VH.nil = .ok (numT 0).enc VH.nil := by kernel_rfl
theorem r11_1 (n : Nat) : run C (n + 10) 11 [.int 1] VH.nil = .ok (numT 1).enc VH.nil := by kernel_rfl
theorem r11_2 (n : Nat) : run C (n + 10) 11 [.int 2] VH.nil = .ok (numT 2).enc VH.nil := by kernel_rfl
theorem r12_k (n : Nat) : run C (n + 20) 12 [.str [75], .int 99] VH.nil = .ex 2 .non VH.nil := by kernel_rfl
def cntOk (n most c : Nat) (t : Tm) : Bool := match goK n most 2000 0 (.ap (.ap t (.at [102])) (.at [120])) with
  | some (v, _) => decide (v = chainT c)
  | none => false
theorem cnt_run (n most c : Nat) (t : Tm) (h : cntOk n most c t = true) (hm : most < 90000) (hc : c < 100000) : run C (n + 3) 12 [t.enc, .int most] VH.nil = .ok (.int c) VH.nil := by
  unfold cntOk at h
  split at h
  · next v j e =>
    have : v = chainT c := of_decide_eq_true h
    subst this
    exact count_run n most 2000 c j t e hm (by decide) hc
  · cases h
def runOk (n most : Nat) (t v : Tm) : Bool := match goK n most 2000 0 t with
  | some (w, _) => decide (w = v)
  | none => false
theorem ok_run (n most : Nat) (t v : Tm) (h : runOk n most t v = true) (hm : most < 90000) : ∃ j : Nat, run C (n + 2) 7 [t.enc, .int most] VH.nil = .ok (.tup [v.enc, .int j]) VH.nil := by
  unfold runOk at h
  split at h
  · next w j e =>
    have : w = v := of_decide_eq_true h
    subst this
    exact ⟨j, run_k n most 2000 t w j e hm (by decide)⟩
  · cases h
theorem c_one : ∀ a < 3, cntOk 100 99 a (numT a) = true := by decide +kernel
theorem c_add : ∀ a < 3, ∀ b < 3, cntOk 100 299 (a + b) (.ap (.ap addT (numT a)) (numT b)) = true := by decide +kernel
theorem c_mul : ∀ a < 3, ∀ b < 3, cntOk 100 299 (a * b) (.ap (.ap tB (numT a)) (numT b)) = true := by decide +kernel
theorem c_pow : ∀ a < 3, ∀ b < 3, 0 < a → cntOk 100 900 (a ^ b) (.ap (.ap powT (numT a)) (numT b)) = true := by decide +kernel
theorem c_less : ∀ a < 3, cntOk 100 900 (a - 1) (.ap lessT (numT a)) = true := by decide +kernel
theorem c_more : ∀ a < 3, cntOk 100 99 (a + 1) (.ap moreT (numT a)) = true := by decide +kernel
theorem c_nought : ∀ a < 3, runOk 101 99 (putT noughtT [numT a, ch 112, ch 113]) (if a = 0 then ch 112 else ch 113) = true := by decide +kernel
theorem c_pair1 : runOk 101 99 (putT pairT [ch 112, ch 113, tK]) (ch 112) = true := by decide +kernel
theorem c_pair2 : runOk 101 99 (putT pairT [ch 112, ch 113, kiT]) (ch 113) = true := by decide +kernel
def omegaT : Tm := .ap (.ap (.ap tS tI) tI) (.ap (.ap tS tI) tI)
theorem c_long : goT 50 loopFuel 0 omegaT = none := by decide +kernel
end K15

namespace K15
open Ev
theorem raise_loop (call : Call) (o p : D) (a b : Nat) (ha : a < 3) (hb : b < 3) : ∃ x, evS C call (.for_ (.nam 5) (.rng (.con (.int 0)) (.var 1)) (.cons (.set (.nam 4) (.bin .mul (.var 4) (.var 0))) .nil)) [some (.int a), some (.int b), some o, some p, some (.int 1), none] VH.nil = .nx [some (.int a), some (.int b), some o, some p, some (.int ((a ^ b : Nat) : Int)), x] VH.nil := by
  match a, b, ha, hb with
  | 0, 0, _, _ => exact ⟨_, rfl⟩
  | 0, 1, _, _ => exact ⟨_, rfl⟩
  | 0, 2, _, _ => exact ⟨_, rfl⟩
  | 1, 0, _, _ => exact ⟨_, rfl⟩
  | 1, 1, _, _ => exact ⟨_, rfl⟩
  | 1, 2, _, _ => exact ⟨_, rfl⟩
  | 2, 0, _, _ => exact ⟨_, rfl⟩
  | 2, 1, _, _ => exact ⟨_, rfl⟩
  | 2, 2, _, _ => exact ⟨_, rfl⟩
theorem ne_int (i j : Int) (h : VH) : cmpD .ne (.int i) (.int j) h = some (!(i == j)) := rfl
theorem ne_same (t : Tm) (h : VH) (hd : t.ht ≤ 64) : cmpD .ne t.enc t.enc h = some false := by
  show (eqD t.enc t.enc h).map not = _
  rw [eq_enc t t h (by omega), decide_eq_true rfl]
  rfl
/-- a call told apart -/
theorem cal_ok {call : Call} {f : Nat} {es : Es} {l : Lc} {h h1 h2 : VH} {xs : List D} {d : D} (e : evEs C call es l h = .ok xs h1) (hp : plains xs = true) (hc : call f xs VH.nil = .ok d h2) (hd : d.plain = true) : evE C call (.cal true f es) l h = .ok d h1 := by
  simp only [evE, e, R.bind, hp, if_true, hc, hd]
theorem cal_ex {call : Call} {f : Nat} {es : Es} {l : Lc} {h h1 h2 : VH} {xs : List D} {c : Nat} {d : D} (e : evEs C call es l h = .ok xs h1) (hp : plains xs = true) (hc : call f xs VH.nil = .ex c d h2) (hd : d.plain = true) : evE C call (.cal true f es) l h = .ex c d h1 := by
  simp only [evE, e, R.bind, hp, if_true, hc, hd]
theorem pow_lt (a b : Nat) (ha : a < 3) (hb : b < 3) : a ^ b < 100000 := by
  match a, b, ha, hb with
  | 0, 0, _, _ => decide
  | 0, 1, _, _ => decide
  | 0, 2, _, _ => decide
  | 1, 0, _, _ => decide
  | 1, 1, _, _ => decide
  | 1, 2, _, _ => decide
  | 2, 0, _, _ => decide
  | 2, 1, _, _ => decide
  | 2, 2, _, _ => decide
theorem put_go (call : Call) (f : Nat) (es : Es) (l : Lc) (h hx : VH) (u v : Tm) (ts : List Tm) (j : Nat) (hf : call f [] VH.nil = .ok u.enc hx) (he : evEs C call es l h = .ok (encs ts) h)
    (hput : ∀ (u : Tm) (ts : List Tm) (r : Nat) (h : VH), h.get r = some (.lst (encs ts)) → ts.length ≤ 10 → call 4 [u.enc, .ref r] h = .ok (putT u ts).enc h) (hl : ts.length ≤ 10)
    (h7 : call 7 [(putT u ts).enc, .int 99] VH.nil = .ok (.tup [v.enc, .int j]) VH.nil) :
    evE C call (.idx (.cal true 7 (.cons (.cal false 4 (.cons (.cal true f .nil) (.cons (.lst es) .nil))) (.cons (.con (.int (99))) .nil))) (.con (.int (0)))) l h = .ok v.enc (h.new (.lst (encs ts))) := by
  have p4 := hput u ts h.n (h.new (.lst (encs ts))) (get_new h _) hl
  have pe : plains [(putT u ts).enc, .int 99] = true := pl2 _ (.int 99) rfl
  have pv : (D.tup [v.enc, .int j]).plain = true := pl2 v (.int j) rfl
  have pl0 : plains [] = true := rfl
  simp only [evE, evEs, R.bind, pl0, if_true, hf, enc_plain, he, Bool.false_eq_true, if_false, p4, pe, h7, pv, idx0]
theorem numbers_gen (call : Call) (a b : Nat) (ha : a < 3) (hb : b < 3) (one other pw ls mo no pr v : Tm) (h18 : VH) (j1 j2 j3 : Nat)
    (r15 : call 15 [] VH.nil = .ok pw.enc VH.nil) (r18 : call 18 [] VH.nil = .ok ls.enc h18) (r19 : call 19 [] VH.nil = .ok mo.enc VH.nil) (r17 : call 17 [] VH.nil = .ok no.enc VH.nil) (r16 : call 16 [] VH.nil = .ok pr.enc VH.nil)
    (cp : 0 < a → call 12 [.tup [.tup [pw.enc, one.enc], other.enc], .int 900] VH.nil = .ok (.int ((a ^ b : Nat) : Int)) VH.nil)
    (cl : call 12 [.tup [ls.enc, one.enc], .int 900] VH.nil = .ok (.int ((a - 1 : Nat) : Int)) VH.nil)
    (cm : call 12 [.tup [mo.enc, one.enc], .int 99] VH.nil = .ok (.int ((a + 1 : Nat) : Int)) VH.nil)
    (hput : ∀ (u : Tm) (ts : List Tm) (r : Nat) (h : VH), h.get r = some (.lst (encs ts)) → ts.length ≤ 10 → call 4 [u.enc, .ref r] h = .ok (putT u ts).enc h)
    (hv : v = if a = 0 then ch 112 else ch 113)
    (cn : call 7 [(putT no [one, ch 112, ch 113]).enc, .int 99] VH.nil = .ok (.tup [v.enc, .int j1]) VH.nil)
    (c1 : call 7 [(putT pr [ch 112, ch 113, tK]).enc, .int 99] VH.nil = .ok (.tup [(ch 112).enc, .int j2]) VH.nil)
    (c2 : call 7 [(putT pr [ch 112, ch 113, kiT]).enc, .int 99] VH.nil = .ok (.tup [(ch 113).enc, .int j3]) VH.nil) :
    ∃ h', fin (evSs C call b__law_numbers [some (.int a), some (.int b), some one.enc, some other.enc, none, none] VH.nil) = .ok (.bl true) h' := by
  obtain ⟨x, lp⟩ := raise_loop call one.enc other.enc a b ha hb
  have pt : ∀ (t u : Tm) (i : Int), plains [.tup [t.enc, u.enc], .int i] = true := fun t u i => pl2 (.ap t u) (.int i) rfl
  have pt2 : ∀ (t u v : Tm) (i : Int), plains [.tup [.tup [t.enc, u.enc], v.enc], .int i] = true := fun t u v i => pl2 (.ap (.ap t u) v) (.int i) rfl
  have pe : ∀ (t : Tm) (i : Int), plains [t.enc, .int i] = true := fun t i => pl2 t (.int i) rfl
  have pv : ∀ (t : Tm) (i : Int), (D.tup [t.enc, .int i]).plain = true := fun t i => pl2 t (.int i) rfl
  have pl0 : plains [] = true := rfl
  unfold b__law_numbers
  rw [ss_nx (l1 := [some (.int a), some (.int b), some one.enc, some other.enc, some (.int 1), none]) (h1 := VH.nil) (by rfl)]
  rw [ss_nx lp]
  have e1 : evS C call (.ite (.and (.cmp .gt (.var 0) (.con (.int (0)))) (.and (.cmp .lt (.var 4) (.con (.int (10)))) (.cmp .ne (.cal true 12 (.cons (.tup (.cons (.tup (.cons (.cal true 15 .nil) (.cons (.var 2) .nil))) (.cons (.var 3) .nil))) (.cons (.con (.int (900))) .nil))) (.var 4)))) (.cons (.ret (.con (.bl false))) .nil) .nil) [some (.int a), some (.int b), some one.enc, some other.enc, some (.int ((a ^ b : Nat) : Int)), x] VH.nil = .nx [some (.int a), some (.int b), some one.enc, some other.enc, some (.int ((a ^ b : Nat) : Int)), x] VH.nil := by
    generalize a ^ b = q at cp
    have c0 : cmpD .gt (.int (a : Int)) (.int 0) VH.nil = some (decide (0 < a)) := by
      show some (decide ((0 : Int) < (a : Int))) = _
      exact congrArg some (decide_eq_decide.mpr (by omega))
    by_cases h0 : 0 < a
    · rw [decide_eq_true h0] at c0
      have cp' := cp h0
      have cn := ne_int ((q : Nat) : Int) ((q : Nat) : Int) VH.nil
      rw [beq_self_eq_true] at cn
      have c10 : cmpD .lt (.int ((q : Nat) : Int)) (.int 10) VH.nil = some (decide ((q : Int) < 10)) := rfl
      cases hd : decide ((q : Int) < 10) <;> rw [hd] at c10 <;> simp only [evSs, evS, evE, evEs, R.bind, R.thn, List.getElem?_cons_zero, List.getElem?_cons_succ, c0, c10, pl0, if_true, r15, enc_plain, pt2, cp', D.plain, cn, Bool.not_true]
    · rw [decide_eq_false h0] at c0
      simp only [evSs, evS, evE, evEs, R.bind, R.thn, List.getElem?_cons_zero, List.getElem?_cons_succ, c0]
  rw [ss_nx e1]
  generalize a ^ b = q at cp
  have mx : bltD .max2 [.int 0, .int ((a : Int) - 1)] VH.nil = .ok (.int ((a - 1 : Nat) : Int)) VH.nil := by
    show R.ok (D.int (if (a : Int) - 1 > 0 then (a : Int) - 1 else 0)) _ = _
    have : (if (a : Int) - 1 > 0 then (a : Int) - 1 else 0) = ((a - 1 : Nat) : Int) := by split <;> omega
    rw [this]
  have cn1 := ne_int ((a - 1 : Nat) : Int) ((a - 1 : Nat) : Int) VH.nil
  rw [beq_self_eq_true] at cn1
  have sb : binD .sub (.int (a : Int)) (.int 1) VH.nil = .ok (.int ((a : Int) - 1)) VH.nil := rfl
  have ad : binD .add (.int (a : Int)) (.int 1) VH.nil = .ok (.int ((a + 1 : Nat) : Int)) VH.nil := rfl
  have cn2 := ne_int ((a + 1 : Nat) : Int) ((a + 1 : Nat) : Int) VH.nil
  rw [beq_self_eq_true] at cn2
  rw [ss_nx (l1 := [some (.int a), some (.int b), some one.enc, some other.enc, some (.int ((q : Nat) : Int)), x]) (h1 := VH.nil) (by
    simp only [evSs, evS, evE, evEs, R.bind, R.thn, List.getElem?_cons_zero, List.getElem?_cons_succ, pl0, if_true, r18, r19, enc_plain, pt, cl, cm, D.plain, sb, mx, ad, cn1, cn2, Bool.not_true])]
  have ve : ∀ h : VH, evE C call (.ifx (.cmp .eq (.var 0) (.con (.int (0)))) (.con (.str [112])) (.con (.str [113]))) [some (.int a), some (.int b), some one.enc, some other.enc, some (.int ((q : Nat) : Int)), x] h = .ok v.enc h := fun h => by
    have c : cmpD .eq (.int (a : Int)) (.int 0) h = some ((a : Int) == 0) := rfl
    by_cases h0 : a = 0
    · subst h0
      rw [if_pos rfl] at hv
      subst hv
      rfl
    · rw [if_neg h0] at hv
      subst hv
      rw [show ((a : Int) == 0) = false by simp; omega] at c
      simp only [evE, R.bind, List.getElem?_cons_zero, c]
      rfl
  have vd : v.ht ≤ 64 := by rw [hv]; split <;> exact Nat.zero_le _
  have g1 := put_go call 17 (.cons (.var 2) (.cons (.con (.str [112])) (.cons (.con (.str [113])) .nil))) [some (.int a), some (.int b), some one.enc, some other.enc, some (.int ((q : Nat) : Int)), x] VH.nil VH.nil no v [one, ch 112, ch 113] j1 r17 rfl hput (by simp) cn
  rw [ss_nx (l1 := [some (.int a), some (.int b), some one.enc, some other.enc, some (.int ((q : Nat) : Int)), x]) (h1 := VH.nil.new (.lst (encs [one, ch 112, ch 113]))) (by
    rw [evS, evE, g1]
    show R.thn (R.bind (evE C call _ _ _) _) _ _ = _
    rw [ve]
    show R.thn (match cmpD .ne v.enc v.enc _ with | some r => R.ok (D.bl r) _ | none => .no) _ _ = _
    rw [ne_same v _ vd]
    rfl)]
  have g2 := put_go call 16 (.cons (.con (.str [112])) (.cons (.con (.str [113])) (.cons (.con (.str [75])) .nil))) [some (.int a), some (.int b), some one.enc, some other.enc, some (.int ((q : Nat) : Int)), x] (VH.nil.new (.lst (encs [one, ch 112, ch 113]))) VH.nil pr (ch 112) [ch 112, ch 113, tK] j2 r16 rfl hput (by simp) c1
  rw [ss_nx (l1 := [some (.int a), some (.int b), some one.enc, some other.enc, some (.int ((q : Nat) : Int)), x]) (h1 := (VH.nil.new (.lst (encs [one, ch 112, ch 113]))).new (.lst (encs [ch 112, ch 113, tK]))) (by
    rw [evS, evE, g2]
    rfl)]
  have g3 := put_go call 16 (.cons (.con (.str [112])) (.cons (.con (.str [113])) (.cons (.tup (.cons (.con (.str [75])) (.cons (.con (.str [73])) .nil))) .nil))) [some (.int a), some (.int b), some one.enc, some other.enc, some (.int ((q : Nat) : Int)), x] ((VH.nil.new (.lst (encs [one, ch 112, ch 113]))).new (.lst (encs [ch 112, ch 113, tK]))) VH.nil pr (ch 113) [ch 112, ch 113, kiT] j3 r16 rfl hput (by simp) c2
  rw [ss_nx (l1 := [some (.int a), some (.int b), some one.enc, some other.enc, some (.int ((q : Nat) : Int)), x]) (h1 := ((VH.nil.new (.lst (encs [one, ch 112, ch 113]))).new (.lst (encs [ch 112, ch 113, tK]))).new (.lst (encs [ch 112, ch 113, kiT]))) (by
    rw [evS, evE, g3]
    rfl)]
  exact ⟨_, rfl⟩
theorem numbers_run (a b : Nat) (ha : a < 3) (hb : b < 3) : ∃ h', run C 104 30 [.int a, .int b, (numT a).enc, (numT b).enc] VH.nil = .ok (.bl true) h' := by
  obtain ⟨h18, q18⟩ := r18 83
  obtain ⟨j1, q1⟩ := ok_run 101 99 _ _ (c_nought a ha) (by decide)
  obtain ⟨j2, q2⟩ := ok_run 101 99 _ _ c_pair1 (by decide)
  obtain ⟨j3, q3⟩ := ok_run 101 99 _ _ c_pair2 (by decide)
  obtain ⟨h', e⟩ := numbers_gen (run C 103) a b ha hb (numT a) (numT b) powT lessT moreT noughtT pairT _ h18 j1 j2 j3 (r15 93) q18 (r19 93) (r17 93) (r16 93)
    (fun h0 => cnt_run 100 900 (a ^ b) (.ap (.ap powT (numT a)) (numT b)) (c_pow a ha b hb h0) (by decide) (pow_lt a b ha hb))
    (cnt_run 100 900 (a - 1) (.ap lessT (numT a)) (c_less a ha) (by decide) (by omega))
    (cnt_run 100 99 (a + 1) (.ap moreT (numT a)) (c_more a ha) (by decide) (by omega))
    (fun u ts r h hg hl => put_run u ts r 102 h hg (by omega)) rfl q1 q2 q3
  refine ⟨h', ?_⟩
  rw [← e]
  exact run_succ (n := 103) (F := ⟨4, 6, b__law_numbers⟩) rfl rfl
end K15

namespace K15
open Ev
def five (s : List Nat) : Bool := s == [120] || s == [121] || s == sS || s == sK || s == sI
theorem hRoll : C.fns[24]? = some ⟨2, 3, rollB⟩ := rfl
abbrev atomE : E := .idx (.lst (.cons (.con (.str [120])) (.cons (.con (.str [121])) (.cons (.con (.str [83])) (.cons (.con (.str [75])) (.cons (.con (.str [73])) .nil)))))) (.cal false 24 (.cons (.var 0) (.cons (.con (.int (5))) .nil)))
theorem roll_e (n a : Nat) (m : Int) (hm : 0 < m) (hm2 : m < 1073741824) (h : VH) (hd : DiceAt h a) (l : Lc) (k : Nat) (hl : l[k]? = some (some (.ref a))) :
    ∃ (r : Nat) (h' : VH), (r : Int) < m ∧ Keeps h h' ∧ h'.n = h.n ∧ evE C (run C (n + 1)) (.cal false 24 (.cons (.var k) (.cons (.con (.int m)) .nil))) l h = .ok (.int r) h' := by
  obtain ⟨r, h', q1, q2, q3, q4⟩ := roll_run hRoll n a m hm hm2 h hd
  refine ⟨r, h', q1, q2, q3, ?_⟩
  simp only [evE, evEs, R.bind, hl, Bool.false_eq_true, if_false, q4]
theorem atom_run (n a : Nat) (h : VH) (hd : DiceAt h a) (l : Lc) : ∃ (s : List Nat) (h' : VH), five s = true ∧ Keeps h h' ∧ evE C (run C (n + 1)) atomE (some (.ref a) :: l) h = .ok (.str s) h' := by
  obtain ⟨r, h', q1, q2, q3, q4⟩ := roll_e n a 5 (by decide) (by decide) (h.new (.lst [.str [120], .str [121], .str [83], .str [75], .str [73]])) ((Keeps.new h _).dice hd) (some (.ref a) :: l) 0 rfl
  have g : h'.get h.n = some (.lst [.str [120], .str [121], .str [83], .str [75], .str [73]]) := q2.get (get_new h _) rfl
  have hi : ∀ s, atD [.str [120], .str [121], .str [83], .str [75], .str [73]] (r : Int) = some (.str s) → evE C (run C (n + 1)) atomE (some (.ref a) :: l) h = .ok (.str s) h' := fun s hs => by
    have i := idx_get g (r : Int)
    rw [hs] at i
    rw [evE]
    rw [show evE C (run C (n + 1)) (.lst (.cons (.con (.str [120])) (.cons (.con (.str [121])) (.cons (.con (.str [83])) (.cons (.con (.str [75])) (.cons (.con (.str [73])) .nil)))))) (some (.ref a) :: l) h = .ok (.ref h.n) (h.new (.lst [.str [120], .str [121], .str [83], .str [75], .str [73]])) from rfl]
    show R.bind (evE C (run C (n + 1)) (.cal false 24 (.cons (.var 0) (.cons (.con (.int (5))) .nil))) (some (.ref a) :: l) _) _ = _
    rw [q4]
    show (match idxD (.ref h.n) (.int r) h' with | some d => R.ok d h' | none => .no) = _
    rw [i]
  have hr : r < 5 := by omega
  match r, hr, hi with
  | 0, _, hi => exact ⟨[120], h', rfl, (Keeps.new h _).trans q2, hi _ rfl⟩
  | 1, _, hi => exact ⟨[121], h', rfl, (Keeps.new h _).trans q2, hi _ rfl⟩
  | 2, _, hi => exact ⟨[83], h', rfl, (Keeps.new h _).trans q2, hi _ rfl⟩
  | 3, _, hi => exact ⟨[75], h', rfl, (Keeps.new h _).trans q2, hi _ rfl⟩
  | 4, _, hi => exact ⟨[73], h', rfl, (Keeps.new h _).trans q2, hi _ rfl⟩
theorem term_run : ∀ (d n a : Nat) (h : VH), d < n → DiceAt h a → ∃ (t : Tm) (h' : VH), t.ht ≤ d ∧ over five t = true ∧ Keeps h h' ∧ run C (n + 1) 26 [.ref a, .int d] h = .ok t.enc h'
  | 0, n + 1, a, h, _, hd => by
    obtain ⟨s, h', hs, k, e⟩ := atom_run n a h hd [some (.int 0)]
    refine ⟨.at s, h', Nat.le_refl _, hs, k, ?_⟩
    rw [run_succ (F := ⟨2, 2, b__law_term⟩) rfl rfl]
    show fin (evSs C (run C (n + 1)) b__law_term [some (.ref a), some (.int 0)] h) = _
    unfold b__law_term
    rw [ss_rt (d := .str s) (h1 := h') (by
      rw [evS]
      rw [show evE C (run C (n + 1)) (.or (.cmp .eq (.var 1) (.con (.int (0)))) (.cmp .eq (.cal false 24 (.cons (.var 0) (.cons (.con (.int (3))) .nil))) (.con (.int (0))))) [some (.ref a), some (.int 0)] h = .ok (.bl true) h from rfl]
      show evSs C (run C (n + 1)) (.cons (.ret atomE) .nil) _ _ = _
      rw [evSs, evS, e]
      rfl)]
    rfl
  | d + 1, n + 1, a, h, hn, hd => by
    obtain ⟨r, h1, q1, q2, q3, q4⟩ := roll_e n a 3 (by decide) (by decide) h hd [some (.ref a), some (.int ((d + 1 : Nat) : Int))] 0 rfl
    have ec : evE C (run C (n + 1)) (.or (.cmp .eq (.var 1) (.con (.int (0)))) (.cmp .eq (.cal false 24 (.cons (.var 0) (.cons (.con (.int (3))) .nil))) (.con (.int (0))))) [some (.ref a), some (.int ((d + 1 : Nat) : Int))] h = .ok (.bl ((r : Int) == 0)) h1 := by
      have c1 : cmpD .eq (.int ((d + 1 : Nat) : Int)) (.int 0) h = some false := by
        show some (((d + 1 : Nat) : Int) == 0) = _
        rw [show (((d + 1 : Nat) : Int) == 0) = false by simp; omega]
      have c2 : cmpD .eq (.int (r : Int)) (.int 0) h1 = some ((r : Int) == 0) := rfl
      rw [evE]
      rw [show evE C (run C (n + 1)) (.cmp .eq (.var 1) (.con (.int (0)))) [some (.ref a), some (.int ((d + 1 : Nat) : Int))] h = .ok (.bl false) h by
        simp only [evE, R.bind, List.getElem?_cons_zero, List.getElem?_cons_succ, c1]]
      show R.bind (evE C (run C (n + 1)) (.cmp .eq (.cal false 24 (.cons (.var 0) (.cons (.con (.int (3))) .nil))) (.con (.int (0)))) _ h) _ = _
      rw [evE, q4]
      simp only [evE, R.bind, c2]
    by_cases h0 : r = 0
    · subst h0
      obtain ⟨s, h', hs, k, e⟩ := atom_run n a h1 (q2.dice hd) [some (.int ((d + 1 : Nat) : Int))]
      refine ⟨.at s, h', Nat.zero_le _, hs, q2.trans k, ?_⟩
      rw [run_succ (F := ⟨2, 2, b__law_term⟩) rfl rfl]
      show fin (evSs C (run C (n + 1)) b__law_term [some (.ref a), some (.int ((d + 1 : Nat) : Int))] h) = _
      unfold b__law_term
      rw [ss_rt (d := .str s) (h1 := h') (by
        rw [evS, ec]
        show evSs C (run C (n + 1)) (.cons (.ret atomE) .nil) _ _ = _
        rw [evSs, evS, e]
        rfl)]
      rfl
    · obtain ⟨t1, h2, a1, a2, a3, a4⟩ := term_run d n a h1 (by omega) (q2.dice hd)
      obtain ⟨t2, h3, b1, b2, b3, b4⟩ := term_run d n a h2 (by omega) (a3.dice (q2.dice hd))
      refine ⟨.ap t1 t2, h3, ?_, ?_, (q2.trans a3).trans b3, ?_⟩
      · show max t1.ht t2.ht + 1 ≤ d + 1
        omega
      · show (over five t1 && over five t2) = true
        rw [a2, b2]; rfl
      · rw [run_succ (F := ⟨2, 2, b__law_term⟩) rfl rfl]
        show fin (evSs C (run C (n + 1)) b__law_term [some (.ref a), some (.int ((d + 1 : Nat) : Int))] h) = _
        unfold b__law_term
        rw [show ((r : Int) == 0) = false by simp; omega] at ec
        rw [ss_nx (l1 := [some (.ref a), some (.int ((d + 1 : Nat) : Int))]) (h1 := h1) (by
          rw [evS, ec]
          rfl)]
        have sb : ∀ h : VH, binD .sub (.int ((d + 1 : Nat) : Int)) (.int 1) h = .ok (.int (d : Int)) h := fun h => by
          show R.ok (D.int (((d + 1 : Nat) : Int) - 1)) h = _
          rw [show ((d + 1 : Nat) : Int) - 1 = (d : Int) by omega]
        simp only [evSs, evS, evE, evEs, R.bind, R.thn, List.getElem?_cons_zero, List.getElem?_cons_succ, sb, Bool.false_eq_true, if_false, a4, b4, fin]
        rfl
theorem sz_ht : ∀ t : Tm, t.sz ≤ 2 ^ t.ht
  | .at _ => Nat.le_refl _
  | .ap f a => by
    have h1 := sz_ht f
    have h2 := sz_ht a
    have m1 : 2 ^ f.ht ≤ 2 ^ max f.ht a.ht := Nat.pow_le_pow_right (by decide) (Nat.le_max_left _ _)
    have m2 : 2 ^ a.ht ≤ 2 ^ max f.ht a.ht := Nat.pow_le_pow_right (by decide) (Nat.le_max_right _ _)
    show f.sz + a.sz ≤ 2 ^ (max f.ht a.ht + 1)
    rw [Nat.pow_succ]
    omega
theorem five_one {s : List Nat} (h : five s = true) : s = [120] ∨ s = [121] ∨ s = sS ∨ s = sK ∨ s = sI := by
  unfold five at h
  simp only [Bool.or_eq_true, beq_iff_eq] at h
  rcases h with (((h | h) | h) | h) | h
  · exact Or.inl h
  · exact Or.inr (Or.inl h)
  · exact Or.inr (Or.inr (Or.inl h))
  · exact Or.inr (Or.inr (Or.inr (Or.inl h)))
  · exact Or.inr (Or.inr (Or.inr (Or.inr h)))
theorem five_ok : ∀ t : Tm, over five t = true → okT t = true ∧ t.one = true
  | .at s, h => by
    rcases five_one h with h | h | h | h | h <;> subst h <;> exact ⟨rfl, rfl⟩
  | .ap f a, h => by
    have h' : (over five f && over five a) = true := h
    rw [Bool.and_eq_true] at h'
    have h1 := five_ok f h'.1
    have h2 := five_ok a h'.2
    constructor
    · show (okT f && okT a) = true
      rw [h1.1, h2.1]; rfl
    · show (f.one && a.one) = true
      rw [h1.2, h2.2]; rfl
end K15

namespace K15
open Ev
abbrev longS : D := .str [108, 111, 110, 103]
abbrev dueB : Ss := (.cons (.set (.nam 9) (.cal true 9 (.cons (.var 6) (.cons (.con (.str [120])) (.cons (.var 8) .nil)))))
  (.cons (.set (.nam 10) (.tld 0 (.cal true 7 (.cons (.tup (.cons (.var 9) (.cons (.con (.str [122])) .nil))) (.cons (.con (.int (900))) .nil)))))
  (.cons (.ite (.or (.cal true 8 (.cons (.var 9) (.cons (.con (.str [120])) .nil))) (.and (.cmp .ne (.var 10) (.con longS)) (.cmp .ne (.idx (.var 10) (.con (.int (0)))) (.idx (.var 7) (.con (.int (0))))))) (.cons (.ret (.con (.bl false)))
  .nil) .nil)
  .nil)))
abbrev dueS : S := .ite (.cmp .ne (.var 7) (.con longS)) (.cons (.for_ (.nam 8) (.fix (.lst (.cons (.con (.bl true)) (.cons (.con (.bl false)) .nil)))) dueB) .nil) .nil
theorem ne_tup_str (v : Tm) (j : Int) (s : List Nat) (h : VH) : cmpD .ne (.tup [v.enc, .int j]) (.str s) h = some true := by
  show (eqD (.tup [v.enc, .int j]) (.str s) h).map not = _
  have pv : (D.tup [v.enc, .int j]).plain = true := pl2 v (.int j) rfl
  have vw : viewOf (.tup [v.enc, .int j]) h = some (.val (.tup [v.enc, .int j])) := by
    show (if (D.tup [v.enc, .int j]).plain = true then _ else _) = _
    rw [if_pos pv]
  have vs : viewOf (.str s) h = some (.val (.str s)) := rfl
  have hm : min (View.val (D.tup [v.enc, .int j])).deep (View.val (D.str s)).deep ≤ 64 := Nat.le_trans (Nat.min_le_right _ _) (Nat.zero_le _)
  unfold eqD
  rw [vw, vs]
  simp only [hm, if_true]
  rfl
theorem ne_long (h : VH) : cmpD .ne longS longS h = some false := rfl
def Comes (call : Call) (u v : Tm) : Prop := (∃ j : Nat, call 7 [u.enc, .int 900] VH.nil = .ok (.tup [v.enc, .int j]) VH.nil) ∨ ∃ j : Nat, call 7 [u.enc, .int 900] VH.nil = .ex 7 (.int j) VH.nil
theorem comes_tld (call : Call) (u v : Tm) (l : Lc) (h : VH) (e : E) (hc : Comes call u v) (he : evE C call e l h = .ok u.enc h) : ∃ d, evE C call (.tld 0 (.cal true 7 (.cons e (.cons (.con (.int (900))) .nil)))) l h = .ok d h ∧ (d = longS ∨ ∃ j : Nat, d = .tup [v.enc, .int j]) := by
  have pp : plains [u.enc, .int 900] = true := pl2 u (.int 900) rfl
  rcases hc with ⟨j, hc⟩ | ⟨j, hc⟩
  · refine ⟨_, tldOk _ _ _ _ h (.tup [v.enc, .int j]) (cal_ok (h2 := VH.nil) (xs := [u.enc, .int 900]) ?_ pp hc (pl2 v (.int j) rfl)), Or.inr ⟨j, rfl⟩⟩
    simp only [evEs, he, R.bind, evE]
  · refine ⟨_, tldLong _ _ _ _ h (.int j) (cal_ex (h2 := VH.nil) (xs := [u.enc, .int 900]) ?_ pp hc rfl), Or.inl rfl⟩
    simp only [evEs, he, R.bind, evE]
theorem due_one (call : Call) (t v : Tm) (b : Bool) (j : Nat) (hv : v.ht ≤ 64) (h : VH) (d0 d1 d2 d3 d4 d5 d9 d10 d11 d12 d13 : Option D)
    (h9 : call 9 [t.enc, .str [120], .bl b] VH.nil = .ok (takeT b [120] t).enc VH.nil)
    (h8 : call 8 [(takeT b [120] t).enc, .str [120]] VH.nil = .ok (.bl false) VH.nil)
    (hc : Comes call (.ap (takeT b [120] t) (.at [122])) v) :
    ∃ x9 x10, evSs C call dueB [d0, d1, d2, d3, d4, d5, some t.enc, some (.tup [v.enc, .int j]), some (.bl b), d9, d10, d11, d12, d13] h = .nx [d0, d1, d2, d3, d4, d5, some t.enc, some (.tup [v.enc, .int j]), some (.bl b), x9, x10, d11, d12, d13] h := by
  have p3 : plains [t.enc, .str [120], .bl b] = true := pl3 t (.str [120]) (.bl b) rfl rfl
  have p2 : ∀ w : Tm, plains [w.enc, .str [120]] = true := fun w => pl2 w (.str [120]) rfl
  generalize hw : takeT b [120] t = w at h9 h8 hc
  obtain ⟨d, e, hd⟩ := comes_tld call (.ap w (.at [122])) v [d0, d1, d2, d3, d4, d5, some t.enc, some (.tup [v.enc, .int j]), some (.bl b), some w.enc, d10, d11, d12, d13] h (.tup (.cons (.var 9) (.cons (.con (.str [122])) .nil))) hc rfl
  refine ⟨some w.enc, some d, ?_⟩
  rw [ss_nx (l1 := [d0, d1, d2, d3, d4, d5, some t.enc, some (.tup [v.enc, .int j]), some (.bl b), some w.enc, d10, d11, d12, d13]) (h1 := h) (by
    simp only [evS, evE, evEs, R.bind, R.thn, List.getElem?_cons_zero, List.getElem?_cons_succ, p3, if_true, h9, enc_plain, evG, List.set_cons_zero, List.set_cons_succ])]
  rw [ss_nx (l1 := [d0, d1, d2, d3, d4, d5, some t.enc, some (.tup [v.enc, .int j]), some (.bl b), some w.enc, some d, d11, d12, d13]) (h1 := h) (by
    rw [evS, e]
    rfl)]
  have ea : evE C call (.and (.cmp .ne (.var 10) (.con longS)) (.cmp .ne (.idx (.var 10) (.con (.int (0)))) (.idx (.var 7) (.con (.int (0)))))) [d0, d1, d2, d3, d4, d5, some t.enc, some (.tup [v.enc, .int j]), some (.bl b), some w.enc, some d, d11, d12, d13] h = .ok (.bl false) h := by
    rcases hd with hd | ⟨j2, hd⟩
    · subst hd
      rfl
    · subst hd
      have n1 := ne_tup_str v j2 [108, 111, 110, 103] h
      have n2 := ne_same v h hv
      simp only [evE, R.bind, List.getElem?_cons_zero, List.getElem?_cons_succ, n1, idx0, n2]
  rw [ss_nx (l1 := [d0, d1, d2, d3, d4, d5, some t.enc, some (.tup [v.enc, .int j]), some (.bl b), some w.enc, some d, d11, d12, d13]) (h1 := h) (by
    rw [evS, evE]
    rw [show evE C call (.cal true 8 (.cons (.var 9) (.cons (.con (.str [120])) .nil))) [d0, d1, d2, d3, d4, d5, some t.enc, some (.tup [v.enc, .int j]), some (.bl b), some w.enc, some d, d11, d12, d13] h = .ok (.bl false) h by
      simp only [evE, evEs, R.bind, List.getElem?_cons_zero, List.getElem?_cons_succ, p2, if_true, h8, D.plain]]
    show R.thn (R.bind (evE C call _ _ h) _) _ _ = _
    rw [ea]
    rfl)]
  rfl
theorem due_go (call : Call) (t : Tm) (due : D) (h : VH) (d0 d1 d2 d3 d4 d5 d8 d9 d10 d11 d12 d13 : Option D)
    (h9 : ∀ b, call 9 [t.enc, .str [120], .bl b] VH.nil = .ok (takeT b [120] t).enc VH.nil)
    (h8 : ∀ b, call 8 [(takeT b [120] t).enc, .str [120]] VH.nil = .ok (.bl false) VH.nil)
    (hd : due = longS ∨ ∃ (v : Tm) (j : Nat), due = .tup [v.enc, .int j] ∧ v.ht ≤ 64 ∧ ∀ b, Comes call (.ap (takeT b [120] t) (.at [122])) v) :
    ∃ x8 x9 x10 h', Keeps h h' ∧ evS C call dueS [d0, d1, d2, d3, d4, d5, some t.enc, some due, d8, d9, d10, d11, d12, d13] h = .nx [d0, d1, d2, d3, d4, d5, some t.enc, some due, x8, x9, x10, d11, d12, d13] h' := by
  rcases hd with hd | ⟨v, j, hd, hv, hc⟩
  · subst hd
    exact ⟨d8, d9, d10, h, Keeps.refl h, rfl⟩
  · subst hd
    let h1 := h.new (.lst [.bl true, .bl false])
    obtain ⟨y9, y10, e1⟩ := due_one call t v true j hv h1 d0 d1 d2 d3 d4 d5 d9 d10 d11 d12 d13 (h9 true) (h8 true) (hc true)
    obtain ⟨z9, z10, e2⟩ := due_one call t v false j hv h1 d0 d1 d2 d3 d4 d5 y9 y10 d11 d12 d13 (h9 false) (h8 false) (hc false)
    refine ⟨some (.bl false), z9, z10, h1, Keeps.new h _, ?_⟩
    have g : h1.get h.n = some (.lst [.bl true, .bl false]) := get_new h _
    have nx : ∀ i, Cu.next (.live h.n) i h1 = some ([D.bl true, .bl false][i]?) := fun i => by
      show (match h1.get h.n with | some (.lst xs) => some xs[i]? | _ => none) = _
      rw [g]
    have il : isLst h1 h.n = true := by
      show (match h1.get h.n with | some (.lst _) => true | _ => false) = _
      rw [g]
    have ei : ∀ l, evI C call (.fix (.lst (.cons (.con (.bl true)) (.cons (.con (.bl false)) .nil)))) l h = .ok (.live h.n) h1 := fun l => by
      rw [evI]
      rw [show evE C call (.lst (.cons (.con (.bl true)) (.cons (.con (.bl false)) .nil))) l h = .ok (.ref h.n) h1 from rfl]
      show (if isLst h1 h.n = true then R.ok (Cu.live h.n) h1 else .no) = _
      rw [il]
      rfl
    have n1 := ne_tup_str v j [108, 111, 110, 103] h
    rw [evS]
    rw [show evE C call (.cmp .ne (.var 7) (.con longS)) [d0, d1, d2, d3, d4, d5, some t.enc, some (.tup [v.enc, .int j]), d8, d9, d10, d11, d12, d13] h = .ok (.bl true) h by
      simp only [evE, R.bind, List.getElem?_cons_zero, List.getElem?_cons_succ, n1]]
    show evSs C call (.cons (.for_ (.nam 8) (.fix (.lst (.cons (.con (.bl true)) (.cons (.con (.bl false)) .nil)))) dueB) .nil) _ h = _
    have lf : evS C call (.for_ (.nam 8) (.fix (.lst (.cons (.con (.bl true)) (.cons (.con (.bl false)) .nil)))) dueB) [d0, d1, d2, d3, d4, d5, some t.enc, some (.tup [v.enc, .int j]), d8, d9, d10, d11, d12, d13] h = .nx [d0, d1, d2, d3, d4, d5, some t.enc, some (.tup [v.enc, .int j]), some (.bl false), z9, z10, d11, d12, d13] h1 := by
      rw [s_for (ei _)]
      rw [show loopFuel = 99997 + 1 + 1 + 1 from rfl]
      rw [it_nx (nx 0) rfl e1, it_nx (nx 1) rfl e2, it_end (nx 2)]
    rw [ss_nx lf]
    rfl
end K15

namespace K15
open Ev
theorem c_one' : ∀ a < 3, cntOk 101 99 a (numT a) = true := by decide +kernel
theorem c_add' : ∀ a < 3, ∀ b < 3, cntOk 101 299 (a + b) (.ap (.ap addT (numT a)) (numT b)) = true := by decide +kernel
theorem c_mul' : ∀ a < 3, ∀ b < 3, cntOk 101 299 (a * b) (.ap (.ap tB (numT a)) (numT b)) = true := by decide +kernel
theorem r11 (a n : Nat) (ha : a < 3) : run C (n + 10) 11 [.int a] VH.nil = .ok (numT a).enc VH.nil := by
  match a, ha with
  | 0, _ => exact r11_0 n
  | 1, _ => exact r11_1 n
  | 2, _ => exact r11_2 n
theorem ne_ii (i : Int) (h : VH) : cmpD .ne (.int i) (.int i) h = some false := by rw [ne_int, beq_self_eq_true]; rfl
theorem cmp_e {call : Call} {op : Cmp} {a b : E} {l : Lc} {h h1 h2 : VH} {x y : D} {r : Bool} (ea : evE C call a l h = .ok x h1) (eb : evE C call b l h1 = .ok y h2) (ec : cmpD op x y h2 = some r) : evE C call (.cmp op a b) l h = .ok (.bl r) h2 := by
  rw [evE, ea]
  show R.bind (evE C call b l h1) _ = _
  rw [eb]
  show (match cmpD op x y h2 with | some r => R.ok (D.bl r) h2 | none => .no) = _
  rw [ec]
theorem ite_f {call : Call} {c : E} {a : Ss} {l : Lc} {h h1 : VH} (ec : evE C call c l h = .ok (.bl false) h1) : evS C call (.ite c a .nil) l h = .nx l h1 := by
  rw [evS, ec]
  rfl
theorem bin_vv {call : Call} {op : Bin} {i j : Nat} {x y : D} {l : Lc} {h : VH} {r : R D} (hi : l[i]? = some (some x)) (hj : l[j]? = some (some y)) (hb : binD op x y h = r) : evE C call (.bin op (.var i) (.var j)) l h = r := by
  rw [evE, evE, hi]
  show R.bind (evE C call (.var j) l h) _ = _
  rw [evE, hj]
  exact hb
theorem mul_ok (A B : Nat) (hA : A < 3) (h2 : VH) : binD .mul (.int (A : Int)) (.int (B : Int)) h2 = .ok (.int ((A * B : Nat) : Int)) h2 := by
  show (if (small64 (A : Int) || small64 (B : Int)) = true then R.ok (D.int ((A : Int) * (B : Int))) h2 else .no) = _
  rw [show small64 (A : Int) = true by unfold small64; simp; omega]
  rfl
/-- what a drawn term's runs answer -/
structure TermOk (call : Call) (t : Tm) : Prop where
  low : t.ht ≤ 64
  read : ∃ h1, call 0 [.str (told t)] VH.nil = .ok t.enc h1
  told : ∃ h1, call 1 [t.enc] VH.nil = .ok (.str (told t)) h1
  size : ∃ h1, call 2 [t.enc] VH.nil = .ok (.int t.sz) h1
  lsize : call 27 [t.enc] VH.nil = .ok (.int t.sz) VH.nil
  hold : call 8 [t.enc, .str [120]] VH.nil = .ok (.bl (holdsT t [120])) VH.nil
  lput : ∀ u : Tm, u.ht ≤ 3 → call 28 [u.enc, .str [122]] VH.nil = .ok (subT [120] (.at [122]) u).enc VH.nil
  putin : ∀ (u : Tm) (x y : List Nat), u.ht ≤ 3 → call 20 [u.enc, .str x, .str y] VH.nil = .ok (subT x (.at y) u).enc VH.nil
  due : (∃ j : Nat, call 7 [(subT [120] (.at [122]) t).enc, .int 60] VH.nil = .ex 7 (.int j) VH.nil) ∨ ∃ (v : Tm) (j : Nat), call 7 [(subT [120] (.at [122]) t).enc, .int 60] VH.nil = .ok (.tup [v.enc, .int j]) VH.nil ∧ v.ht ≤ 64 ∧ ∀ b, Comes call (.ap (takeT b [120] t) (.at [122])) v
  take : ∀ b, call 9 [t.enc, .str [120], .bl b] VH.nil = .ok (takeT b [120] t).enc VH.nil
  hold2 : ∀ b, call 8 [(takeT b [120] t).enc, .str [120]] VH.nil = .ok (.bl false) VH.nil
  first : ∃ h', call 32 [t.enc] VH.nil = .ok (.bl true) h'
def flatT (t : Tm) : Tm := subT sI (.at [121]) (subT sK (.at [121]) (subT sS (.at [121]) t))
structure FlatOk (call : Call) (u : Tm) : Prop where
  func : ∀ b, call 10 [.tup [.str [120]], u.enc, .bl b] VH.nil = .ok (takeT b [120] u).enc VH.nil
  two : ∃ h1, call 21 [(takeT true [120] u).enc] VH.nil = .ok (twoT (takeT true [120] u)).enc h1
  comes : Comes call (.ap (twoT (takeT true [120] u)) (.at [122])) (subT [120] (.at [122]) u)
  same : ∀ (h : VH) (a : Nat), h.get a = some (.lst [.str [122]]) → call 22 [(takeT true [120] u).enc, (takeT false [120] u).enc, .ref a, .int 900] h = .ok (.bl true) h ∨ ∃ j : Nat, call 22 [(takeT true [120] u).enc, (takeT false [120] u).enc, .ref a, .int 900] h = .ex 7 (.int j) h
abbrev lawB : Ss := match b_law with
  | .cons (.for_ _ _ b) _ => b
  | _ => .nil
theorem body_gen (call : Call) (tb : Tm) (a : Nat) (h : VH) (hd : DiceAt h a) (d0 d2 d3 d4 d5 d6 d7 d8 d9 d10 d11 d12 d13 : Option D)
    (hroll : ∀ h, DiceAt h a → ∃ (r : Nat) (h' : VH), r < 3 ∧ Keeps h h' ∧ call 24 [.ref a, .int 3] h = .ok (.int r) h')
    (hterm : ∀ h, DiceAt h a → ∃ (t : Tm) (h' : VH), t.ht ≤ 3 ∧ TermOk call t ∧ FlatOk call (flatT t) ∧ Keeps h h' ∧ call 26 [.ref a, .int 3] h = .ok t.enc h')
    (q11 : ∀ a < 3, call 11 [.int (a : Nat)] VH.nil = .ok (numT a).enc VH.nil)
    (q13 : call 13 [] VH.nil = .ok addT.enc VH.nil) (q14 : call 14 [] VH.nil = .ok tb.enc VH.nil)
    (co : ∀ a < 3, call 12 [(numT a).enc, .int 99] VH.nil = .ok (.int (a : Nat)) VH.nil)
    (ca : ∀ a < 3, ∀ b < 3, call 12 [.tup [.tup [addT.enc, (numT a).enc], (numT b).enc], .int 299] VH.nil = .ok (.int ((a + b : Nat) : Int)) VH.nil)
    (cm : ∀ a < 3, ∀ b < 3, call 12 [.tup [.tup [tb.enc, (numT a).enc], (numT b).enc], .int 299] VH.nil = .ok (.int ((a * b : Nat) : Int)) VH.nil)
    (cn : ∀ a < 3, ∀ b < 3, ∃ h', call 30 [.int (a : Nat), .int (b : Nat), (numT a).enc, (numT b).enc] VH.nil = .ok (.bl true) h')
    (q31 : ∃ h', call 31 [] VH.nil = .ok (.bl true) h') (q33 : ∃ h', call 33 [] VH.nil = .ok (.bl true) h')
    (qk : call 12 [.str [75], .int 99] VH.nil = .ex 2 .non VH.nil)
    (ro : ∃ h', call 0 [.str [83, 73, 73, 40, 83, 73, 73, 41]] VH.nil = .ok omegaT.enc h') (go : ∃ j : Nat, call 7 [omegaT.enc, .int 50] VH.nil = .ex 7 (.int j) VH.nil) :
    ∃ l' h', l'.length = 14 ∧ evSs C call lawB [d0, some (.ref a), d2, d3, d4, d5, d6, d7, d8, d9, d10, d11, d12, d13] h = .nx l' h' ∧ Keeps h h' := by
  obtain ⟨A, h1, hA, k1, e1⟩ := hroll h hd
  obtain ⟨B, h2, hB, k2, e2⟩ := hroll h1 (k1.dice hd)
  have k2' := k1.trans k2
  obtain ⟨t, h3, ht, T, F, k3, e3⟩ := hterm h2 (k2'.dice hd)
  have k3' := k2'.trans k3
  clear hroll hterm
  have pl0 : plains [] = true := rfl
  have pi : ∀ i : Int, plains [.int i] = true := fun i => rfl
  have ps : ∀ s : List Nat, plains [.str s] = true := fun i => rfl
  have pe : ∀ (t : Tm) (i : Int), plains [t.enc, .int i] = true := fun t i => pl2 t (.int i) rfl
  have pes : ∀ (t : Tm) (i : List Nat), plains [t.enc, .str i] = true := fun t i => pl2 t (.str i) rfl
  have pess : ∀ (t : Tm) (i j : List Nat), plains [t.enc, .str i, .str j] = true := fun t i j => pl3 t (.str i) (.str j) rfl rfl
  have pt2 : ∀ (t u v : Tm) (i : Int), plains [.tup [.tup [t.enc, u.enc], v.enc], .int i] = true := fun t u v i => pl2 (.ap (.ap t u) v) (.int i) rfl
  have p4 : plains [.int (A : Int), .int (B : Int), (numT A).enc, (numT B).enc] = true := by
    show (true && (true && ((numT A).enc.plain && ((numT B).enc.plain && true)))) = true
    rw [enc_plain, enc_plain]; rfl
  have ad : binD .add (.int (A : Int)) (.int (B : Int)) h2 = .ok (.int ((A + B : Nat) : Int)) h2 := rfl
  have mu := mul_ok A B hA h2
  have cmq := cm A hA B hB
  clear cm
  generalize A * B = q at mu cmq
  obtain ⟨hn, cn'⟩ := cn A hA B hB
  obtain ⟨h31, q31⟩ := q31
  obtain ⟨h33, q33⟩ := q33
  obtain ⟨ho, ro⟩ := ro
  obtain ⟨jo, go⟩ := go
  show ∃ (l' : Lc) (h' : VH), l'.length = 14 ∧ evSs C call (.cons _ _) [d0, some (.ref a), d2, d3, d4, d5, d6, d7, d8, d9, d10, d11, d12, d13] h = .nx l' h' ∧ Keeps h h'
  rw [ss_nx (l1 := [d0, some (.ref a), some (.int (A : Int)), some (.int (B : Int)), d4, d5, d6, d7, d8, d9, d10, d11, d12, d13]) (h1 := h2) (by
    simp only [evS, evE, evEs, R.bind, R.thn, List.getElem?_cons_zero, List.getElem?_cons_succ, Bool.false_eq_true, if_false, e1, e2, evG, seqOf, setAll, List.set_cons_zero, List.set_cons_succ])]
  rw [ss_nx (l1 := [d0, some (.ref a), some (.int (A : Int)), some (.int (B : Int)), some (numT A).enc, some (numT B).enc, d6, d7, d8, d9, d10, d11, d12, d13]) (h1 := h2) (by
    simp only [evS, evE, evEs, R.bind, R.thn, List.getElem?_cons_zero, List.getElem?_cons_succ, pi, if_true, q11 A hA, q11 B hB, enc_plain, evG, seqOf, setAll, List.set_cons_zero, List.set_cons_succ])]
  rw [ss_nx (l1 := [d0, some (.ref a), some (.int (A : Int)), some (.int (B : Int)), some (numT A).enc, some (numT B).enc, d6, d7, d8, d9, d10, d11, d12, d13]) (h1 := h2) (by
    simp only [evSs, evS, evE, evEs, R.bind, R.thn, List.getElem?_cons_zero, List.getElem?_cons_succ, pl0, pe, pt2, if_true, q13, enc_plain, co A hA, ca A hA B hB, D.plain, ne_ii, ad])]
  rw [ss_nx (l1 := [d0, some (.ref a), some (.int (A : Int)), some (.int (B : Int)), some (numT A).enc, some (numT B).enc, d6, d7, d8, d9, d10, d11, d12, d13]) (h1 := h2) (by
    refine ite_f (cmp_e (h1 := h2) (h2 := h2) (x := .int (q : Int)) (y := .int (q : Int)) ?_ (bin_vv (x := .int (A : Int)) (y := .int (B : Int)) rfl rfl mu) (ne_ii _ _))
    simp only [evE, evEs, R.bind, List.getElem?_cons_zero, List.getElem?_cons_succ, pl0, pt2, if_true, q14, enc_plain, cmq, D.plain])]
  rw [ss_nx (l1 := [d0, some (.ref a), some (.int (A : Int)), some (.int (B : Int)), some (numT A).enc, some (numT B).enc, d6, d7, d8, d9, d10, d11, d12, d13]) (h1 := h2) (by
    simp only [evSs, evS, evE, evEs, R.bind, R.thn, List.getElem?_cons_zero, List.getElem?_cons_succ, p4, if_true, cn', D.plain, Bool.not_true])]
  rw [ss_nx (l1 := [d0, some (.ref a), some (.int (A : Int)), some (.int (B : Int)), some (numT A).enc, some (numT B).enc, some t.enc, d7, d8, d9, d10, d11, d12, d13]) (h1 := h3) (by
    simp only [evS, evE, evEs, R.bind, R.thn, List.getElem?_cons_zero, List.getElem?_cons_succ, Bool.false_eq_true, if_false, e3, evG, List.set_cons_zero, List.set_cons_succ])]
  generalize some (D.int (A : Int)) = x2
  generalize some (D.int (B : Int)) = x3
  generalize some (numT A).enc = x4
  generalize some (numT B).enc = x5
  obtain ⟨hr, tr⟩ := T.read
  obtain ⟨hto, tt⟩ := T.told
  obtain ⟨hsz, ts⟩ := T.size
  have nt : ∀ h, cmpD .ne t.enc t.enc h = some false := fun h => ne_same t h T.low
  rw [ss_nx (l1 := [d0, some (.ref a), x2, x3, x4, x5, some t.enc, d7, d8, d9, d10, d11, d12, d13]) (h1 := h3) (by
    simp only [evSs, evS, evE, evEs, R.bind, R.thn, List.getElem?_cons_zero, List.getElem?_cons_succ, pl1, ps, if_true, tt, tr, ts, T.lsize, enc_plain, D.plain, nt, ne_ii])]
  have hz := T.lput t ht
  have hzp := T.putin t [120] [122] ht
  have hth : (subT [120] (.at [122]) t).ht = t.ht := sub_ht_at _ _ t
  have nz1 : cmpD .ne (subT [120] (.at [122]) t).enc t.enc h3 = some (!decide (subT [120] (.at [122]) t = t)) := by
    show (eqD _ _ h3).map not = _
    rw [eq_enc _ _ h3 (by omega)]
    rfl
  have nz2 : cmpD .ne (subT [120] (.at [122]) t).enc (subT [120] (.at [122]) t).enc h3 = some false := ne_same _ h3 (by omega)
  have nb : cmpD .ne (.bl (holdsT t [120])) (.bl (!decide (subT [120] (.at [122]) t = t))) h3 = some false := by
    have ss := sub_same [120] [122] (by decide) t
    have : (!decide (subT [120] (.at [122]) t = t)) = holdsT t [120] := by
      by_cases hh : subT [120] (.at [122]) t = t
      · rw [decide_eq_true hh, ss.mp hh]; rfl
      · rw [decide_eq_false hh]
        cases hx : holdsT t [120] with
        | true => rfl
        | false => exact absurd (ss.mpr hx) hh
    rw [this]
    show some (!(holdsT t [120] == holdsT t [120])) = _
    rw [beq_self_eq_true]; rfl
  rw [ss_nx (l1 := [d0, some (.ref a), x2, x3, x4, x5, some t.enc, d7, d8, d9, d10, d11, d12, d13]) (h1 := h3) (by
    simp only [evSs, evS, evE, evEs, R.bind, R.thn, List.getElem?_cons_zero, List.getElem?_cons_succ, pes, pess, if_true, T.hold, hz, hzp, enc_plain, D.plain, nz1, nz2, nb])]
  have du : ∃ due, (due = longS ∨ ∃ (v : Tm) (j : Nat), due = .tup [v.enc, .int j] ∧ v.ht ≤ 64 ∧ ∀ b, Comes call (.ap (takeT b [120] t) (.at [122])) v) ∧
      evS C call (.set (.nam 7) (.tld 0 (.cal true 7 (.cons (.cal true 28 (.cons (.var 6) (.cons (.con (.str [122])) .nil))) (.cons (.con (.int (60))) .nil))))) [d0, some (.ref a), x2, x3, x4, x5, some t.enc, d7, d8, d9, d10, d11, d12, d13] h3 = .nx [d0, some (.ref a), x2, x3, x4, x5, some t.enc, some due, d8, d9, d10, d11, d12, d13] h3 := by
    have ees : evEs C call (.cons (.cal true 28 (.cons (.var 6) (.cons (.con (.str [122])) .nil))) (.cons (.con (.int (60))) .nil)) [d0, some (.ref a), x2, x3, x4, x5, some t.enc, d7, d8, d9, d10, d11, d12, d13] h3 = .ok [(subT [120] (.at [122]) t).enc, .int 60] h3 := by
      simp only [evE, evEs, R.bind, List.getElem?_cons_zero, List.getElem?_cons_succ, pes, if_true, hz, enc_plain]
    rcases T.due with ⟨j, q⟩ | ⟨v, j, q, w⟩
    · refine ⟨longS, Or.inl rfl, ?_⟩
      rw [evS, tldLong _ _ _ _ h3 (.int j) (cal_ex (h2 := VH.nil) ees (pe _ _) q rfl)]
      rfl
    · refine ⟨.tup [v.enc, .int j], Or.inr ⟨v, j, rfl, w⟩, ?_⟩
      rw [evS, tldOk _ _ _ _ h3 _ (cal_ok (h2 := VH.nil) ees (pe _ _) q (pl2 v (.int j) rfl))]
      rfl
  obtain ⟨due, hdue, e9⟩ := du
  rw [ss_nx e9]
  obtain ⟨x8, x9, x10, h4, k4, e10⟩ := due_go call t due h3 d0 (some (.ref a)) x2 x3 x4 x5 d8 d9 d10 d11 d12 d13 T.take T.hold2 hdue
  rw [ss_nx e10]
  have u1 : (subT sS (.at [121]) t).ht ≤ 3 := by rw [sub_ht_at]; exact ht
  have u2 : (subT sK (.at [121]) (subT sS (.at [121]) t)).ht ≤ 3 := by rw [sub_ht_at]; exact u1
  have fl : (flatT t).ht ≤ 3 := by unfold flatT; rw [sub_ht_at]; exact u2
  have g1 := T.putin t sS [121] ht
  have g2 := T.putin _ sK [121] u1
  have g3 := T.putin _ sI [121] u2
  rw [ss_nx (l1 := [d0, some (.ref a), x2, x3, x4, x5, some t.enc, some due, x8, x9, x10, some (flatT t).enc, d12, d13]) (h1 := h4) (by
    simp only [evS, evE, evEs, R.bind, R.thn, List.getElem?_cons_zero, List.getElem?_cons_succ, pess, if_true, g1, g2, g3, enc_plain, evG, List.set_cons_zero, List.set_cons_succ]
    rfl)]
  generalize flatT t = u at F fl
  have pf : ∀ b, plains [.tup [.str [120]], u.enc, .bl b] = true := fun b => by
    show (true && (u.enc.plain && (true && true))) = true
    rw [enc_plain]; rfl
  obtain ⟨htw, tw⟩ := F.two
  have ff := F.func true
  have ffl := F.func false
  obtain ⟨d, ed, hdd⟩ := comes_tld call (.ap (twoT (takeT true [120] u)) (.at [122])) (subT [120] (.at [122]) u) [d0, some (.ref a), x2, x3, x4, x5, some t.enc, some due, x8, x9, x10, some u.enc, d12, d13] h4 (.tup (.cons (.cal true 21 (.cons (.cal true 10 (.cons (.tup (.cons (.con (.str [120])) .nil)) (.cons (.var 11) (.cons (.con (.bl true)) .nil)))) .nil)) (.cons (.con (.str [122])) .nil))) F.comes (by
    simp only [evE, evEs, R.bind, List.getElem?_cons_zero, List.getElem?_cons_succ, pf, if_true, ff, enc_plain, pl1, tw]
    rfl)
  rw [ss_nx (l1 := [d0, some (.ref a), x2, x3, x4, x5, some t.enc, some due, x8, x9, some d, some u.enc, d12, d13]) (h1 := h4) (by
    rw [evS, ed]
    rfl)]
  have lz := T.lput u fl
  have huh : (subT [120] (.at [122]) u).ht = u.ht := sub_ht_at _ _ u
  have nz3 : cmpD .ne (subT [120] (.at [122]) u).enc (subT [120] (.at [122]) u).enc h4 = some false := ne_same _ h4 (by omega)
  rw [ss_nx (l1 := [d0, some (.ref a), x2, x3, x4, x5, some t.enc, some due, x8, x9, some d, some u.enc, d12, d13]) (h1 := h4) (by
    rcases hdd with hdd | ⟨j2, hdd⟩
    · subst hdd
      rfl
    · subst hdd
      have n1 := ne_tup_str (subT [120] (.at [122]) u) j2 [108, 111, 110, 103] h4
      simp only [evSs, evS, evE, evEs, R.bind, R.thn, List.getElem?_cons_zero, List.getElem?_cons_succ, n1, idx0, pes, if_true, lz, enc_plain, nz3])]
  rw [ss_nx (l1 := [d0, some (.ref a), x2, x3, x4, x5, some t.enc, some due, x8, x9, some d, some u.enc, some (takeT true [120] u).enc, some (takeT false [120] u).enc]) (h1 := h4) (by
    simp only [evS, evE, evEs, R.bind, R.thn, List.getElem?_cons_zero, List.getElem?_cons_succ, pf, if_true, ff, ffl, enc_plain, evG, seqOf, setAll, List.set_cons_zero, List.set_cons_succ])]
  have sm : ∃ h5, Keeps h4 h5 ∧ evS C call (.ite (.cmp .nin (.tld 0 (.cal false 22 (.cons (.var 12) (.cons (.var 13) (.cons (.lst (.cons (.con (.str [122])) .nil)) (.cons (.con (.int (900))) .nil)))))) (.lst (.cons (.con (.bl true)) (.cons (.con (.str [108, 111, 110, 103])) .nil)))) (.cons (.ret (.con (.bl false))) .nil) .nil) [d0, some (.ref a), x2, x3, x4, x5, some t.enc, some due, x8, x9, some d, some u.enc, some (takeT true [120] u).enc, some (takeT false [120] u).enc] h4 = .nx [d0, some (.ref a), x2, x3, x4, x5, some t.enc, some due, x8, x9, some d, some u.enc, some (takeT true [120] u).enc, some (takeT false [120] u).enc] h5 := by
    have g5 : (h4.new (.lst [.str [122]])).get h4.n = some (.lst [.str [122]]) := get_new h4 _
    have sq : seqOf (.ref (h4.new (.lst [.str [122]])).n) ((h4.new (.lst [.str [122]])).new (.lst [.bl true, longS])) = some [.bl true, longS] := by
      show (match ((h4.new (.lst [.str [122]])).new (.lst [.bl true, longS])).get (h4.new (.lst [.str [122]])).n with | some (.lst xs) => some xs | _ => none) = _
      rw [get_new]
    refine ⟨(h4.new (.lst [.str [122]])).new (.lst [.bl true, longS]), (Keeps.new h4 _).trans (Keeps.new _ _), ?_⟩
    rcases F.same (h4.new (.lst [.str [122]])) h4.n g5 with q | ⟨j, q⟩
    · have et := tldOk call (.cal false 22 (.cons (.var 12) (.cons (.var 13) (.cons (.lst (.cons (.con (.str [122])) .nil)) (.cons (.con (.int (900))) .nil))))) [d0, some (.ref a), x2, x3, x4, x5, some t.enc, some due, x8, x9, some d, some u.enc, some (takeT true [120] u).enc, some (takeT false [120] u).enc] h4 (h4.new (.lst [.str [122]])) (.bl true) (by
        simp only [evE, evEs, R.bind, List.getElem?_cons_zero, List.getElem?_cons_succ, Bool.false_eq_true, if_false, q])
      have ci : cmpD .nin (.bl true) (.ref (h4.new (.lst [.str [122]])).n) ((h4.new (.lst [.str [122]])).new (.lst [.bl true, longS])) = some false := by
        show (match seqOf (.ref (h4.new (.lst [.str [122]])).n) ((h4.new (.lst [.str [122]])).new (.lst [.bl true, longS])) with | some ys => _ | none => none) = _
        rw [sq]
        rfl
      rw [evS, evE, et]
      simp only [evSs, evE, evEs, R.bind, R.thn, ci]
    · have et := tldLong call (.cal false 22 (.cons (.var 12) (.cons (.var 13) (.cons (.lst (.cons (.con (.str [122])) .nil)) (.cons (.con (.int (900))) .nil))))) [d0, some (.ref a), x2, x3, x4, x5, some t.enc, some due, x8, x9, some d, some u.enc, some (takeT true [120] u).enc, some (takeT false [120] u).enc] h4 (h4.new (.lst [.str [122]])) (.int j) (by
        simp only [evE, evEs, R.bind, List.getElem?_cons_zero, List.getElem?_cons_succ, Bool.false_eq_true, if_false, q])
      have ci : cmpD .nin longS (.ref (h4.new (.lst [.str [122]])).n) ((h4.new (.lst [.str [122]])).new (.lst [.bl true, longS])) = some false := by
        show (match seqOf (.ref (h4.new (.lst [.str [122]])).n) ((h4.new (.lst [.str [122]])).new (.lst [.bl true, longS])) with | some ys => _ | none => none) = _
        rw [sq]
        rfl
      rw [evS, evE, et]
      simp only [evSs, evE, evEs, R.bind, R.thn, ci]
  obtain ⟨h5, k5, e15⟩ := sm
  rw [ss_nx e15]
  obtain ⟨hfi, qf⟩ := T.first
  generalize some (takeT true [120] u).enc = x12
  generalize some (takeT false [120] u).enc = x13
  generalize some u.enc = x11
  generalize some d = x10'
  generalize some due = x7
  rw [ss_nx (l1 := [d0, some (.ref a), x2, x3, x4, x5, some t.enc, x7, x8, x9, x10', x11, x12, x13]) (h1 := h5) (by
    simp only [evSs, evS, evE, evEs, R.bind, R.thn, List.getElem?_cons_zero, List.getElem?_cons_succ, pl1, if_true, qf, D.plain, Bool.not_true])]
  rw [ss_nx (l1 := [d0, some (.ref a), x2, x3, x4, x5, some t.enc, x7, x8, x9, x10', x11, x12, x13]) (h1 := h5) (by
    simp only [evSs, evS, evE, evEs, R.bind, R.thn, pl0, if_true, q31, D.plain, Bool.not_true])]
  rw [ss_nx (l1 := [d0, some (.ref a), x2, x3, x4, x5, some t.enc, x7, x8, x9, x10', x11, x12, x13]) (h1 := h5) (by
    simp only [evSs, evS, evE, evEs, R.bind, R.thn, pl0, if_true, q33, D.plain, Bool.not_true])]
  rw [ss_nx (l1 := [d0, some (.ref a), x2, x3, x4, x5, some t.enc, x7, x8, x9, x10', x11, x12, x13]) (h1 := h5) (by
    have : evE C call (.cal true 12 (.cons (.con (.str [75])) (.cons (.con (.int (99))) .nil))) [d0, some (.ref a), x2, x3, x4, x5, some t.enc, x7, x8, x9, x10', x11, x12, x13] h5 = .ex 2 .non h5 := cal_ex (h2 := VH.nil) rfl rfl qk rfl
    rw [evS, evE, evE, this]
    rfl)]
  rw [ss_nx (l1 := [d0, some (.ref a), x2, x3, x4, x5, some t.enc, x7, x8, x9, x10', x11, x12, x13]) (h1 := h5) (by
    have : evE C call (.cal true 7 (.cons (.cal true 0 (.cons (.con (.str [83, 73, 73, 40, 83, 73, 73, 41])) .nil)) (.cons (.con (.int (50))) .nil))) [d0, some (.ref a), x2, x3, x4, x5, some t.enc, x7, x8, x9, x10', x11, x12, x13] h5 = .ex 7 (.int jo) h5 := by
      simp only [evE, evEs, R.bind, ps, if_true, ro, enc_plain, pe, go, D.plain]
    rw [evS, evE, evE, this]
    rfl)]
  exact ⟨[d0, some (.ref a), x2, x3, x4, x5, some t.enc, x7, x8, x9, x10', x11, x12, x13], h5, rfl, rfl, (k3'.trans k4).trans k5⟩
end K15

namespace K15
open Ev
def xy (s : List Nat) : Bool := s == [120] || s == [121]
def xyI (s : List Nat) : Bool := xy s || s == sI
def xyKI (s : List Nat) : Bool := xyI s || s == sK
theorem flat_over (t : Tm) (h : over five t = true) : over xy (flatT t) = true := by
  unfold flatT
  refine over_sub (p := xyI) sI (.at [121]) rfl ?_ _ (over_sub (p := xyKI) sK (.at [121]) rfl ?_ _ (over_sub (p := five) sS (.at [121]) rfl ?_ _ h))
  · intro s hs hn
    unfold xyI at hs
    rw [Bool.or_eq_true, beq_iff_eq] at hs
    rcases hs with hs | hs
    · exact hs
    · exact absurd hs hn
  · intro s hs hn
    unfold xyKI at hs
    rw [Bool.or_eq_true, beq_iff_eq] at hs
    rcases hs with hs | hs
    · exact hs
    · exact absurd hs hn
  · intro s hs hn
    rcases five_one hs with h | h | h | h | h
    · subst h; rfl
    · subst h; rfl
    · exact absurd h hn
    · subst h; rfl
    · subst h; rfl
theorem xy_one {s : List Nat} (h : xy s = true) : s = [120] ∨ s = [121] := by
  unfold xy at h
  rw [Bool.or_eq_true, beq_iff_eq, beq_iff_eq] at h
  exact h
theorem two_sz : ∀ t : Tm, (twoT t).sz ≤ 10 * t.sz
  | .at s => by
    show (twoA s).sz ≤ 10 * 1
    unfold twoA
    split
    · decide
    split
    · decide
    split
    · decide
    · show 1 ≤ 10 * 1; decide
  | .ap f a => by
    have h1 := two_sz f
    have h2 := two_sz a
    show (twoT f).sz + (twoT a).sz ≤ 10 * (f.sz + a.sz)
    omega
theorem comes_of (n : Nat) (u v : Tm) (hr : Rds u v) (hv : stepT v = none) (hn : v.ht < n) (hz : u.sz ≤ 20000) : Comes (run C (n + 2)) u v := by
  have h := run_to 900 n u v hr hv hn hz (by decide)
  cases hg : goT 900 loopFuel 0 u with
  | none =>
    rw [hg] at h
    exact Or.inr h
  | some wj =>
    obtain ⟨w, j⟩ := wj
    rw [hg] at h
    exact Or.inl ⟨j, h.2⟩
theorem term_ok (t : Tm) (ht : t.ht ≤ 3) (ho : over five t = true) : TermOk (run C 104) t := by
  have hs : t.sz ≤ 8 := Nat.le_trans (sz_ht t) (Nat.pow_le_pow_right (n := 2) (j := 3) (by decide) ht)
  have h5 := five_ok t ho
  have hl := told_len t h5.2
  have tz : ∀ b, (takeT b [120] t).sz ≤ 24 := fun b => by have := take_sz b [120] t; omega
  have th : ∀ b, (takeT b [120] t).ht ≤ 7 := fun b => by have := take_ht b [120] t; omega
  refine ⟨by omega, read_run t 103 h5.1 (by omega) (by omega), told_run t 104 h5.2 (by omega) (by omega), size_run t 103 (by omega), lsize_run t 104 (by omega), holds_run [120] t 104 (by omega),
    fun u hu => lput_run (.at [122]) u 104 (by omega), fun u x y hu => putin_run x (.at y) u 104 (by omega), ?_, fun b => take_run [120] b t 104 (by omega), fun b => ?_, first_run 101 t (by omega) (by omega) (by omega)⟩
  · have hu : (subT [120] (.at [122]) t).ht = t.ht := sub_ht_at _ _ t
    have hus : (subT [120] (.at [122]) t).sz = t.sz := sub_sz_at _ _ t
    have h := run_low 60 102 (subT [120] (.at [122]) t) (by omega) (by omega) (by decide)
    cases hg : goT 60 loopFuel 0 (subT [120] (.at [122]) t) with
    | none =>
      rw [hg] at h
      exact Or.inl h
    | some wj =>
      obtain ⟨v, j⟩ := wj
      rw [hg] at h
      have he := go_end hg
      have hj : j ≤ 60 := he.2.2.2.2 (by omega)
      have hvh : v.ht ≤ 63 := by have := he.2.2.2.1; omega
      refine Or.inr ⟨v, j, h, by omega, fun b => comes_of 102 _ v ((take_rds b [120] (.at [122]) t).trans he.1) he.2.1 (by omega) ?_⟩
      show (takeT b [120] t).sz + 1 ≤ 20000
      have := tz b
      omega
  · have := holds_run [120] (takeT b [120] t) 104 (by have := th b; omega)
    rw [take_not b [120] (by decide)] at this
    exact this
theorem flat_ok (u : Tm) (hu : u.ht ≤ 3) (ho : over xy u = true) : FlatOk (run C 104) u := by
  have hs : u.sz ≤ 8 := Nat.le_trans (sz_ht u) (Nat.pow_le_pow_right (n := 2) (j := 3) (by decide) hu)
  have tz : ∀ b, (takeT b [120] u).sz ≤ 24 := fun b => by have := take_sz b [120] u; omega
  have th : ∀ b, (takeT b [120] u).ht ≤ 7 := fun b => by have := take_ht b [120] u; omega
  have hv : stepT (subT [120] (.at [122]) u) = none := by
    refine (flat_stand _ (over_sub (p := xy) [120] (.at [122]) rfl ?_ u ho)).1
    intro s hs hn
    rcases xy_one hs with h | h
    · exact absurd h hn
    · subst h; rfl
  have hh : (subT [120] (.at [122]) u).ht = u.ht := sub_ht_at _ _ u
  refine ⟨fun b => func_run [120] b u 103 (by omega), two_run _ 104 (by have := th true; omega), ?_, fun h a ha => ?_⟩
  · refine comes_of 102 _ _ (two_take true [120] (.at [122]) u (over_mono ?_ u ho)) hv (by omega) ?_
    · intro s hs
      rcases xy_one hs with h | h <;> subst h <;> rfl
    · show (twoT (takeT true [120] u)).sz + 1 ≤ 20000
      have := two_sz (takeT true [120] u)
      have := tz true
      omega
  · exact same_run 101 (takeT true [120] u) (takeT false [120] u) (subT [120] (.at [122]) u) [122] a h ha (take_rds true [120] (.at [122]) u) (take_rds false [120] (.at [122]) u) hv (by omega) (by omega) (by have := tz true; omega) (by have := tz false; omega)
theorem flat_ht (t : Tm) : (flatT t).ht = t.ht := by
  unfold flatT
  rw [sub_ht_at, sub_ht_at, sub_ht_at]
theorem long_go : ∃ j : Nat, run C 104 7 [omegaT.enc, .int 50] VH.nil = .ex 7 (.int j) VH.nil := by
  have h := run_low 50 102 omegaT (by decide) (by decide) (by decide)
  rw [c_long] at h
  exact h
theorem body_ok (l : Lc) (h : VH) (a : Nat) (hl : l.length = 14) (h1 : l[1]? = some (some (.ref a))) (hd : DiceAt h a) : ∃ l' h', l'.length = 14 ∧ (evSs C (run C (102 + 2)) lawB l h = .nx l' h' ∨ evSs C (run C (102 + 2)) lawB l h = .ct l' h') ∧ Keeps h h' := by
  match l, hl, h1 with
  | [d0, d1, d2, d3, d4, d5, d6, d7, d8, d9, d10, d11, d12, d13], _, h1 =>
    have h1' : d1 = some (.ref a) := by
      have : some d1 = some (some (.ref a)) := h1
      exact Option.some.inj this
    subst h1'
    obtain ⟨l', h', q1, q2, q3⟩ := body_gen (run C 104) tB a h hd d0 d2 d3 d4 d5 d6 d7 d8 d9 d10 d11 d12 d13
      (fun h hd => by
        obtain ⟨r, h', w1, w2, w3, w4⟩ := roll_run hRoll 103 a 3 (by decide) (by decide) h hd
        exact ⟨r, h', by omega, w2, w4⟩)
      (fun h hd => by
        obtain ⟨t, h', w1, w2, w3, w4⟩ := term_run 3 103 a h (by decide) hd
        exact ⟨t, h', w1, term_ok t w1 w2, flat_ok _ (by rw [flat_ht]; exact w1) (flat_over t w2), w3, w4⟩)
      (fun a ha => r11 a 94 ha) (r13 94) (r14 94)
      (fun a ha => cnt_run 101 99 a (numT a) (c_one' a ha) (by decide) (by omega))
      (fun a ha b hb => cnt_run 101 299 (a + b) _ (c_add' a ha b hb) (by decide) (by omega))
      (fun a ha b hb => cnt_run 101 299 (a * b) _ (c_mul' a ha b hb) (by decide) (by
        have : a * b ≤ 2 * 2 := Nat.mul_le_mul (by omega) (by omega)
        omega))
      (fun a ha b hb => numbers_run a b ha hb) (r31 84) (r33 84) (r12_k 84)
      (read_run omegaT 103 (by decide) (by decide) (by decide)) long_go
    exact ⟨l', h', q1, Or.inl q2, q3⟩
theorem law_pure (ns : List Int) : ∃ h', run C 105 34 [.fro (ns.map .int)] VH.nil = .ok (.bl true) h' :=
  law_for (C := C) (fd := 23) (f := 25) (most := 2) (N := 14) (B := lawB) rfl rfl (by decide) rfl (by decide) 102 body_ok ns
end K15

open PySem PySem.W PySem.Calls PyProof.Rows
set_option maxRecDepth 100000 in
set_option maxHeartbeats 0 in
theorem PySem.Challenge.cw_wheelhall_k15_combinators_holds : PySem.Challenge.rw_wheelhall_k15_combinators.Holds := by
  w_on; o_law
  refine HandSHeadRun.head_any (r := K15.Rw) (q := view K15.Rw.prog [48]) (H := K15.hk) (ob := K15.ob) (M := 6000) (loose := K15.loose) (d := HandSHeadRun.topDef K15.Rw.prog 48) (kwd := []) K15.ob_eq
    (by kernel_rfl) (fun s => by kernel_rfl) K15.run_top (by kernel_rfl) (by kernel_rfl) (by kernel_rfl) (by rfl) (by first | assumption | decide +kernel) (by decide +kernel) ⟨rfl, rfl, rfl, rfl, rfl, by decide +kernel⟩ ?hw ?hc
  case hw => w_witness2
  case hc =>
    exact Ev.Pr.walk (l := PySem.Challenge.rw_wheelhall_k15_combinators) (p := K15.pr) (n := 105) (f := 34) (m := 63) rfl K15.ok_pr rfl (by decide) (by kernel_rfl) ⟨rfl, by decide, by decide⟩ rfl rfl (by kernel_rfl) (fun ns _ _ => K15.law_pure ns)

