import PyProof.Rows.All
import Wide.All
import OpenK.AllK
import Wide.FinOn
import HandS.ForMost
import HandS.ForExc
import HandS.CallSlots
import HandS.Property
import HandS.ClsMeth
import HandS.Defaults
import HandS.IsInst
import HandS.TupAny
import HandS.Deep
import HandS.DeepEq
import HandS.RaiseMore
import HandS.Style
import HandS.TupLe
import HandS.HeadWalk
import HandS.SetKeys
import HandS.StrSplit
import HandS.Replace
import HandS.Codes
import KE.GoesMore
import KE.GoesEnum
import KE.GoesZip
import HandS.Iter
import HandS.Comp
import HandS.DictComp
import HandS.TupLen
import HandS.WordsDict
import HandS.TryMany
import HandS.ExcField
import HandS.ExcInit
import HandS.Small
import HandS.Dict
import KE.KDictDisplayH
import KE.SortData
import KE.KDictSum
import HandS.Conv
import HandS.DictTup
import HandS.HeadHook4
import HandS.Head2
import PySem.Challenge.RW_twobelts_k43_known_prices_and_refusals
import KE.KStateDown
import Lean
import HandS.Head0
import HandS.Head1
set_option Elab.async false
set_option linter.all false
set_option maxRecDepth 100000
set_option maxHeartbeats 0
/-! TB: an evaluator for the small part of Python that the laws of this program use. Plain Lean: no model in sight. -/
namespace TB

abbrev Sg := List Nat

inductive D where
  | non | bl (b : Bool) | int (i : Int) | str (s : Sg) | tup (l : List D) | ref (a : Nat) | ty (c : Nat) | exv (c : Nat) (l : List D)
  deriving Inhabited, Repr

/-! ### a tree of numbered places -/
inductive Tr (α : Type) where
  | nil
  | node (l : Tr α) (v : Option α) (r : Tr α)
  deriving Inhabited, Repr
namespace Tr
def get : Tr α → Nat → Option α
  | .nil, _ => none
  | .node l v r, a => match a with
    | 0 => v
    | k + 1 => bif Nat.beq (k % 2) 0 then get l (k / 2) else get r (k / 2)
def setF : Nat → Tr α → Nat → α → Tr α
  | 0, t, _, _ => t
  | n + 1, t, a, o => match t with
    | .nil => match a with
      | 0 => .node .nil (some o) .nil
      | k + 1 => bif Nat.beq (k % 2) 0 then .node (setF n .nil (k / 2) o) none .nil else .node .nil none (setF n .nil (k / 2) o)
    | .node l v r => match a with
      | 0 => .node l (some o) r
      | k + 1 => bif Nat.beq (k % 2) 0 then .node (setF n l (k / 2) o) v r else .node l v (setF n r (k / 2) o)
def set (t : Tr α) (a : Nat) (o : α) : Tr α := setF (a + 1) t a o
def ofList (xs : List (Nat × α)) : Tr α := xs.foldl (fun t p => t.set p.1 p.2) .nil
end Tr

inductive Ob where
  | lst (l : List D)
  | fro (l : List D)
  | dct (lk : Nat) (l : List (D × D))
  | set (l : List D)
  | ins (c : Nat) (fs : List (Nat × D))
  deriving Inhabited, Repr

structure Hv where
  n : Nat := 0
  t : Tr Ob := .nil
  deriving Inhabited, Repr
namespace Hv
def get (h : Hv) (a : Nat) : Option Ob := h.t.get a
def put (h : Hv) (a : Nat) (o : Ob) : Hv := ⟨h.n, h.t.set a o⟩
def push (h : Hv) (o : Ob) : Hv := ⟨h.n + 1, h.t.set h.n o⟩
end Hv

inductive Res (α : Type) where
  | ok (a : α) (h : Hv)
  | exc (c : Nat) (vs : List D) (h : Hv)
  | bad
  deriving Inhabited, Repr
namespace Res
def bind (r : Res α) (k : α → Hv → Res β) : Res β := match r with
  | .ok a h => k a h
  | .exc c fs h => .exc c fs h
  | .bad => .bad
end Res

/-- without an exception out of it -/
def nox (r : Res α) : Res α := match r with
  | .ok a h => .ok a h
  | _ => .bad
def opt (o : Option α) (h : Hv) : Res α := match o with
  | some a => .ok a h
  | none => .bad
def new (o : Ob) (h : Hv) : Res D := .ok (.ref h.n) (h.push o)
def line : Nat := 16777216
def newL (l : List D) (h : Hv) : Res D := bif Nat.ble l.length line then new (.lst l) h else .bad

/-! ### equality, order -/
/-- data: a value without instances -/
inductive P where
  | non | bl (b : Bool) | int (i : Int) | str (s : Sg) | lst (l : List P) | tup (l : List P)
  deriving Inhabited, Repr
def okS (s : Sg) : Bool := Nat.ble s.length line && s.all fun c => Nat.blt c 55296
def toPs (f : D → Option P) : List D → Option (List P)
  | [] => some []
  | x :: r => match f x, toPs f r with
    | some p, some ps => some (p :: ps)
    | _, _ => none
def toPo (f : D → Option P) (o : Option Ob) : Option P := match o with
  | some (.lst l) => (toPs f l).map .lst
  | some (.fro l) => (toPs f l).map .lst
  | _ => none
/-- a value as data -/
def toP : Nat → Hv → D → Option P
  | n, h, x => match x with
    | .non => some .non
    | .bl b => some (.bl b)
    | .int i => some (.int i)
    | .str s => bif okS s then some (.str s) else none
    | .tup l => match n with
      | 0 => none
      | n + 1 => (toPs (toP n h) l).map .tup
    | .ref a => match n with
      | 0 => none
      | n + 1 => toPo (toP n h) (h.get a)
    | _ => none
mutual
def P.eqv : P → P → Bool
  | .non, .non => true
  | .bl a, .bl b => a == b
  | .bl a, .int j => (if a then 1 else 0) == j
  | .int i, .bl b => i == (if b then 1 else 0)
  | .int i, .int j => i == j
  | .str a, .str b => a == b
  | .lst a, .lst b => P.eqvL a b
  | .tup a, .tup b => P.eqvL a b
  | _, _ => false
def P.eqvL : List P → List P → Bool
  | [], [] => true
  | x :: r, y :: q => bif P.eqv x y then P.eqvL r q else false
  | _, _ => false
end
/-- Python's == of two values that hold no instance -/
def eqV (h : Hv) (x y : D) : Option Bool := match toP 60 h x, toP 60 h y with
  | some p, some q => some (P.eqv p q)
  | _, _ => none
/-! keys -/
def key1 : D → Bool
  | .int _ => true
  | .str _ => true
  | _ => false
def keyOk : D → Bool
  | .int _ => true
  | .str _ => true
  | .tup l => l.all key1
  | _ => false
def eq1 : D → D → Bool
  | .int a, .int b => a == b
  | .str a, .str b => a == b
  | _, _ => false
def eq1L : List D → List D → Bool
  | [], [] => true
  | x :: r, y :: q => bif eq1 x y then eq1L r q else false
  | _, _ => false
def eqK : D → D → Bool
  | .int a, .int b => a == b
  | .str a, .str b => a == b
  | .tup a, .tup b => eq1L a b
  | _, _ => false

def ltS : Sg → Sg → Bool
  | [], [] => false
  | [], _ :: _ => true
  | _ :: _, [] => false
  | a :: x, b :: y => bif Nat.blt a b then true else bif Nat.beq a b then ltS x y else false
mutual
def P.lt : P → P → Option Bool
  | .int a, .int b => some (decide (a < b))
  | .str a, .str b => some (ltS a b)
  | .tup a, .tup b => P.ltL a b
  | _, _ => none
def P.ltL : List P → List P → Option Bool
  | [], [] => some false
  | [], _ :: _ => some true
  | _ :: _, [] => some false
  | x :: r, y :: q => bif P.eqv x y then P.ltL r q else bif P.okL r q then P.lt x y else none
/-- all further pairs are equal or in order -/
def P.okL : List P → List P → Bool
  | x :: r, y :: q => (P.eqv x y || (P.lt x y).isSome) && P.okL r q
  | _, _ => true
end
def ltV (h : Hv) (x y : D) : Option Bool := match toP 60 h x, toP 60 h y with
  | some p, some q => P.lt p q
  | _, _ => none
/-! sorting: all items of one shape, no two alike -/
mutual
def P.sh : P → P → Bool
  | .bl _, .bl _ => true
  | .int _, .int _ => true
  | .str _, .str _ => true
  | .tup a, .tup b => P.shL a b
  | _, _ => false
def P.shL : List P → List P → Bool
  | [], [] => true
  | x :: r, y :: q => P.sh x y && P.shL r q
  | _, _ => false
end
def P.srt : P → Bool
  | .bl _ => true
  | .int _ => true
  | .str _ => true
  | .tup (_ :: _) => true
  | _ => false
def insS (x : P × D) : List (P × D) → Option (List (P × D))
  | [] => some [x]
  | y :: r => match P.lt y.1 x.1 with
    | some true => match insS x r with
      | some q => some (y :: q)
      | none => none
    | _ => match P.lt x.1 y.1 with
      | some true => some (x :: y :: r)
      | _ => none
def sortS : List (P × D) → Option (List (P × D))
  | [] => some []
  | x :: r => match sortS r with
    | some q => insS x q
    | none => none
def sameSh : List P → Bool
  | [] => true
  | p :: r => P.srt p && (P.sh p p && r.all (P.sh p))
def sortD (h : Hv) (l : List D) : Option (List D) := match toPs (toP 60 h) l with
  | some ps => bif sameSh ps then (sortS (ps.zip l)).map fun r => r.map (·.2) else none
  | none => none

def preS : Sg → Sg → Bool
  | [], _ => true
  | _ :: _, [] => false
  | a :: x, b :: y => bif Nat.beq a b then preS x y else false
def subS (x : Sg) : Sg → Bool
  | [] => preS x []
  | b :: y => bif preS x (b :: y) then true else subS x y
def findS (x : Sg) : Sg → Option Nat
  | [] => bif preS x [] then some 0 else none
  | b :: y => bif preS x (b :: y) then some 0 else (findS x y).map (· + 1)

/-- x is one of a list's items -/
def inP (p : P) : List P → Bool
  | [] => false
  | q :: r => bif P.eqv q p then true else inP p r
def inL (h : Hv) (x : D) (l : List D) : Option Bool := match toP 60 h x, toPs (toP 59 h) l with
  | some p, some ps => some (inP p ps)
  | _, _ => none

/-! ### dicts -/
def isTup : D → Bool
  | .tup _ => true
  | _ => false
/-- a key that this dict may be asked for -/
def dOk (k : D) (lk : Nat) (l : List (D × D)) : Bool := keyOk k && match l with
  | [] => Nat.beq lk 0
  | p :: _ => isTup p.1 == isTup k
def dGet (k : D) : List (D × D) → Option D
  | [] => none
  | p :: r => bif eqK p.1 k then some p.2 else dGet k r
def dPut (k v : D) : List (D × D) → List (D × D)
  | [] => [(k, v)]
  | p :: r => bif eqK p.1 k then (p.1, v) :: r else p :: dPut k v r
def dDel (k : D) : List (D × D) → List (D × D)
  | [] => []
  | p :: r => bif eqK p.1 k then r else p :: dDel k r

/-! ### numbers and texts -/
def digitsF : Nat → Nat → Sg → Sg
  | 0, _, acc => acc
  | f + 1, n, acc => bif Nat.blt n 10 then (48 + n) :: acc else digitsF f (n / 10) ((48 + n % 10) :: acc)
def showN (n : Nat) : Sg := digitsF (n + 1) n []
def showI (i : Int) : Sg := match i with
  | .ofNat n => showN n
  | .negSucc n => 45 :: showN (n + 1)
def allDig : Sg → Bool
  | [] => true
  | c :: r => (Nat.ble 48 c && Nat.ble c 57) && allDig r
def readN : Sg → Nat → Nat
  | [], a => a
  | c :: r, a => readN r (a * 10 + (c - 48))
/-- int(text), of digits alone -/
def intOf (s : Sg) : Option Int := match s with
  | [] => none
  | _ => bif allDig s && Nat.ble s.length 640 then some (.ofNat (readN s 0)) else none
def joinS (sep : Sg) : List Sg → Sg
  | [] => []
  | [x] => x
  | x :: r => x ++ sep ++ joinS sep r
/-- where a sign is first -/
def posC (c : Nat) : Sg → Option Nat
  | [] => none
  | d :: r => bif Nat.beq c d then some 0 else (posC c r).map (· + 1)
def splitOne (c : Nat) (s : Sg) : List Sg := match posC c s with
  | none => [s]
  | some i => [s.take i, s.drop (i + 1)]
/-- split at one sign, most times -/
def splitC (c : Nat) : Nat → Sg → Sg → List Sg
  | _, acc, [] => [acc.reverse]
  | m, acc, d :: r => match m with
    | 0 => [acc.reverse ++ d :: r]
    | m' + 1 => bif Nat.beq c d then acc.reverse :: splitC c m' [] r else splitC c (m' + 1) (d :: acc) r
def upC (c : Nat) : Nat := bif Nat.ble 97 c && Nat.ble c 122 then c - 32 else c
def loC (c : Nat) : Nat := bif Nat.ble 65 c && Nat.ble c 90 then c + 32 else c
def asciiS : Sg → Bool
  | [] => true
  | c :: r => Nat.blt c 128 && asciiS r

mutual
def P.repr : P → Option Sg
  | .non => some [78, 111, 110, 101]
  | .bl true => some [84, 114, 117, 101]
  | .bl false => some [70, 97, 108, 115, 101]
  | .int i => some (showI i)
  | .str s => bif s.all (fun c => Nat.ble 32 c && Nat.ble c 126 && !Nat.beq c 39 && !Nat.beq c 92) then some (39 :: (s ++ [39])) else none
  | .tup l => match l with
    | [x] => match P.repr x with
      | some s => some (40 :: (s ++ [44, 41]))
      | none => none
    | l => match P.reprL l with
      | some s => some (40 :: (s ++ [41]))
      | none => none
  | .lst l => match P.reprL l with
    | some s => some (91 :: (s ++ [93]))
    | none => none
def P.reprL : List P → Option Sg
  | [] => some []
  | x :: r => match P.repr x, P.reprL r with
    | some a, some b => match r with
      | [] => some a
      | _ => some (a ++ 44 :: 32 :: b)
    | _, _ => none
end
def reprV (h : Hv) (x : D) : Option Sg := (toP 60 h x).bind P.repr

/-! ### the language -/
inductive Op where
  | add | sub | mul | fdiv | mod | pow | band | bor
  deriving DecidableEq, Repr
inductive Cop where
  | eq | ne | lt | le | gt | ge | isn | isnot | mem | nmem
  deriving DecidableEq, Repr
inductive Ty where
  | int | bool | str | tuple | list | cls (c : Nat)
  deriving DecidableEq, Repr
inductive Bi where
  | len | sorted | min | max | sum | all | any | str | int | list | tuple | dict | set | abs | repr | bool
  deriving DecidableEq, Repr
inductive Tg where
  | nm (i : Nat)
  | tup (t : Tg)
  | nil | cons (a r : Tg)
  deriving DecidableEq, Repr

inductive E where
  | var (i : Nat) | cst (v : D)
  | nil | cons (a r : E)
  | tup (es : E) | lst (es : E) | dsp (es : E)
  | bin (o : Op) (a b : E)
  | cmp (a : E) (os : List Cop) (bs : E)
  | and (a b : E) | or (a b : E) | not (a : E) | neg (a : E)
  | ite (c a b : E)
  | att (e : E) (f : Nat)
  | idx (a i : E) | sli (a lo hi : E) | prt (a : E) | rev (a : E)
  | call (f : Nat) (es : E) | mk (c : Nat) (es : E) | bi (b : Bi) (es : E) | b1 (b : Bi) (e : E) | bmd (e d : E) | b0 (b : Bi)
  | mth (e : E) (m : Nat) (es : E) | smt (c m : Nat) (es : E) | mkv (e es : E) | ivk (e es : E)
  | isi (e : E) (ts : List Ty)
  | rng (es : E) | zip (es : E) | enm (e : E) | itm (e : E) | vls (e : E) | kys (e : E) | itv (e : E) | gcl (f : Nat) (es : E) | gmt (e : E) (m : Nat) (es : E)
  | lc (g : E) | dc (g : E) | sc (g : E)
  | gen (t : Tg) (it : E) (ifs : E) (rest : E) | elt (e : E) | ekv (k v : E)
  deriving Inhabited, Repr

inductive S where
  | seq (a b : S) | nop
  | asg (t : Tg) (e : E) | sat (o : E) (f : Nat) (e : E) | six (o i e : E)
  | aug (i : Nat) (o : Op) (e : E) | augf (x : E) (f : Nat) (o : Op) (e : E) | augi (x i : E) (o : Op) (e : E)
  | exp (e : E) | ifs (c : E) (a b : S)
  | fr (t : Tg) (it : E) (b : S) | whl (c : E) (b : S)
  | ret (e : E) | retN | rse (c : Nat) (es : E) | brk | cnt
  | tr (b hs : S) | hnil | hcons (c : Nat) (i : Option Nat) (b r : S)
  | yld (k : Nat) (e : E) | yfr (k : Nat) (e : E)
  deriving Inhabited, Repr

structure Fn where
  np : Nat
  ns : Nat
  dfl : List (Option D)
  body : S
  gen : Bool := false
  deriving Inhabited, Repr
inductive MK where
  | inst | stat | clm | prop
  deriving Repr, DecidableEq, Inhabited
structure Cl where
  ms : List (Nat × MK × Nat)
  base : Option Nat := none
  flds : List Nat := []
  exc : Bool := false
  deriving Inhabited, Repr
structure Tab where
  fn : Tr Fn
  cl : Tr Cl
  deriving Inhabited

abbrev Env := List (Option D)
abbrev Call := Nat → List D → Hv → Res D

/-! names that the evaluator itself knows -/
def nAppend := 1
def nPop := 2
def nGet := 3
def nSetdefault := 4
def nUpdate := 5
def nJoin := 6
def nSplit := 7
def nIndex := 8
def nUpper := 9
def nLower := 10
def nStartswith := 11
def nInsert := 12
def nRemove := 13
def nReverse := 14
def nClear := 15
def nEq := 20
def nLe := 21
def nAnd := 22
def nOr := 23
def nAdd := 24
def nMul := 25
def nRmul := 26
def nNeg := 27
def nContains := 28
def nBool := 29
def nLen := 30
def nInit := 31
def nCall := 32

def lookN (m : Nat) : List (Nat × α) → Option α
  | [] => none
  | p :: r => bif Nat.beq p.1 m then some p.2 else lookN m r
def putN (m : Nat) (v : α) : List (Nat × α) → List (Nat × α)
  | [] => [(m, v)]
  | p :: r => bif Nat.beq p.1 m then (m, v) :: r else p :: putN m v r

section
variable (T : Tab) (call : Call)

def methOf (c m : Nat) : Option (MK × Nat) := match T.cl.get c with
  | some k => lookN m k.ms
  | none => none
/-- an instance's own method -/
def instM (h : Hv) (a m : Nat) : Option Nat := match h.get a with
  | some (.ins c _) => match methOf T c m with
    | some (.inst, f) => some f
    | _ => none
  | _ => none
def isIns (h : Hv) (a : Nat) : Bool := match h.get a with
  | some (.ins _ _) => true
  | _ => false

def subCl : Nat → Nat → Nat → Bool
  | 0, c, k => Nat.beq c k
  | f + 1, c, k => bif Nat.beq c k then true else match T.cl.get c with
    | some x => match x.base with
      | some b => subCl f b k
      | none => false
    | none => false

def asBl (x : D) (h : Hv) : Res Bool := match x with
        | .bl b => .ok b h
        | _ => .bad
def truI (c a : Nat) (h : Hv) : Res Bool := match methOf T c nBool with
      | some (.inst, f) => (call f [.ref a] h).bind asBl
      | _ => .bad
def truthy (v : D) (h : Hv) : Res Bool := match v with
  | .ty _ => .bad
  | .exv _ _ => .bad
  | .non => .ok false h
  | .bl b => .ok b h
  | .int i => .ok (!(i == 0)) h
  | .str s => bif Nat.ble s.length line then .ok (!s.isEmpty) h else .bad
  | .tup l => .ok (!l.isEmpty) h
  | .ref a => match h.get a with
    | some (.lst l) => .ok (!l.isEmpty) h
    | some (.fro l) => .ok (!l.isEmpty) h
    | some (.ins c _) => truI T call c a h
    | _ => .bad

def addL (a b : Nat) (h : Hv) : Res D := match h.get a, h.get b with
      | some (.lst xs), some (.lst ys) => newL (xs ++ ys) h
      | _, _ => .bad
def addR (x y : D) (h : Hv) : Res D := match x, y with
    | .int a, .int b => .ok (.int (a + b)) h
    | .str a, .str b => bif Nat.ble (a.length + b.length) line then .ok (.str (a ++ b)) h else .bad
    | .tup a, .tup b => bif Nat.ble (a.length + b.length) line then .ok (.tup (a ++ b)) h else .bad
    | .ref a, .ref b => addL a b h
    | _, _ => .bad
def subR (x y : D) (h : Hv) : Res D := match x, y with
    | .int a, .int b => .ok (.int (a - b)) h
    | _, _ => .bad
def mulL (a : Nat) (b : Int) (h : Hv) : Res D := match h.get a with
      | some (.lst xs) => bif decide (0 ≤ b) && decide (b < 16777217) && Nat.ble (xs.length * b.toNat) line then new (.lst (List.replicate b.toNat xs).flatten) h else .bad
      | _ => .bad
def mulR (x y : D) (h : Hv) : Res D := match x, y with
    | .int a, .int b => bif (decide (-18446744073709551616 < a) && decide (a < 18446744073709551616)) || (decide (-18446744073709551616 < b) && decide (b < 18446744073709551616)) then .ok (.int (a * b)) h else .bad
    | .str a, .int b => bif decide (0 ≤ b) && decide (b < 16777217) && Nat.ble (a.length * b.toNat) line then .ok (.str (List.replicate b.toNat a).flatten) h else .bad
    | .ref a, .int b => mulL a b h
    | _, _ => .bad
def fdivR (x y : D) (h : Hv) : Res D := match x, y with
    | .int a, .int b => bif decide (0 < b) && decide (b < 1073741824) then .ok (.int (a / b)) h else .bad
    | _, _ => .bad
def modR (x y : D) (h : Hv) : Res D := match x, y with
    | .int a, .int b => bif decide (0 < b) then .ok (.int (a % b)) h else .bad
    | _, _ => .bad
def powR (x y : D) (h : Hv) : Res D := match x, y with
    | .int a, .int b => bif decide (0 ≤ b) && decide (b ≤ 1000000) && decide (a.natAbs < 18446744073709551616) then .ok (.int (a ^ b.toNat)) h else .bad
    | _, _ => .bad
def binop (o : Op) (x y : D) (h : Hv) : Res D := match o with
  | .add => addR x y h
  | .sub => subR x y h
  | .mul => mulR x y h
  | .fdiv => fdivR x y h
  | .mod => modR x y h
  | .pow => powR x y h
  | _ => .bad

def eqR (x y : D) (h : Hv) : Res Bool := opt (eqV h x y) h
def memO (x : D) (a : Nat) (h : Hv) : Res Bool := match h.get a with
    | some (.lst l) => opt (inL h x l) h
    | some (.fro l) => opt (inL h x l) h
    | some (.dct lk l) => bif dOk x lk l then .ok (dGet x l).isSome h else .bad
    | _ => .bad
def memR (x y : D) (h : Hv) : Res Bool := match y with
  | .str b => match x with
    | .str [c] => .ok (b.any (Nat.beq c)) h
    | _ => .bad
  | .tup l => opt (inL h x l) h
  | .ref a => memO x a h
  | _ => .bad

def isNon : D → Bool
  | .non => true
  | _ => false
def isV (x y : D) : Option Bool := match y with
  | .non => some (isNon x)
  | .bl c => match x with
    | .bl b => some (b == c)
    | _ => none
  | _ => none

def leR (x y : D) (h : Hv) : Res Bool := match x, y with
    | .int a, .int b => .ok (decide (a ≤ b)) h
    | _, _ => .bad
def gtR (x y : D) (h : Hv) : Res Bool := match x, y with
    | .int a, .int b => .ok (decide (b < a)) h
    | .str a, .str b => .ok (ltS b a) h
    | _, _ => .bad
def negB (r : Res Bool) : Res Bool := r.bind fun b h => .ok (!b) h
def cmpR (o : Cop) (x y : D) (h : Hv) : Res Bool := match o with
  | .eq => eqR x y h
  | .ne => negB (eqR x y h)
  | .lt => opt (ltV h x y) h
  | .gt => gtR x y h
  | .le => leR x y h
  | .ge => leR y x h
  | .isn => opt (isV x y) h
  | .isnot => negB (opt (isV x y) h)
  | .mem => memR x y h
  | .nmem => negB (memR x y h)

def ixOf (n : Nat) (i : Int) : Option Nat := match i with
  | .ofNat k => bif Nat.blt k n then some k else none
  | .negSucc k => bif Nat.blt k n then some (n - (k + 1)) else none

def getIx (x i : D) (h : Hv) : Res D := match x with
  | .tup l => match i with
    | .int k => opt ((ixOf l.length k).bind fun j => l[j]?) h
    | _ => .bad
  | .str s => match i with
    | .int k => bif !Nat.ble s.length line then .bad else opt ((ixOf s.length k).bind fun j => (s[j]?).map fun c => .str [c]) h
    | _ => .bad
  | .ref a => match h.get a with
    | some (.lst l) => match i with
      | .int k => opt ((ixOf l.length k).bind fun j => l[j]?) h
      | _ => .bad
    | some (.fro l) => match i with
      | .int k => opt ((ixOf l.length k).bind fun j => l[j]?) h
      | _ => .bad
    | some (.dct lk l) => bif dOk i lk l then opt (dGet i l) h else .bad
    | _ => .bad
  | _ => .bad
def setIx (x i v : D) (h : Hv) : Res Unit := match x with
  | .ref a => match h.get a with
    | some (.lst l) => match i with
      | .int k => match ixOf l.length k with
        | some j => .ok () (h.put a (.lst (l.set j v)))
        | none => .bad
      | _ => .bad
    | some (.dct 0 l) => bif dOk i 0 l && Nat.blt l.length line then .ok () (h.put a (.dct 0 (dPut i v l))) else .bad
    | _ => .bad
  | _ => .bad
/-- where a slice begins and ends -/
def cutAt (n : Nat) (d : D) (dfl : Nat) : Option Nat := match d with
  | .non => some dfl
  | .int (.ofNat k) => some (bif Nat.ble k n then k else n)
  | .int (.negSucc k) => some (n - (k + 1))
  | _ => none
def cut (l : List α) (lo hi : D) : Option (List α) := match cutAt l.length lo 0, cutAt l.length hi l.length with
  | some a, some b => some ((l.drop a).take (b - a))
  | _, _ => none
def newCut (o : Option (List D)) (h : Hv) : Res D := match o with
      | some r => new (.lst r) h
      | none => .bad
def slice (x lo hi : D) (h : Hv) : Res D := match x with
  | .tup l => opt ((cut l lo hi).map .tup) h
  | .str s => bif Nat.ble s.length line then opt ((cut s lo hi).map .str) h else .bad
  | .ref a => match h.get a with
    | some (.lst l) => newCut (cut l lo hi) h
    | some (.fro l) => newCut (cut l lo hi) h
    | _ => .bad
  | _ => .bad
def revV (x : D) (h : Hv) : Res D := match x with
  | .ref a => match h.get a with
    | some (.lst l) => new (.lst l.reverse) h
    | _ => .bad
  | _ => .bad

def getAtt (x : D) (f : Nat) (h : Hv) : Res D := match x with
  | .ref a => match h.get a with
    | some (.ins c fs) => match methOf T c f with
      | some (.prop, g) => nox (call g [x] h)
      | some _ => .bad
      | none => opt (lookN f fs) h
    | _ => .bad
  | .exv c vs => match T.cl.get c with
    | some k => opt (lookN f (k.flds.zip vs)) h
    | none => .bad
  | _ => .bad
def setAtt (x : D) (f : Nat) (v : D) (h : Hv) : Res Unit := match x with
  | .ref a => match h.get a with
    | some (.ins c fs) => match methOf T c f with
      | some _ => .bad
      | none => bif Nat.blt fs.length 1000 then .ok () (h.put a (.ins c (putN f v fs))) else .bad
    | _ => .bad
  | _ => .bad

/-! ### what is walked -/
inductive It where
  | seq (l : List D) | lst (a : Nat) | keys (a : Nat) | vals (a : Nat) | items (a : Nat)
  | zip (i j : It) | zip3 (i j k : It) | enm (i : It)
  deriving Inhabited, Repr
namespace It
def at? : It → Hv → Nat → Option (Option D)
  | .seq l, _, i => bif Nat.ble i l.length then some l[i]? else none
  | .lst a, h, i => match h.get a with
    | some (.lst l) => bif Nat.ble i l.length then some l[i]? else none
    | some (.fro l) => bif Nat.ble i l.length then some l[i]? else none
    | _ => none
  | .keys a, h, i => match h.get a with
    | some (.dct _ l) => some ((l[i]?).map (·.1))
    | _ => none
  | .vals a, h, i => match h.get a with
    | some (.dct _ l) => some ((l[i]?).map (·.2))
    | _ => none
  | .items a, h, i => match h.get a with
    | some (.dct _ l) => some ((l[i]?).map fun p => .tup [p.1, p.2])
    | _ => none
  | .zip p q, h, i => match p.at? h i, q.at? h i with
    | some (some x), some (some y) => some (some (.tup [x, y]))
    | some none, some _ => some none
    | some _, some none => some none
    | _, _ => none
  | .zip3 p q r, h, i => match p.at? h i, q.at? h i, r.at? h i with
    | some (some x), some (some y), some (some z) => some (some (.tup [x, y, z]))
    | some none, some _, some _ => some none
    | some _, some none, some _ => some none
    | some _, some _, some none => some none
    | _, _, _ => none
  | .enm p, h, i => match p.at? h i with
    | some (some x) => some (some (.tup [.int i, x]))
    | some none => some none
    | none => none
/-- a bound of the turns -/
def len : It → Hv → Nat
  | .seq l, _ => l.length
  | .lst a, h => match h.get a with
    | some (.lst l) => l.length
    | some (.fro l) => l.length
    | _ => 0
  | .keys a, h => match h.get a with
    | some (.dct _ l) => l.length
    | _ => 0
  | .vals a, h => match h.get a with
    | some (.dct _ l) => l.length
    | _ => 0
  | .items a, h => match h.get a with
    | some (.dct _ l) => l.length
    | _ => 0
  | .zip p _, h => p.len h
  | .zip3 p _ _, h => p.len h
  | .enm p, h => p.len h
/-- the dict that is locked while it is walked -/
def dict? : It → Option Nat
  | .keys a => some a
  | .vals a => some a
  | .items a => some a
  | _ => none
/-- all at once -/
def allF : Nat → Nat → It → Hv → Option (List D)
  | 0, i, t, h => match t.at? h i with
    | some none => some []
    | _ => none
  | n + 1, i, t, h => match t.at? h i with
    | some none => some []
    | some (some x) => (allF n (i + 1) t h).map (x :: ·)
    | none => none
def all (t : It) (h : Hv) : Option (List D) := match t with
  | .seq l => some l
  | .lst a => match h.get a with
    | some (.lst l) => some l
    | some (.fro l) => some l
    | _ => none
  | .keys a => match h.get a with
    | some (.dct _ l) => some (l.map (·.1))
    | _ => none
  | t => allF (t.len h) 0 t h
end It
def lockD (h : Hv) (a : Nat) : Hv := match h.get a with
  | some (.dct k l) => h.put a (.dct (k + 1) l)
  | _ => h
def unlockD (h : Hv) (a : Nat) : Hv := match h.get a with
  | some (.dct _ l) => h.put a (.dct 0 l)
  | _ => h
def lockI (t : It) (h : Hv) : Hv := match t.dict? with
  | some a => lockD h a
  | none => h
def unlockI (t : It) (h : Hv) : Hv := match t.dict? with
  | some a => unlockD h a
  | none => h

/-- a value as what is walked -/
def iterV (x : D) (h : Hv) : Option It := match x with
  | .tup l => some (.seq l)
  | .str s => some (.seq (s.map fun c => .str [c]))
  | .ref a => match h.get a with
    | some (.lst _) => some (.lst a)
    | some (.fro _) => some (.lst a)
    | _ => none
  | _ => none

def rangeL (lo : Int) : Nat → List D
  | 0 => []
  | n + 1 => .int lo :: rangeL (lo + 1) n
def rangeOf : List D → Option (List D)
  | [.int b] => bif decide (-4611686018427387904 ≤ b) && decide (b < 4611686018427387904) then some (rangeL 0 b.toNat) else none
  | [.int a, .int b] => bif decide (-4611686018427387904 ≤ a) && decide (a < 4611686018427387904) && decide (-4611686018427387904 ≤ b) && decide (b < 4611686018427387904) then some (rangeL a (b - a).toNat) else none
  | _ => none

def bestD (lt : D → D → Option Bool) : D → List D → Option D
  | m, [] => some m
  | m, x :: r => match lt x m with
    | some true => bestD lt x r
    | some false => bestD lt m r
    | none => none
def sumD : List D → Int → Option Int
  | [], a => some a
  | .int i :: r, a => sumD r (a + i)
  | .bl b :: r, a => sumD r (a + if b then 1 else 0)
  | _, _ => none
def allB : List D → Option Bool
  | [] => some true
  | .bl true :: r => allB r
  | .bl false :: _ => some false
  | _ => none
def anyB : List D → Option Bool
  | [] => some false
  | .bl false :: r => anyB r
  | .bl true :: _ => some true
  | _ => none
def dedup : List D → List D → List D
  | [], acc => acc.reverse
  | x :: r, acc => bif acc.any (fun y => eqK y x) then dedup r acc else dedup r (x :: acc)
def pairsUp : List D → Option (List D)
  | [] => some []
  | k :: v :: r => (pairsUp r).map (.tup [k, v] :: ·)
  | _ => none
def pairsD : List D → List (D × D) → Option (List (D × D))
  | [], acc => some acc
  | .tup [k, v] :: r, acc => bif keyOk k then pairsD r (dPut k v acc) else none
  | _, _ => none
def strsOf : List D → Option (List Sg)
  | [] => some []
  | .str s :: r => (strsOf r).map (s :: ·)
  | _ => none

/-- a list's or a tuple's items -/
def itemsL (x : D) (h : Hv) : Option (List D) := match x with
  | .ref a => match h.get a with
    | some (.lst l) => some l
    | some (.fro l) => some l
    | _ => none
  | _ => none
def boolsOf : List D → Option (List Bool)
  | [] => some []
  | .bl b :: r => (boolsOf r).map (b :: ·)
  | _ => none
def intsOf : List D → Option (List Int)
  | [] => some []
  | .int b :: r => (intsOf r).map (b :: ·)
  | _ => none
def maxI (m : Int) (l : List Int) : Int := l.foldl (fun m x => if m < x then x else m) m
def minI (m : Int) (l : List Int) : Int := l.foldl (fun m x => if x < m then x else m) m
def lenR (x : D) (h : Hv) : Res D := match x with
    | .tup l => .ok (.int l.length) h
    | .str s => bif Nat.ble s.length line then .ok (.int s.length) h else .bad
    | .ref a => match h.get a with
      | some (.lst l) => .ok (.int l.length) h
      | some (.fro l) => .ok (.int l.length) h
      | some (.dct 0 l) => .ok (.int l.length) h
      | _ => .bad
    | _ => .bad
def strR (x : D) (h : Hv) : Res D := match x with
    | .int i => bif decide (i.natAbs < 10 ^ 500) then .ok (.str (showI i)) h else .bad
    | .str s => .ok (.str s) h
    | _ => .bad
def intR (x : D) (h : Hv) : Res D := match x with
    | .int i => .ok (.int i) h
    | .bl b => .ok (.int (if b then 1 else 0)) h
    | .str s => opt ((intOf s).map .int) h
    | _ => .bad
def absR (x : D) (h : Hv) : Res D := match x with
    | .int i => .ok (.int (if i < 0 then -i else i)) h
    | _ => .bad
def boolR (x : D) (h : Hv) : Res D := match x with
    | .int i => .ok (.bl (i != 0)) h
    | .bl b => .ok (.bl b) h
    | _ => .bad
def min2R (x y : D) (h : Hv) : Res D := match x, y with
    | .int a, .int b => .ok (.int (if b < a then b else a)) h
    | _, _ => .bad
def max2R (x y : D) (h : Hv) : Res D := match x, y with
    | .int a, .int b => .ok (.int (if b > a then b else a)) h
    | _, _ => .bad
def allR (x : D) (h : Hv) : Res D := opt (((itemsL x h).bind boolsOf).map fun l => .bl (l.all id)) h
def anyR (x : D) (h : Hv) : Res D := opt (((itemsL x h).bind boolsOf).map fun l => .bl (l.any id)) h
def sumR (x : D) (h : Hv) : Res D := opt (((itemsL x h).bind intsOf).map fun l => .int l.sum) h
def bestR (f : Int → List Int → Int) (x : D) (h : Hv) : Res D := match (itemsL x h).bind intsOf with
  | some (m :: r) => .ok (.int (f m r)) h
  | _ => .bad
def listR (x : D) (h : Hv) : Res D := match x with
  | .tup l => new (.lst l) h
  | .ref a => match itemsL (.ref a) h with
    | some l => new (.lst l) h
    | none => .bad
  | _ => .bad
def tupR (x : D) (h : Hv) : Res D := match x with
  | .tup l => .ok (.tup l) h
  | .ref a => match itemsL (.ref a) h with
    | some l => .ok (.tup l) h
    | none => .bad
  | _ => .bad
/-- what sorted walks: a list's items, a dict's keys -/
def seqL (x : D) (h : Hv) : Option (List D) := match x with
  | .ref a => match h.get a with
    | some (.lst l) => some l
    | some (.fro l) => some l
    | some (.dct _ l) => some (l.map (·.1))
    | _ => none
  | _ => none
def sortR (x : D) (h : Hv) : Res D := match seqL x h with
  | some l => match sortD h l with
    | some r => newL r h
    | none => .bad
  | none => .bad
/-- a pair put into pairs that ascend by their keys, whole numbers -/
def insI (p : D × D) : List (D × D) → Option (List (D × D))
  | [] => match p.1 with
    | .int _ => some [p]
    | _ => none
  | q :: r => match p.1, q.1 with
    | .int a, .int b => bif decide (a < b) then some (p :: q :: r) else bif decide (b < a) then (insI p r).map (q :: ·) else none
    | _, _ => none
def sortI : List (D × D) → Option (List (D × D))
  | [] => some []
  | p :: r => (sortI r).bind (insI p)
def pairT (p : D × D) : D := .tup [p.1, p.2]
/-- sorted(d.items()), keys whole numbers -/
def itsR (a : Nat) (h : Hv) : Res D := match h.get a with
  | some (.dct 0 l) => bif Nat.blt l.length 64 then match sortI l with
    | some r => newL (r.map pairT) h
    | none => .bad
    else .bad
  | _ => .bad
/-- dict(d), no key a tuple -/
def dictR (x : D) (h : Hv) : Res D := match x with
  | .ref a => match h.get a with
    | some (.dct 0 l) => bif l.all (fun p => !isTup p.1) then new (.dct 0 l) h else .bad
    | _ => .bad
  | _ => .bad
def bi1 (b : Bi) (x : D) (h : Hv) : Res D := match b with
  | .len => lenR x h
  | .str => strR x h
  | .int => intR x h
  | .abs => absR x h
  | .bool => boolR x h
  | .all => allR x h
  | .any => anyR x h
  | .sum => sumR x h
  | .min => bestR minI x h
  | .max => bestR maxI x h
  | .list => listR x h
  | .tuple => tupR x h
  | .sorted => sortR x h
  | .dict => dictR x h
  | .repr => opt ((reprV h x).map .str) h
  | _ => .bad
/-- the built-in functions that take values -/
def biR (b : Bi) (vs : List D) (h : Hv) : Res D := match vs with
  | [x] => bi1 b x h
  | [x, y] => match b with
    | .min => min2R x y h
    | .max => max2R x y h
    | _ => .bad
  | _ => .bad
/-- .. that walk their one argument -/
def biI (b : Bi) (l : List D) (h : Hv) : Res D := match b with
  | .list => newL l h
  | .dict => match pairsD l [] with
    | some kvs => new (.dct 0 kvs) h
    | none => .bad
  | .sorted => match sortD h l with
    | some r => newL r h
    | none => .bad
  | _ => .bad

/-- a plain value's type: 0 None, 1 bool, 2 int, 3 str, 4 tuple, 5 list, 6 dict -/
def tyN (x : D) (h : Hv) : Option Nat := match x with
  | .non => some 0
  | .bl _ => some 1
  | .int _ => some 2
  | .str _ => some 3
  | .tup _ => some 4
  | .ref a => match h.get a with
    | some (.lst _) => some 5
    | some (.fro _) => some 5
    | some (.dct 0 _) => some 6
    | _ => none
  | _ => none
def isTyB (c : Nat) (t : Ty) : Option Bool := match t with
  | .int => some (Nat.beq c 2 || Nat.beq c 1)
  | .bool => some (Nat.beq c 1)
  | .str => some (Nat.beq c 3)
  | .tuple => some (Nat.beq c 4)
  | .list => some (Nat.beq c 5)
  | .cls _ => none
def isAny (c : Nat) : List Ty → Option Bool
  | [] => some false
  | t :: r => match isTyB c t with
    | some true => some true
    | some false => isAny c r
    | none => none

/-- the built-in kinds that have methods here: 1 a text, 2 a list, 3 a dict -/
def kindM (x : D) (h : Hv) : Nat := match x with
  | .str _ => 1
  | .ref a => match h.get a with
    | some (.lst _) => 2
    | some (.dct _ _) => 3
    | _ => 0
  | _ => 0
def okM (k m : Nat) : Bool := match k with
  | 1 => Nat.beq m nJoin || Nat.beq m nSplit || Nat.beq m nIndex || Nat.beq m nUpper || Nat.beq m nLower || Nat.beq m nStartswith
  | 2 => Nat.beq m nAppend || Nat.beq m nPop || Nat.beq m nReverse || Nat.beq m nClear
  | 3 => Nat.beq m nGet || Nat.beq m nSetdefault || Nat.beq m nUpdate || Nat.beq m nPop
  | _ => false
def lstOf (x : D) (h : Hv) : Option (List D) := match x with
  | .ref a => match h.get a with
    | some (.lst l) => some l
    | _ => none
  | .tup l => some l
  | _ => none
def joinR (s : Sg) (vs : List D) (h : Hv) : Res D := match vs with
  | [x] => match lstOf x h with
    | some l => match strsOf l with
      | some ss => bif Nat.ble ((ss.map List.length).sum + ss.length * s.length) line then .ok (.str (joinS s ss)) h else .bad
      | none => .bad
    | none => .bad
  | _ => .bad
def splitR (s : Sg) (vs : List D) (h : Hv) : Res D := match vs with
  | [.str [c]] => bif Nat.ble (s.length + 2) line && Nat.blt c 128 then newL ((splitC c s.length [] s).map .str) h else .bad
  | [.str [c], .int k] => bif Nat.ble (s.length + 2) line && Nat.blt c 128 && k == 1 then newL ((splitOne c s).map .str) h else .bad
  | _ => .bad
def idxS (s : Sg) (vs : List D) (h : Hv) : Res D := match vs with
      | [.str [c]] => opt ((posC c s).map fun (i : Nat) => D.int (i : Int)) h
      | _ => .bad
def uprS (s : Sg) (vs : List D) (h : Hv) : Res D := match vs with
      | [] => bif asciiS s && Nat.ble s.length 5592405 then .ok (.str (s.map upC)) h else .bad
      | _ => .bad
def lwrS (s : Sg) (vs : List D) (h : Hv) : Res D := match vs with
      | [] => bif asciiS s && Nat.ble s.length 5592405 then .ok (.str (s.map loC)) h else .bad
      | _ => .bad
def stwS (s : Sg) (vs : List D) (h : Hv) : Res D := match vs with
      | [.str t] => .ok (.bl (preS t s)) h
      | _ => .bad
def mthS (s : Sg) (m : Nat) (vs : List D) (h : Hv) : Res D :=
    bif Nat.beq m nJoin then joinR s vs h
    else bif Nat.beq m nSplit then splitR s vs h
    else bif Nat.beq m nIndex then idxS s vs h
    else bif Nat.beq m nUpper then uprS s vs h
    else bif Nat.beq m nLower then lwrS s vs h
    else bif Nat.beq m nStartswith then stwS s vs h
    else .bad
def popL (a : Nat) (l : List D) (vs : List D) (h : Hv) : Res D := match vs with
        | [] => match l.getLast? with
          | some v => .ok v (h.put a (.lst l.dropLast))
          | none => .bad
        | [.int k] => match ixOf l.length k with
          | some j => match l[j]? with
            | some v => .ok v (h.put a (.lst (l.eraseIdx j)))
            | none => .bad
          | none => .bad
        | _ => .bad
def appL (a : Nat) (l : List D) (vs : List D) (h : Hv) : Res D := match vs with
        | [v] => bif Nat.blt l.length line then .ok .non (h.put a (.lst (l ++ [v]))) else .bad
        | _ => .bad
def rvsL (a : Nat) (l : List D) (vs : List D) (h : Hv) : Res D := match vs with
        | [] => .ok .non (h.put a (.lst l.reverse))
        | _ => .bad
def clrL (a : Nat) (vs : List D) (h : Hv) : Res D := match vs with
        | [] => .ok .non (h.put a (.lst []))
        | _ => .bad
def mthL (a : Nat) (l : List D) (m : Nat) (vs : List D) (h : Hv) : Res D :=
      bif Nat.beq m nAppend then appL a l vs h
      else bif Nat.beq m nPop then popL a l vs h
      else bif Nat.beq m nReverse then rvsL a l vs h
      else bif Nat.beq m nClear then clrL a vs h
      else .bad
def getD (l : List (D × D)) (lk : Nat) (vs : List D) (h : Hv) : Res D := match vs with
        | [k, d] => bif dOk k lk l then .ok ((dGet k l).getD d) h else .bad
        | _ => .bad
def setdD (a : Nat) (l : List (D × D)) (lk : Nat) (vs : List D) (h : Hv) : Res D := match vs with
        | [k, d] => bif dOk k lk l && Nat.beq lk 0 && Nat.blt l.length line && !isTup k then match dGet k l with
          | some v => .ok v h
          | none => .ok d (h.put a (.dct 0 (dPut k d l)))
          else .bad
        | _ => .bad
def updD (a : Nat) (l : List (D × D)) (lk : Nat) (vs : List D) (h : Hv) : Res D := match vs with
        | [.ref b] => match h.get b with
          | some (.dct _ r) => bif Nat.beq lk 0 && Nat.ble (l.length + r.length) line && !Nat.beq a b then .ok .non (h.put a (.dct 0 (r.foldl (fun l p => dPut p.1 p.2 l) l))) else .bad
          | _ => .bad
        | _ => .bad
def popD (a : Nat) (l : List (D × D)) (lk : Nat) (vs : List D) (h : Hv) : Res D := match vs with
        | [k] => bif dOk k lk l && Nat.beq lk 0 && !isTup k then match dGet k l with
          | some v => .ok v (h.put a (.dct 0 (dDel k l)))
          | none => .bad
          else .bad
        | _ => .bad
def mthD (a : Nat) (lk : Nat) (l : List (D × D)) (m : Nat) (vs : List D) (h : Hv) : Res D :=
      bif Nat.beq m nGet then getD l lk vs h
      else bif Nat.beq m nSetdefault then setdD a l lk vs h
      else bif Nat.beq m nUpdate then updD a l lk vs h
      else bif Nat.beq m nPop then popD a l lk vs h
      else .bad
/-- a built-in type's method -/
def mthB (k : Nat) (x : D) (m : Nat) (vs : List D) (h : Hv) : Res D := match x with
  | .str s => mthS s m vs h
  | .ref a => match h.get a with
    | some (.lst l) => bif Nat.beq k 2 then mthL a l m vs h else .bad
    | some (.dct lk l) => bif Nat.beq k 3 then mthD a lk l m vs h else .bad
    | _ => .bad
  | _ => .bad

/-- x += y, x -= y: a list grows itself -/
def extR (a b : Nat) (h : Hv) : Res D := match h.get a, h.get b with
  | some (.lst xs), some (.lst ys) => bif Nat.ble (xs.length + ys.length) line then .ok (.ref a) (h.put a (.lst (xs ++ ys))) else .bad
  | _, _ => .bad
def iaddR (x y : D) (h : Hv) : Res D := match x, y with
  | .int a, .int b => .ok (.int (a + b)) h
  | .ref a, .ref b => extR a b h
  | _, _ => .bad
def augR (o : Op) (x y : D) (h : Hv) : Res D := match o with
  | .add => iaddR x y h
  | .sub => subR x y h
  | _ => .bad

/-! ### targets -/
def asgT : Tg → List D → Env → Option Env
  | .nm i, [v], σ => some (σ.set i (some v))
  | .tup t, [v], σ => match v with
    | .tup l => asgT t l σ
    | _ => none
  | .nil, [], σ => some σ
  | .cons a r, v :: vs, σ => match asgT a [v] σ with
    | some σ' => asgT r vs σ'
    | none => none
  | _, _, _ => none
def tgVars : Tg → List Nat
  | .nm i => [i]
  | .tup t => tgVars t
  | .nil => []
  | .cons a r => tgVars a ++ tgVars r

def wipeE : List Nat → Env → Env
  | [], σ => σ
  | i :: r, σ => (wipeE r σ).set i none
def gVars : E → List Nat
  | .gen t _ _ r => tgVars t ++ gVars r
  | _ => []
/-- the turns of a walk that grows a list -/
def compL (t : Tg) (it : It) (σ : Env) (turn : Env → Hv → List D → Res (List D)) : Nat → Nat → Hv → List D → Res (List D)
  | n, i, h, acc => match it.at? h i with
    | some none => .ok acc h
    | some (some x) => match asgT t [x] σ with
      | some σ' => match n with
        | 0 => .bad
        | n + 1 => (turn σ' h acc).bind fun acc h => compL t it σ turn n (i + 1) h acc
      | none => .bad
    | none => .bad
/-! ### expressions: what each form does with the meanings of its parts -/
abbrev ME := Env → Hv → Res D
abbrev ML := Env → Hv → Res (List D)
abbrev MC := D → List Cop → Env → Hv → Res D
abbrev MI := Env → Hv → Res It
abbrev MJ := Env → Hv → Res (List It)
abbrev MT := Env → Hv → Res Bool
abbrev MG := Env → Env → Hv → List D → Res (List D)

def mVar (i : Nat) : ME := fun σ h => match σ[i]? with
  | some (some v) => .ok v h
  | _ => .bad
def mCst (v : D) : ME := fun _ h => .ok v h
def mTup (es : ML) : ME := fun σ h => (es σ h).bind fun vs h => bif Nat.ble vs.length line then .ok (.tup vs) h else .bad
def mLst (es : ML) : ME := fun σ h => (es σ h).bind fun vs h => newL vs h
def mDsp (es : ML) : ME := fun σ h => (es σ h).bind fun vs h => match pairsUp vs with
    | some ps => match pairsD ps [] with
      | some kvs => new (.dct 0 kvs) h
      | none => .bad
    | none => .bad
def mBin (o : Op) (a b : ME) : ME := fun σ h => (a σ h).bind fun x h => (b σ h).bind fun y h => binop o x y h
def mCmp (a : ME) (os : List Cop) (bs : MC) : ME := fun σ h => (a σ h).bind fun x h => bs x os σ h
def mTru (a : ME) : MT := fun σ h => (a σ h).bind fun x h => truthy T call x h
def mAnd (a b : ME) : ME := fun σ h => (a σ h).bind fun x h => (truthy T call x h).bind fun t h => bif t then b σ h else .ok x h
def mOr (a b : ME) : ME := fun σ h => (a σ h).bind fun x h => (truthy T call x h).bind fun t h => bif t then .ok x h else b σ h
def mNot (a : ME) : ME := fun σ h => (mTru T call a σ h).bind fun t h => .ok (.bl (!t)) h
def bAnd (a b : MT) : MT := fun σ h => (a σ h).bind fun t h => bif t then b σ h else .ok false h
def bOr (a b : MT) : MT := fun σ h => (a σ h).bind fun t h => bif t then .ok true h else b σ h
def bNot (a : MT) : MT := fun σ h => (a σ h).bind fun t h => .ok (!t) h
def bIte (c a b : MT) : MT := fun σ h => (c σ h).bind fun t h => bif t then a σ h else b σ h
def mNeg (a : ME) : ME := fun σ h => (a σ h).bind fun x h => match x with
    | .int i => .ok (.int (-i)) h
    | _ => .bad
def mIte (c : MT) (a b : ME) : ME := fun σ h => (c σ h).bind fun t h => bif t then a σ h else b σ h
def mAtt (e : ME) (f : Nat) : ME := fun σ h => (e σ h).bind fun x h => getAtt T call x f h
def mIdx (a i : ME) : ME := fun σ h => (a σ h).bind fun x h => (i σ h).bind fun y h => getIx x y h
def mSli (a lo hi : ME) : ME := fun σ h => (a σ h).bind fun x h => (lo σ h).bind fun l h => (hi σ h).bind fun u h => slice x l u h
def mPrt (a : ME) : ME := fun σ h => (a σ h).bind fun x h => match x with
    | .int i => .ok (.int i) h
    | _ => .bad
def mRev (a : ME) : ME := fun σ h => (a σ h).bind fun x h => revV x h
def mCall (f : Nat) (es : ML) : ME := fun σ h => (es σ h).bind fun vs h => call f vs h
def makeI (c : Nat) (vs : List D) (h : Hv) : Res D := match methOf T c nInit with
    | some (.inst, f) => (call f (.ref h.n :: vs) (h.push (.ins c []))).bind fun r h' => bif isNon r then .ok (.ref h.n) h' else .bad
    | _ => .bad
def mMk (c : Nat) (es : ML) : ME := fun σ h => (es σ h).bind fun vs h => makeI T call c vs h
def mMkv (e : ME) (es : ML) : ME := fun σ h => (e σ h).bind fun x h => match x with
    | .ty c => match methOf T c nInit with
      | some _ => (es σ h).bind fun vs h => makeI T call c vs h
      | none => .bad
    | _ => .bad
def mIvk (e : ME) (es : ML) : ME := fun σ h => (e σ h).bind fun x h => match x with
    | .ref a => match instM T h a nCall with
      | some f => (es σ h).bind fun vs h => call f (x :: vs) h
      | none => .bad
    | _ => .bad
def mBi (b : Bi) (es : ML) : ME := fun σ h => (es σ h).bind fun vs h => biR b vs h
def itAll (it : It) (h : Hv) : Res (List D) := opt (it.all h) h
def dictOf (it : It) (h : Hv) : Res D := match it with
    | .keys a => match h.get a with
      | some (.dct _ l) => new (.dct 0 l) h
      | _ => .bad
    | it => (itAll it h).bind fun l h => biI .dict l h
def srtOf (it : It) (h : Hv) : Res D := match it with
    | .items a => itsR a h
    | it => (itAll it h).bind fun l h => biI .sorted l h
def mB1 (b : Bi) (e : MI) : ME := fun σ h => (e σ h).bind fun it h => match b with
    | .dict => dictOf it h
    | .sorted => srtOf it h
    | b => (itAll it h).bind fun l h => biI b l h
def mBmd (e : MI) (d : ME) : ME := fun σ h => (e σ h).bind fun it h => (itAll it h).bind fun l h => (d σ h).bind fun dv h => bif l.isEmpty then .ok dv h else biI .max l h
def mB0 (b : Bi) : ME := fun _ h => match b with
    | .set => new (.set []) h
    | .list => new (.lst []) h
    | _ => .bad
def isInst (x : D) (h : Hv) : Option Nat := match x with
    | .ref a => match h.get a with
      | some (.ins c _) => some c
      | _ => none
    | _ => none
def mMth (e : ME) (m : Nat) (es : ML) : ME := fun σ h => (e σ h).bind fun x h => match isInst x h with
    | some c => match methOf T c m with
      | some (.inst, f) => (es σ h).bind fun vs h => call f (x :: vs) h
      | _ => .bad
    | none => bif okM (kindM x h) m then (es σ h).bind fun vs h' => mthB (kindM x h) x m vs h' else .bad
def mSmt (c m : Nat) (es : ML) : ME := fun σ h => match methOf T c m with
    | some (.stat, f) => (es σ h).bind fun vs h => call f vs h
    | some (.clm, f) => (es σ h).bind fun vs h => call f (.ty c :: vs) h
    | _ => .bad
/-- an instance of the own class k -/
def insC (x : D) (h : Hv) : Option Nat := match x with
  | .ref a => match h.get a with
    | some (.ins c _) => some c
    | _ => none
  | _ => none
def ownIs (x : D) (k : Nat) (h : Hv) : Option Bool := match insC x h with
  | some c => some (Nat.beq c k)
  | none => (tyN x h).map fun _ => false
def isiR (x : D) (ts : List Ty) (h : Hv) : Option Bool := match ts with
  | [.cls k] => ownIs x k h
  | ts => (tyN x h).bind fun c => isAny c ts
def mIsi (e : ME) (ts : List Ty) : ME := fun σ h => (e σ h).bind fun x h => opt ((isiR x ts h).map .bl) h
/-- a new pair in a dict that grows: keys of one kind -/
def dAdd (k v : D) (kvs : List (D × D)) : Option (List (D × D)) := bif dOk k 0 kvs then some (dPut k v kvs) else none
def pairsH : List D → List (D × D) → Option (List (D × D))
  | [], acc => some acc
  | .tup [k, v] :: r, acc => match dAdd k v acc with
    | some acc => pairsH r acc
    | none => none
  | _, _ => none
def dictEnd (l : List D) (h : Hv) : Res D := match pairsH l [] with
    | some kvs => bif Nat.ble l.length line then new (.dct 0 kvs) h else .bad
    | none => .bad
def setEnd (l : List D) (h : Hv) : Res D := bif l.all keyOk then new (.set (dedup l [])) h else .bad
def mLc (vs : List Nat) (g : MG) : ME := fun σ h => (nox (g σ (wipeE vs σ) h [])).bind fun acc h => newL acc.reverse h
def mDc (vs : List Nat) (g : MG) : ME := fun σ h => (nox (g σ (wipeE vs σ) h [])).bind fun acc h => dictEnd acc.reverse h
def mSc (vs : List Nat) (g : MG) : ME := fun σ h => (nox (g σ (wipeE vs σ) h [])).bind fun acc h => setEnd acc.reverse h
def mNil : ML := fun _ h => .ok [] h
def mCons (a : ME) (r : ML) : ML := fun σ h => (a σ h).bind fun x h => (r σ h).bind fun xs h => .ok (x :: xs) h
def cCons (b : ME) (r : MC) : MC := fun x os σ h => match os with
    | [] => .bad
    | [o] => (b σ h).bind fun y h => (cmpR o x y h).bind fun t h => .ok (.bl t) h
    | o :: os => (b σ h).bind fun y h => (cmpR o x y h).bind fun t h => bif t then r y os σ h else .ok (.bl false) h
def iRng (es : ML) : MI := fun σ h => (es σ h).bind fun vs h => opt ((rangeOf vs).map .seq) h
def isSrc : It → Bool
  | .seq _ => true
  | .lst _ => true
  | _ => false
/-- a source that zip and enumerate may walk -/
def srcV (x : D) (h : Hv) : Option It := match iterV x h with
  | some t => bif isSrc t && (t.at? h 0).isSome then some t else none
  | none => none
def iZip (es : ML) : MI := fun σ h => (es σ h).bind fun vs h => match vs with
    | [x, y] => match srcV x h, srcV y h with
      | some i, some j => .ok (.zip i j) h
      | _, _ => .bad
    | [x, y, z] => match srcV x h, srcV y h, srcV z h with
      | some i, some j, some k => .ok (.zip3 i j k) h
      | _, _, _ => .bad
    | _ => .bad
def iEnm (e : ME) : MI := fun σ h => (e σ h).bind fun x h => match srcV x h with
    | some i => .ok (.enm i) h
    | none => .bad
def iItm (e : ME) : MI := fun σ h => (e σ h).bind fun x h => match x with
    | .ref a => match h.get a with
      | some (.dct _ _) => .ok (.items a) h
      | _ => .bad
    | _ => .bad
def iVls (e : ME) : MI := fun σ h => (e σ h).bind fun x h => match x with
    | .ref a => match h.get a with
      | some (.dct _ _) => .ok (.vals a) h
      | _ => .bad
    | _ => .bad
def iKys (e : ME) : MI := fun σ h => (e σ h).bind fun x h => match x with
    | .ref a => match h.get a with
      | some (.dct 0 _) => .ok (.keys a) h
      | _ => .bad
    | _ => .bad
def iItv (e : ME) : MI := fun σ h => (e σ h).bind fun x h => opt (iterV x h) h
def genRes (x : D) (h : Hv) : Res It := match x with
    | .tup l => .ok (.seq l) h
    | _ => .bad
def iGcl (f : Nat) (es : ML) : MI := fun σ h => (es σ h).bind fun vs h => (call f vs h).bind genRes
def iGmt (e : ME) (m : Nat) (es : ML) : MI := fun σ h => (e σ h).bind fun x h => match x with
    | .ref a => match instM T h a m with
      | some f => (es σ h).bind fun vs h => (call f (x :: vs) h).bind genRes
      | none => .bad
    | _ => .bad
def jNil : MJ := fun _ h => .ok [] h
def jCons (a : MI) (r : MJ) : MJ := fun σ h => (a σ h).bind fun x h => (r σ h).bind fun xs h => .ok (x :: xs) h
def tNil : MT := fun _ h => .ok true h
def tCons (a : MT) (r : MT) : MT := fun σ h => (a σ h).bind fun t h => bif t then r σ h else .ok false h
def genTurn (ifs : MT) (rest : MG) : Env → Hv → List D → Res (List D) := fun σ h acc => (ifs σ h).bind fun b h => bif b then rest σ σ h acc else .ok acc h
def gGen (t : Tg) (it : MI) (ifs : MT) (rest : MG) : MG := fun σi σ h acc => (it σi h).bind fun i h =>
      (compL t i (wipeE (tgVars t) σ) (genTurn ifs rest) (i.len (lockI i h)) 0 (lockI i h) acc).bind fun acc h => .ok acc (unlockI i h)
def gElt (e : ME) : MG := fun _ σ h acc => (e σ h).bind fun x h => .ok (x :: acc) h
def gEkv (k v : ME) : MG := fun _ σ h acc => (k σ h).bind fun x h => (v σ h).bind fun y h => bif keyOk x then .ok (.tup [x, y] :: acc) h else .bad

mutual
def evE : E → ME
  | .var i => mVar i
  | .cst v => mCst v
  | .tup es => mTup (evL es)
  | .lst es => mLst (evL es)
  | .dsp es => mDsp (evL es)
  | .bin o a b => mBin o (evE a) (evE b)
  | .cmp a os bs => mCmp (evE a) os (evC bs)
  | .and a b => mAnd T call (evE a) (evE b)
  | .or a b => mOr T call (evE a) (evE b)
  | .not a => mNot T call (evE a)
  | .neg a => mNeg (evE a)
  | .ite c a b => mIte (evB c) (evE a) (evE b)
  | .att e f => mAtt T call (evE e) f
  | .idx a i => mIdx (evE a) (evE i)
  | .sli a lo hi => mSli (evE a) (evE lo) (evE hi)
  | .prt a => mPrt (evE a)
  | .rev a => mRev (evE a)
  | .call f es => mCall call f (evL es)
  | .mk c es => mMk T call c (evL es)
  | .mkv e es => mMkv T call (evE e) (evL es)
  | .ivk e es => mIvk T call (evE e) (evL es)
  | .bi b es => mBi b (evL es)
  | .b1 b e => mB1 b (evI e)
  | .bmd e d => mBmd (evI e) (evE d)
  | .b0 b => mB0 b
  | .mth e m es => mMth T call (evE e) m (evL es)
  | .smt c m es => mSmt T call c m (evL es)
  | .isi e ts => mIsi (evE e) ts
  | .lc g => mLc (gVars g) (evG g)
  | .dc g => mDc (gVars g) (evG g)
  | .sc g => mSc (gVars g) (evG g)
  | _ => fun _ _ => .bad
termination_by structural e => e
/-- an expression as a test -/
def evB : E → MT
  | .var i => mTru T call (mVar i)
  | .cst v => mTru T call (mCst v)
  | .tup es => mTru T call (mTup (evL es))
  | .lst es => mTru T call (mLst (evL es))
  | .dsp es => mTru T call (mDsp (evL es))
  | .bin o a b => mTru T call (mBin o (evE a) (evE b))
  | .cmp a os bs => mTru T call (mCmp (evE a) os (evC bs))
  | .and a b => bAnd (evB a) (evB b)
  | .or a b => bOr (evB a) (evB b)
  | .not a => bNot (evB a)
  | .neg a => mTru T call (mNeg (evE a))
  | .ite c a b => bIte (evB c) (evB a) (evB b)
  | .att e f => mTru T call (mAtt T call (evE e) f)
  | .idx a i => mTru T call (mIdx (evE a) (evE i))
  | .sli a lo hi => mTru T call (mSli (evE a) (evE lo) (evE hi))
  | .prt a => mTru T call (mPrt (evE a))
  | .rev a => mTru T call (mRev (evE a))
  | .call f es => mTru T call (mCall call f (evL es))
  | .mk c es => mTru T call (mMk T call c (evL es))
  | .mkv e es => mTru T call (mMkv T call (evE e) (evL es))
  | .ivk e es => mTru T call (mIvk T call (evE e) (evL es))
  | .bi b es => mTru T call (mBi b (evL es))
  | .b1 b e => mTru T call (mB1 b (evI e))
  | .bmd e d => mTru T call (mBmd (evI e) (evE d))
  | .b0 b => mTru T call (mB0 b)
  | .mth e m es => mTru T call (mMth T call (evE e) m (evL es))
  | .smt c m es => mTru T call (mSmt T call c m (evL es))
  | .isi e ts => mTru T call (mIsi (evE e) ts)
  | .lc g => mTru T call (mLc (gVars g) (evG g))
  | .dc g => mTru T call (mDc (gVars g) (evG g))
  | .sc g => mTru T call (mSc (gVars g) (evG g))
  | _ => fun _ _ => .bad
termination_by structural e => e
def evL : E → ML
  | .nil => mNil
  | .cons a r => mCons (evE a) (evL r)
  | _ => fun _ _ => .bad
termination_by structural e => e
/-- a comparison's rest -/
def evC : E → MC
  | .cons b r => cCons (evE b) (evC r)
  | _ => fun _ _ _ _ => .bad
termination_by structural e => e
/-- what is walked -/
def evI : E → MI
  | .rng es => iRng (evL es)
  | .zip es => iZip (evL es)
  | .enm e => iEnm (evE e)
  | .itm e => iItm (evE e)
  | .vls e => iVls (evE e)
  | .kys e => iKys (evE e)
  | .itv e => iItv (evE e)
  | .gcl f es => iGcl call f (evL es)
  | .gmt e m es => iGmt T call (evE e) m (evL es)
  | _ => fun _ _ => .bad
termination_by structural e => e
def evJ : E → MJ
  | .nil => jNil
  | .cons a r => jCons (evI a) (evJ r)
  | _ => fun _ _ => .bad
termination_by structural e => e
/-- a clause's tests -/
def evT : E → MT
  | .nil => tNil
  | .cons a r => tCons (evB a) (evT r)
  | _ => fun _ _ => .bad
termination_by structural e => e
/-- a comprehension's clauses: the items, the last one first -/
def evG : E → MG
  | .gen t it ifs rest => gGen t (evI it) (evT ifs) (evG rest)
  | .elt e => gElt (evE e)
  | .ekv k v => gEkv (evE k) (evE v)
  | _ => fun _ _ _ _ => .bad
termination_by structural e => e
end

/-! ### statements -/
inductive R where
  | nx (σ : Env) (h : Hv)
  | ret (v : D) (h : Hv)
  | brk (σ : Env) (h : Hv)
  | cnt (σ : Env) (h : Hv)
  | exc (c : Nat) (vs : List D) (σ : Env) (h : Hv)
  | bad
  deriving Inhabited
def onR (σ : Env) (r : Res α) (k : α → Hv → R) : R := match r with
  | .ok a h => k a h
  | .exc c fs h => .exc c fs σ h
  | .bad => .bad
def thenR (r : R) (k : Env → Hv → R) : R := match r with
  | .nx σ h => k σ h
  | r => r
/-- behind a walk over a locked dict -/
def unlockR (it : It) (r : R) : R := match r with
  | .nx σ h => .nx σ (unlockI it h)
  | .ret v h => .ret v (unlockI it h)
  | .exc c fs σ h => match it.dict? with
    | none => .exc c fs σ h
    | some _ => .bad
  | _ => .bad
def forL (t : Tg) (it : It) (body : Env → Hv → R) : Nat → Nat → Env → Hv → R
  | n, i, σ, h => match it.at? h i with
    | some none => .nx σ h
    | some (some x) => match asgT t [x] σ with
      | some σ' => match n with
        | 0 => .bad
        | n + 1 => match body σ' h with
          | .nx σ h => forL t it body n (i + 1) σ h
          | .cnt σ h => forL t it body n (i + 1) σ h
          | .brk σ h => .nx σ h
          | r => r
      | none => .bad
    | none => .bad
def whlL (test : Env → Hv → Res Bool) (body : Env → Hv → R) : Nat → Env → Hv → R
  | 0, _, _ => .bad
  | n + 1, σ, h => onR σ (test σ h) fun b h => bif b then match body σ h with
      | .nx σ h => whlL test body n σ h
      | .cnt σ h => whlL test body n σ h
      | .brk σ h => .nx σ h
      | r => r
    else .nx σ h
def whlFuel : Nat := 100000
abbrev MS := Env → Hv → R
abbrev MH := Nat → List D → Env → Hv → R
def sNop : MS := fun σ h => .nx σ h
def sSeq (a b : MS) : MS := fun σ h => thenR (a σ h) b
def sAsg (t : Tg) (e : ME) : MS := fun σ h => onR σ (e σ h) fun v h => match asgT t [v] σ with
    | some σ => .nx σ h
    | none => .bad
def sSat (o : ME) (f : Nat) (e : ME) : MS := fun σ h => onR σ (e σ h) fun v h => onR σ (o σ h) fun x h => onR σ (setAtt T x f v h) fun _ h => .nx σ h
def sSix (o i e : ME) : MS := fun σ h => onR σ (e σ h) fun v h => onR σ (o σ h) fun x h => onR σ (i σ h) fun j h => onR σ (setIx x j v h) fun _ h => .nx σ h
def sAug (i : Nat) (o : Op) (e : ME) : MS := fun σ h => match σ[i]? with
    | some (some x) => onR σ (e σ h) fun y h => onR σ (augR o x y h) fun z h => .nx (σ.set i (some z)) h
    | _ => .bad
def sAugf (x : ME) (f : Nat) (o : Op) (e : ME) : MS := fun σ h => onR σ (x σ h) fun x h => onR σ (getAtt T call x f h) fun v h => onR σ (e σ h) fun y h => onR σ (augR o v y h) fun z h =>
      onR σ (setAtt T x f z h) fun _ h => .nx σ h
def sAugi (x i : ME) (o : Op) (e : ME) : MS := fun σ h => onR σ (x σ h) fun x h => onR σ (i σ h) fun j h => onR σ (getIx x j h) fun v h => onR σ (e σ h) fun y h => onR σ (augR o v y h) fun z h =>
      onR σ (setIx x j z h) fun _ h => .nx σ h
def sExp (e : ME) : MS := fun σ h => onR σ (e σ h) fun _ h => .nx σ h
def sIfs (c : MT) (a b : MS) : MS := fun σ h => onR σ (c σ h) fun t h => bif t then a σ h else b σ h
def sFor (t : Tg) (it : MI) (b : MS) : MS := fun σ h => onR σ (it σ h) fun i h => unlockR i (forL t i b (i.len (lockI i h)) 0 σ (lockI i h))
def sWhl (c : MT) (b : MS) : MS := fun σ h => whlL c b whlFuel σ h
def sRet (e : ME) : MS := fun σ h => onR σ (e σ h) fun v h => .ret v h
def sRetN : MS := fun _ h => .ret .non h
def sRse (c : Nat) (es : ML) : MS := fun σ h => onR σ (es σ h) fun vs h => match T.cl.get c with
    | some k => bif k.exc && Nat.beq k.flds.length vs.length then .exc c vs σ h else .bad
    | none => .bad
def sBrk : MS := fun σ h => .brk σ h
def sCnt : MS := fun σ h => .cnt σ h
def sTr (b : MS) (hs : MH) : MS := fun σ h => match b σ h with
    | .exc c fs σ h => hs c fs σ h
    | r => r
def sYld (k : Nat) (e : ME) : MS := fun σ h => onR σ (e σ h) fun v h => match σ[k]? with
    | some (some (.tup l)) => .nx (σ.set k (some (.tup (l ++ [v])))) h
    | _ => .bad
def sYfr (k : Nat) (e : MI) : MS := fun σ h => onR σ (e σ h) fun i h => match i, σ[k]? with
    | .seq r, some (some (.tup l)) => .nx (σ.set k (some (.tup (l ++ r)))) h
    | _, _ => .bad
/-- a handler's suite; a name of the exception is gone behind it -/
def offE (oi : Option Nat) (σ : Env) : Env := match oi with
  | none => σ
  | some i => σ.set i none
def offR (oi : Option Nat) (r : R) : R := match r with
  | .nx σ h => .nx (offE oi σ) h
  | .brk σ h => .brk (offE oi σ) h
  | .cnt σ h => .cnt (offE oi σ) h
  | .ret v h => .ret v h
  | _ => .bad
def onE (oi : Option Nat) (k : Nat) (vs : List D) (σ : Env) : Env := match oi with
  | none => σ
  | some i => σ.set i (some (.exv k vs))
def runH (oi : Option Nat) (b : MS) (k : Nat) (vs : List D) : MS := fun σ h => offR oi (b (onE oi k vs σ) h)
def hCons (c : Nat) (i : Option Nat) (b : MS) (r : MH) : MH := fun k fs σ h => bif subCl T 5 k c then runH i b k fs σ h else r k fs σ h
def hNil : MH := fun k fs σ h => .exc k fs σ h

mutual
def evS : S → MS
  | .nop => sNop
  | .seq a b => sSeq (evS a) (evS b)
  | .asg t e => sAsg t (evE T call e)
  | .sat o f e => sSat T (evE T call o) f (evE T call e)
  | .six o i e => sSix (evE T call o) (evE T call i) (evE T call e)
  | .aug i o e => sAug i o (evE T call e)
  | .augf x f o e => sAugf T call (evE T call x) f o (evE T call e)
  | .augi x i o e => sAugi (evE T call x) (evE T call i) o (evE T call e)
  | .exp e => sExp (evE T call e)
  | .ifs c a b => sIfs (evB T call c) (evS a) (evS b)
  | .fr t it b => sFor t (evI T call it) (evS b)
  | .whl c b => sWhl (evB T call c) (evS b)
  | .ret e => sRet (evE T call e)
  | .retN => sRetN
  | .rse c es => sRse T c (evL T call es)
  | .brk => sBrk
  | .cnt => sCnt
  | .tr b hs => sTr (evS b) (evH hs)
  | .yld k e => sYld k (evE T call e)
  | .yfr k e => sYfr k (evI T call e)
  | _ => fun _ _ => .bad
termination_by structural s => s
def evH : S → MH
  | .hcons c i b r => hCons T c i (evS b) (evH r)
  | .hnil => hNil
  | _ => fun _ _ _ _ => .bad
termination_by structural s => s
end
end

/-! ### defs -/
def fillD : Nat → List D → List (Option D) → Option (List D)
  | 0, [], _ => some []
  | 0, _ :: _, _ => none
  | n + 1, v :: vs, d => (fillD n vs d.tail).map (v :: ·)
  | n + 1, [], some v :: d => (fillD n [] d).map (v :: ·)
  | _ + 1, [], _ => none
/-- a def's body, its run -/
def runF (F : Fn) (body : MS) (vs : List D) (h : Hv) : Res D := match fillD F.np vs F.dfl with
  | some ws => bif F.gen then
      (match body (ws.map some ++ List.replicate (F.ns - F.np) none ++ [some (.tup [])]) h with
      | .nx σ h => match σ[F.ns]? with
        | some (some v) => .ok v h
        | _ => .bad
      | .exc c fs _ h => .exc c fs h
      | _ => .bad)
    else match body (ws.map some ++ List.replicate (F.ns - F.np) none) h with
      | .nx _ h => .ok .non h
      | .ret v h => .ok v h
      | .exc c fs _ h => .exc c fs h
      | _ => .bad
  | none => .bad
/-- a def's run at so many levels of calls -/
def callF (T : Tab) : Nat → Call
  | 0 => fun _ _ _ => .bad
  | d + 1 => fun f vs h => match T.fn.get f with
    | some F => runF F (evS T (callF T d) F.body) vs h
    | none => .bad
end TB

/-! TB: the same evaluator, built for the kernel: the recursors themselves, each form a small constant. -/
namespace TB
structure Sm where
  e : ME
  b : MT
  l : ML
  c : MC
  i : MI
  j : MJ
  t : MT
  g : MG
def b2 : Env → Hv → Res α := fun _ _ => .bad
def b4 : D → List Cop → Env → Hv → Res D := fun _ _ _ _ => .bad
def b5 : MG := fun _ _ _ _ => .bad
def smE (T : Tab) (call : Call) (f : ME) : Sm := ⟨f, mTru T call f, b2, b4, b2, b2, b2, b5⟩
def smI (f : MI) : Sm := ⟨b2, b2, b2, b4, f, b2, b2, b5⟩
def smG (f : MG) : Sm := ⟨b2, b2, b2, b4, b2, b2, b2, f⟩
section
variable (T : Tab) (call : Call)
def q_var (i : Nat) : Sm := smE T call (mVar i)
def q_cst (v : D) : Sm := smE T call (mCst v)
def q_nil : Sm := ⟨b2, b2, mNil, b4, b2, jNil, tNil, b5⟩
def q_cons (_ _ : E) (a r : Sm) : Sm := ⟨b2, b2, mCons a.e r.l, cCons a.e r.c, b2, jCons a.i r.j, tCons a.b r.t, b5⟩
def q_tup (_ : E) (a : Sm) : Sm := smE T call (mTup a.l)
def q_lst (_ : E) (a : Sm) : Sm := smE T call (mLst a.l)
def q_dsp (_ : E) (a : Sm) : Sm := smE T call (mDsp a.l)
def q_bin (o : Op) (_ _ : E) (a b : Sm) : Sm := smE T call (mBin o a.e b.e)
def q_cmp (_ : E) (os : List Cop) (_ : E) (a b : Sm) : Sm := smE T call (mCmp a.e os b.c)
def q_and (_ _ : E) (a b : Sm) : Sm := ⟨mAnd T call a.e b.e, bAnd a.b b.b, b2, b4, b2, b2, b2, b5⟩
def q_or (_ _ : E) (a b : Sm) : Sm := ⟨mOr T call a.e b.e, bOr a.b b.b, b2, b4, b2, b2, b2, b5⟩
def q_not (_ : E) (a : Sm) : Sm := ⟨mNot T call a.e, bNot a.b, b2, b4, b2, b2, b2, b5⟩
def q_neg (_ : E) (a : Sm) : Sm := smE T call (mNeg a.e)
def q_ite (_ _ _ : E) (c a b : Sm) : Sm := ⟨mIte c.b a.e b.e, bIte c.b a.b b.b, b2, b4, b2, b2, b2, b5⟩
def q_att (_ : E) (f : Nat) (a : Sm) : Sm := smE T call (mAtt T call a.e f)
def q_idx (_ _ : E) (a b : Sm) : Sm := smE T call (mIdx a.e b.e)
def q_sli (_ _ _ : E) (a b c : Sm) : Sm := smE T call (mSli a.e b.e c.e)
def q_prt (_ : E) (a : Sm) : Sm := smE T call (mPrt a.e)
def q_rev (_ : E) (a : Sm) : Sm := smE T call (mRev a.e)
def q_call (f : Nat) (_ : E) (a : Sm) : Sm := smE T call (mCall call f a.l)
def q_mk (c : Nat) (_ : E) (a : Sm) : Sm := smE T call (mMk T call c a.l)
def q_bi (b : Bi) (_ : E) (a : Sm) : Sm := smE T call (mBi b a.l)
def q_b1 (b : Bi) (_ : E) (a : Sm) : Sm := smE T call (mB1 b a.i)
def q_bmd (_ _ : E) (a b : Sm) : Sm := smE T call (mBmd a.i b.e)
def q_b0 (b : Bi) : Sm := smE T call (mB0 b)
def q_mth (_ : E) (m : Nat) (_ : E) (a b : Sm) : Sm := smE T call (mMth T call a.e m b.l)
def q_smt (c m : Nat) (_ : E) (a : Sm) : Sm := smE T call (mSmt T call c m a.l)
def q_mkv (_ _ : E) (a b : Sm) : Sm := smE T call (mMkv T call a.e b.l)
def q_ivk (_ _ : E) (a b : Sm) : Sm := smE T call (mIvk T call a.e b.l)
def q_isi (_ : E) (ts : List Ty) (a : Sm) : Sm := smE T call (mIsi a.e ts)
def q_rng (_ : E) (a : Sm) : Sm := smI (iRng a.l)
def q_zip (_ : E) (a : Sm) : Sm := smI (iZip a.l)
def q_enm (_ : E) (a : Sm) : Sm := smI (iEnm a.e)
def q_itm (_ : E) (a : Sm) : Sm := smI (iItm a.e)
def q_vls (_ : E) (a : Sm) : Sm := smI (iVls a.e)
def q_kys (_ : E) (a : Sm) : Sm := smI (iKys a.e)
def q_itv (_ : E) (a : Sm) : Sm := smI (iItv a.e)
def q_gcl (f : Nat) (_ : E) (a : Sm) : Sm := smI (iGcl call f a.l)
def q_gmt (_ : E) (m : Nat) (_ : E) (a b : Sm) : Sm := smI (iGmt T call a.e m b.l)
def q_lc (g : E) (a : Sm) : Sm := smE T call (mLc (gVars g) a.g)
def q_dc (g : E) (a : Sm) : Sm := smE T call (mDc (gVars g) a.g)
def q_sc (g : E) (a : Sm) : Sm := smE T call (mSc (gVars g) a.g)
def q_gen (t : Tg) (_ _ _ : E) (a b c : Sm) : Sm := smG (gGen t a.i b.t c.g)
def q_elt (_ : E) (a : Sm) : Sm := smG (gElt a.e)
def q_ekv (_ _ : E) (a b : Sm) : Sm := smG (gEkv a.e b.e)
noncomputable def evQ (e : E) : Sm := E.rec (motive := fun _ => Sm) (q_var T call) (q_cst T call) q_nil q_cons (q_tup T call) (q_lst T call) (q_dsp T call) (q_bin T call) (q_cmp T call) (q_and T call) (q_or T call) (q_not T call) (q_neg T call) q_ite (q_att T call) (q_idx T call) (q_sli T call) (q_prt T call) (q_rev T call) (q_call T call) (q_mk T call) (q_bi T call) (q_b1 T call) (q_bmd T call) (q_b0 T call) (q_mth T call) (q_smt T call) (q_mkv T call) (q_ivk T call) (q_isi T call) q_rng q_zip q_enm q_itm q_vls q_kys q_itv (q_gcl call) (q_gmt T call) (q_lc T call) (q_dc T call) (q_sc T call) q_gen q_elt q_ekv e

theorem evQ_eq (e : E) : evQ T call e = ⟨evE T call e, evB T call e, evL T call e, evC T call e, evI T call e, evJ T call e, evT T call e, evG T call e⟩ := by
  induction e with
  | var i => rfl
  | cst v => rfl
  | nil => rfl
  | cons a r ha hr => show q_cons a r (evQ T call a) (evQ T call r) = _; rw [ha, hr]; rfl
  | tup es h => show q_tup T call es (evQ T call es) = _; rw [h]; rfl
  | lst es h => show q_lst T call es (evQ T call es) = _; rw [h]; rfl
  | dsp es h => show q_dsp T call es (evQ T call es) = _; rw [h]; rfl
  | bin o a b ha hb => show q_bin T call o a b (evQ T call a) (evQ T call b) = _; rw [ha, hb]; rfl
  | cmp a os b ha hb => show q_cmp T call a os b (evQ T call a) (evQ T call b) = _; rw [ha, hb]; rfl
  | and a b ha hb => show q_and T call a b (evQ T call a) (evQ T call b) = _; rw [ha, hb]; rfl
  | or a b ha hb => show q_or T call a b (evQ T call a) (evQ T call b) = _; rw [ha, hb]; rfl
  | not a h => show q_not T call a (evQ T call a) = _; rw [h]; rfl
  | neg a h => show q_neg T call a (evQ T call a) = _; rw [h]; rfl
  | ite c a b hc ha hb => show q_ite c a b (evQ T call c) (evQ T call a) (evQ T call b) = _; rw [hc, ha, hb]; rfl
  | att a f h => show q_att T call a f (evQ T call a) = _; rw [h]; rfl
  | idx a b ha hb => show q_idx T call a b (evQ T call a) (evQ T call b) = _; rw [ha, hb]; rfl
  | sli a b c ha hb hc => show q_sli T call a b c (evQ T call a) (evQ T call b) (evQ T call c) = _; rw [ha, hb, hc]; rfl
  | prt a h => show q_prt T call a (evQ T call a) = _; rw [h]; rfl
  | rev a h => show q_rev T call a (evQ T call a) = _; rw [h]; rfl
  | call f a h => show q_call T call f a (evQ T call a) = _; rw [h]; rfl
  | mk f a h => show q_mk T call f a (evQ T call a) = _; rw [h]; rfl
  | bi f a h => show q_bi T call f a (evQ T call a) = _; rw [h]; rfl
  | b1 f a h => show q_b1 T call f a (evQ T call a) = _; rw [h]; rfl
  | bmd a b ha hb => show q_bmd T call a b (evQ T call a) (evQ T call b) = _; rw [ha, hb]; rfl
  | b0 b => rfl
  | mth a m b ha hb => show q_mth T call a m b (evQ T call a) (evQ T call b) = _; rw [ha, hb]; rfl
  | smt c m a h => show q_smt T call c m a (evQ T call a) = _; rw [h]; rfl
  | mkv a b ha hb => show q_mkv T call a b (evQ T call a) (evQ T call b) = _; rw [ha, hb]; rfl
  | ivk a b ha hb => show q_ivk T call a b (evQ T call a) (evQ T call b) = _; rw [ha, hb]; rfl
  | isi a ts h => show q_isi T call a ts (evQ T call a) = _; rw [h]; rfl
  | rng a h => show q_rng a (evQ T call a) = _; rw [h]; rfl
  | zip a h => show q_zip a (evQ T call a) = _; rw [h]; rfl
  | enm a h => show q_enm a (evQ T call a) = _; rw [h]; rfl
  | itm a h => show q_itm a (evQ T call a) = _; rw [h]; rfl
  | vls a h => show q_vls a (evQ T call a) = _; rw [h]; rfl
  | kys a h => show q_kys a (evQ T call a) = _; rw [h]; rfl
  | itv a h => show q_itv a (evQ T call a) = _; rw [h]; rfl
  | gcl f a h => show q_gcl call f a (evQ T call a) = _; rw [h]; rfl
  | gmt a m b ha hb => show q_gmt T call a m b (evQ T call a) (evQ T call b) = _; rw [ha, hb]; rfl
  | lc a h => show q_lc T call a (evQ T call a) = _; rw [h]; rfl
  | dc a h => show q_dc T call a (evQ T call a) = _; rw [h]; rfl
  | sc a h => show q_sc T call a (evQ T call a) = _; rw [h]; rfl
  | gen t a b c ha hb hc => show q_gen t a b c (evQ T call a) (evQ T call b) (evQ T call c) = _; rw [ha, hb, hc]; rfl
  | elt a h => show q_elt a (evQ T call a) = _; rw [h]; rfl
  | ekv a b ha hb => show q_ekv a b (evQ T call a) (evQ T call b) = _; rw [ha, hb]; rfl

structure Ss where
  s : MS
  h : MH
def s2 : MS := fun _ _ => .bad
def s4 : MH := fun _ _ _ _ => .bad
def ssS (f : MS) : Ss := ⟨f, s4⟩
noncomputable def z_seq (_ _ : S) (a b : Ss) : Ss := ssS (sSeq a.s b.s)
noncomputable def z_nop : Ss := ssS sNop
noncomputable def z_asg (t : Tg) (e : E) : Ss := ssS (sAsg t (evQ T call e).e)
noncomputable def z_sat (o : E) (f : Nat) (e : E) : Ss := ssS (sSat T (evQ T call o).e f (evQ T call e).e)
noncomputable def z_six (o i e : E) : Ss := ssS (sSix (evQ T call o).e (evQ T call i).e (evQ T call e).e)
noncomputable def z_aug (i : Nat) (o : Op) (e : E) : Ss := ssS (sAug i o (evQ T call e).e)
noncomputable def z_augf (x : E) (f : Nat) (o : Op) (e : E) : Ss := ssS (sAugf T call (evQ T call x).e f o (evQ T call e).e)
noncomputable def z_augi (x i : E) (o : Op) (e : E) : Ss := ssS (sAugi (evQ T call x).e (evQ T call i).e o (evQ T call e).e)
noncomputable def z_exp (e : E) : Ss := ssS (sExp (evQ T call e).e)
noncomputable def z_ifs (c : E) (_ _ : S) (a b : Ss) : Ss := ssS (sIfs (evQ T call c).b a.s b.s)
noncomputable def z_fr (t : Tg) (it : E) (_ : S) (b : Ss) : Ss := ssS (sFor t (evQ T call it).i b.s)
noncomputable def z_whl (c : E) (_ : S) (b : Ss) : Ss := ssS (sWhl (evQ T call c).b b.s)
noncomputable def z_ret (e : E) : Ss := ssS (sRet (evQ T call e).e)
noncomputable def z_retN : Ss := ssS sRetN
noncomputable def z_rse (c : Nat) (es : E) : Ss := ssS (sRse T c (evQ T call es).l)
noncomputable def z_brk : Ss := ssS sBrk
noncomputable def z_cnt : Ss := ssS sCnt
noncomputable def z_tr (_ _ : S) (b hs : Ss) : Ss := ssS (sTr b.s hs.h)
noncomputable def z_hnil : Ss := ⟨s2, hNil⟩
noncomputable def z_hcons (c : Nat) (i : Option Nat) (_ _ : S) (b r : Ss) : Ss := ⟨s2, hCons T c i b.s r.h⟩
noncomputable def z_yld (k : Nat) (e : E) : Ss := ssS (sYld k (evQ T call e).e)
noncomputable def z_yfr (k : Nat) (e : E) : Ss := ssS (sYfr k (evQ T call e).i)
noncomputable def evZ (s : S) : Ss := S.rec (motive := fun _ => Ss) z_seq z_nop (z_asg T call) (z_sat T call) (z_six T call) (z_aug T call) (z_augf T call) (z_augi T call) (z_exp T call) (z_ifs T call) (z_fr T call) (z_whl T call)
  (z_ret T call) z_retN (z_rse T call) z_brk z_cnt z_tr z_hnil (z_hcons T) (z_yld T call) (z_yfr T call) s
theorem evZ_eq (s : S) : evZ T call s = ⟨evS T call s, evH T call s⟩ := by
  induction s with
  | seq a b ha hb => show z_seq a b (evZ T call a) (evZ T call b) = _; rw [ha, hb]; rfl
  | nop => rfl
  | asg t e => show z_asg T call t e = _; unfold z_asg; rw [evQ_eq]; rfl
  | sat o f e => show z_sat T call o f e = _; unfold z_sat; rw [evQ_eq, evQ_eq]; rfl
  | six o i e => show z_six T call o i e = _; unfold z_six; rw [evQ_eq, evQ_eq, evQ_eq]; rfl
  | aug i o e => show z_aug T call i o e = _; unfold z_aug; rw [evQ_eq]; rfl
  | augf x f o e => show z_augf T call x f o e = _; unfold z_augf; rw [evQ_eq, evQ_eq]; rfl
  | augi x i o e => show z_augi T call x i o e = _; unfold z_augi; rw [evQ_eq, evQ_eq, evQ_eq]; rfl
  | exp e => show z_exp T call e = _; unfold z_exp; rw [evQ_eq]; rfl
  | ifs c a b ha hb => show z_ifs T call c a b (evZ T call a) (evZ T call b) = _; unfold z_ifs; rw [ha, hb, evQ_eq]; rfl
  | fr t it b hb => show z_fr T call t it b (evZ T call b) = _; unfold z_fr; rw [hb, evQ_eq]; rfl
  | whl c b hb => show z_whl T call c b (evZ T call b) = _; unfold z_whl; rw [hb, evQ_eq]; rfl
  | ret e => show z_ret T call e = _; unfold z_ret; rw [evQ_eq]; rfl
  | retN => rfl
  | rse c es => show z_rse T call c es = _; unfold z_rse; rw [evQ_eq]; rfl
  | brk => rfl
  | cnt => rfl
  | tr a b ha hb => show z_tr a b (evZ T call a) (evZ T call b) = _; rw [ha, hb]; rfl
  | hnil => rfl
  | hcons c i a b ha hb => show z_hcons T c i a b (evZ T call a) (evZ T call b) = _; rw [ha, hb]; rfl
  | yld k e => show z_yld T call k e = _; unfold z_yld; rw [evQ_eq]; rfl
  | yfr k e => show z_yfr T call k e = _; unfold z_yfr; rw [evQ_eq]; rfl
end
/-- the run, for the kernel -/
noncomputable def fStep (T : Tab) (rec_ : Call) : Call := fun f vs h => match T.fn.get f with
    | some F => runF F (evZ T rec_ F.body).s vs h
    | none => .bad
noncomputable def callQ (T : Tab) (d : Nat) : Call := Nat.rec (motive := fun _ => Call) (fun _ _ _ => .bad) (fun _ c => fStep T c) d
theorem callQ_eq (T : Tab) : ∀ d, callQ T d = callF T d
  | 0 => rfl
  | d + 1 => by
    show fStep T (callQ T d) = _
    rw [callQ_eq T d]
    funext f vs h
    show (match T.fn.get f with
      | some F => runF F (evZ T (callF T d) F.body).s vs h
      | none => .bad) = (match T.fn.get f with
      | some F => runF F (evS T (callF T d) F.body) vs h
      | none => .bad)
    cases T.fn.get f with
    | none => rfl
    | some F => simp only [evZ_eq]
end TB

/-! TB: the tree, the heap, environments: plain laws. -/
namespace TB
theorem Tr.get_nil {α : Type} (a : Nat) : (Tr.nil : Tr α).get a = none := by cases a <;> rfl
theorem Tr.get_setF {α : Type} : ∀ (n : Nat) (t : Tr α) (a : Nat) (o : α) (b : Nat), a < n → (Tr.setF n t a o).get b = if b = a then some o else t.get b := by
  intro n
  induction n with
  | zero => intro t a o b h; omega
  | succ n ih =>
    intro t a o b h
    have half : ∀ k, k + 1 < n + 1 → k / 2 < n := fun k hk => by omega
    cases t with
    | nil =>
      cases a with
      | zero => cases b <;> simp [Tr.setF, Tr.get, Tr.get_nil]
      | succ k =>
        cases e : Nat.beq (k % 2) 0 with
        | true =>
          have ek : k % 2 = 0 := Nat.eq_of_beq_eq_true e
          cases b with
          | zero => simp [Tr.setF, e, Tr.get]
          | succ j =>
            cases e2 : Nat.beq (j % 2) 0 with
            | true =>
              have ej : j % 2 = 0 := Nat.eq_of_beq_eq_true e2
              simp only [Tr.setF, e, cond_true, Tr.get, e2, ih _ _ _ _ (half k h), Tr.get_nil]
              by_cases q : j = k
              · subst q; simp
              · rw [if_neg (by omega), if_neg (by omega)]
            | false =>
              have ej : j % 2 ≠ 0 := fun q => by rw [q] at e2; cases e2
              simp only [Tr.setF, e, cond_true, Tr.get, e2, cond_false, Tr.get_nil]
              rw [if_neg (by omega)]
        | false =>
          have ek : k % 2 ≠ 0 := fun q => by rw [q] at e; cases e
          cases b with
          | zero => simp [Tr.setF, e, Tr.get]
          | succ j =>
            cases e2 : Nat.beq (j % 2) 0 with
            | true =>
              have ej : j % 2 = 0 := Nat.eq_of_beq_eq_true e2
              simp only [Tr.setF, e, cond_false, Tr.get, e2, cond_true, Tr.get_nil]
              rw [if_neg (by omega)]
            | false =>
              have ej : j % 2 ≠ 0 := fun q => by rw [q] at e2; cases e2
              simp only [Tr.setF, e, cond_false, Tr.get, e2, ih _ _ _ _ (half k h), Tr.get_nil]
              by_cases q : j = k
              · subst q; simp
              · rw [if_neg (by omega), if_neg (by omega)]
    | node l v r =>
      cases a with
      | zero => cases b <;> simp [Tr.setF, Tr.get]
      | succ k =>
        cases e : Nat.beq (k % 2) 0 with
        | true =>
          have ek : k % 2 = 0 := Nat.eq_of_beq_eq_true e
          cases b with
          | zero => simp [Tr.setF, e, Tr.get]
          | succ j =>
            cases e2 : Nat.beq (j % 2) 0 with
            | true =>
              have ej : j % 2 = 0 := Nat.eq_of_beq_eq_true e2
              simp only [Tr.setF, e, cond_true, Tr.get, e2, ih _ _ _ _ (half k h)]
              by_cases q : j = k
              · subst q; simp
              · rw [if_neg (by omega), if_neg (by omega)]
            | false =>
              have ej : j % 2 ≠ 0 := fun q => by rw [q] at e2; cases e2
              simp only [Tr.setF, e, cond_true, Tr.get, e2, cond_false]
              rw [if_neg (by omega)]
        | false =>
          have ek : k % 2 ≠ 0 := fun q => by rw [q] at e; cases e
          cases b with
          | zero => simp [Tr.setF, e, Tr.get]
          | succ j =>
            cases e2 : Nat.beq (j % 2) 0 with
            | true =>
              have ej : j % 2 = 0 := Nat.eq_of_beq_eq_true e2
              simp only [Tr.setF, e, cond_false, Tr.get, e2, cond_true]
              rw [if_neg (by omega)]
            | false =>
              have ej : j % 2 ≠ 0 := fun q => by rw [q] at e2; cases e2
              simp only [Tr.setF, e, cond_false, Tr.get, e2, ih _ _ _ _ (half k h)]
              by_cases q : j = k
              · subst q; simp
              · rw [if_neg (by omega), if_neg (by omega)]
theorem Tr.get_set {α : Type} (t : Tr α) (a : Nat) (o : α) (b : Nat) : (t.set a o).get b = if b = a then some o else t.get b := Tr.get_setF _ _ _ _ _ (Nat.lt_succ_self a)
namespace Hv
theorem get_put (h : Hv) (a : Nat) (o : Ob) (b : Nat) : (h.put a o).get b = if b = a then some o else h.get b := Tr.get_set _ _ _ _
theorem get_push (h : Hv) (o : Ob) (b : Nat) : (h.push o).get b = if b = h.n then some o else h.get b := Tr.get_set _ _ _ _
@[simp] theorem put_n (h : Hv) (a : Nat) (o : Ob) : (h.put a o).n = h.n := rfl
@[simp] theorem push_n (h : Hv) (o : Ob) : (h.push o).n = h.n + 1 := rfl
end Hv
theorem lookN_putN {α : Type} (m : Nat) (v : α) (k : Nat) : ∀ l : List (Nat × α), lookN k (putN m v l) = if k = m then some v else lookN k l
  | [] => by
    unfold putN lookN
    by_cases e : k = m
    · subst e; simp
    · rw [if_neg e]
      cases q : Nat.beq m k with
      | true => exact absurd (Nat.eq_of_beq_eq_true q).symm e
      | false => simp [lookN]
  | p :: r => by
    unfold putN
    cases q : Nat.beq p.1 m with
    | true =>
      have ep := Nat.eq_of_beq_eq_true q
      simp only [cond_true, lookN]
      by_cases e : k = m
      · subst e; simp
      · rw [if_neg e]
        cases q2 : Nat.beq m k with
        | true => exact absurd (Nat.eq_of_beq_eq_true q2).symm e
        | false => rw [ep, q2]; rfl
    | false =>
      simp only [cond_false, lookN, lookN_putN m v k r]
      cases q2 : Nat.beq p.1 k with
      | false => simp
      | true =>
        have e2 := Nat.eq_of_beq_eq_true q2
        simp only [cond_true]
        rw [if_neg]
        intro e
        rw [e2, e] at q
        simp at q
end TB

/-! TB, the link: values and heaps of the evaluator, and those of the hand layer. -/
namespace TB
open L2 PySem PyProof.Rows PySem.Spec

abbrev St := L2.St
structure Lk where
  K : PySem.W.Frag
  cA : Nat → Addr
  fA : Nat → Addr
  nm : Nat → Str
  T : Tab
abbrev Rho := Nat → Option Addr
def toS (s : Sg) : Str := ⟨s.toArray⟩

/-- a tuple, there for good -/
def Tp (H : Hp) (a : Addr) (xs : List V) : Prop := H a = some (.tup xs)
theorem Tp.sq {K : PySem.W.Frag} {H : Hp} {a : Addr} {xs : List V} (h : Tp H a xs) : SqT K H a xs := .inl (.inl h)
mutual
inductive RelD (L : Lk) (ρ : Rho) (H : Hp) : D → V → Prop
  | non : RelD L ρ H .non .non
  | bl (b : Bool) : RelD L ρ H (.bl b) (.bl b)
  | int (i : Int) : RelD L ρ H (.int i) (.int i)
  | str (s : Sg) : RelD L ρ H (.str s) (.str (toS s))
  | tup {l : List D} {a : Addr} {vs : List V} : Tp H a vs → RelL L ρ H l vs → RelD L ρ H (.tup l) (.ref a)
  | ref {a : Nat} {p : Addr} : ρ a = some p → RelD L ρ H (.ref a) (.ref p)
  | ty (c : Nat) : RelD L ρ H (.ty c) (.ref (L.cA c))
inductive RelL (L : Lk) (ρ : Rho) (H : Hp) : List D → List V → Prop
  | nil : RelL L ρ H [] []
  | cons {d : D} {v : V} {ds : List D} {vs : List V} : RelD L ρ H d v → RelL L ρ H ds vs → RelL L ρ H (d :: ds) (v :: vs)
end
/-- later: the map is larger, tuples and exceptions' dicts stand -/
structure Le0 (ρ : Rho) (H : Hp) (ρ' : Rho) (H' : Hp) : Prop where
  rho : ∀ a p, ρ a = some p → ρ' a = some p
  tup : ∀ p xs, H p = some (.tup xs) → H' p = some (.tup xs)
  xd : ∀ p fs, H p = some (.xd fs) → H' p = some (.xd fs)
/-- .. and what is frozen stays so -/
structure Le1 (ρ : Rho) (H : Hp) (ρ' : Rho) (H' : Hp) : Prop extends Le0 ρ H ρ' H' where
  fz : ∀ p o u, H p = some (.frz o u) → H' p = some (.frz o u)
/-- .. and what is not tracked is as it was -/
structure Le (ρ : Rho) (H : Hp) (ρ' : Rho) (H' : Hp) : Prop extends Le1 ρ H ρ' H' where
  un : ∀ p o, H p = some o → (∀ a, ρ a ≠ some p) → H' p = some o ∧ ∀ a, ρ' a ≠ some p
theorem Le.refl {ρ : Rho} {H : Hp} : Le ρ H ρ H := ⟨⟨⟨fun _ _ h => h, fun _ _ h => h, fun _ _ h => h⟩, fun _ _ _ h => h⟩, fun _ _ h n => ⟨h, n⟩⟩
theorem Le.trans {ρ ρ1 ρ2 : Rho} {H H1 H2 : Hp} (a : Le ρ H ρ1 H1) (b : Le ρ1 H1 ρ2 H2) : Le ρ H ρ2 H2 :=
  ⟨⟨⟨fun x p h => b.rho x p (a.rho x p h), fun p xs h => b.tup p xs (a.tup p xs h), fun p xs h => b.xd p xs (a.xd p xs h)⟩, fun p o u h => b.fz p o u (a.fz p o u h)⟩, fun p o h n => let ⟨h1, n1⟩ := a.un p o h n; b.un p o h1 n1⟩
section
variable {L : Lk} {ρ ρ' : Rho} {H H' : Hp}
theorem Tp.mono (e : ∀ p xs, H p = some (.tup xs) → H' p = some (.tup xs)) {a : Addr} {xs : List V} (h : Tp H a xs) : Tp H' a xs := e _ _ h
mutual
theorem RelD.mono0 (e : Le0 ρ H ρ' H') : ∀ {d : D} {v : V}, RelD L ρ H d v → RelD L ρ' H' d v
  | _, _, .non => .non
  | _, _, .bl b => .bl b
  | _, _, .int i => .int i
  | _, _, .str s => .str s
  | _, _, .tup t l => .tup (t.mono e.tup) (RelL.mono0 e l)
  | _, _, .ref h => .ref (e.rho _ _ h)
  | _, _, .ty c => .ty c
theorem RelL.mono0 (e : Le0 ρ H ρ' H') : ∀ {d : List D} {v : List V}, RelL L ρ H d v → RelL L ρ' H' d v
  | _, _, .nil => .nil
  | _, _, .cons h t => .cons (RelD.mono0 e h) (RelL.mono0 e t)
end
theorem RelD.mono (e : Le ρ H ρ' H') {d : D} {v : V} (r : RelD L ρ H d v) : RelD L ρ' H' d v := r.mono0 e.toLe0
theorem RelL.mono (e : Le ρ H ρ' H') {d : List D} {v : List V} (r : RelL L ρ H d v) : RelL L ρ' H' d v := r.mono0 e.toLe0
theorem RelL.length : ∀ {ds : List D} {vs : List V}, RelL L ρ H ds vs → vs.length = ds.length
  | _, _, .nil => rfl
  | _, _, .cons _ t => congrArg (· + 1) t.length
theorem RelL.get : ∀ {ds : List D} {vs : List V} {i : Nat} {d : D}, RelL L ρ H ds vs → ds[i]? = some d → ∃ v, vs[i]? = some v ∧ RelD L ρ H d v
  | _, _, 0, _, .cons h _, e => by cases e; exact ⟨_, rfl, h⟩
  | _, _, i + 1, _, .cons _ t, e => RelL.get (i := i) t e
theorem RelL.getV : ∀ {ds : List D} {vs : List V} {i : Nat} {v : V}, RelL L ρ H ds vs → vs[i]? = some v → ∃ d, ds[i]? = some d ∧ RelD L ρ H d v
  | _, _, 0, _, .cons h _, e => by cases e; exact ⟨_, rfl, h⟩
  | _, _, i + 1, _, .cons _ t, e => RelL.getV (i := i) t e
theorem RelL.none_of {ds : List D} {vs : List V} {i : Nat} (r : RelL L ρ H ds vs) (h : ds[i]? = none) : vs[i]? = none := by
  have e := r.length
  rw [List.getElem?_eq_none_iff] at h ⊢
  omega
theorem RelL.append : ∀ {ds es : List D} {vs ws : List V}, RelL L ρ H ds vs → RelL L ρ H es ws → RelL L ρ H (ds ++ es) (vs ++ ws)
  | _, _, _, _, .nil, h => h
  | _, _, _, _, .cons h t, h' => .cons h (t.append h')
theorem RelL.set : ∀ {ds : List D} {vs : List V} {d : D} {v : V} (i : Nat), RelD L ρ H d v → RelL L ρ H ds vs → RelL L ρ H (ds.set i d) (vs.set i v)
  | _, _, _, _, _, _, .nil => .nil
  | _, _, _, _, 0, h, .cons _ t => .cons h t
  | _, _, _, _, i + 1, h, .cons h' t => .cons h' (RelL.set i h t)
theorem RelL.take : ∀ {ds : List D} {vs : List V} (n : Nat), RelL L ρ H ds vs → RelL L ρ H (ds.take n) (vs.take n)
  | _, _, 0, _ => by simpa using .nil
  | _, _, _ + 1, .nil => .nil
  | _, _, n + 1, .cons h t => .cons h (t.take n)
theorem RelL.drop : ∀ {ds : List D} {vs : List V} (n : Nat), RelL L ρ H ds vs → RelL L ρ H (ds.drop n) (vs.drop n)
  | _, _, 0, h => h
  | _, _, _ + 1, .nil => .nil
  | _, _, n + 1, .cons _ t => t.drop n
theorem RelL.reverse : ∀ {ds : List D} {vs : List V}, RelL L ρ H ds vs → RelL L ρ H ds.reverse vs.reverse
  | _, _, .nil => .nil
  | _, _, .cons h t => by simpa using t.reverse.append (.cons h .nil)
theorem RelL.eraseIdx : ∀ {ds : List D} {vs : List V} (i : Nat), RelL L ρ H ds vs → RelL L ρ H (ds.eraseIdx i) (vs.eraseIdx i)
  | _, _, _, .nil => .nil
  | _, _, 0, .cons _ t => t
  | _, _, i + 1, .cons h t => .cons h (t.eraseIdx i)
theorem RelL.one {d : D} {v : V} (h : RelD L ρ H d v) : RelL L ρ H [d] [v] := .cons h .nil
theorem RelL.flat {ds : List D} {vs : List V} (h : RelL L ρ H ds vs) : ∀ n : Nat, RelL L ρ H (List.replicate n ds).flatten (List.replicate n vs).flatten
  | 0 => .nil
  | n + 1 => by simpa [List.replicate_succ] using h.append (h.flat n)
end

/-! ### keys -/
def keyS : D → Option Key
  | .int i => some (.inl i)
  | .str s => some (.inr (toS s))
  | _ => none
def keysS : List D → Option (List Key)
  | [] => some []
  | x :: r => match keyS x, keysS r with
    | some k, some ks => some (k :: ks)
    | _, _ => none
def keyT : D → Option (List Key)
  | .tup l => keysS l
  | _ => none
/-- a dict's pairs -/
inductive RelKv {κ : Type} (L : Lk) (ρ : Rho) (H : Hp) (f : D → Option κ) : List (D × D) → List (κ × V) → Prop
  | nil : RelKv L ρ H f [] []
  | cons {k d : D} {κ' : κ} {v : V} {l : List (D × D)} {r : List (κ × V)} : f k = some κ' → RelD L ρ H d v → RelKv L ρ H f l r → RelKv L ρ H f ((k, d) :: l) ((κ', v) :: r)
def RelDc (L : Lk) (ρ : Rho) (H : Hp) (l : List (D × D)) : HO → Prop
  | .dK kvs => RelKv L ρ H keyS l kvs
  | .dT kvs => RelKv L ρ H keyT l kvs
  | _ => False
theorem RelKv.mono0 {κ : Type} {L : Lk} {ρ ρ' : Rho} {H H' : Hp} {f : D → Option κ} (e : Le0 ρ H ρ' H') : ∀ {l : List (D × D)} {r : List (κ × V)}, RelKv L ρ H f l r → RelKv L ρ' H' f l r
  | _, _, .nil => .nil
  | _, _, .cons h h' t => .cons h (h'.mono0 e) (t.mono0 e)
theorem RelKv.mono {κ : Type} {L : Lk} {ρ ρ' : Rho} {H H' : Hp} {f : D → Option κ} (e : Le ρ H ρ' H') {l : List (D × D)} {r : List (κ × V)} (t : RelKv L ρ H f l r) : RelKv L ρ' H' f l r := t.mono0 e.toLe0
theorem RelKv.length {κ : Type} {L : Lk} {ρ : Rho} {H : Hp} {f : D → Option κ} : ∀ {l : List (D × D)} {r : List (κ × V)}, RelKv L ρ H f l r → r.length = l.length
  | _, _, .nil => rfl
  | _, _, .cons _ _ t => congrArg (· + 1) t.length
theorem RelDc.mono0 {L : Lk} {ρ ρ' : Rho} {H H' : Hp} (e : Le0 ρ H ρ' H') {l : List (D × D)} {u : HO} (h : RelDc L ρ H l u) : RelDc L ρ' H' l u := by
  cases u <;> first | exact RelKv.mono0 e h | exact h.elim
theorem RelDc.mono {L : Lk} {ρ ρ' : Rho} {H H' : Hp} (e : Le ρ H ρ' H') {l : List (D × D)} {u : HO} (h : RelDc L ρ H l u) : RelDc L ρ' H' l u := h.mono0 e.toLe0

/-! ### an instance's fields -/
def RelF (L : Lk) (ρ : Rho) (H : Hp) (fs : List (Nat × D)) (gs : List (Str × V)) : Prop :=
  (∀ k d, lookN k fs = some d → ∃ v, gs.lookup (L.nm k) = some v ∧ RelD L ρ H d v) ∧ (∀ x v, gs.lookup x = some v → ∃ k d, x = L.nm k ∧ lookN k fs = some d) ∧ gs.length ≤ fs.length
def RelOb (L : Lk) (ρ : Rho) (H : Hp) (p : Addr) : Ob → Prop
  | .lst l => ∃ vs, H p = some (.lst vs) ∧ RelL L ρ H l vs
  | .fro l => ∃ vs, Rd H p (.lst vs) ∧ RelL L ρ H l vs
  | .dct lk l => ∃ u, RelDc L ρ H l u ∧ (match lk with
    | 0 => H p = some u
    | _ + 1 => ∃ o, H p = some (.frz o u))
  | .set _ => False
  | .ins c fs => (∃ dx gs, H p = some (.ins (L.cA c) dx gs) ∧ RelF L ρ H fs gs) ∧ (∀ k d, lookN k fs = some d → methOf L.T c k = none) ∧ methOf L.T c nInit ≠ none
structure Sim (L : Lk) (ρ : Rho) (h : Hv) (H : Hp) : Prop where
  ob : ∀ a o, h.get a = some o → ∃ p, ρ a = some p ∧ RelOb L ρ H p o
  inj : ∀ a b p, ρ a = some p → ρ b = some p → a = b
  lt : ∀ a p, ρ a = some p → a < h.n
  tr : ∀ a p, ρ a = some p → H p ≠ none ∧ (∀ x, H p ≠ some (.own x)) ∧ (∀ xs, H p ≠ some (.tup xs)) ∧ ∀ xs, H p ≠ some (.xd xs)
theorem RelF.mono0 {L : Lk} {ρ ρ' : Rho} {H H' : Hp} (e : Le0 ρ H ρ' H') {fs : List (Nat × D)} {gs : List (Str × V)} (h : RelF L ρ H fs gs) : RelF L ρ' H' fs gs :=
  ⟨fun k d q => let ⟨v, q1, q2⟩ := h.1 k d q; ⟨v, q1, q2.mono0 e⟩, h.2⟩
theorem RelF.mono {L : Lk} {ρ ρ' : Rho} {H H' : Hp} (e : Le ρ H ρ' H') {fs : List (Nat × D)} {gs : List (Str × V)} (h : RelF L ρ H fs gs) : RelF L ρ' H' fs gs := h.mono0 e.toLe0
theorem RelOb.keep0 {L : Lk} {ρ ρ' : Rho} {H H' : Hp} (e : Le0 ρ H ρ' H') {p : Addr} (hp : H' p = H p) : ∀ {o : Ob}, RelOb L ρ H p o → RelOb L ρ' H' p o
  | .lst _, ⟨vs, q, r⟩ => ⟨vs, hp.trans q, r.mono0 e⟩
  | .fro _, ⟨vs, q, r⟩ => ⟨vs, by
      rcases q with q | ⟨o, q⟩
      · exact .inl (hp.trans q)
      · exact .inr ⟨o, hp.trans q⟩, r.mono0 e⟩
  | .dct lk _, ⟨u, q, r⟩ => ⟨u, q.mono0 e, by
      cases lk with
      | zero => exact hp.trans r
      | succ _ =>
        obtain ⟨o, r⟩ := r
        exact ⟨o, hp.trans r⟩⟩
  | .set _, q => q.elim
  | .ins _ _, ⟨⟨dx, gs, q, r⟩, z⟩ => ⟨⟨dx, gs, hp.trans q, r.mono0 e⟩, z⟩
theorem RelOb.keep {L : Lk} {ρ ρ' : Rho} {H H' : Hp} (e : Le ρ H ρ' H') {p : Addr} (hp : H' p = H p) {o : Ob} (r : RelOb L ρ H p o) : RelOb L ρ' H' p o := r.keep0 e.toLe0 hp
section
variable {L : Lk} {ρ ρ' : Rho} {h : Hv} {H H' : Hp} {p : Addr}
/-- a place that is new -/
theorem Le.fresh {o : HO} (hp : H p = none) : Le ρ H ρ (upd H p o) :=
  ⟨⟨⟨fun _ _ q => q, fun a xs q => by rw [upd_ne (ne_of_none q hp)]; exact q, fun a xs q => by rw [upd_ne (ne_of_none q hp)]; exact q⟩, fun a x u q => by rw [upd_ne (ne_of_none q hp)]; exact q⟩, fun b x q n => ⟨by rw [upd_ne (ne_of_none q hp)]; exact q, n⟩⟩
theorem Sim.ne (S : Sim L ρ h H) {a : Nat} {q : Addr} (e : ρ a = some q) (hp : H p = none) : q ≠ p := fun z => (S.tr a q e).1 (z ▸ hp)
/-- a new thing that the evaluator does not know by an address (a tuple) -/
theorem Sim.fresh (S : Sim L ρ h H) {o : HO} (hp : H p = none) : Sim L ρ h (upd H p o) :=
  ⟨fun a ob e => let ⟨q, e1, r⟩ := S.ob a ob e; ⟨q, e1, r.keep (Le.fresh hp) (upd_ne (S.ne e1 hp))⟩, S.inj, S.lt, fun a q e => by rw [upd_ne (S.ne e hp)]; exact S.tr a q e⟩
/-- what stands at a tracked place -/
def Good : HO → Prop
  | .own _ => False
  | .tup _ => False
  | .xd _ => False
  | _ => True
theorem Good.tr {o : HO} (g : Good o) : some o ≠ none ∧ (∀ x, some o ≠ some (.own x)) ∧ (∀ xs, some o ≠ some (.tup xs)) ∧ ∀ xs, some o ≠ some (.xd xs) := by
  refine ⟨by simp, fun x e => ?_, fun x e => ?_, fun x e => ?_⟩ <;> (cases e; exact g)
def ext (ρ : Rho) (a : Nat) (p : Addr) : Rho := fun b => if b = a then some p else ρ b
theorem ext_same {a : Nat} : ext ρ a p a = some p := if_pos rfl
theorem ext_ne {a b : Nat} (e : b ≠ a) : ext ρ a p b = ρ b := if_neg e
theorem Sim.le_ext (S : Sim L ρ h H) {o : HO} (hp : H p = none) : Le ρ H (ext ρ h.n p) (upd H p o) :=
  ⟨⟨⟨fun a q e => by rw [ext_ne (Nat.ne_of_lt (S.lt a q e))]; exact e, (Le.fresh (ρ := ρ) hp).tup, (Le.fresh (ρ := ρ) hp).xd⟩, (Le.fresh (ρ := ρ) hp).fz⟩, fun b x q n => ⟨by rw [upd_ne (ne_of_none q hp)]; exact q, fun a e => by
    by_cases z : a = h.n
    · rw [z, ext_same] at e; cases e; rw [hp] at q; cases q
    · rw [ext_ne z] at e; exact n a e⟩⟩
/-- a new object -/
theorem Sim.push (S : Sim L ρ h H) {o : HO} {ob : Ob} (hp : H p = none) (g : Good o) (r : RelOb L (ext ρ h.n p) (upd H p o) p ob) : Sim L (ext ρ h.n p) (h.push ob) (upd H p o) := by
  refine ⟨fun a ob' e => ?_, fun a b q ea eb => ?_, fun a q e => ?_, fun a q e => ?_⟩
  · rw [Hv.get_push] at e
    by_cases ha : a = h.n
    · rw [if_pos ha] at e; cases e; subst ha
      exact ⟨p, ext_same, r⟩
    · rw [if_neg ha] at e
      obtain ⟨q, e1, r'⟩ := S.ob a ob' e
      exact ⟨q, by rw [ext_ne ha]; exact e1, r'.keep (S.le_ext hp) (upd_ne (S.ne e1 hp))⟩
  · by_cases ha : a = h.n <;> by_cases hb : b = h.n
    · rw [ha, hb]
    · subst ha; rw [ext_same] at ea; cases ea; rw [ext_ne hb] at eb; exact absurd rfl (S.ne eb hp)
    · subst hb; rw [ext_same] at eb; cases eb; rw [ext_ne ha] at ea; exact absurd rfl (S.ne ea hp)
    · rw [ext_ne ha] at ea; rw [ext_ne hb] at eb; exact S.inj a b q ea eb
  · show a < h.n + 1
    by_cases ha : a = h.n
    · omega
    · rw [ext_ne ha] at e; have := S.lt a q e; omega
  · by_cases ha : a = h.n
    · subst ha; rw [ext_same] at e; cases e; rw [upd_same]; exact g.tr
    · rw [ext_ne ha] at e; rw [upd_ne (S.ne e hp)]; exact S.tr a q e
/-- an object is written -/
def NoFz : Option HO → Prop
  | some (.frz _ _) => False
  | _ => True
theorem Sim.le0_put (S : Sim L ρ h H) {a : Nat} {o : HO} (ea : ρ a = some p) : Le0 ρ H ρ (upd H p o) :=
  ⟨fun _ _ q => q, fun b xs q => by
    have n : b ≠ p := fun z => by subst z; exact (S.tr a b ea).2.2.1 xs q
    rw [upd_ne n]; exact q, fun b xs q => by
    have n : b ≠ p := fun z => by subst z; exact (S.tr a b ea).2.2.2 xs q
    rw [upd_ne n]; exact q⟩
theorem Sim.le_put (S : Sim L ρ h H) {a : Nat} {o : HO} (ea : ρ a = some p) (nf : NoFz (H p)) : Le ρ H ρ (upd H p o) :=
  ⟨⟨S.le0_put ea, fun b x u q => by
    have n : b ≠ p := fun z => by subst z; rw [q] at nf; exact nf
    rw [upd_ne n]; exact q⟩, fun b x q n => ⟨by
      have nb : b ≠ p := fun z => n a (by rw [z]; exact ea)
      rw [upd_ne nb]; exact q, n⟩⟩
theorem NoFz.of {w : HO} (e : H p = some w) (n : NoFz (some w) := by trivial) : NoFz (H p) := by rw [e]; exact n
theorem Sim.put (S : Sim L ρ h H) {a : Nat} {o : HO} {ob : Ob} (ea : ρ a = some p) (g : Good o) (r : RelOb L ρ (upd H p o) p ob) : Sim L ρ (h.put a ob) (upd H p o) := by
  refine ⟨fun b ob' e => ?_, S.inj, S.lt, fun b q e => ?_⟩
  · rw [Hv.get_put] at e
    by_cases hb : b = a
    · rw [if_pos hb] at e; cases e; subst hb
      exact ⟨p, ea, r⟩
    · rw [if_neg hb] at e
      obtain ⟨q, e1, r'⟩ := S.ob b ob' e
      have n : q ≠ p := fun z => hb (S.inj b a p (z ▸ e1) ea)
      exact ⟨q, e1, r'.keep0 (S.le0_put ea) (upd_ne n)⟩
  · by_cases hq : q = p
    · subst hq; rw [upd_same]; exact g.tr
    · rw [upd_ne hq]; exact S.tr b q e
/-- a place of ours, not tracked, is written -/
theorem Sim.upd_un (S : Sim L ρ h H) {D : Addr} {o o' : HO} (hD : H D = some o) (g : Good o) (un : ∀ a, ρ a ≠ some D) : Sim L ρ h (upd H D o') := by
  have le : Le0 ρ H ρ (upd H D o') := ⟨fun _ _ q => q, fun b xs q => by
    have n : b ≠ D := fun z => by subst z; rw [hD] at q; cases q; exact g
    rw [upd_ne n]; exact q, fun b xs q => by
    have n : b ≠ D := fun z => by subst z; rw [hD] at q; cases q; exact g
    rw [upd_ne n]; exact q⟩
  exact ⟨fun a ob e => let ⟨q, e1, r⟩ := S.ob a ob e; ⟨q, e1, r.keep0 le (upd_ne fun z => un a (by rw [← z]; exact e1))⟩, S.inj, S.lt, fun a q e => by
    have nq : q ≠ D := fun z => un a (by rw [← z]; exact e)
    rw [upd_ne nq]; exact S.tr a q e⟩
theorem Le1.trans {ρ ρ1 ρ2 : Rho} {H H1 H2 : Hp} (a : Le1 ρ H ρ1 H1) (b : Le1 ρ1 H1 ρ2 H2) : Le1 ρ H ρ2 H2 :=
  ⟨⟨fun x p h => b.rho x p (a.rho x p h), fun p xs h => b.tup p xs (a.tup p xs h), fun p xs h => b.xd p xs (a.xd p xs h)⟩, fun p o u h => b.fz p o u (a.fz p o u h)⟩
theorem Le1.refl {ρ : Rho} {H : Hp} : Le1 ρ H ρ H := Le.refl.toLe1
theorem Le1.upd_un {D : Addr} {xs ys : List V} (hD : H D = some (.lst xs)) : Le1 ρ H ρ (upd H D (.lst ys)) :=
  ⟨⟨fun _ _ q => q, fun b xs q => by rw [upd_ne (ne_of q hD (fun z => nomatch z))]; exact q, fun b xs q => by rw [upd_ne (ne_of q hD (fun z => nomatch z))]; exact q⟩, fun b x u q => by rw [upd_ne (ne_of q hD (fun z => nomatch z))]; exact q⟩
theorem Le0.upd_un {D : Addr} {o o' : HO} (hD : H D = some o) (g : Good o) : Le0 ρ H ρ (upd H D o') := ⟨fun _ _ q => q, fun b xs q => by
    have n : b ≠ D := fun z => by subst z; rw [hD] at q; cases q; exact g
    rw [upd_ne n]; exact q, fun b xs q => by
    have n : b ≠ D := fun z => by subst z; rw [hD] at q; cases q; exact g
    rw [upd_ne n]; exact q⟩
/-- .. seen from a time ahead of it -/
theorem Le.upd_new {ρ1 : Rho} {H1 : Hp} (le : Le ρ1 H1 ρ H) {D : Addr} {o' : HO} (hD : H1 D = none) : Le ρ1 H1 ρ (upd H D o') :=
  ⟨⟨⟨le.rho, fun b xs q => by rw [upd_ne (ne_of_none q hD)]; exact le.tup b xs q, fun b xs q => by rw [upd_ne (ne_of_none q hD)]; exact le.xd b xs q⟩, fun b x u q => by rw [upd_ne (ne_of_none q hD)]; exact le.fz b x u q⟩,
    fun b x q n => let ⟨h1, n1⟩ := le.un b x q n; ⟨by rw [upd_ne (ne_of_none q hD)]; exact h1, n1⟩⟩
/-- .. it is tracked from now on -/
theorem Sim.adopt (S : Sim L ρ h H) {D : Addr} {o : HO} {ob : Ob} (hD : H D = some o) (g : Good o) (un : ∀ a, ρ a ≠ some D) (r : RelOb L (ext ρ h.n D) H D ob) : Sim L (ext ρ h.n D) (h.push ob) H := by
  have le : Le0 ρ H (ext ρ h.n D) H := ⟨fun a q e => by rw [ext_ne (Nat.ne_of_lt (S.lt a q e))]; exact e, fun _ _ q => q, fun _ _ q => q⟩
  refine ⟨fun a ob' e => ?_, fun a b q ea eb => ?_, fun a q e => ?_, fun a q e => ?_⟩
  · rw [Hv.get_push] at e
    by_cases ha : a = h.n
    · rw [if_pos ha] at e; cases e; subst ha
      exact ⟨D, ext_same, r⟩
    · rw [if_neg ha] at e
      obtain ⟨q, e1, r'⟩ := S.ob a ob' e
      exact ⟨q, by rw [ext_ne ha]; exact e1, r'.keep0 le rfl⟩
  · by_cases ha : a = h.n <;> by_cases hb : b = h.n
    · rw [ha, hb]
    · subst ha; rw [ext_same] at ea; cases ea; rw [ext_ne hb] at eb; exact absurd eb (un b)
    · subst hb; rw [ext_same] at eb; cases eb; rw [ext_ne ha] at ea; exact absurd ea (un a)
    · rw [ext_ne ha] at ea; rw [ext_ne hb] at eb; exact S.inj a b q ea eb
  · show a < h.n + 1
    by_cases ha : a = h.n
    · omega
    · rw [ext_ne ha] at e; have := S.lt a q e; omega
  · by_cases ha : a = h.n
    · subst ha; rw [ext_same] at e; cases e; rw [hD]; exact g.tr
    · rw [ext_ne ha] at e; exact S.tr a q e
theorem Le.adopt {ρ1 : Rho} {H1 : Hp} (le : Le ρ1 H1 ρ H) (S : Sim L ρ h H) {D : Addr} (hD : H1 D = none) : Le ρ1 H1 (ext ρ h.n D) H :=
  ⟨⟨⟨fun a q e => by rw [ext_ne (Nat.ne_of_lt (S.lt a q (le.rho a q e)))]; exact le.rho a q e, le.tup, le.xd⟩, le.fz⟩, fun b x q n => let ⟨h1, n1⟩ := le.un b x q n; ⟨h1, fun a e => by
    by_cases z : a = h.n
    · rw [z, ext_same] at e; cases e; rw [hD] at q; cases q
    · rw [ext_ne z] at e; exact n1 a e⟩⟩
/-- the same put again -/
theorem Sim.same_put {H' : Hp} {a : Nat} {ob : Ob} (S : Sim L ρ (h.put a ob) H') (e : h.get a = some ob) : Sim L ρ h H' :=
  ⟨fun b o q => S.ob b o (by
    rw [Hv.get_put]
    by_cases z : b = a
    · subst z; rw [if_pos rfl, ← e]; exact q
    · rw [if_neg z]; exact q), S.inj, S.lt, S.tr⟩
/-- the object of an address -/
theorem Sim.at (S : Sim L ρ h H) {a : Nat} {o : Ob} (ea : ρ a = some p) (e : h.get a = some o) : RelOb L ρ H p o := by
  obtain ⟨q, e1, r⟩ := S.ob a o e
  rw [ea] at e1; cases e1; exact r
end

/-! ### what a result asks -/
/-- an exception: its own dict -/
def RelX (L : Lk) (ρ : Rho) (H : Hp) (c : Nat) (vs : List D) (d : Option Addr) : Prop :=
  ∃ k, L.T.cl.get c = some k ∧ k.exc = true ∧ k.flds.length = vs.length ∧ ((vs = [] ∧ d = none) ∨ ∃ (dx : Addr) (xs : List V) (gs : List (Str × V)), d = some dx ∧ RelL L ρ H vs xs ∧ H dx = some (.xd gs) ∧ ∀ (i f : Nat) (x : V), k.flds[i]? = some f → xs[i]? = some x → gs.lookup (L.nm f) = some x)
theorem RelX.mono0 {L : Lk} {ρ ρ' : Rho} {H H' : Hp} (e : Le0 ρ H ρ' H') {c : Nat} {vs : List D} {d : Option Addr} : RelX L ρ H c vs d → RelX L ρ' H' c vs d
  | ⟨k, a, b, l, h⟩ => ⟨k, a, b, l, h.imp id fun ⟨dx, xs, gs, p1, p2, p3, p4⟩ => ⟨dx, xs, gs, p1, p2.mono0 e, e.xd _ _ p3, p4⟩⟩
abbrev WK := Value → Option Addr → Hp → Prop
def Post {α β : Type} (L : Lk) (R : Rho → Hp → α → β → Prop) (ρ : Rho) (H : Hp) (r : Res α) (Q : β → Hp → Prop) (W : WK) : Prop := match r with
  | .ok a h => ∀ ρ' b H', Le ρ H ρ' H' → Sim L ρ' h H' → R ρ' H' a b → Q b H'
  | .exc c vs h => ∀ ρ' d H', Le ρ H ρ' H' → Sim L ρ' h H' → RelX L ρ' H' c vs d → W (.ref (L.cA c)) d H'
  | .bad => False
theorem Post.mono {α β : Type} {L : Lk} {R : Rho → Hp → α → β → Prop} {ρ ρ1 : Rho} {H H1 : Hp} {r : Res α} {Q : β → Hp → Prop} {W : WK} (e : Le ρ H ρ1 H1) (h : Post L R ρ H r Q W) : Post L R ρ1 H1 r Q W := by
  cases r with
  | ok a h' => exact fun ρ' b H' e' => h ρ' b H' (e.trans e')
  | exc c vs h' => exact fun ρ' b H' e' => h ρ' b H' (e.trans e')
  | bad => exact h
theorem Post.imp {α β : Type} {L : Lk} {R : Rho → Hp → α → β → Prop} {ρ : Rho} {H : Hp} {r : Res α} {Q Q' : β → Hp → Prop} {W W' : WK} (h : Post L R ρ H r Q W) (hq : ∀ b H, Q b H → Q' b H) (hw : ∀ c d H, W c d H → W' c d H) : Post L R ρ H r Q' W' := by
  cases r with
  | ok a h' => exact fun ρ' b H' e' s q => hq _ _ (h ρ' b H' e' s q)
  | exc c vs h' => exact fun ρ' b H' e' s q => hw _ _ _ (h ρ' b H' e' s q)
  | bad => exact h
/-- one thing behind another one -/
theorem Post.bind {α β γ δ : Type} {L : Lk} {R : Rho → Hp → α → β → Prop} {R' : Rho → Hp → γ → δ → Prop} {ρ : Rho} {H : Hp} {r : Res α} {k : α → Hv → Res γ} {Q : δ → Hp → Prop} {W : WK}
    (h : Post L R' ρ H (r.bind k) Q W) : Post L R ρ H r (fun b H1 => ∃ ρ1 a h1, r = .ok a h1 ∧ Le ρ H ρ1 H1 ∧ Sim L ρ1 h1 H1 ∧ R ρ1 H1 a b ∧ Post L R' ρ1 H1 (k a h1) Q W) W := by
  cases r with
  | ok a h' => exact fun ρ' b H' e s q => ⟨ρ', a, h', rfl, e, s, q, Post.mono e h⟩
  | exc c vs h' => exact h
  | bad => exact h
abbrev PostD (L : Lk) := Post L (α := D) (β := V) (fun ρ H d v => RelD L ρ H d v)
abbrev PostL (L : Lk) := Post L (α := List D) (β := List V) (fun ρ H d v => RelL L ρ H d v)
abbrev PostB (L : Lk) := Post L (α := Bool) (β := Bool) (fun _ _ a b => a = b)
abbrev PostU (L : Lk) := Post L (α := Unit) (β := Unit) (fun _ _ _ _ => True)

/-! ### environments -/
def RelE (L : Lk) (ρ : Rho) (H : Hp) (env : Env) (σ : St) : Prop := ∀ (i : Nat) (d : D), env[i]? = some (some d) → ∃ v, σ[i]? = some (some v) ∧ RelD L ρ H d v
theorem RelE.mono {L : Lk} {ρ ρ' : Rho} {H H' : Hp} (e : Le ρ H ρ' H') {env : Env} {σ : St} (h : RelE L ρ H env σ) : RelE L ρ' H' env σ := fun i d q => let ⟨v, a, b⟩ := h i d q; ⟨v, a, b.mono e⟩
end TB

/-! TB, the link: readings of meanings, contexts, first forms. -/
namespace TB
open L2 PySem PyProof.Rows PySem.Spec

/-- the world of a link -/
structure Wl where
  P : Program
  w : World
  mg : Str → Option Value
  base : Heap
  L : Lk
/-- a place where code runs: W, what is wished of what is raised -/
structure Gd (Z : Wl) (k : Nat) (X : Cx) (W : WX) : Prop where
  prog : X.prog = Z.P
  w : X.w = Z.w
  K : X.K = Z.L.K
  mg : X.mg = Z.mg
  base : X.base = Z.base
  calm : X.calm = true
  nd : X.N.Nodup
  tk : Takes X W
  room : Room k X.A

abbrev Wat (W : WX) (σ : St) : WK := fun c d H => W c d σ H
def RdE (Z : Wl) (m : ME) (W : WX) : TE := fun σ H Q => ∃ ρ env h, Sim Z.L ρ h H ∧ RelE Z.L ρ H env σ ∧ PostD Z.L ρ H (m env h) Q (Wat W σ)
def RdT (Z : Wl) (m : MT) (W : WX) : TT := fun σ H Q => ∃ ρ env h, Sim Z.L ρ h H ∧ RelE Z.L ρ H env σ ∧ PostB Z.L ρ H (m env h) Q (Wat W σ)
def RdL (Z : Wl) (m : ML) (W : WX) : TA := fun σ H Q => ∃ ρ env h, Sim Z.L ρ h H ∧ RelE Z.L ρ H env σ ∧ PostL Z.L ρ H (m env h) Q (Wat W σ)

section
variable {Z : Wl} {k : Nat} {X : Cx} {W : WX} {pins : List (Addr × Obj)} {σ : St} {H : Hp} {s : Shared} {ρ : Rho} {env : Env} {h : Hv}

/-- run an expression, go on with its value -/
theorem PE.go {e : Expr} {m : ME} (he : PE X e (RdE Z m W)) (I : Inv X pins σ H s) (S : Sim Z.L ρ h H) (E : RelE Z.L ρ H env σ)
    {α β : Type} {R : Rho → Hp → α → β → Prop} {c : D → Hv → Res α} {Q : β → Hp → Prop}
    (q : Post Z.L R ρ H ((m env h).bind c) Q (Wat W σ)) {QQ : Value → Shared → Prop}
    (next : ∀ u s1 x H1 ρ1 v h1, Inv X pins σ H1 s1 → RelV x u → Le ρ H ρ1 H1 → Sim Z.L ρ1 h1 H1 → RelE Z.L ρ1 H1 env σ → RelD Z.L ρ1 H1 v x → Post Z.L R ρ1 H1 (c v h1) Q (Wat W σ) → QQ u s1) :
    wpAny (model X.prog X.w) X.A (eval e X.env) QQ X.xe s :=
  thn (he.run pins s σ H _ I ⟨ρ, env, h, S, E, Post.bind q⟩) fun u s1 ⟨x, H1, I1, rx, ρ1, v, h1, _, le, S1, r, q1⟩ => next u s1 x H1 ρ1 v h1 I1 rx le S1 (E.mono le) r q1
theorem PT.go {e : Expr} {m : MT} (he : PT X e (RdT Z m W)) (I : Inv X pins σ H s) (S : Sim Z.L ρ h H) (E : RelE Z.L ρ H env σ)
    {α β : Type} {R : Rho → Hp → α → β → Prop} {c : Bool → Hv → Res α} {Q : β → Hp → Prop}
    (q : Post Z.L R ρ H ((m env h).bind c) Q (Wat W σ)) {QQ : Bool → Shared → Prop}
    (next : ∀ b s1 H1 ρ1 h1, Inv X pins σ H1 s1 → Le ρ H ρ1 H1 → Sim Z.L ρ1 h1 H1 → RelE Z.L ρ1 H1 env σ → Post Z.L R ρ1 H1 (c b h1) Q (Wat W σ) → QQ b s1) :
    wpAny (model X.prog X.w) X.A (isTrue e X.env (eval e X.env)) QQ X.xe s :=
  thn (he.run pins s σ H _ I ⟨ρ, env, h, S, E, Post.bind (R := fun _ _ a b => a = b) q⟩) fun b s1 ⟨H1, I1, ρ1, v, h1, _, le, S1, r, q1⟩ => by
    cases r
    exact next b s1 H1 ρ1 h1 I1 le S1 (E.mono le) q1
theorem PA.go {es : List Expr} {m : ML} (he : PA X es (RdL Z m W)) (pos : Pos) (I : Inv X pins σ H s) (S : Sim Z.L ρ h H) (E : RelE Z.L ρ H env σ)
    {α β : Type} {R : Rho → Hp → α → β → Prop} {c : List D → Hv → Res α} {Q : β → Hp → Prop}
    (q : Post Z.L R ρ H ((m env h).bind c) Q (Wat W σ)) {QQ : List Value → Shared → Prop}
    (next : ∀ us s1 xs H1 ρ1 vs h1, Inv X pins σ H1 s1 → Vals xs us → Le ρ H ρ1 H1 → Sim Z.L ρ1 h1 H1 → RelE Z.L ρ1 H1 env σ → RelL Z.L ρ1 H1 vs xs → Post Z.L R ρ1 H1 (c vs h1) Q (Wat W σ) → QQ us s1) :
    wpAny (model X.prog X.w) X.A (spliced (backTo pos (starEach es X.env))) QQ X.xe s :=
  thn (he.run pos pins s σ H _ I ⟨ρ, env, h, S, E, Post.bind q⟩) fun u s1 ⟨x, H1, I1, rx, ρ1, v, h1, _, le, S1, r, q1⟩ => next u s1 x H1 ρ1 v h1 I1 rx le S1 (E.mono le) r q1

/-- the value at hand -/
theorem done {v : D} {x : V} {Q : VK} {Wk : WK} (q : PostD Z.L ρ H (.ok v h) Q Wk) (S : Sim Z.L ρ h H) (r : RelD Z.L ρ H v x) : Q x H := q ρ x H Le.refl S r
theorem ep {v : D} {x : V} {u : Value} {Q : VK} {Wk : WK} (I : Inv X pins σ H s) (rx : RelV x u) (S : Sim Z.L ρ h H) (r : RelD Z.L ρ H v x) (q : PostD Z.L ρ H (.ok v h) Q Wk) : EP X pins σ Q u s := ⟨x, H, I, rx, done q S r⟩
/-- .. behind a change -/
theorem ep' {ρ' : Rho} {H' : Hp} {h' : Hv} {v : D} {x : V} {u : Value} {Q : VK} {Wk : WK} {s' : Shared} (I : Inv X pins σ H' s') (rx : RelV x u) (le : Le ρ H ρ' H') (S : Sim Z.L ρ' h' H') (r : RelD Z.L ρ' H' v x) (q : PostD Z.L ρ H (.ok v h') Q Wk) : EP X pins σ Q u s' :=
  ⟨x, H', I, rx, q ρ' x H' le S r⟩

/-! ### names, constants -/
theorem re_var (G : Gd Z k X W) {i : Nat} {x : Str} {pos : Pos} (hN : X.N[i]? = some x) (hv : Vis X.env.scope x) (hd : (x == ("__debug__" : Str)) = false) (hcd : (x == ("__classdict__" : Str)) = false) : PE X (.Name x pos) (RdE Z (mVar i) W) := by
  refine ⟨fun pins s σ H Q I ⟨ρ, env, h, S, E, q⟩ => ?_⟩
  unfold mVar at q
  cases e : env[i]? with
  | none => rw [e] at q; exact q.elim
  | some o =>
    cases o with
    | none => rw [e] at q; exact q.elim
    | some d =>
      rw [e] at q
      obtain ⟨v, ev, r⟩ := E i d e
      exact (pe_var hN hv hd hcd).run pins s σ H Q I ⟨v, ev, done q S r⟩
theorem re_cst {v : D} {e : Expr} {x : V} (hp : PE X e (tC x)) (r : ∀ ρ H, RelD Z.L ρ H v x) : PE X e (RdE Z (mCst v) W) :=
  ⟨fun pins s σ H Q I ⟨ρ, env, h, S, E, q⟩ => hp.run pins s σ H Q I (done q S (r ρ H))⟩

/-! ### operators -/
/-- an operation on two values that stand: what it gives -/
def OpOk (Z : Wl) (X : Cx) (W : WX) (f : Value → Value → Sem Value) (c : D → D → Hv → Res D) : Prop :=
  ∀ (pins : List (Addr × Obj)) (s : Shared) (σ : St) (H : Hp) (ρ : Rho) (h : Hv) (a b : D) (x y : V) (v u : Value) (Q : VK), Inv X pins σ H s → Sim Z.L ρ h H → RelV x v → RelV y u → RelD Z.L ρ H a x → RelD Z.L ρ H b y →
    PostD Z.L ρ H (c a b h) Q (Wat W σ) → wpAny (model X.prog X.w) X.A (f v u) (EP X pins σ Q) X.xe s
def UnOk (Z : Wl) (X : Cx) (W : WX) (f : Value → Sem Value) (c : D → Hv → Res D) : Prop :=
  ∀ (pins : List (Addr × Obj)) (s : Shared) (σ : St) (H : Hp) (ρ : Rho) (h : Hv) (a : D) (x : V) (v : Value) (Q : VK), Inv X pins σ H s → Sim Z.L ρ h H → RelV x v → RelD Z.L ρ H a x →
    PostD Z.L ρ H (c a h) Q (Wat W σ) → wpAny (model X.prog X.w) X.A (f v) (EP X pins σ Q) X.xe s
def TrOk (Z : Wl) (X : Cx) (W : WX) (f : Value → Sem Bool) (c : D → Hv → Res Bool) : Prop :=
  ∀ (pins : List (Addr × Obj)) (s : Shared) (σ : St) (H : Hp) (ρ : Rho) (h : Hv) (a : D) (x : V) (v : Value) (Q : Bool → Hp → Prop), Inv X pins σ H s → Sim Z.L ρ h H → RelV x v → RelD Z.L ρ H a x →
    PostB Z.L ρ H (c a h) Q (Wat W σ) → wpAny (model X.prog X.w) X.A (f v) (TP X pins σ Q) X.xe s
theorem re_bin {o : Op} {op : Operator} {a b : Expr} {ma mb : ME} {pos : Pos} (ho : OpOk Z X W (binaryOp op) (binop o)) (ha : PE X a (RdE Z ma W)) (hb : PE X b (RdE Z mb W)) :
    PE X (.BinOp a op b pos) (RdE Z (mBin o ma mb) W) := by
  refine ⟨fun pins s σ H Q I ⟨ρ, env, h, S, E, q⟩ => ?_⟩
  refine wpAny_BinOp (PE.go ha I S E q fun u s1 x H1 ρ1 v h1 I1 rx le S1 E1 r q1 => ?_)
  refine PE.go hb I1 S1 E1 q1 fun u2 s2 y H2 ρ2 v2 h2 I2 ry le2 S2 E2 r2 q2 => ?_
  exact ho pins s2 σ H2 ρ2 h2 v v2 x y u u2 Q I2 S2 rx ry (r.mono le2) r2 q2

/-! ### lists of expressions -/
def noStar : Expr → Bool
  | .Starred _ _ => false
  | _ => true
theorem starEach_cons {e : Expr} {es : List Expr} {env : PySem.Env} (h : noStar e = true) : starEach (e :: es) env = (false, eval e env) :: starEach es env := by
  cases e <;> first | rfl | cases h
theorem ra_nil : PA X [] (RdL Z mNil W) := ⟨fun pos pins s σ H Q I ⟨ρ, env, h, S, E, q⟩ => pa_nil.run pos pins s σ H Q I (q ρ [] H Le.refl S .nil)⟩
theorem ra_cons {e : Expr} {es : List Expr} {m : ME} {ms : ML} (he : PE X e (RdE Z m W)) (hs : PA X es (RdL Z ms W)) (hn : noStar e = true) : PA X (e :: es) (RdL Z (mCons m ms) W) := by
  refine ⟨fun pos pins s σ H Q I ⟨ρ, env, h, S, E, q⟩ => ?_⟩
  rw [starEach_cons hn]
  skip; show wpAny _ _ (spliced ((false, eval e X.env) :: backTo pos (starEach es X.env))) _ _ s
  refine Calls.spliced_cons (PE.go he I S E q fun u s1 x H1 ρ1 v h1 I1 rx le S1 E1 r q1 => ?_)
  refine PA.go hs pos I1 S1 E1 q1 fun us s2 xs H2 ρ2 vs h2 I2 rxs le2 S2 E2 rs q2 => ?_
  exact ⟨x :: xs, H2, I2, .cons rx rxs, q2 ρ2 _ H2 Le.refl S2 (.cons (r.mono le2) rs)⟩

/-- use of a reading: another end -/
theorem RdE.to {m : ME} {R : VK} (S : Sim Z.L ρ h H) (E : RelE Z.L ρ H env σ)
    {α β : Type} {R' : Rho → Hp → α → β → Prop} {c : D → Hv → Res α} {Q : β → Hp → Prop} (q : Post Z.L R' ρ H ((m env h).bind c) Q (Wat W σ))
    (next : ∀ x H1 ρ1 v h1, Le ρ H ρ1 H1 → Sim Z.L ρ1 h1 H1 → RelE Z.L ρ1 H1 env σ → RelD Z.L ρ1 H1 v x → Post Z.L R' ρ1 H1 (c v h1) Q (Wat W σ) → R x H1) : RdE Z m W σ H R :=
  ⟨ρ, env, h, S, E, (Post.bind q).imp (fun x H1 ⟨ρ1, v, h1, _, le, S1, r, q1⟩ => next x H1 ρ1 v h1 le S1 (E.mono le) r q1) fun _ _ _ z => z⟩
theorem RdL.to {m : ML} {R : List V → Hp → Prop} (S : Sim Z.L ρ h H) (E : RelE Z.L ρ H env σ)
    {α β : Type} {R' : Rho → Hp → α → β → Prop} {c : List D → Hv → Res α} {Q : β → Hp → Prop} (q : Post Z.L R' ρ H ((m env h).bind c) Q (Wat W σ))
    (next : ∀ xs H1 ρ1 vs h1, Le ρ H ρ1 H1 → Sim Z.L ρ1 h1 H1 → RelE Z.L ρ1 H1 env σ → RelL Z.L ρ1 H1 vs xs → Post Z.L R' ρ1 H1 (c vs h1) Q (Wat W σ) → R xs H1) : RdL Z m W σ H R :=
  ⟨ρ, env, h, S, E, (Post.bind q).imp (fun x H1 ⟨ρ1, v, h1, _, le, S1, r, q1⟩ => next x H1 ρ1 v h1 le S1 (E.mono le) r q1) fun _ _ _ z => z⟩
theorem RdT.to {m : MT} {R : Bool → Hp → Prop} (S : Sim Z.L ρ h H) (E : RelE Z.L ρ H env σ)
    {α β : Type} {R' : Rho → Hp → α → β → Prop} {c : Bool → Hv → Res α} {Q : β → Hp → Prop} (q : Post Z.L R' ρ H ((m env h).bind c) Q (Wat W σ))
    (next : ∀ b H1 ρ1 h1, Le ρ H ρ1 H1 → Sim Z.L ρ1 h1 H1 → RelE Z.L ρ1 H1 env σ → Post Z.L R' ρ1 H1 (c b h1) Q (Wat W σ) → R b H1) : RdT Z m W σ H R :=
  ⟨ρ, env, h, S, E, (Post.bind (R := fun _ _ a b => a = b) q).imp (fun x H1 ⟨ρ1, v, h1, _, le, S1, r, q1⟩ => by cases r; exact next x H1 ρ1 h1 le S1 (E.mono le) q1) fun _ _ _ z => z⟩
/-- a value that needs no heap, a tuple that is laid, a list that is laid -/
theorem post_bif {α β : Type} {R : Rho → Hp → α → β → Prop} {c : Bool} {r : Res α} {Q : β → Hp → Prop} {Wk : WK} (q : Post Z.L R ρ H (bif c then r else .bad) Q Wk) : c = true ∧ Post Z.L R ρ H r Q Wk := by
  cases c with
  | true => exact ⟨rfl, q⟩
  | false => exact q.elim
theorem line_eq : line = sizeLine := by rw [sizeLine_eq]; rfl
theorem ble_line {n : Nat} (h : Nat.ble n line = true) : n ≤ sizeLine := line_eq ▸ Nat.le_of_ble_eq_true h
theorem post_tup {l : List D} {xs : List V} {Q : VK} {Wk : WK} (q : PostD Z.L ρ H (.ok (.tup l) h) Q Wk) (S : Sim Z.L ρ h H) (r : RelL Z.L ρ H l xs) {p : Addr} (hp : H p = none) : Q (.ref p) (upd H p (.tup xs)) :=
  q ρ _ _ (Le.fresh hp) (S.fresh hp) (.tup upd_same (r.mono (Le.fresh hp)))
theorem post_new {l : List D} {xs : List V} {Q : VK} {Wk : WK} (q : PostD Z.L ρ H (new (.lst l) h) Q Wk) (S : Sim Z.L ρ h H) (r : RelL Z.L ρ H l xs) {p : Addr} (hp : H p = none) : Q (.ref p) (upd H p (.lst xs)) :=
  q (ext ρ h.n p) _ _ (S.le_ext hp) (S.push hp trivial ⟨xs, upd_same, r.mono (S.le_ext hp)⟩) (.ref ext_same)
theorem post_newL {l : List D} {Q : VK} {Wk : WK} (q : PostD Z.L ρ H (newL l h) Q Wk) : l.length ≤ sizeLine ∧ PostD Z.L ρ H (new (.lst l) h) Q Wk := by
  obtain ⟨a, b⟩ := post_bif q
  exact ⟨ble_line a, b⟩
theorem re_tup {es : List Expr} {m : ML} {x1 : Nat} {pos : Pos} (hs : PA X es (RdL Z m W)) : PE X (.Tuple es x1 pos) (RdE Z (mTup m) W) := by
  refine ⟨fun pins s σ H Q I ⟨ρ, env, h, S, E, q⟩ => (pe_tup hs).run pins s σ H Q I (RdL.to S E q fun xs H1 ρ1 vs h1 le S1 E1 r q1 => ?_)⟩
  obtain ⟨hz, q2⟩ := post_bif q1
  exact ⟨r.length ▸ ble_line hz, fun p hp => post_tup q2 S1 r hp⟩
theorem re_lst {es : List Expr} {m : ML} {pos : Pos} (hs : PA X es (RdL Z m W)) : PE X (.List es pos) (RdE Z (mLst m) W) := by
  refine ⟨fun pins s σ H Q I ⟨ρ, env, h, S, E, q⟩ => (pe_lst hs).run pins s σ H Q I (RdL.to S E q fun xs H1 ρ1 vs h1 le S1 E1 r q1 => ?_)⟩
  obtain ⟨hz, q2⟩ := post_newL q1
  exact ⟨r.length ▸ hz, fun p hp => post_new q2 S1 r hp⟩

/-! ### truth -/
theorem rt_tru {T : Tab} {call : Call} {e : Expr} {m : ME} (ht : TrOk Z X W PySem.truthy (TB.truthy T call)) (he : PE X e (RdE Z m W)) (hw : ∀ whole, isTrue e X.env whole = (do let v ← whole; standAt e.pos; holding [v] (PySem.truthy v))) : PT X e (RdT Z (mTru T call m) W) := by
  refine ⟨fun pins s σ H Q I ⟨ρ, env, h, S, E, q⟩ => isTrue_plain (PE.go he I S E q fun u s1 x H1 ρ1 v h1 I1 rx le S1 E1 r q1 => ?_) (hw _)⟩
  exact ht pins s1 σ H1 ρ1 h1 v x u Q I1 S1 rx r q1

theorem bind_assoc {α β γ δ : Type} {R : Rho → Hp → γ → δ → Prop} {r : Res α} {f : α → Hv → Res β} {g : β → Hv → Res γ} {Q : δ → Hp → Prop} {Wk : WK} (q : Post Z.L R ρ H ((r.bind f).bind g) Q Wk) : Post Z.L R ρ H (r.bind fun a h => (f a h).bind g) Q Wk := by
  cases r <;> exact q
/-! ### and, or, not, if -/
section
variable {T : Tab} {call : Call} {a b c : Expr} {ma mb mc : ME} {ta tb tc : MT} {pos : Pos} {rest : List Expr}
theorem re_one {op : BoolOp} (ha : PE X a (RdE Z ma W)) : PE X (.BoolOp op [a] pos) (RdE Z ma W) := pe_one ha
theorem re_and (ht : TrOk Z X W PySem.truthy (TB.truthy T call)) (ha : PE X a (RdE Z ma W)) (hb : PE X (.BoolOp .And (b :: rest) pos) (RdE Z mb W)) : PE X (.BoolOp .And (a :: b :: rest) pos) (RdE Z (mAnd T call ma mb) W) := by
  refine ⟨fun pins s σ H Q I ⟨ρ, env, h, S, E, q⟩ => BoolOp_and (PE.go ha I S E q fun u s1 x H1 ρ1 v h1 I1 rx le S1 E1 r q1 => ?_)⟩
  refine thn (ht pins s1 σ H1 ρ1 h1 v x u _ I1 S1 rx r (Post.bind q1)) fun t s2 ⟨H2, I2, ρ2, t', h2, _, le2, S2, et, q2⟩ => ?_
  cases et
  cases t with
  | true => exact hb.run pins s2 σ H2 Q I2 ⟨ρ2, env, h2, S2, E1.mono le2, q2⟩
  | false => exact ep I2 rx S2 (r.mono le2) q2
theorem re_or (ht : TrOk Z X W PySem.truthy (TB.truthy T call)) (ha : PE X a (RdE Z ma W)) (hb : PE X (.BoolOp .Or (b :: rest) pos) (RdE Z mb W)) : PE X (.BoolOp .Or (a :: b :: rest) pos) (RdE Z (mOr T call ma mb) W) := by
  refine ⟨fun pins s σ H Q I ⟨ρ, env, h, S, E, q⟩ => BoolOp_or (PE.go ha I S E q fun u s1 x H1 ρ1 v h1 I1 rx le S1 E1 r q1 => ?_)⟩
  refine thn (ht pins s1 σ H1 ρ1 h1 v x u _ I1 S1 rx r (Post.bind q1)) fun t s2 ⟨H2, I2, ρ2, t', h2, _, le2, S2, et, q2⟩ => ?_
  cases et
  cases t with
  | false => exact hb.run pins s2 σ H2 Q I2 ⟨ρ2, env, h2, S2, E1.mono le2, q2⟩
  | true => exact ep I2 rx S2 (r.mono le2) q2
theorem rw_one_and (ha : PT X a (RdT Z ta W)) : PW X (.BoolOp .And [a] pos) (RdT Z ta W) := pw_and1 ha
theorem rw_one_or (ha : PT X a (RdT Z ta W)) : PW X (.BoolOp .Or [a] pos) (RdT Z ta W) := pw_or1 ha
theorem rw_and (ha : PT X a (RdT Z ta W)) (hb : PW X (.BoolOp .And (b :: rest) pos) (RdT Z tb W)) : PW X (.BoolOp .And (a :: b :: rest) pos) (RdT Z (bAnd ta tb) W) := by
  refine ⟨fun wh pins s σ H Q I ⟨ρ, env, h, S, E, q⟩ => (pw_and ha hb).run wh pins s σ H Q I (RdT.to S E q fun t H1 ρ1 h1 le S1 E1 q1 => ?_)⟩
  cases t with
  | true => exact ⟨ρ1, env, h1, S1, E1, q1⟩
  | false => exact q1 ρ1 false H1 Le.refl S1 rfl
theorem rw_or (ha : PT X a (RdT Z ta W)) (hb : PW X (.BoolOp .Or (b :: rest) pos) (RdT Z tb W)) : PW X (.BoolOp .Or (a :: b :: rest) pos) (RdT Z (bOr ta tb) W) := by
  refine ⟨fun wh pins s σ H Q I ⟨ρ, env, h, S, E, q⟩ => (pw_or ha hb).run wh pins s σ H Q I (RdT.to S E q fun t H1 ρ1 h1 le S1 E1 q1 => ?_)⟩
  cases t with
  | false => exact ⟨ρ1, env, h1, S1, E1, q1⟩
  | true => exact q1 ρ1 true H1 Le.refl S1 rfl
theorem rt_not (ha : PT X a (RdT Z ta W)) : PT X (.UnaryOp .Not a pos) (RdT Z (bNot ta) W) :=
  ⟨fun pins s σ H Q I ⟨ρ, env, h, S, E, q⟩ => (pt_not ha).run pins s σ H Q I (RdT.to S E q fun t H1 ρ1 h1 le S1 E1 q1 => q1 ρ1 _ H1 Le.refl S1 rfl)⟩
theorem re_not (ht : TrOk Z X W PySem.truthy (TB.truthy T call)) (ha : PE X a (RdE Z ma W)) : PE X (.UnaryOp .Not a pos) (RdE Z (mNot T call ma) W) := by
  refine ⟨fun pins s σ H Q I ⟨ρ, env, h, S, E, q⟩ => UnaryOp_ (PE.go ha I S E (bind_assoc q) fun u s1 x H1 ρ1 v h1 I1 rx le S1 E1 r q1 => not_of ?_)⟩
  refine thn (ht pins s1 σ H1 ρ1 h1 v x u _ I1 S1 rx r (Post.bind q1)) fun t s2 ⟨H2, I2, ρ2, t', h2, _, le2, S2, et, q2⟩ => ?_
  cases et
  exact ep I2 (x := .bl (!t)) rfl S2 (.bl _) q2
theorem re_ite (hc : PT X c (RdT Z tc W)) (ha : PE X a (RdE Z ma W)) (hb : PE X b (RdE Z mb W)) : PE X (.IfExp c a b pos) (RdE Z (mIte tc ma mb) W) := by
  refine ⟨fun pins s σ H Q I ⟨ρ, env, h, S, E, q⟩ => (pe_ifExp hc ha hb).run pins s σ H Q I (RdT.to S E q fun t H1 ρ1 h1 le S1 E1 q1 => ?_)⟩
  cases t <;> exact ⟨ρ1, env, h1, S1, E1, q1⟩
theorem rt_ite (hc : PT X c (RdT Z tc W)) (ha : PT X a (RdT Z ta W)) (hb : PT X b (RdT Z tb W)) : PT X (.IfExp c a b pos) (RdT Z (bIte tc ta tb) W) := by
  refine ⟨fun pins s σ H Q I ⟨ρ, env, h, S, E, q⟩ => isTrue_IfExp (PT.go hc I S E q fun t s1 H1 ρ1 h1 I1 le S1 E1 q1 => ?_)⟩
  cases t
  · exact hb.run pins s1 σ H1 Q I1 ⟨ρ1, env, h1, S1, E1, q1⟩
  · exact ha.run pins s1 σ H1 Q I1 ⟨ρ1, env, h1, S1, E1, q1⟩
end
end
end TB

/-! TB, the link: own defs, methods, classes. -/
namespace TB
open PySem PySem.Spec PyProof.Rows L2 ClX

/-- a def's promise at d levels: what the evaluator says -/
def spF (L : Lk) (d f : Nat) (np : Nat) : Sp := fun vs H Q E => vs.length = np ∧ ∃ ρ ds h, Sim L ρ h H ∧ RelL L ρ H ds vs ∧ PostD L ρ H (callF L.T d f ds h) Q E
/-- a def's place: its FuncData, its parameters, how it binds from n arguments on -/
structure FnLk (Z : Wl) (f : Nat) (F : Fn) (fd : FuncData) (ps : List Str) : Prop where
  np : ps.length = F.np
  kp : PySem.W.keepIn Z.L.K (.ref (Z.L.fA f)) = true
  fi : PySem.W.fnIn Z.L.K (Z.L.fA f) = true
  binds : ∀ (n : Nat) (ws : List D), n ≤ F.np → fillD (F.np - n) [] (F.dfl.drop n) = some ws → ∃ dvs ds, Binds Z.L.K fd ps ds ∧ Vals dvs ds ∧ (∀ ρ H, RelL Z.L ρ H ws dvs)
/-- all defs keep their promises at d levels -/
def FnsOk (Z : Wl) (d : Nat) : Prop := ∀ f F, Z.L.T.fn.get f = some F → F.gen = false → ∃ fd ps, FnLk Z f F fd ps ∧ FnOk Z.P Z.w Z.L.K Z.mg Z.base (L2.CX Z.P Z.w) (2 * d + 1) (Z.L.fA f) fd ps (spF Z.L d f F.np)

theorem fill_len : ∀ (n : Nat) (vs : List D) (d : List (Option D)) (ws : List D), fillD n vs d = some ws → ws.length = n
  | 0, [], _, _, h => by cases h; rfl
  | 0, _ :: _, _, _, h => nomatch h
  | n + 1, v :: vs, d, ws, h => by
    unfold fillD at h
    obtain ⟨w, e, rfl⟩ := Option.map_eq_some_iff.mp h
    simp [fill_len n vs _ w e]
  | n + 1, [], some v :: d, ws, h => by
    unfold fillD at h
    obtain ⟨w, e, rfl⟩ := Option.map_eq_some_iff.mp h
    simp [fill_len n [] _ w e]
  | n + 1, [], none :: d, ws, h => nomatch h
  | n + 1, [], [], ws, h => nomatch h
theorem fill_split : ∀ (n : Nat) (vs : List D) (d : List (Option D)) (ws : List D), fillD n vs d = some ws → vs.length ≤ n ∧ ∃ r, fillD (n - vs.length) [] (d.drop vs.length) = some r ∧ ws = vs ++ r
  | 0, [], d, _, h => by cases h; exact ⟨Nat.le_refl _, [], by cases d <;> rfl, rfl⟩
  | 0, _ :: _, _, _, h => nomatch h
  | n + 1, v :: vs, d, ws, h => by
    unfold fillD at h
    obtain ⟨w, e, rfl⟩ := Option.map_eq_some_iff.mp h
    obtain ⟨h1, r, h2, h3⟩ := fill_split n vs _ w e
    refine ⟨by simp; omega, r, ?_, by rw [h3]; rfl⟩
    have e1 : n + 1 - (v :: vs).length = n - vs.length := by simp
    have e2 : d.drop (v :: vs).length = d.tail.drop vs.length := by cases d <;> simp
    rw [e1, e2]; exact h2
  | n + 1, [], d, ws, h => ⟨Nat.zero_le _, ws, h, rfl⟩
theorem fill_self : ∀ (ws : List D) (d : List (Option D)), fillD ws.length ws d = some ws
  | [], _ => rfl
  | w :: ws, d => by
    show (fillD ws.length ws d.tail).map (w :: ·) = _
    rw [fill_self ws]; rfl
theorem callF_fill {T : Tab} {d f : Nat} {F : Fn} {vs ws : List D} {h : Hv} (e : T.fn.get f = some F) (hf : fillD F.np vs F.dfl = some ws) : callF T d f ws h = callF T d f vs h := by
  cases d with
  | zero => rfl
  | succ d =>
    show (match T.fn.get f with
      | some F => runF F (evS T (callF T d) F.body) ws h
      | none => .bad) = (match T.fn.get f with
      | some F => runF F (evS T (callF T d) F.body) vs h
      | none => .bad)
    rw [e]
    have hl := fill_len _ _ _ _ hf
    show runF F _ ws h = runF F _ vs h
    unfold runF
    rw [hf, ← hl, fill_self ws]
section
variable {Z : Wl} {k d : Nat} {X : Cx} {W : WX} {pins : List (Addr × Obj)} {σ : St} {H : Hp} {s : Shared} {ρ : Rho} {env : Env} {h : Hv}
theorem callF_some {T : Tab} {f : Nat} {ds : List D} (hb : callF T d f ds h ≠ .bad) : ∃ F ws, T.fn.get f = some F ∧ fillD F.np ds F.dfl = some ws := by
  cases d with
  | zero => exact absurd rfl hb
  | succ d =>
    have e : callF T (d + 1) f ds h = (match T.fn.get f with
      | some F => runF F (evS T (callF T d) F.body) ds h
      | none => .bad) := rfl
    cases q : T.fn.get f with
    | none => rw [e, q] at hb; exact absurd rfl hb
    | some F =>
      rw [e, q] at hb
      cases w : fillD F.np ds F.dfl with
      | some ws => exact ⟨F, ws, rfl, w⟩
      | none =>
        have z : runF F (evS T (callF T d) F.body) ds h = .bad := by unfold runF; rw [w]
        exact absurd z hb
theorem post_ne {α β : Type} {R : Rho → Hp → α → β → Prop} {r : Res α} {Q : β → Hp → Prop} {Wk : WK} (q : Post Z.L R ρ H r Q Wk) : r ≠ .bad := fun e => by rw [e] at q; exact q
/-- a table's defs are no generators where they are called as plain ones -/
def notGen (T : Tab) (f : Nat) : Prop := ∀ F, T.fn.get f = some F → F.gen = false
/-- the promise of an own def, at given arguments -/
theorem Gd.fn (G : Gd Z k X W) {fd : FuncData} {ps : List Str} {j f : Nat} {sp : Sp} (F : FnOk Z.P Z.w Z.L.K Z.mg Z.base (L2.CX Z.P Z.w) j (Z.L.fA f) fd ps sp) : FnOk X.prog X.w X.K X.mg X.base (L2.CX X.prog X.w) j (Z.L.fA f) fd ps sp := by
  rw [G.prog, G.w, G.K, G.mg, G.base]; exact F
theorem call_own (G : Gd Z k X W) (hk : 2 * d + 1 ≤ k) (FO : FnsOk Z d) {f : Nat} (ng : notGen Z.L.T f) {ds : List D} {xs : List V} {us : List Value} {Q : VK} (I : Inv X pins σ H s) (S : Sim Z.L ρ h H) (rx : Vals xs us) (r : RelL Z.L ρ H ds xs)
    (q : PostD Z.L ρ H (callF Z.L.T d f ds h) Q (Wat W σ)) : wpAny (model X.prog X.w) X.A (call (.ref (Z.L.fA f)) us) (EP X pins σ Q) X.xe s := by
  obtain ⟨F, ws, eF, ew⟩ := callF_some (post_ne q)
  obtain ⟨fd, ps, LK, OK⟩ := FO f F eF (ng F eF)
  obtain ⟨hl, r2, e2, ews⟩ := fill_split _ _ _ _ ew
  obtain ⟨dvs, dd, hb, hv, hr⟩ := LK.binds ds.length r2 hl e2
  rw [← G.K] at hb
  refine run_fnSD (E := fun σ => WE W σ) (G.fn OK) (G.room.mono hk) hb hv (passAt G.tk σ) I rx ?_
  have rr : RelL Z.L ρ H ws (xs ++ dvs) := by rw [ews]; exact r.append (hr ρ H)
  refine ⟨?_, ρ, ws, h, S, rr, ?_⟩
  · rw [rr.length, fill_len _ _ _ _ ew]
  · rw [callF_fill eF ew]
    exact q
theorem code_own (G : Gd Z k X W) (hk : 2 * d + 1 ≤ k) (FO : FnsOk Z d) {f : Nat} (ng : notGen Z.L.T f) {ds : List D} {xs : List V} {us : List Value} {Q : VK} (I : Inv X pins σ H s) (S : Sim Z.L ρ h H) (rx : Vals xs us) (r : RelL Z.L ρ H ds xs)
    (q : PostD Z.L ρ H (callF Z.L.T d f ds h) Q (Wat W σ)) : codeAny (model X.prog X.w) X.A (.call (.ref (Z.L.fA f)) ⟨us, []⟩) (fun r s' => match r with
      | (.ok (.ret v)) => EP X pins σ Q v s'
      | .ok _ => False
      | .error e => X.xe e s') s := by
  obtain ⟨F, ws, eF, ew⟩ := callF_some (post_ne q)
  obtain ⟨fd, ps, LK, OK⟩ := FO f F eF (ng F eF)
  obtain ⟨hl, r2, e2, ews⟩ := fill_split _ _ _ _ ew
  obtain ⟨dvs, dd, hb, hv, hr⟩ := LK.binds ds.length r2 hl e2
  rw [← G.K] at hb
  have rr : RelL Z.L ρ H ws (xs ++ dvs) := by rw [ews]; exact r.append (hr ρ H)
  have given := rx.append hv
  have long : (us ++ dd).length = ps.length := by rw [← given.length, rr.length, fill_len _ _ _ _ ew]; exact LK.np.symm
  have body := (G.fn OK).run X.A X.stack s H ⟨us, []⟩ (us ++ dd) (xs ++ dvs) Q (WE W σ) (G.room.mono hk) I.env0 (hb s us I.kIn long) given
    ⟨by rw [rr.length, fill_len _ _ _ _ ew], ρ, ws, h, S, rr, by rw [callF_fill eF ew]; exact q⟩
  refine codeAny_mono body fun res s' end_ => ?_
  match res, end_ with
  | .error e, end_ => exact passAt G.tk σ pins H s e s' I end_
  | .ok (.ret u), end_ => exact I.after end_
  | .ok .next, end_ => exact end_.elim
  | .ok .brk, end_ => exact end_.elim
  | .ok .cont, end_ => exact end_.elim
def kN : Nat → String
  | 0 => "NoneType"
  | 1 => "bool"
  | 2 => "int"
  | 3 => "str"
  | 4 => "tuple"
  | 5 => "list"
  | _ => "dict"
/-- what stands behind a class: its own methods -/
structure ClLk (Z : Wl) (atts : List Nat) (c : Nat) (cl : Cl) : Prop where
  cls : Cls Z.L.K (Z.L.cA c)
  kp : PySem.W.keepIn Z.L.K (.ref (Z.L.cA c)) = true
  inst : ∀ m f, lookN m cl.ms = some (.inst, f) → Meth Z.L.K (Z.L.cA c) (Z.L.nm m) (Z.L.fA f) ∧ notGen Z.L.T f
  prop : ∀ m f, lookN m cl.ms = some (.prop, f) → (∃ p, PropOf Z.L.K (Z.L.cA c) (Z.L.nm m) p (Z.L.fA f)) ∧ notGen Z.L.T f
  noat : ∀ m ∈ atts, lookN m cl.ms = none → NoAttr Z.L.K (Z.L.cA c) (Z.L.nm m)
  clm : ∀ m f, lookN m cl.ms = some (.clm, f) → (∃ mc p, CRead Z.L.K (Z.L.cA c) mc ∧ CMet Z.L.K (Z.L.cA c) mc (Z.L.nm m) p (Z.L.fA f)) ∧ notGen Z.L.T f
  sta : ∀ m f, lookN m cl.ms = some (.stat, f) → (∃ mc p rest, CRead Z.L.K (Z.L.cA c) mc ∧ PySem.W.findCls Z.L.K (.ref (Z.L.cA c)) mc (Z.L.nm m) = some (.get (.builtin "staticmethod.__get__") (.ref p) .none (.ref (Z.L.cA c))) ∧ PySem.W.recIn Z.L.K p "staticmethod" = some (.ref (Z.L.fA f) :: rest) ∧ PySem.W.keepIn Z.L.K (.ref (Z.L.fA f)) = true) ∧ notGen Z.L.T f
  mkr : ∀ f, lookN nInit cl.ms = some (.inst, f) → Mk Z.L.K (Z.L.cA c) (Z.L.fA f)
  tyc : PySem.W.findIn Z.L.K (.ref (Z.L.cA c)) "__class__" = some (some (.builtin "object.__class__")) ∧ PySem.W.specialIn Z.L.K (.builtin "object.__class__") "__get__" = some (some (.builtin "getset_descriptor.__get__")) ∧ PySem.W.takesIn Z.L.K (.builtin "object.__class__") = some true ∧
    PySem.W.mroIn Z.L.K (Z.L.cA c) (.type "object") = some true
  kit : (∀ n, n < 7 → PySem.W.kitOne Z.L.K (.type (kN n)) (.ref (Z.L.cA c)) = some false) ∧ ∀ c' cl', Z.L.T.cl.get c' = some cl' → cl'.ms ≠ [] → PySem.W.kitOne Z.L.K (.ref (Z.L.cA c')) (.ref (Z.L.cA c)) = some (Nat.beq c' c)
/-- the table's classes with methods; names are told apart -/
structure ClsOk (Z : Wl) (atts : List Nat) : Prop where
  cl : ∀ c cl, Z.L.T.cl.get c = some cl → cl.ms ≠ [] → ClLk Z atts c cl
  inj : ∀ a b, Z.L.nm a = Z.L.nm b → a = b
theorem methOf_some {T : Tab} {c m : Nat} {r : MK × Nat} (e : methOf T c m = some r) : ∃ cl, T.cl.get c = some cl ∧ lookN m cl.ms = some r ∧ cl.ms ≠ [] := by
  unfold methOf at e
  cases q : T.cl.get c with
  | none => (rw [q] at e; cases e)
  | some cl =>
    rw [q] at e
    have e' : lookN m cl.ms = some r := e
    exact ⟨cl, rfl, e', fun z => by rw [z] at e'; cases e'⟩
/-- the instance of an address -/
theorem Sim.ins (S : Sim Z.L ρ h H) {a : Nat} {p : Addr} (ea : ρ a = some p) {c : Nat} {fs : List (Nat × D)} (e : h.get a = some (.ins c fs)) : ∃ dx gs, H p = some (.ins (Z.L.cA c) dx gs) ∧ RelF Z.L ρ H fs gs ∧ ∀ k d, lookN k fs = some d → methOf Z.L.T c k = none := by
  obtain ⟨⟨dx, gs, e1, r⟩, z, _⟩ := S.at ea e
  exact ⟨dx, gs, e1, r, z⟩
theorem Sim.insC {atts : List Nat} (C : ClsOk Z atts) (S : Sim Z.L ρ h H) {a : Nat} {p : Addr} (ea : ρ a = some p) {c : Nat} {fs : List (Nat × D)} (e : h.get a = some (.ins c fs)) : ∃ cl, Z.L.T.cl.get c = some cl ∧ ClLk Z atts c cl ∧ ∀ m, methOf Z.L.T c m = lookN m cl.ms := by
  obtain ⟨_, _, z⟩ := S.at ea e
  cases q : methOf Z.L.T c nInit with
  | none => exact absurd q z
  | some r =>
    obtain ⟨cl, e1, e2, e3⟩ := methOf_some q
    exact ⟨cl, e1, C.cl c cl e1 e3, fun m => by unfold methOf; rw [e1]⟩
theorem RelF.no {atts : List Nat} (C : ClsOk Z atts) {fs : List (Nat × D)} {gs : List (Str × V)} {m c : Nat} {r : MK × Nat} (e : methOf Z.L.T c m = some r) (z : ∀ k d, lookN k fs = some d → methOf Z.L.T c k = none) (R : RelF Z.L ρ H fs gs) : gs.lookup (Z.L.nm m) = none := by
  cases q : gs.lookup (Z.L.nm m) with
  | none => rfl
  | some v =>
    obtain ⟨j, dd, e1, e2⟩ := R.2.1 _ _ q
    have := z j dd e2
    rw [← C.inj _ _ e1, e] at this
    cases this
/-- a call of an instance's own method -/
theorem meth_own {atts : List Nat} (C : ClsOk Z atts) (G : Gd Z k X W) {m c f a : Nat} {p : Addr} {fs : List (Nat × D)} (em : methOf Z.L.T c m = some (.inst, f)) (ea : ρ a = some p) (eo : h.get a = some (.ins c fs)) (I : Inv X pins σ H s) (S : Sim Z.L ρ h H)
    {pl : Sem Bool} {QQ : Value × List Value → Shared → Prop} {A : Around} {E : Value → Shared → Prop} (next : notGen Z.L.T f → QQ (.ref (Z.L.fA f), [.ref p]) s) : wpAny (model X.prog X.w) A (getMethod (.ref p) (Z.L.nm m) pl) QQ E s := by
  obtain ⟨cl, e1, e2, e3⟩ := methOf_some em
  have K := C.cl c cl e1 e3
  obtain ⟨dx, gs, eH, R, z⟩ := S.ins ea eo
  have hm := K.inst m f e2
  refine getmeth_ok I eH (by rw [G.K]; exact K.cls) (by rw [G.K]; exact hm.1) (R.no C em z) (next hm.2)
end
end TB

/-! TB, the link: what operators do to values. -/
namespace TB
open L2 PySem PyProof.Rows PySem.Spec

structure Kt (Z : Wl) (atts : List Nat) (k d : Nat) (X : Cx) (W : WX) : Prop where
  g : Gd Z k X W
  hk : 2 * d + 2 ≤ k
  fo : FnsOk Z d
  cs : ClsOk Z atts
  nb : Z.L.nm nBool = Str.ofString "__bool__"

theorem toS_append (a b : Sg) : toS a ++ toS b = toS (a ++ b) := by
  show (⟨a.toArray ++ b.toArray⟩ : Str) = ⟨(a ++ b).toArray⟩
  simp
theorem toS_length (a : Sg) : (toS a).length = a.length := by show a.toArray.size = _; simp
theorem toS_inj {a b : Sg} (h : toS a = toS b) : a = b := by
  have e : a.toArray = b.toArray := by injection h
  simpa using congrArg Array.toList e
theorem toS_cps (a : Sg) : (toS a).cps.toList = a := rfl
theorem units_of {k : Nat} {A : Around} (r : Room k A) : A.units + 64 < cLine := r.units

section
variable {Z : Wl} {atts : List Nat} {k d : Nat} {X : Cx} {W : WX}
abbrev cl (Z : Wl) (d : Nat) : Call := callF Z.L.T d
theorem tpX (K : Kt Z atts k d X W) {H : Hp} {a : Addr} {xs : List V} (h : Tp H a xs) : SqT X.K H a xs := h.sq
theorem sql (X : Cx) {H : Hp} {a : Addr} {xs : List V} (h : H a = some (.lst xs)) : SqL X.K H a xs := .of h
/-- a list object -/
theorem Sim.lst {ρ : Rho} {h : Hv} {H : Hp} (S : Sim Z.L ρ h H) {a : Nat} {p : Addr} (ea : ρ a = some p) {l : List D} (e : h.get a = some (.lst l)) : ∃ vs, H p = some (.lst vs) ∧ RelL Z.L ρ H l vs := S.at ea e
theorem Sim.fro {ρ : Rho} {h : Hv} {H : Hp} (S : Sim Z.L ρ h H) {a : Nat} {p : Addr} (ea : ρ a = some p) {l : List D} (e : h.get a = some (.fro l)) : ∃ vs, Rd H p (.lst vs) ∧ RelL Z.L ρ H l vs := S.at ea e
theorem Sim.dct {ρ : Rho} {h : Hv} {H : Hp} (S : Sim Z.L ρ h H) {a : Nat} {p : Addr} (ea : ρ a = some p) {lk : Nat} {l : List (D × D)} (e : h.get a = some (.dct lk l)) : ∃ u, RelDc Z.L ρ H l u ∧ Rd H p u ∧ (lk = 0 → H p = some u) := by
  obtain ⟨u, r, q⟩ := S.at ea e
  refine ⟨u, r, ?_, fun z => by subst z; exact q⟩
  cases lk with
  | zero => exact .inl q
  | succ n => exact .inr q
theorem RelL.empty {ρ : Rho} {H : Hp} {L : Lk} {l : List D} {vs : List V} (r : RelL L ρ H l vs) : vs.isEmpty = l.isEmpty := by cases r <;> rfl

/-! ### + - * // % ** -/
theorem op_sub_ok : OpOk Z X W (binaryOp .Sub) subR := by
  intro pins s σ H ρ h a b x y v u Q I S rx ry ra rb q
  cases ra <;> first | exact q.elim | (cases rb <;> first | exact q.elim | exact op_sub pins s σ H _ _ v u Q I rx ry ⟨_, _, rfl, rfl, done q S (.int _)⟩)
theorem op_fdiv_ok : OpOk Z X W (binaryOp .FloorDiv) fdivR := by
  intro pins s σ H ρ h a b x y v u Q I S rx ry ra rb q
  cases ra <;> first | exact q.elim | skip
  cases rb <;> first | exact q.elim | skip
  rename_i i j
  obtain ⟨c, q2⟩ := post_bif (r := .ok (D.int (i / j)) h) q
  obtain ⟨c1, c2⟩ := Bool.and_eq_true_iff.mp c
  exact op_fdiv pins s σ H _ _ v u Q I rx ry ⟨i, j, rfl, rfl, ⟨of_decide_eq_true c1, of_decide_eq_true c2⟩, done q2 S (.int _)⟩
theorem op_mod_ok : OpOk Z X W (binaryOp .Mod) modR := by
  intro pins s σ H ρ h a b x y v u Q I S rx ry ra rb q
  cases ra <;> first | exact q.elim | skip
  cases rb <;> first | exact q.elim | skip
  rename_i i j
  obtain ⟨c, q2⟩ := post_bif (r := .ok (D.int (i % j)) h) q
  exact op_mod pins s σ H _ _ v u Q I rx ry ⟨i, j, rfl, rfl, of_decide_eq_true c, done q2 S (.int _)⟩
theorem op_pow_ok : OpOk Z X W (binaryOp .Pow) powR := by
  intro pins s σ H ρ h a b x y v u Q I S rx ry ra rb q
  cases ra <;> first | exact q.elim | skip
  cases rb <;> first | exact q.elim | skip
  rename_i i j
  obtain ⟨c, q2⟩ := post_bif (r := .ok (D.int (i ^ j.toNat)) h) q
  obtain ⟨c1, c2⟩ := Bool.and_eq_true_iff.mp c
  obtain ⟨c3, c4⟩ := Bool.and_eq_true_iff.mp c1
  refine op_pow pins s σ H _ _ v u Q I rx ry ⟨i, j, rfl, rfl, ⟨of_decide_eq_true c3, of_decide_eq_true c4, ?_⟩, done q2 S (.int _)⟩
  exact of_decide_eq_true c2
/-- an own method of an instance, or nothing -/
theorem instM_some {T : Tab} {h : Hv} {a m f : Nat} (e : instM T h a m = some f) : ∃ c fs, h.get a = some (.ins c fs) ∧ methOf T c m = some (.inst, f) := by
  unfold instM at e
  split at e
  · rename_i c fs hg
    split at e
    · rename_i g hm
      cases e
      exact ⟨c, fs, hg, hm⟩
    · cases e
  · cases e
theorem add_refs {ρ : Rho} {h : Hv} {H : Hp} {a b : Nat} {Q : VK} {Wk : WK} (q : PostD Z.L ρ H (addL a b h) Q Wk) : ∃ xs ys, h.get a = some (.lst xs) ∧ h.get b = some (.lst ys) ∧ PostD Z.L ρ H (newL (xs ++ ys) h) Q Wk := by
  unfold addL at q
  split at q
  · rename_i xs ys e1 e2
    exact ⟨xs, ys, e1, e2, q⟩
  · exact q.elim
theorem op_add_ok (K : Kt Z atts k d X W) : OpOk Z X W (binaryOp .Add) addR := by
  intro pins s σ H ρ h a b x y v u Q I S rx ry ra rb q
  cases ra with
  | int i =>
    cases rb <;> first | exact q.elim | exact op_add pins s σ H _ _ v u Q I rx ry ⟨_, _, rfl, rfl, done q S (.int _)⟩
  | str i =>
    cases rb <;> first | exact q.elim | skip
    rename_i j
    obtain ⟨c, q2⟩ := post_bif (r := .ok (D.str (i ++ j)) h) q
    refine op_add_str pins s σ H _ _ v u Q I rx ry ⟨_, _, rfl, rfl, ?_, ?_⟩
    · rw [toS_length, toS_length]; exact ble_line c
    · rw [toS_append]; exact done q2 S (.str _)
  | @tup l p vs t r =>
    cases rb <;> first | exact q.elim | skip
    rename_i l2 p2 vs2 t2 r2
    obtain ⟨c, q2⟩ := post_bif (r := .ok (D.tup (l ++ l2)) h) q
    refine op_catA pins s σ H _ _ v u Q I rx ry ⟨p, p2, vs, vs2, rfl, rfl, tpX K t, tpX K t2, ?_, fun z => ?_, fun z1 z => ?_, fun _ _ p3 hp => ?_⟩
    · rw [r.length, r2.length]; exact ble_line c
    · subst z
      have e : l = [] := by cases r; rfl
      subst e
      exact done q2 S (.tup t2 r2)
    · subst z
      have e : l2 = [] := by cases r2; rfl
      subst e
      rw [List.append_nil] at q2
      exact done q2 S (.tup t r)
    · exact post_tup q2 S (r.append r2) hp
  | @ref a p ea =>
    cases rb <;> first | exact q.elim | skip
    rename_i a2 p2 ea2
    obtain ⟨xs, ys, e1, e2, q2⟩ := add_refs q
    obtain ⟨hz, q3⟩ := post_newL q2
    obtain ⟨vs, h1, r1⟩ := S.lst ea e1
    obtain ⟨ws, h2, r2⟩ := S.lst ea2 e2
    refine op_cat pins s σ H _ _ v u Q I rx ry ⟨p, p2, vs, ws, rfl, rfl, h1, h2, ?_, fun p3 hp => post_new q3 S (r1.append r2) hp⟩
    rw [r1.length, r2.length, ← List.length_append]
    exact hz
  | non => exact q.elim
  | bl _ => exact q.elim
  | ty _ => exact q.elim
theorem mul_ref {ρ : Rho} {h : Hv} {H : Hp} {a : Nat} {b : Int} {Q : VK} {Wk : WK} (q : PostD Z.L ρ H (mulL a b h) Q Wk) : ∃ xs, h.get a = some (.lst xs) ∧ (0 ≤ b ∧ b < 16777217 ∧ xs.length * b.toNat ≤ sizeLine) ∧ PostD Z.L ρ H (new (.lst (List.replicate b.toNat xs).flatten) h) Q Wk := by
  unfold mulL at q
  split at q
  · rename_i xs e1
    obtain ⟨c, q2⟩ := post_bif q
    obtain ⟨c1, c2⟩ := Bool.and_eq_true_iff.mp c
    obtain ⟨c3, c4⟩ := Bool.and_eq_true_iff.mp c1
    exact ⟨xs, e1, ⟨of_decide_eq_true c3, of_decide_eq_true c4, ble_line c2⟩, q2⟩
  · exact q.elim
theorem mul_toS (a : Sg) (n : Int) (h0 : 0 ≤ n) : Txt.mul (toS a) n = toS (List.replicate n.toNat a).flatten := by
  have key : ∀ (m : Nat) (acc : Array Nat), ((List.replicate m a.toArray).foldl (· ++ ·) acc) = acc ++ (List.replicate m a).flatten.toArray := by
    intro m
    induction m with
    | zero => intro acc; simp
    | succ m ih => intro acc; rw [List.replicate_succ, List.foldl_cons, ih, List.replicate_succ]; simp
  unfold Txt.mul
  by_cases h1 : n < 1
  · have : n = 0 := by omega
    subst this
    rfl
  · rw [if_neg h1]
    by_cases h2 : (n == 1 || (toS a).length == 0) = true
    · rw [if_pos h2]
      rcases Bool.or_eq_true_iff.mp h2 with z | z
      · have : n = 1 := by simpa using z
        subst this
        simp
      · have z : a.length = 0 := by
          have : (toS a).length = 0 := by simpa using z
          rw [show (toS a).length = a.length from by show a.toArray.size = _; simp] at this
          exact this
        have : a = [] := List.length_eq_zero_iff.mp z
        subst this
        simp
    · rw [if_neg h2]
      show (⟨_⟩ : Str) = ⟨_⟩
      rw [show (toS a).cps = a.toArray from rfl, key]
      simp
theorem mulOk_toS (a : Sg) (n : Int) (h0 : 0 ≤ n) (h1 : n < 16777217) (h2 : a.length * n.toNat ≤ sizeLine) : MulOk (toS a) n := by
  have hl : (toS a).length = a.length := by show a.toArray.size = _; simp
  refine ⟨?_, fun z _ => ?_, fun _ _ => ?_⟩
  · rw [decide_eq_false (by omega), decide_eq_false (by omega)]; rfl
  · rw [hl]
    intro w
    have hn : 0 < n := by omega
    have : (a.length : Int) * n ≤ sizeLine := by
      have : ((a.length * n.toNat : Nat) : Int) ≤ (sizeLine : Nat) := by exact_mod_cast h2
      rw [Int.natCast_mul, Int.toNat_of_nonneg h0] at this
      exact this
    have h3 : ((sizeLine : Nat) : Int) ≤ 2 ^ 63 - 1 := by rw [sizeLine_eq]; decide
    have h4 := (Int.ediv_lt_iff_lt_mul hn).mp w
    omega
  · rw [hl]
    unfold Builtin.Str.tooLong
    skip; exact decide_eq_false (by omega)
theorem op_mul_ok (K : Kt Z atts k d X W) : OpOk Z X W (binaryOp .Mult) mulR := by
  intro pins s σ H ρ h a b x y v u Q I S rx ry ra rb q
  cases ra with
  | int i =>
    cases rb <;> first | exact q.elim | skip
    rename_i j
    obtain ⟨c, q2⟩ := post_bif (r := .ok (D.int (i * j)) h) q
    refine op_mul pins s σ H _ _ v u Q I rx ry ⟨_, _, rfl, rfl, ?_, done q2 S (.int _)⟩
    rcases Bool.or_eq_true_iff.mp c with c | c
    · obtain ⟨c1, c2⟩ := Bool.and_eq_true_iff.mp c
      exact .inl ⟨of_decide_eq_true c1, of_decide_eq_true c2⟩
    · obtain ⟨c1, c2⟩ := Bool.and_eq_true_iff.mp c
      exact .inr ⟨of_decide_eq_true c1, of_decide_eq_true c2⟩
  | @ref a p ea =>
    cases rb <;> first | exact q.elim | skip
    rename_i j
    obtain ⟨xs, e1, ⟨c1, c2, c3⟩, q2⟩ := mul_ref q
    obtain ⟨vs, h1, r1⟩ := S.lst ea e1
    exact op_rep pins s σ H _ _ v u Q I rx ry ⟨p, j, vs, rfl, rfl, h1, by omega, by omega, by rw [r1.length]; exact c3, fun p3 hp => post_new q2 S (r1.flat _) hp⟩
  | str i =>
    cases rb <;> first | exact q.elim | skip
    rename_i j
    obtain ⟨c, q2⟩ := post_bif (r := .ok (D.str (List.replicate j.toNat i).flatten) h) q
    obtain ⟨c1, c2⟩ := Bool.and_eq_true_iff.mp c
    obtain ⟨c3, c4⟩ := Bool.and_eq_true_iff.mp c1
    obtain ⟨t1, rfl⟩ := rx
    obtain ⟨t2, rfl⟩ := ry
    refine SB.mul (mulOk_toS i j (of_decide_eq_true c3) (of_decide_eq_true c4) (ble_line c2)) fun t' k => ⟨.str (Txt.mul (toS i) j), H, I.tok k, ⟨t', rfl⟩, ?_⟩
    rw [mul_toS i j (of_decide_eq_true c3)]
    exact done q2 S (.str _)
  | tup => exact q.elim
  | non => exact q.elim
  | bl _ => exact q.elim
  | ty _ => exact q.elim

/-! ### data -/
mutual
def P.py : P → PyData
  | .non => .none
  | .bl b => .bool b
  | .int i => .int i
  | .str s => .str (toS s)
  | .lst l => .list (P.pyL l)
  | .tup l => .tuple (P.pyL l)
def P.pyL : List P → List PyData
  | [] => []
  | x :: r => P.py x :: P.pyL r
end
theorem toS_beq (a b : Sg) : (toS a == toS b) = (a == b) := by
  by_cases e : a = b
  · subst e; simp
  · have n : ¬ toS a = toS b := fun z => e (toS_inj z)
    rw [beq_eq_false_iff_ne.mpr e, beq_eq_false_iff_ne.mpr n]
mutual
theorem P.eqv_py : ∀ p q : P, PyData.eqv p.py q.py = P.eqv p q
  | .non, q => by cases q <;> simp [P.py, PyData.eqv, P.eqv]
  | .bl b, q => by cases q <;> simp [P.py, PyData.eqv, P.eqv]
  | .int i, q => by cases q <;> simp [P.py, PyData.eqv, P.eqv]
  | .str a, q => by cases q <;> simp [P.py, PyData.eqv, P.eqv, toS_beq]
  | .lst l, q => by cases q <;> simp [P.py, PyData.eqv, P.eqv, P.eqv_pyL]
  | .tup l, q => by cases q <;> simp [P.py, PyData.eqv, P.eqv, P.eqv_pyL]
theorem P.eqv_pyL : ∀ p q : List P, PyData.eqvAll (P.pyL p) (P.pyL q) = P.eqvL p q
  | [], q => by cases q <;> simp [P.pyL, PyData.eqvAll, P.eqvL]
  | x :: r, q => by
    cases q with
    | nil => simp [P.pyL, PyData.eqvAll, P.eqvL]
    | cons y z =>
      simp only [P.pyL, PyData.eqvAll, P.eqvL, P.eqv_py x y, P.eqv_pyL r z]
      cases P.eqv x y <;> rfl
end
theorem okS_ok {s : Sg} (h : okS s = true) : PyData.strOk (toS s) = true := by
  obtain ⟨_, h2⟩ := Bool.and_eq_true_iff.mp h
  show (s.toArray).all (· < 0x110000) = true
  rw [List.all_toArray]
  rw [List.all_eq_true] at h2 ⊢
  intro c hc
  have := Nat.le_of_ble_eq_true (h2 c hc)
  skip; exact decide_eq_true (by omega)
theorem toPs_some {f : D → Option P} : ∀ {l : List D} {ps : List P}, toPs f l = some ps → Paired (fun d p => f d = some p) l ps
  | [], _, h => by cases h; exact .nil
  | x :: r, ps, h => by
    unfold toPs at h
    split at h
    · rename_i p qs e1 e2
      cases h
      exact .cons e1 (toPs_some e2)
    · cases h
/-- a value as data, in the hand layer -/
theorem toP_dp (K : Kt Z atts k d X W) {ρ : Rho} {h : Hv} {H : Hp} (S : Sim Z.L ρ h H) : ∀ (n : Nat) (x : D) (v : V) (p : P), toP n h x = some p → RelD Z.L ρ H x v → Dp X.K H v p.py ∧ p.py.canLay0 = true ∧ p.py.depth ≤ n := by
  intro n
  induction n with
  | zero =>
    intro x v p e r
    cases r with
    | non => cases e; exact ⟨.non, rfl, Nat.le_refl _⟩
    | bl b => cases e; exact ⟨.bl b, rfl, Nat.le_refl _⟩
    | int b => cases e; exact ⟨.int b, rfl, Nat.le_refl _⟩
    | str s =>
      have e : (bif okS s then some (P.str s) else none) = some p := e
      cases c : okS s with
      | false => rw [c] at e; cases e
      | true => rw [c] at e; cases e; exact ⟨.str _, by show PyData.strOk _ = true; exact okS_ok c, Nat.le_refl _⟩
    | tup _ _ => cases e
    | ref _ => cases e
    | ty _ => cases e
  | succ n ih =>
    have list : ∀ (l : List D) (vs : List V) (ps : List P), Paired (fun d p => toP n h d = some p) l ps → RelL Z.L ρ H l vs → DpAll X.K H vs (P.pyL ps) ∧ PyData.canLayAll0 (P.pyL ps) = true ∧ PyData.depthAll (P.pyL ps) ≤ n := by
      intro l
      induction l with
      | nil => intro vs ps a b; cases a; cases b; exact ⟨.nil, rfl, Nat.zero_le _⟩
      | cons x l ihl =>
        intro vs ps a b
        cases a with
        | cons a1 a2 =>
          cases b with
          | cons b1 b2 =>
            obtain ⟨c1, c2, c3⟩ := ih _ _ _ a1 b1
            obtain ⟨d1, d2, d3⟩ := ihl _ _ a2 b2
            refine ⟨.cons c1 d1, ?_, ?_⟩
            · show (PyData.canLay0 _ && PyData.canLayAll0 _) = true
              rw [c2, d2]; rfl
            · show max (PyData.depth _) (PyData.depthAll _) ≤ n
              omega
    intro x v p e r
    cases r with
    | non => cases e; exact ⟨.non, rfl, Nat.zero_le _⟩
    | bl b => cases e; exact ⟨.bl b, rfl, Nat.zero_le _⟩
    | int b => cases e; exact ⟨.int b, rfl, Nat.zero_le _⟩
    | str s =>
      have e : (bif okS s then some (P.str s) else none) = some p := e
      cases c : okS s with
      | false => rw [c] at e; cases e
      | true => rw [c] at e; cases e; exact ⟨.str _, by show PyData.strOk _ = true; exact okS_ok c, Nat.zero_le _⟩
    | @tup l a vs t r =>
      have e' : (toPs (toP n h) l).map P.tup = some p := e
      obtain ⟨ps, e1, rfl⟩ := Option.map_eq_some_iff.mp e'
      obtain ⟨d1, d2, d3⟩ := list _ _ _ (toPs_some e1) r
      exact ⟨.tup (tpX K t) d1, d2, Nat.succ_le_succ d3⟩
    | @ref a q ea =>
      have e : toPo (toP n h) (h.get a) = some p := e
      unfold toPo at e
      split at e
      · rename_i l eg
        obtain ⟨ps, e1, rfl⟩ := Option.map_eq_some_iff.mp e
        obtain ⟨vs, h1, r1⟩ := S.lst ea eg
        obtain ⟨d1, d2, d3⟩ := list _ _ _ (toPs_some e1) r1
        exact ⟨.lst (sql X h1) d1, d2, Nat.succ_le_succ d3⟩
      · rename_i l eg
        obtain ⟨ps, e1, rfl⟩ := Option.map_eq_some_iff.mp e
        obtain ⟨vs, h1, r1⟩ := S.fro ea eg
        obtain ⟨d1, d2, d3⟩ := list _ _ _ (toPs_some e1) r1
        exact ⟨.lst (.inl h1) d1, d2, Nat.succ_le_succ d3⟩
      · cases e
    | ty _ => cases e
end
end TB

/-! TB, the link: comparisons, membership. -/
namespace TB
open L2 PySem PyProof.Rows PySem.Spec
/-- a comparison of two values that stand -/
def CmOk (Z : Wl) (X : Cx) (W : WX) (op : CmpOp) (c : D → D → Hv → Res Bool) : Prop :=
  ∀ (pins : List (Addr × Obj)) (s : Shared) (σ : St) (H : Hp) (ρ : Rho) (h : Hv) (a b : D) (x y : V) (v u : Value) (Q : Bool → Hp → Prop), Inv X pins σ H s → Sim Z.L ρ h H → RelV x v → RelV y u → RelD Z.L ρ H a x → RelD Z.L ρ H b y →
    PostB Z.L ρ H (c a b h) Q (Wat W σ) → wpAny (model X.prog X.w) X.A (compareOp op v u) (fun c s' => ∃ b H', c = .bool b ∧ Inv X pins σ H' s' ∧ Q b H') X.xe s
section
variable {Z : Wl} {atts : List Nat} {k d : Nat} {X : Cx} {W : WX} {pins : List (Addr × Obj)} {σ : St} {H : Hp} {s : Shared} {ρ : Rho} {h : Hv}
theorem doneB {b : Bool} {Q : Bool → Hp → Prop} {Wk : WK} (q : PostB Z.L ρ H (.ok b h) Q Wk) (S : Sim Z.L ρ h H) : Q b H := q ρ b H Le.refl S rfl
/-- from a rule of the hand layer -/
theorem cm_of {op : CmpOp} {r : R2} (ho : OpR X (compareOp op) r) {x y : V} {v u : Value} {Q : Bool → Hp → Prop} (I : Inv X pins σ H s) (rx : RelV x v) (ry : RelV y u) (q : r x y H (fun z H' => ∃ b, z = .bl b ∧ Q b H')) :
    wpAny (model X.prog X.w) X.A (compareOp op v u) (fun c s' => ∃ b H', c = .bool b ∧ Inv X pins σ H' s' ∧ Q b H') X.xe s :=
  thn (ho pins s σ H x y v u _ I rx ry q) fun c s' ⟨z, H', I', rz, b, e, q'⟩ => by
    subst e
    cases rz
    exact ⟨b, H', rfl, I', q'⟩
theorem post_opt {α β : Type} {R : Rho → Hp → α → β → Prop} {o : Option α} {Q : β → Hp → Prop} {Wk : WK} (q : Post Z.L R ρ H (opt o h) Q Wk) : ∃ a, o = some a ∧ Post Z.L R ρ H (.ok a h) Q Wk := by
  cases o with
  | none => exact q.elim
  | some a => exact ⟨a, rfl, q⟩
theorem post_neg {r : Res Bool} {Q : Bool → Hp → Prop} {Wk : WK} (q : PostB Z.L ρ H (negB r) Q Wk) : PostB Z.L ρ H r (fun b H' => Q (!b) H') Wk := by
  cases r with
  | ok b h' => exact fun ρ' c H' e S r => by cases r; exact q ρ' _ H' e S rfl
  | exc c vs h' => exact q
  | bad => exact q
theorem eqV_some {x y : D} {b : Bool} (e : eqV h x y = some b) : ∃ p q, toP 60 h x = some p ∧ toP 60 h y = some q ∧ b = P.eqv p q := by
  unfold eqV at e
  split at e
  · rename_i p q e1 e2
    cases e
    exact ⟨p, q, e1, e2, rfl⟩
  · cases e
theorem shaped_of {d : PyData} {n : Nat} (h1 : d.canLay0 = true) (h2 : d.depth ≤ n) (h3 : n ≤ 64) : SeqAt.shaped d = true := by
  unfold SeqAt.shaped
  rw [h1]
  simp
  omega
theorem eq_ok (K : Kt Z atts k d X W) : CmOk Z X W .Eq eqR := by
  intro pins s σ H ρ h a b x y v u Q I S rx ry ra rb q
  obtain ⟨c, e, q2⟩ := post_opt q
  obtain ⟨p1, p2, e1, e2, rfl⟩ := eqV_some e
  obtain ⟨d1, c1, l1⟩ := toP_dp K S 60 _ _ _ e1 ra
  obtain ⟨d2, c2, l2⟩ := toP_dp K S 60 _ _ _ e2 rb
  exact cm_of (op_eqD K.g.room.units) I rx ry ⟨_, _, d1, d2, shaped_of c1 l1 (by decide), shaped_of c2 l2 (by decide), _, rfl, by rw [P.eqv_py]; exact doneB q2 S⟩
theorem ne_ok (K : Kt Z atts k d X W) : CmOk Z X W .NotEq (fun x y h => negB (eqR x y h)) := by
  intro pins s σ H ρ h a b x y v u Q I S rx ry ra rb q
  obtain ⟨c, e, q2⟩ := post_opt (post_neg q)
  obtain ⟨p1, p2, e1, e2, rfl⟩ := eqV_some e
  obtain ⟨d1, c1, l1⟩ := toP_dp K S 60 _ _ _ e1 ra
  obtain ⟨d2, c2, l2⟩ := toP_dp K S 60 _ _ _ e2 rb
  exact cm_of (op_neD K.g.room.units) I rx ry ⟨_, _, d1, d2, shaped_of c1 l1 (by decide), shaped_of c2 l2 (by decide), _, rfl, by rw [P.eqv_py]; exact doneB (Q := fun b H' => Q (!b) H') q2 S⟩
theorem le_ok : CmOk Z X W .LtE leR := by
  intro pins s σ H ρ h a b x y v u Q I S rx ry ra rb q
  cases ra <;> first | exact q.elim | skip
  cases rb <;> first | exact q.elim | skip
  exact cm_of op_le I rx ry ⟨_, _, rfl, rfl, _, rfl, doneB q S⟩
theorem ge_ok : CmOk Z X W .GtE (fun x y h => leR y x h) := by
  intro pins s σ H ρ h a b x y v u Q I S rx ry ra rb q
  cases rb <;> first | exact q.elim | skip
  cases ra <;> first | exact q.elim | skip
  exact cm_of op_ge I rx ry ⟨_, _, rfl, rfl, _, rfl, doneB q S⟩
theorem isV_some {x y : D} {b : Bool} (e : isV x y = some b) : (y = .non ∧ b = isNon x) ∨ ∃ c c', y = .bl c ∧ x = .bl c' ∧ b = (c' == c) := by
  cases y <;> first | (cases e; done) | skip
  · cases e; exact .inl ⟨rfl, rfl⟩
  · cases x <;> cases e
    exact .inr ⟨_, _, rfl, rfl, rfl⟩
theorem is_ok : CmOk Z X W .Is (fun x y h => opt (isV x y) h) := by
  intro pins s σ H ρ h a b x y v u Q I S rx ry ra rb q
  obtain ⟨c, e, q2⟩ := post_opt q
  rcases isV_some e with ⟨rfl, rfl⟩ | ⟨c1, c2, rfl, rfl, rfl⟩
  · cases rb
    refine cm_of op_isN I rx ry ⟨rfl, _, rfl, ?_⟩
    have z := doneB q2 S
    cases ra <;> exact z
  · cases rb
    cases ra
    refine cm_of op_is_bl I rx ry ⟨_, _, rfl, rfl, _, rfl, ?_⟩
    rw [← Bool.beq_eq_decide_eq]
    exact doneB q2 S
theorem isnot_ok : CmOk Z X W .IsNot (fun x y h => negB (opt (isV x y) h)) := by
  intro pins s σ H ρ h a b x y v u Q I S rx ry ra rb q
  obtain ⟨c, e, q2⟩ := post_opt (post_neg q)
  rcases isV_some e with ⟨rfl, rfl⟩ | ⟨c1, c2, rfl, rfl, rfl⟩
  · cases rb
    refine cm_of op_notN I rx ry ⟨rfl, _, rfl, ?_⟩
    have z := doneB (Q := fun b H' => Q (!b) H') q2 S
    cases ra <;> exact z
  · cases rb
    cases ra
    refine cm_of op_isnot_bl I rx ry ⟨_, _, rfl, rfl, _, rfl, ?_⟩
    rw [← Bool.beq_eq_decide_eq]
    exact doneB (Q := fun b H' => Q (!b) H') q2 S

/-! ### dicts -/
theorem Inv.reT {a : Addr} (I : Inv X pins σ H s) (e : H a = some (.dK [])) : Inv X pins σ (upd H a (.dT [])) s := by
  obtain ⟨z, hd, vs, rel, o, es, n, e1, e2, e3, e4, e5, e6⟩ := (show ObjOk X.prog X.w H s.heap a (.dK []) from I.hok a _ e)
  cases rel
  have el : es.toList = [] := by
    cases q : es.toList with
    | nil => rfl
    | cons x r => rw [q] at e5; cases e5
  exact I.write (x := a) (e := a) (t' := s.toks) (by rw [e]; trivial) (.inl rfl) (fun _ _ _ z => z) ⟨o, e1⟩ ⟨z, hd, [], .nil, o, es, n, e1, e2, e3, by rw [el]; rfl, List.nodup_nil⟩
theorem Inv.reK {a : Addr} (I : Inv X pins σ H s) (e : H a = some (.dT [])) : Inv X pins σ (upd H a (.dK [])) s := by
  obtain ⟨z, hd, vs, rel, o, es, n, e1, e2, e3, e4, e5⟩ := (show ObjOk X.prog X.w H s.heap a (.dT []) from I.hok a _ e)
  cases rel
  have el : es.toList = [] := e4
  have ea : es = #[] := by simpa using congrArg List.toArray el
  subst ea
  exact I.write (x := a) (e := a) (t' := s.toks) (by rw [e]; trivial) (.inl rfl) (fun _ _ _ z => z) ⟨o, e1⟩ ⟨z, hd, [], .nil, o, #[], n, e1, e2, e3, (fun x hx => by simp at hx), .nil, List.nodup_nil⟩
/-- a key in the hand layer -/
inductive RelK (H : Hp) : D → V → Prop
  | k {d : D} {κ : Key} : keyS d = some κ → RelK H d (kV κ)
  | t {d : D} {κ : List Key} {b : Addr} : keyT d = some κ → H b = some (.tup (κ.map kV)) → RelK H d (.ref b)
theorem keyS_rel {d : D} {v : V} {κ : Key} (e : keyS d = some κ) (r : RelD Z.L ρ H d v) : v = kV κ := by
  cases r <;> cases e <;> rfl
theorem keysS_rel : ∀ {l : List D} {vs : List V} {κ : List Key}, keysS l = some κ → RelL Z.L ρ H l vs → vs = κ.map kV
  | [], _, _, e, r => by cases e; cases r; rfl
  | x :: l, _, κ, e, r => by
    unfold keysS at e
    split at e
    · rename_i k ks e1 e2
      cases e
      cases r with
      | cons r1 r2 => rw [keyS_rel e1 r1, keysS_rel e2 r2]; rfl
    · cases e
theorem key1_some {d : D} (h : key1 d = true) : ∃ κ, keyS d = some κ := by
  cases d <;> first | exact ⟨_, rfl⟩ | cases h
theorem keys_some : ∀ {l : List D}, l.all key1 = true → ∃ κ, keysS l = some κ
  | [], _ => ⟨[], rfl⟩
  | x :: l, h => by
    skip; rw [List.all_cons, Bool.and_eq_true] at h
    obtain ⟨k, e1⟩ := key1_some h.1
    obtain ⟨ks, e2⟩ := keys_some h.2
    exact ⟨k :: ks, by unfold keysS; rw [e1, e2]⟩
theorem relK_of {d : D} {v : V} (h : keyOk d = true) (r : RelD Z.L ρ H d v) : (∃ κ, keyS d = some κ ∧ v = kV κ) ∨ ∃ κ b, keyT d = some κ ∧ v = .ref b ∧ H b = some (.tup (κ.map kV)) := by
  cases r with
  | int i => exact .inl ⟨_, rfl, rfl⟩
  | str i => exact .inl ⟨_, rfl, rfl⟩
  | @tup l a vs t r =>
    obtain ⟨κ, e⟩ := keys_some h
    refine .inr ⟨κ, a, e, rfl, ?_⟩
    rw [← keysS_rel e r]; exact t
  | non => cases h
  | bl _ => cases h
  | ref _ => cases h
  | ty _ => cases h
theorem eq1_key {a b : D} {κ κ' : Key} (ea : keyS a = some κ) (eb : keyS b = some κ') : eq1 a b = decide (κ = κ') := by
  cases a <;> cases ea <;> cases b <;> cases eb
  · simp only [eq1, Sum.inl.injEq]; exact Bool.beq_eq_decide_eq _ _
  · simp [eq1]
  · simp [eq1]
  · rename_i x y
    simp only [eq1, Sum.inr.injEq]
    by_cases e : x = y
    · subst e; simp
    · have n : ¬ toS x = toS y := fun z => e (toS_inj z)
      rw [beq_eq_false_iff_ne.mpr e, decide_eq_false n]
theorem eq1L_key : ∀ {a b : List D} {κ κ' : List Key}, keysS a = some κ → keysS b = some κ' → eq1L a b = decide (κ = κ')
  | [], [], _, _, ea, eb => by cases ea; cases eb; rfl
  | [], y :: b, _, _, ea, eb => by
    cases ea
    unfold keysS at eb
    split at eb
    · cases eb; simp [eq1L]
    · cases eb
  | x :: a, [], _, _, ea, eb => by
    cases eb
    unfold keysS at ea
    split at ea
    · cases ea; simp [eq1L]
    · cases ea
  | x :: a, y :: b, _, _, ea, eb => by
    unfold keysS at ea eb
    split at ea
    · rename_i k ks e1 e2
      cases ea
      split at eb
      · rename_i k' ks' e3 e4
        cases eb
        simp only [eq1L, eq1_key e1 e3, eq1L_key e2 e4, List.cons.injEq]
        by_cases q : k = k' <;> simp [q]
      · cases eb
    · cases ea
theorem keyS_eqK {a b : D} {κ κ' : Key} (ea : keyS a = some κ) (eb : keyS b = some κ') : eqK a b = decide (κ = κ') := by
  rw [← eq1_key ea eb]
  cases a <;> cases ea <;> cases b <;> cases eb <;> rfl
theorem keyT_eqK {a b : D} {κ κ' : List Key} (ea : keyT a = some κ) (eb : keyT b = some κ') : eqK a b = decide (κ = κ') := by
  cases a <;> first | (cases ea; done) | skip
  cases b <;> first | (cases eb; done) | skip
  exact eq1L_key ea eb
/-- what a dict has at a key -/
theorem RelKv.get {κ : Type} [DecidableEq κ] {f : D → Option κ} (hf : ∀ a b x y, f a = some x → f b = some y → eqK a b = decide (x = y)) {k : D} {x : κ} (ek : f k = some x) : ∀ {l : List (D × D)} {r : List (κ × V)}, RelKv Z.L ρ H f l r →
    (dGet k l = none ∧ valV r x = none) ∨ ∃ d v, dGet k l = some d ∧ valV r x = some v ∧ RelD Z.L ρ H d v
  | _, _, .nil => Or.inl ⟨rfl, rfl⟩
  | _, _, .cons (k := k') (d := d') (κ' := y) (v := v') e rd t => by
    have q := hf _ _ _ _ e ek
    unfold dGet
    by_cases z : y = x
    · subst z
      rw [decide_eq_true rfl] at q
      refine .inr ⟨d', v', by rw [q]; rfl, valV_pos rfl, rd⟩
    · rw [decide_eq_false z] at q
      rw [q, valV_neg z]
      exact RelKv.get hf ek t
/-- .. changed there -/
theorem RelKv.put_any {κ : Type} [DecidableEq κ] {f : D → Option κ} (hf : ∀ a b x y, f a = some x → f b = some y → eqK a b = decide (x = y)) {k d : D} {x : κ} {v : V} (ek : f k = some x) (rd : RelD Z.L ρ H d v) : ∀ {l : List (D × D)} {r : List (κ × V)}, RelKv Z.L ρ H f l r →
    (r.any fun kv => decide (kv.1 = x)) = true → (r.map (·.1)).Nodup → RelKv Z.L ρ H f (dPut k d l) (r.map fun kv => if kv.1 = x then (kv.1, v) else kv)
  | _, _, .nil, h, _ => by cases h
  | _, _, .cons (l := l) (r := r) (k := k') (d := d') (κ' := y) (v := v') e rd' t, h, nd => by
    have q := hf _ _ _ _ e ek
    skip; rw [List.map_cons, List.nodup_cons] at nd
    unfold dPut
    by_cases z : y = x
    · subst z
      rw [decide_eq_true rfl] at q
      rw [q]
      have e2 : r.map (fun kv => if kv.1 = y then (kv.1, v) else kv) = r := by
        refine (List.map_congr_left fun kv hkv => ?_).trans (List.map_id _)
        rw [if_neg]
        · rfl
        · intro z; exact nd.1 (List.mem_map.mpr ⟨kv, hkv, z⟩)
      rw [List.map_cons, e2, if_pos rfl]
      exact .cons e rd t
    · rw [decide_eq_false z] at q
      rw [q, List.map_cons, if_neg z]
      rw [List.any_cons, decide_eq_false z, Bool.false_or] at h
      exact .cons e rd' (RelKv.put_any hf ek rd t h nd.2)
theorem RelKv.put_new {κ : Type} [DecidableEq κ] {f : D → Option κ} (hf : ∀ a b x y, f a = some x → f b = some y → eqK a b = decide (x = y)) {k d : D} {x : κ} {v : V} (ek : f k = some x) (rd : RelD Z.L ρ H d v) : ∀ {l : List (D × D)} {r : List (κ × V)}, RelKv Z.L ρ H f l r →
    (r.any fun kv => decide (kv.1 = x)) = false → RelKv Z.L ρ H f (dPut k d l) (r ++ [(x, v)])
  | _, _, .nil, _ => .cons ek rd .nil
  | _, _, .cons (l := l) (r := r) (k := k') (d := d') (κ' := y) (v := v') e rd' t, h => by
    have q := hf _ _ _ _ e ek
    rw [List.any_cons, Bool.or_eq_false_iff] at h
    have z : ¬ y = x := of_decide_eq_false h.1
    rw [decide_eq_false z] at q
    unfold dPut
    rw [q]
    exact .cons e rd' (RelKv.put_new hf ek rd t h.2)
theorem RelKv.put {κ : Type} [DecidableEq κ] {f : D → Option κ} (hf : ∀ a b x y, f a = some x → f b = some y → eqK a b = decide (x = y)) {k d : D} {x : κ} {v : V} (ek : f k = some x) (rd : RelD Z.L ρ H d v) {l : List (D × D)} {r : List (κ × V)} (t : RelKv Z.L ρ H f l r) (nd : (r.map (·.1)).Nodup) :
    RelKv Z.L ρ H f (dPut k d l) (putK r x v) := by
  unfold putK
  cases c : (r.any fun kv => decide (kv.1 = x)) with
  | true => rw [if_pos rfl]; exact t.put_any hf ek rd c nd
  | false => rw [if_neg (by simp)]; exact t.put_new hf ek rd c
theorem sameKind_K {p : D × D} {r : List (D × D)} {κ : Key} {kvs : List (List Key × V)} {k : D} (c : (isTup p.1 == isTup k) = true) (ek : keyS k = some κ) (t : RelKv Z.L ρ H keyT (p :: r) kvs) : False := by
  cases t with
  | cons e _ _ =>
    rename_i a b _ _ _ _ _
    cases a <;> first | (cases e; done) | skip
    cases k <;> first | (cases ek; done) | cases c
theorem sameKind_T {p : D × D} {r : List (D × D)} {κ : List Key} {kvs : List (Key × V)} {k : D} (c : (isTup p.1 == isTup k) = true) (ek : keyT k = some κ) (t : RelKv Z.L ρ H keyS (p :: r) kvs) : False := by
  cases t with
  | cons e _ _ =>
    rename_i a b _ _ _ _ _
    cases k <;> first | (cases ek; done) | skip
    cases a <;> first | (cases e; done) | cases c
/-- a dict asked for a key: perhaps an empty one is read as the other kind -/
theorem dict_at (I : Inv X pins σ H s) (S : Sim Z.L ρ h H) {a : Nat} {p : Addr} (ea : ρ a = some p) {lk : Nat} {l : List (D × D)} (e : h.get a = some (.dct lk l)) {k : D} {y : V} (c : dOk k lk l = true) (r : RelD Z.L ρ H k y) :
    ∃ H', Inv X pins σ H' s ∧ Sim Z.L ρ h H' ∧ Le ρ H ρ H' ∧ ((∃ kvs κ, Rd H' p (.dK kvs) ∧ (lk = 0 → H' p = some (.dK kvs)) ∧ RelKv Z.L ρ H' keyS l kvs ∧ keyS k = some κ ∧ y = kV κ) ∨
      ∃ kvs κ b, Rd H' p (.dT kvs) ∧ (lk = 0 → H' p = some (.dT kvs)) ∧ RelKv Z.L ρ H' keyT l kvs ∧ keyT k = some κ ∧ y = .ref b ∧ H' b = some (.tup (κ.map kV))) := by
  obtain ⟨u, ru, rd, h0⟩ := S.dct ea e
  obtain ⟨c1, c2⟩ := Bool.and_eq_true_iff.mp c
  have hz : l = [] → lk = 0 := fun z => by subst z; exact Nat.eq_of_beq_eq_true c2
  cases u <;> first | exact ru.elim | skip
  · rename_i kvs
    rcases relK_of c1 r with ⟨κ, e1, e2⟩ | ⟨κ, b, e1, e2, e3⟩
    · exact ⟨H, I, S, Le.refl, .inl ⟨kvs, κ, rd, h0, ru, e1, e2⟩⟩
    · cases l with
      | cons q l => exact (sameKind_T c2 e1 ru).elim
      | nil =>
        cases ru
        have hp := h0 (hz rfl)
        have lk0 := hz rfl
        subst lk0
        have S2 : Sim Z.L ρ (h.put a (.dct 0 [])) (upd H p (.dT [])) := S.put ea trivial ⟨.dT [], .nil, upd_same⟩
        refine ⟨upd H p (.dT []), Inv.reT I hp, S2.same_put e, S.le_put ea (.of hp), .inr ⟨[], κ, b, .inl upd_same, fun _ => upd_same, .nil, e1, e2, ?_⟩⟩
        exact (S.le_put (o := .dT []) ea (.of hp)).tup _ _ e3
  · rename_i kvs
    rcases relK_of c1 r with ⟨κ, e1, e2⟩ | ⟨κ, b, e1, e2, e3⟩
    · cases l with
      | cons q l => exact (sameKind_K c2 e1 ru).elim
      | nil =>
        cases ru
        have hp := h0 (hz rfl)
        have lk0 := hz rfl
        subst lk0
        have S2 : Sim Z.L ρ (h.put a (.dct 0 [])) (upd H p (.dK [])) := S.put ea trivial ⟨.dK [], .nil, upd_same⟩
        exact ⟨upd H p (.dK []), Inv.reK I hp, S2.same_put e, S.le_put ea (.of hp), .inl ⟨[], κ, .inl upd_same, fun _ => upd_same, .nil, e1, e2⟩⟩
    · exact ⟨H, I, S, Le.refl, .inr ⟨kvs, κ, b, rd, h0, ru, e1, e2, e3⟩⟩
/-- .. its answer -/
theorem dict_get (I : Inv X pins σ H s) (S : Sim Z.L ρ h H) {a : Nat} {p : Addr} (ea : ρ a = some p) {lk : Nat} {l : List (D × D)} (e : h.get a = some (.dct lk l)) {k : D} {y : V} (c : dOk k lk l = true) (r : RelD Z.L ρ H k y) :
    ∃ H' o, Inv X pins σ H' s ∧ Sim Z.L ρ h H' ∧ Le ρ H ρ H' ∧ DGet H' p y o ∧ ((dGet k l = none ∧ o = none) ∨ ∃ d v, dGet k l = some d ∧ o = some v ∧ RelD Z.L ρ H' d v) := by
  obtain ⟨H', I', S', le, ⟨kvs, κ, rd, _, t, e1, e2⟩ | ⟨kvs, κ, b, rd, _, t, e1, e2, e3⟩⟩ := dict_at I S ea e c r
  · exact ⟨H', _, I', S', le, .inl ⟨kvs, κ, rd, e2, rfl⟩, t.get (fun _ _ _ _ => keyS_eqK) e1⟩
  · exact ⟨H', _, I', S', le, .inr ⟨kvs, κ, b, rd, e2, e3, rfl⟩, t.get (fun _ _ _ _ => keyT_eqK) e1⟩
/-! ### order -/
theorem ltS_dec : ∀ a b : Sg, ltS a b = decide (a < b)
  | [], [] => by simp [ltS]
  | [], _ :: _ => by simp [ltS]
  | _ :: _, [] => by simp [ltS]
  | x :: a, y :: b => by
    unfold ltS
    rw [ltS_dec a b]
    by_cases h1 : x < y
    · rw [show Nat.blt x y = true from Nat.ble_eq_true_of_le h1]
      simp [List.cons_lt_cons_iff, h1]
    · have e1 : Nat.blt x y = false := by
        cases e : Nat.blt x y with
        | false => rfl
        | true => exact absurd (Nat.le_of_ble_eq_true e) h1
      rw [e1]
      by_cases h2 : x = y
      · subst h2
        simp [List.cons_lt_cons_iff]
      · have e2 : Nat.beq x y = false := by
          cases e : Nat.beq x y with
          | false => rfl
          | true => exact absurd (Nat.eq_of_beq_eq_true e) h2
        rw [e2]
        simp [List.cons_lt_cons_iff, h1, h2]
/-- the rest of two tuples, from a place on -/
theorem lexAt_lt (e r : Nat → Bool) : ∀ (xs ys : List P) (i : Nat) (b : Bool), P.ltL xs ys = some b →
    (∀ (j : Nat) (x y : P), xs[j]? = some x → ys[j]? = some y → e (i + j) = P.eqv x y ∧ ∀ c, P.lt x y = some c → r (i + j) = c) → Ob.lexAt e r (decide (xs.length < ys.length)) i (min xs.length ys.length) = b
  | [], [], i, b, h, _ => by cases h; rfl
  | [], _ :: _, i, b, h, _ => by cases h; simp [Ob.lexAt]
  | _ :: _, [], i, b, h, _ => by cases h; simp [Ob.lexAt]
  | x :: xs, y :: ys, i, b, h, he => by
    obtain ⟨e0, r0⟩ := he 0 x y rfl rfl
    have em : min (x :: xs).length (y :: ys).length = min xs.length ys.length + 1 := by simp only [List.length_cons]; omega
    have el : decide ((x :: xs).length < (y :: ys).length) = decide (xs.length < ys.length) := by simp
    rw [em, el, Ob.lexAt_succ]
    unfold P.ltL at h
    rw [show e i = P.eqv x y from e0]
    cases q : P.eqv x y with
    | true =>
      rw [q] at h
      rw [if_pos rfl]
      refine lexAt_lt e r xs ys (i + 1) b h fun j x' y' h1 h2 => ?_
      have := he (j + 1) x' y' h1 h2
      skip; rw [show i + 1 + j = i + (j + 1) by omega]
      exact this
    | false =>
      rw [q] at h
      rw [if_neg (by simp)]
      cases q2 : P.okL xs ys with
      | false => rw [q2] at h; cases h
      | true => rw [q2] at h; exact r0 b h
theorem okL_at : ∀ {xs ys : List P} {j : Nat} {x y : P}, P.okL xs ys = true → xs[j]? = some x → ys[j]? = some y → P.eqv x y = false → ∃ c, P.lt x y = some c
  | a :: xs, b :: ys, 0, x, y, h, e1, e2, ne => by
    cases e1; cases e2
    obtain ⟨h1, _⟩ := Bool.and_eq_true_iff.mp (show ((P.eqv a b || (P.lt a b).isSome) && P.okL xs ys) = true from h)
    rw [ne, Bool.false_or] at h1
    exact Option.isSome_iff_exists.mp h1
  | a :: xs, b :: ys, j + 1, x, y, h, e1, e2, ne => by
    obtain ⟨_, h2⟩ := Bool.and_eq_true_iff.mp (show ((P.eqv a b || (P.lt a b).isSome) && P.okL xs ys) = true from h)
    exact okL_at (j := j) h2 (by simpa using e1) (by simpa using e2) ne
theorem ltL_at : ∀ {xs ys : List P} {b : Bool} {j : Nat} {x y : P}, P.ltL xs ys = some b → xs[j]? = some x → ys[j]? = some y → P.eqv x y = false → ∃ c, P.lt x y = some c
  | a :: xs, z :: ys, b, j, x, y, h, e1, e2, ne => by
    unfold P.ltL at h
    cases q : P.eqv a z with
    | true =>
      rw [q] at h
      cases j with
      | zero => cases e1; cases e2; rw [q] at ne; cases ne
      | succ j => exact ltL_at (j := j) (b := b) h (by simpa using e1) (by simpa using e2) ne
    | false =>
      rw [q] at h
      cases q2 : P.okL xs ys with
      | false => rw [q2] at h; cases h
      | true =>
        rw [q2] at h
        cases j with
        | zero => cases e1; cases e2; exact ⟨b, h⟩
        | succ j => exact okL_at (j := j) q2 (by simpa using e1) (by simpa using e2) ne
theorem pyL_get : ∀ {ps : List P} {j : Nat} {p : P}, ps[j]? = some p → (P.pyL ps)[j]? = some p.py
  | _ :: _, 0, _, e => by cases e; rfl
  | _ :: r, j + 1, _, e => by simpa [P.pyL] using pyL_get (ps := r) (j := j) (by simpa using e)
theorem reads_at {h : Heap} : ∀ {vs : List Value} {ds : List PyData} {as : List Addr} {j : Nat} {d : PyData} {v : Value}, ReadsAll h vs ds as → ds[j]? = some d → vs[j]? = some v → ∃ bs, Reads h v d bs
  | _, _, _, 0, _, _, .cons r _, e1, e2 => by cases e1; cases e2; exact ⟨_, r⟩
  | _, _, _, j + 1, _, _, .cons _ t, e1, e2 => reads_at (j := j) t e1 e2
theorem pyL_length : ∀ ps : List P, (P.pyL ps).length = ps.length
  | [] => rfl
  | _ :: r => congrArg (· + 1) (pyL_length r)
theorem reads_length {h : Heap} : ∀ {vs : List Value} {ds : List PyData} {as : List Addr}, ReadsAll h vs ds as → vs.length = ds.length
  | _, _, _, .nil => rfl
  | _, _, _, .cons _ t => congrArg (· + 1) (reads_length t)
theorem depth_mem : ∀ {ds : List PyData} {d : PyData}, d ∈ ds → d.depth ≤ PyData.depthAll ds
  | x :: r, d, h => by
    show _ ≤ max (PyData.depth x) (PyData.depthAll r)
    skip; rcases List.mem_cons.mp h with rfl | h
    · omega
    · have := depth_mem h; omega
theorem lay_mem : ∀ {ds : List PyData} {d : PyData}, PyData.canLayAll0 ds = true → d ∈ ds → d.canLay0 = true
  | x :: r, d, hl, h => by
    obtain ⟨h1, h2⟩ := Bool.and_eq_true_iff.mp (show (PyData.canLay0 x && PyData.canLayAll0 r) = true from hl)
    skip; rcases List.mem_cons.mp h with rfl | h
    · exact h1
    · exact lay_mem h2 h
theorem lt_reads {s : Shared} : ∀ (n : Nat) (A : Around), A.units + n + 1 < cLine → ∀ (p q : P) (b : Bool) (v u : Value) (as bs : List Addr), p.py.depth ≤ n → q.py.depth ≤ n → p.py.canLay0 = true → q.py.canLay0 = true → Reads s.heap v p.py as → Reads s.heap u q.py bs → P.lt p q = some b → Ob.RcOp .Lt A s v u b := by
  intro n
  induction n with
  | zero =>
    intro A hA p q b v u as bs d1 d2 l1 l2 r1 r2 h
    cases p <;> cases q <;> first | (cases h; done) | skip
    · cases h; cases r1; cases r2; exact Ob.RcOp.lt_int _ _ _ _
    · cases h; cases r1; cases r2; exact fun _ _ _ _ q => PyProof.Rows.lt_str (by rw [toS_cps, toS_cps, ← ltS_dec]; exact q)
    · exact absurd d1 (by simp [P.py, PyData.depth])
  | succ n ih =>
    intro A hA p q b v u as bs d1 d2 l1 l2 r1 r2 h
    cases p <;> cases q <;> first | (cases h; done) | skip
    · cases h; cases r1; cases r2; exact Ob.RcOp.lt_int _ _ _ _
    · cases h; cases r1; cases r2; exact fun _ _ _ _ q => PyProof.Rows.lt_str (by rw [toS_cps, toS_cps, ← ltS_dec]; exact q)
    · rename_i xs ys
      have d1' : PyData.depthAll (P.pyL xs) ≤ n := Nat.le_of_succ_le_succ d1
      have d2' : PyData.depthAll (P.pyL ys) ≤ n := Nat.le_of_succ_le_succ d2
      have l1' : PyData.canLayAll0 (P.pyL xs) = true := l1
      have l2' : PyData.canLayAll0 (P.pyL ys) = true := l2
      cases r1 with
      | @tuple a o vs n1 _ as1 g1 c1 t1 w1 =>
        cases r2 with
        | @tuple a' o' vs' n2 _ as2 g2 c2 t2 w2 =>
          have z1 : vs.size = xs.length := by rw [← Array.length_toList, reads_length w1, pyL_length]
          have z2 : vs'.size = ys.length := by rw [← Array.length_toList, reads_length w2, pyL_length]
          have h' : P.ltL xs ys = some b := h
          have E := lexAt_lt (fun j => P.eqv (xs.getD j .non) (ys.getD j .non)) (fun j => (P.lt (xs.getD j .non) (ys.getD j .non)).getD true) xs ys 0 b h' (fun j x y e1 e2 => by
            rw [Nat.zero_add, List.getD_eq_getElem?_getD, List.getD_eq_getElem?_getD, e1, e2]
            exact ⟨rfl, fun c hc => by show (P.lt x y).getD true = c; rw [hc]; rfl⟩)
          have R := Ob.RcOp.tuples_lt (A := A) (s := s) (l := a) (b := a') (items := vs) (items2 := vs') (e := fun j => P.eqv (xs.getD j .non) (ys.getD j .non)) (r := fun j => (P.lt (xs.getD j .non) (ys.getD j .non)).getD true) ⟨o, g1, c1, n1, t1⟩ ⟨o', g2, c2, n2, t2⟩ (by omega) (fun j j1 j2 => ?he) (fun j j1 j2 hn => ?hr)
          · rw [z1, z2, E] at R
            exact R
          all_goals
            have hx : xs[j]? = some (xs.getD j .non) := by rw [List.getD_eq_getElem?_getD, List.getElem?_eq_getElem (by omega)]; rfl
            have hy : ys[j]? = some (ys.getD j .non) := by rw [List.getD_eq_getElem?_getD, List.getElem?_eq_getElem (by omega)]; rfl
            obtain ⟨bs1, rd1⟩ := reads_at w1 (pyL_get hx) (v := vs[j]) (by rw [Array.getElem?_toList]; exact Array.getElem?_eq_getElem j1)
            obtain ⟨bs2, rd2⟩ := reads_at w2 (pyL_get hy) (v := vs'[j]) (by rw [Array.getElem?_toList]; exact Array.getElem?_eq_getElem j2)
            have m1 := List.mem_of_getElem? (pyL_get hx)
            have m2 := List.mem_of_getElem? (pyL_get hy)
            have dd1 := depth_mem m1
            have dd2 := depth_mem m2
          case he =>
            show SeqAt.EqAt A.in1 s vs[j] vs'[j] (P.eqv _ _)
            rw [← P.eqv_py]
            refine SeqAt.eqAt_reads _ _ A.in1 s _ _ _ _ rd1 rd2 (lay_mem l1' m1) (lay_mem l2' m2) ?_
            show A.units + 1 + min _ _ < cLine
            omega
          case hr =>
            obtain ⟨c, hc⟩ := ltL_at h' hx hy hn
            show Ob.RcOp .Lt A.in1 s vs[j] vs'[j] ((P.lt _ _).getD true)
            rw [hc]
            refine ih A.in1 ?_ _ _ c _ _ _ _ (by omega) (by omega) (lay_mem l1' m1) (lay_mem l2' m2) rd1 rd2 hc
            show A.units + 1 + n + 1 < cLine
            omega
theorem ltV_some {x y : D} {b : Bool} (e : ltV h x y = some b) : ∃ p q, toP 60 h x = some p ∧ toP 60 h y = some q ∧ P.lt p q = some b := by
  unfold ltV at e
  split at e
  · rename_i p q e1 e2
    exact ⟨p, q, e1, e2, e⟩
  · cases e
theorem lt_ok (K : Kt Z atts k d X W) : CmOk Z X W .Lt (fun x y h => opt (ltV h x y) h) := by
  intro pins s σ H ρ h a b x y v u Q I S rx ry ra rb q
  obtain ⟨c, e, q2⟩ := post_opt q
  obtain ⟨p1, p2, e1, e2, e3⟩ := ltV_some e
  obtain ⟨d1, c1, l1⟩ := toP_dp K S 60 _ _ _ e1 ra
  obtain ⟨d2, c2, l2⟩ := toP_dp K S 60 _ _ _ e2 rb
  obtain ⟨as, r1⟩ := Dp.reads I _ _ _ d1 rx
  obtain ⟨bs, r2⟩ := Dp.reads I _ _ _ d2 ry
  have hu := K.g.room.units
  exact lt_reads 60 X.A (by omega) p1 p2 c v u _ _ l1 l2 c1 c2 r1 r2 e3 X.prog X.w X.xe _ ⟨c, H, rfl, I, doneB q2 S⟩
theorem gt_ok : CmOk Z X W .Gt gtR := by
  intro pins s σ H ρ h a b x y v u Q I S rx ry ra rb q
  cases ra <;> first | exact q.elim | skip
  · cases rb <;> first | exact q.elim | skip
    exact cm_of op_gt I rx ry ⟨_, _, rfl, rfl, _, rfl, doneB q S⟩
  · cases rb <;> first | exact q.elim | skip
    refine cm_of op_gt_str I rx ry ⟨_, _, rfl, rfl, _, rfl, ?_⟩
    rw [toS_cps, toS_cps, ← ltS_dec]
    exact doneB q S

/-! ### membership -/
theorem inP_any (p : P) : ∀ ps : List P, ((P.pyL ps).any fun z => PyData.eqv z p.py) = inP p ps
  | [] => rfl
  | q :: r => by
    simp only [P.pyL, List.any_cons, P.eqv_py, inP_any p r, inP]
    cases P.eqv q p <;> rfl
theorem toPs_dp (K : Kt Z atts k d X W) (S : Sim Z.L ρ h H) (n : Nat) : ∀ {l : List D} {vs : List V} {ps : List P}, toPs (toP n h) l = some ps → RelL Z.L ρ H l vs → DpAll X.K H vs (P.pyL ps) ∧ PyData.canLayAll0 (P.pyL ps) = true ∧ PyData.depthAll (P.pyL ps) ≤ n
  | [], _, _, e, r => by cases e; cases r; exact ⟨.nil, rfl, Nat.zero_le _⟩
  | x :: l, _, ps, e, r => by
    unfold toPs at e
    split at e
    · rename_i p qs e1 e2
      cases e
      cases r with
      | cons r1 r2 =>
        obtain ⟨a1, a2, a3⟩ := toP_dp K S n _ _ _ e1 r1
        obtain ⟨b1, b2, b3⟩ := toPs_dp K S n e2 r2
        refine ⟨.cons a1 b1, ?_, ?_⟩
        · show (PyData.canLay0 _ && PyData.canLayAll0 _) = true
          rw [a2, b2]; rfl
        · show max (PyData.depth _) (PyData.depthAll _) ≤ n
          omega
    · cases e
theorem inL_some {x : D} {l : List D} {b : Bool} (e : inL h x l = some b) : ∃ p ps, toP 60 h x = some p ∧ toPs (toP 59 h) l = some ps ∧ b = inP p ps := by
  unfold inL at e
  split at e
  · rename_i p q e1 e2
    cases e
    exact ⟨p, q, e1, e2, rfl⟩
  · cases e
/-- x in items, x not in items: what the library wants -/
theorem in_data (K : Kt Z atts k d X W) (I : Inv X pins σ H s) (S : Sim Z.L ρ h H) {a : D} {x : V} {v : Value} (ra : RelD Z.L ρ H a x) (rx : RelV x v) {l : List D} {vs : List V} (rl : RelL Z.L ρ H l vs) {c : Bool} (e : inL h a l = some c) :
    ∃ (d : PyData) (ds : List PyData) (as : List Addr), Reads s.heap v d as ∧ DpAll X.K H vs ds ∧ PyData.canLayAll0 ds = true ∧ d.canLay0 = true ∧ X.A.units + 1 + min (PyData.depthAll ds) d.depth < cLine ∧ (ds.any fun z => PyData.eqv z d) = c := by
  obtain ⟨p, ps, e1, e2, rfl⟩ := inL_some e
  obtain ⟨d1, c1, l1⟩ := toP_dp K S 60 _ _ _ e1 ra
  obtain ⟨d2, c2, l2⟩ := toPs_dp K S 59 e2 rl
  obtain ⟨as, r1⟩ := Dp.reads I _ _ _ d1 rx
  have hu := K.g.room.units
  exact ⟨_, _, as, r1, d2, c2, c1, by omega, inP_any p ps⟩
theorem in_list (K : Kt Z atts k d X W) (I : Inv X pins σ H s) (S : Sim Z.L ρ h H) {a : D} {x : V} {v : Value} (ra : RelD Z.L ρ H a x) (rx : RelV x v) {p : Addr} {l : List D} {vs : List V} (hp : SqL X.K H p vs) (rl : RelL Z.L ρ H l vs) {c : Bool} (e : inL h a l = some c) {E : Value → Shared → Prop} :
    (∀ Q : Value → Shared → Prop, Q (.bool c) s → wpAny (model X.prog X.w) X.A (compareOp .In v (.ref p)) Q E s) ∧ ∀ Q : Value → Shared → Prop, Q (.bool (!c)) s → wpAny (model X.prog X.w) X.A (compareOp .NotIn v (.ref p)) Q E s := by
  obtain ⟨dd, ds, as, r1, d2, c2, c1, hu, ec⟩ := in_data K I S ra rx rl e
  obtain ⟨bs, r2⟩ := Dp.reads I (.list ds) (.ref p) (.ref p) (.lst hp d2) rfl
  exact ⟨fun Q q => SeqAt.in_list_reads r2 r1 c2 c1 hu (by rw [ec]; exact q), fun Q q => SeqAt.notIn_list_reads r2 r1 c2 c1 hu (by rw [ec]; exact q)⟩
theorem in_tup (K : Kt Z atts k d X W) (I : Inv X pins σ H s) (S : Sim Z.L ρ h H) {a : D} {x : V} {v : Value} (ra : RelD Z.L ρ H a x) (rx : RelV x v) {p : Addr} {l : List D} {vs : List V} (hp : SqT X.K H p vs) (rl : RelL Z.L ρ H l vs) {c : Bool} (e : inL h a l = some c) {E : Value → Shared → Prop} :
    (∀ Q : Value → Shared → Prop, Q (.bool c) s → wpAny (model X.prog X.w) X.A (compareOp .In v (.ref p)) Q E s) ∧ ∀ Q : Value → Shared → Prop, Q (.bool (!c)) s → wpAny (model X.prog X.w) X.A (compareOp .NotIn v (.ref p)) Q E s := by
  obtain ⟨dd, ds, as, r1, d2, c2, c1, hu, ec⟩ := in_data K I S ra rx rl e
  obtain ⟨bs, r2⟩ := Dp.reads I (.tuple ds) (.ref p) (.ref p) (.tup hp d2) rfl
  exact ⟨fun Q q => SeqAt.in_tuple_reads r2 r1 c2 c1 hu (by rw [ec]; exact q), fun Q q => SeqAt.notIn_tuple_reads r2 r1 c2 c1 hu (by rw [ec]; exact q)⟩
theorem any_mem (c : Nat) : ∀ b : Sg, b.any (Nat.beq c) = decide (c ∈ b)
  | [] => by simp
  | x :: r => by
    rw [List.any_cons, any_mem c r]
    by_cases e : c = x
    · subst e; simp
    · have : Nat.beq c x = false := by
        cases q : Nat.beq c x with
        | false => rfl
        | true => exact absurd (Nat.eq_of_beq_eq_true q) e
      rw [this]; simp [e]
theorem dget_some {k : D} {l : List (D × D)} {H' : Hp} {o : Option V} (e : (dGet k l = none ∧ o = none) ∨ ∃ d v, dGet k l = some d ∧ o = some v ∧ RelD Z.L ρ H' d v) : (dGet k l).isSome = o.isSome := by
  rcases e with ⟨e1, e2⟩ | ⟨d, v, e1, e2, _⟩ <;> rw [e1, e2] <;> rfl
theorem mem_both (K : Kt Z atts k d X W) (I : Inv X pins σ H s) (S : Sim Z.L ρ h H) {a b : D} {x y : V} {v u : Value} (rx : RelV x v) (ry : RelV y u) (ra : RelD Z.L ρ H a x) (rb : RelD Z.L ρ H b y) {Q : Bool → Hp → Prop} (q : PostB Z.L ρ H (memR a b h) Q (Wat W σ)) :
    wpAny (model X.prog X.w) X.A (compareOp .In v u) (fun c s' => ∃ b H', c = .bool b ∧ Inv X pins σ H' s' ∧ Q b H') X.xe s ∧ wpAny (model X.prog X.w) X.A (compareOp .NotIn v u) (fun c s' => ∃ b H', c = .bool (!b) ∧ Inv X pins σ H' s' ∧ Q b H') X.xe s := by
  cases rb with
  | str t =>
    cases ra <;> first | exact q.elim | skip
    rename_i t1
    match t1, rx, q with
    | [], _, q => exact q.elim
    | _ :: _ :: _, _, q => exact q.elim
    | [c], rx, q =>
      have z := doneB (b := t.any (Nat.beq c)) q S
      rw [any_mem] at z
      refine ⟨cm_of op_in_sign I rx ry ⟨c, _, rfl, rfl, _, rfl, z⟩, ?_⟩
      refine thn (cm_of (Q := fun b H' => Q (!b) H') op_notIn_sign I rx ry ⟨c, _, rfl, rfl, _, rfl, by rw [Bool.not_not]; exact z⟩) fun cc s' ⟨b, H', e, I', q'⟩ => ⟨!b, H', by rw [Bool.not_not]; exact e, I', q'⟩
  | @tup l p vs t r =>
    obtain ⟨c, e, q2⟩ := post_opt q
    cases ry
    obtain ⟨w1, w2⟩ := in_tup K I S ra rx (tpX K t) r e (E := X.xe)
    exact ⟨w1 _ ⟨c, H, rfl, I, doneB q2 S⟩, w2 _ ⟨c, H, rfl, I, doneB q2 S⟩⟩
  | @ref p0 p ea =>
    cases ry
    have q : PostB Z.L ρ H (memO a p0 h) Q (Wat W σ) := q
    unfold memO at q
    split at q
    · rename_i l eg
      obtain ⟨c, e, q2⟩ := post_opt q
      obtain ⟨vs, h1, r1⟩ := S.lst ea eg
      obtain ⟨w1, w2⟩ := in_list K I S ra rx (sql X h1) r1 e (E := X.xe)
      exact ⟨w1 _ ⟨c, H, rfl, I, doneB q2 S⟩, w2 _ ⟨c, H, rfl, I, doneB q2 S⟩⟩
    · rename_i l eg
      obtain ⟨c, e, q2⟩ := post_opt q
      obtain ⟨vs, h1, r1⟩ := S.fro ea eg
      obtain ⟨w1, w2⟩ := in_list K I S ra rx (.inl h1) r1 e (E := X.xe)
      exact ⟨w1 _ ⟨c, H, rfl, I, doneB q2 S⟩, w2 _ ⟨c, H, rfl, I, doneB q2 S⟩⟩
    · rename_i lk l eg
      obtain ⟨c, q2⟩ := post_bif q
      obtain ⟨H', o, I', S', le, g, eo⟩ := dict_get I S ea eg c ra
      have z : Q o.isSome H' := by
        have := q2 ρ _ H' le S' rfl
        rw [← dget_some eo]; exact this
      have hu := K.g.room.units
      exact ⟨d_in (by omega) I' g rx fun s' I2 => ⟨_, H', rfl, I2, z⟩, d_notIn (by omega) I' g rx fun s' I2 => ⟨_, H', rfl, I2, z⟩⟩
    · exact q.elim
  | non => exact q.elim
  | bl _ => exact q.elim
  | int _ => exact q.elim
  | ty _ => exact q.elim
theorem mem_ok (K : Kt Z atts k d X W) : CmOk Z X W .In memR := fun pins s σ H ρ h a b x y v u Q I S rx ry ra rb q => (mem_both K I S rx ry ra rb q).1
theorem nmem_ok (K : Kt Z atts k d X W) : CmOk Z X W .NotIn (fun x y h => negB (memR x y h)) := fun pins s σ H ρ h a b x y v u Q I S rx ry ra rb q =>
  thn (mem_both K I S rx ry ra rb (post_neg q)).2 fun c s' ⟨b, H', e, I', q'⟩ => ⟨!b, H', e, I', q'⟩
end
end TB

/-! TB, the link: subscripts, slices, fields, truth. -/
namespace TB
open L2 PySem PyProof.Rows PySem.Spec
section
variable {Z : Wl} {atts : List Nat} {k d : Nat} {X : Cx} {W : WX} {pins : List (Addr × Obj)} {σ : St} {H : Hp} {s : Shared} {ρ : Rho} {h : Hv}

/-! ### truth -/
/-- an instance's own special method is called -/
theorem special_own (K : Kt Z atts k d X W) {m c f a : Nat} {p : Addr} {fs : List (Nat × D)} (em : methOf Z.L.T c m = some (.inst, f)) (ea : ρ a = some p) (eg : h.get a = some (.ins c fs)) (I : Inv X pins σ H s) (S : Sim Z.L ρ h H)
    {ds : List D} {xs : List V} {us : List Value} (rx : Vals xs us) (r : RelL Z.L ρ H ds xs) {Q : VK} (q : PostD Z.L ρ H (cl Z d f (.ref a :: ds) h) Q (Wat W σ)) {QQ : Option Value → Shared → Prop} (next : ∀ v s', EP X pins σ Q v s' → QQ (some v) s') :
    wpAny (model X.prog X.w) X.A (callSpecial? (.ref p) (Z.L.nm m) us) QQ X.xe s := by
  obtain ⟨cl1, e1, e2, e3⟩ := methOf_some em
  have C := K.cs.cl c cl1 e1 e3
  obtain ⟨dx, gs, eH, R, z⟩ := S.ins ea eg
  obtain ⟨hm, ng⟩ := C.inst m f e2
  obtain ⟨mA, O, _, _, _, _⟩ := ins_get I.hok eH
  obtain ⟨od, IA, _⟩ := O.look
  refine PySem.W.special_fn (K := X.K) I.kIn IA (by rw [K.g.K]; exact hm.at_) (by rw [K.g.K]; exact beq_iff_eq.mp hm.fn) ?_
  exact wpAny_mono (call_own K.g (by have := K.hk; omega) K.fo ng I S (.cons (a := .ref p) (b := Value.ref p) (show RelV (.ref p) (.ref p) from rfl) rx) (.cons (.ref ea) r) q) (fun v s' y => next v s' y) fun _ _ y => y
theorem tru_ins (K : Kt Z atts k d X W) {c a : Nat} {p : Addr} {fs : List (Nat × D)} (I : Inv X pins σ H s) (S : Sim Z.L ρ h H) (ea : ρ a = some p) (eg : h.get a = some (.ins c fs)) {Q : Bool → Hp → Prop} (q : PostB Z.L ρ H (truI Z.L.T (cl Z d) c a h) Q (Wat W σ)) :
    wpAny (model X.prog X.w) X.A (PySem.truthy (.ref p)) (TP X pins σ Q) X.xe s := by
  unfold truI at q
  split at q
  · rename_i f em
    unfold PySem.truthy
    have nb : Z.L.nm nBool = Str.ofString "__bool__" := K.nb
    refine wpAny_bind (m := callSpecial? (.ref p) (Str.ofString "__bool__")) ?_
    rw [← nb]
    refine special_own K em ea eg I S .nil .nil (Post.bind q) fun v s' ⟨x, H1, I1, rx, ρ1, b, h1, _, le, S1, r1, q1⟩ => ?_
    cases r1 <;> first | exact q1.elim | skip
    cases rx
    exact wpAny_pure ⟨H1, I1, doneB q1 S1⟩
  · exact q.elim
theorem tru_ok (K : Kt Z atts k d X W) : TrOk Z X W PySem.truthy (TB.truthy Z.L.T (cl Z d)) := by
  intro pins s σ H ρ h a x v Q I S rx ra q
  have go : ∀ b, TruV X.K x H b → PostB Z.L ρ H (.ok b h) Q (Wat W σ) → wpAny (model X.prog X.w) X.A (PySem.truthy v) (TP X pins σ Q) X.xe s := fun b e q' => L2.tru_ok pins s σ H x v Q I rx ⟨b, e, doneB q' S⟩
  cases ra with
  | non => exact go _ rfl q
  | bl b => exact go _ rfl q
  | int i => exact go _ (show (!(i == 0)) = (i != 0) from rfl) q
  | str t =>
    obtain ⟨c, q2⟩ := post_bif (r := .ok (!t.isEmpty) h) q
    refine go _ ⟨by rw [toS_length]; exact ble_line c, ?_⟩ q2
    rw [toS_length]
    cases t with
    | nil => rfl
    | cons c r =>
      have : ((r.length + 1 : Nat) : Int) ≠ 0 := by omega
      simp [bne, this]
      omega
  | @tup l p vs t r => exact go _ (.inr (.inl ⟨vs, tpX K t, by rw [r.empty]⟩)) q
  | @ref p0 p ea =>
    unfold TB.truthy at q
    simp only at q
    split at q
    · rename_i l eg
      obtain ⟨vs, h1, r1⟩ := S.lst ea eg
      exact go _ (.inl ⟨vs, sql X h1, by rw [r1.empty]⟩) q
    · rename_i l eg
      obtain ⟨vs, h1, r1⟩ := S.fro ea eg
      exact go _ (.inl ⟨vs, .inl h1, by rw [r1.empty]⟩) q
    · rename_i c fs eg
      cases rx
      exact tru_ins K I S ea eg q
    · exact q.elim
  | ty _ => exact q.elim

/-! ### subscripts -/
theorem ixOf_eq (n : Nat) (i : Int) : ixOf n i = L2.ixN n i := by
  unfold L2.ixN
  cases i with
  | ofNat m =>
    show (bif Nat.blt m n then some m else none) = _
    simp only [Int.ofNat_eq_natCast]
    rw [if_pos (by omega)]
    cases q : Nat.blt m n with
    | true =>
      have := Nat.le_of_ble_eq_true q
      rw [if_pos (by omega)]; simp
    | false =>
      have : ¬ m < n := fun z => by rw [show Nat.blt m n = true from Nat.ble_eq_true_of_le z] at q; cases q
      rw [if_neg (by omega)]; rfl
  | negSucc m =>
    show (bif Nat.blt m n then some (n - (m + 1)) else none) = _
    rw [if_neg (by omega)]
    cases q : Nat.blt m n with
    | true =>
      have : m + 1 ≤ n := Nat.le_of_ble_eq_true q
      rw [if_pos (by omega)]
      simp only [cond_true]
      congr 1
      omega
    | false =>
      have : ¬ m < n := fun z => by rw [show Nat.blt m n = true from Nat.ble_eq_true_of_le z] at q; cases q
      rw [if_neg (by omega)]; rfl
theorem at_rel {l : List D} {vs : List V} (r : RelL Z.L ρ H l vs) {i : Int} {x : D} (e : (ixOf l.length i).bind (fun j => l[j]?) = some x) : ∃ v, atI vs i = some v ∧ RelD Z.L ρ H x v := by
  obtain ⟨j, e1, e2⟩ := Option.bind_eq_some_iff.mp e
  obtain ⟨v, e3, r3⟩ := r.get e2
  refine ⟨v, ?_, r3⟩
  unfold atI
  rw [r.length, ← ixOf_eq, e1]
  exact e3
/-- x[i], both at hand -/
def IxOk (Z : Wl) (X : Cx) (W : WX) (c : D → D → Hv → Res D) : Prop :=
  ∀ (value slice : Expr) (pins : List (Addr × Obj)) (s : Shared) (σ : St) (H : Hp) (ρ : Rho) (h : Hv) (a b : D) (x y : V) (v u : Value) (Q : VK), Inv X pins σ H s → Sim Z.L ρ h H → RelV x v → RelV y u → RelD Z.L ρ H a x → RelD Z.L ρ H b y →
    PostD Z.L ρ H (c a b h) Q (Wat W σ) → subscripted slice false v u = operate [v, u] (getItem v u) → wpAny (model X.prog X.w) X.A (subscriptTail value slice v u) (EP X pins σ Q) X.xe s
theorem dget_of {k' : D} {l : List (D × D)} {H' : Hp} {o : Option V} (e : (dGet k' l = none ∧ o = none) ∨ ∃ d v, dGet k' l = some d ∧ o = some v ∧ RelD Z.L ρ H' d v) {dd : D} (e2 : dGet k' l = some dd) : ∃ v, o = some v ∧ RelD Z.L ρ H' dd v := by
  rcases e with ⟨e1, _⟩ | ⟨d, v, e1, e3, r⟩
  · rw [e1] at e2; cases e2
  · rw [e1] at e2; cases e2; exact ⟨v, e3, r⟩
theorem get_ok (K : Kt Z atts k d X W) : IxOk Z X W getIx := by
  intro value slice pins s σ H ρ h a b x y v u Q I S rx ry ra rb q hs
  cases ra with
  | str t =>
    cases rb <;> first | exact q.elim | skip
    rename_i i
    have q : PostD Z.L ρ H (bif !Nat.ble t.length line then .bad else opt ((ixOf t.length i).bind fun j => (t[j]?).map fun c => D.str [c]) h) Q (Wat W σ) := q
    cases c : Nat.ble t.length line with
    | false => rw [c] at q; exact q.elim
    | true =>
      rw [c] at q
      obtain ⟨z, e, q2⟩ := post_opt q
      obtain ⟨j, e1, e2⟩ := Option.bind_eq_some_iff.mp e
      obtain ⟨cc, e3, rfl⟩ := Option.map_eq_some_iff.mp e2
      refine ix_str value slice pins s σ H _ _ v u Q I rx ry ⟨_, i, cc, rfl, rfl, by rw [toS_length]; exact ble_line c, ?_, done q2 S (.str _)⟩ hs
      unfold atI
      rw [toS_cps, ← ixOf_eq, e1]
      exact e3
  | @tup l p vs t r =>
    cases rb <;> first | exact q.elim | skip
    rename_i i
    obtain ⟨z, e, q2⟩ := post_opt (o := (ixOf l.length i).bind fun j => l[j]?) q
    obtain ⟨w, e1, r1⟩ := at_rel r e
    exact ix_tup value slice pins s σ H _ _ v u Q I rx ry ⟨p, vs, i, w, rfl, rfl, tpX K t, e1, done q2 S r1⟩ hs
  | @ref p0 p ea =>
    unfold getIx at q
    simp only at q
    split at q
    · rename_i l eg
      cases rb <;> first | exact q.elim | skip
      rename_i i
      obtain ⟨vs, h1, r⟩ := S.lst ea eg
      obtain ⟨z, e, q2⟩ := post_opt (o := (ixOf l.length i).bind fun j => l[j]?) q
      obtain ⟨w, e1, r1⟩ := at_rel r e
      exact ix_list value slice pins s σ H _ _ v u Q I rx ry ⟨p, vs, i, w, rfl, rfl, sql X h1, e1, done q2 S r1⟩ hs
    · rename_i l eg
      cases rb <;> first | exact q.elim | skip
      rename_i i
      obtain ⟨vs, h1, r⟩ := S.fro ea eg
      obtain ⟨z, e, q2⟩ := post_opt (o := (ixOf l.length i).bind fun j => l[j]?) q
      obtain ⟨w, e1, r1⟩ := at_rel r e
      exact ix_list value slice pins s σ H _ _ v u Q I rx ry ⟨p, vs, i, w, rfl, rfl, .inl h1, e1, done q2 S r1⟩ hs
    · rename_i lk l eg
      cases rx
      obtain ⟨c, q2⟩ := post_bif q
      obtain ⟨z, e, q3⟩ := post_opt q2
      obtain ⟨H', o, I', S', le, g, eo⟩ := dict_get I S ea eg c rb
      obtain ⟨w, rfl, r1⟩ := dget_of eo e
      have hu := K.g.room.units
      exact tail_any (ops := [.ref p, u]) (dict_typeIs I' g) PySem.F.slot_dict_getitem.lookup (d_getItem (by omega) I' g ry fun w' s3 I3 rw' => ⟨w, H', I3, rw', q3 ρ w H' le S' r1⟩) hs
    · exact q.elim
  | non => exact q.elim
  | bl _ => exact q.elim
  | int _ => exact q.elim
  | ty _ => exact q.elim
theorem re_idx {a b : Expr} {ma mb : ME} {pos : Pos} (ho : IxOk Z X W getIx) (ha : PE X a (RdE Z ma W)) (hb : PE X b (RdE Z mb W)) (hs : PlainIx b) : PE X (.Subscript a b pos) (RdE Z (mIdx ma mb) W) := by
  refine ⟨fun pins s σ H Q I ⟨ρ, env, h, S, E, q⟩ => ?_⟩
  refine Subscript_ (PE.go ha I S E q fun u s1 x H1 ρ1 v h1 I1 rx le S1 E1 r q1 => ?_)
  refine PE.go hb I1 S1 E1 q1 fun u2 s2 y H2 ρ2 v2 h2 I2 ry le2 S2 E2 r2 q2 => ?_
  exact ho a b pins s2 σ H2 ρ2 h2 v v2 x y u u2 Q I2 S2 rx ry (r.mono le2) r2 q2 (hs _ _)

/-! ### slices -/
/-- a part of a slice: nothing, or an int -/
def RelP : D → Option Int → Prop
  | .non, o => o = none
  | .int i, o => o = some i
  | _, _ => False
def RdP (Z : Wl) (m : ME) (W : WX) : TO := fun σ H Q => ∃ ρ env h, Sim Z.L ρ h H ∧ RelE Z.L ρ H env σ ∧ Post Z.L (fun _ _ d o => RelP d o) ρ H (m env h) Q (Wat W σ)
theorem rp_none : PO X none (RdP Z (mCst .non) W) := ⟨fun pins s σ H Q I ⟨ρ, env, h, S, E, q⟩ => po_none.run pins s σ H Q I (q ρ none H Le.refl S rfl)⟩
theorem cutAt_eq {n : Nat} {x : D} {dfl j : Nat} {o : Option Int} (e : cutAt n x dfl = some j) (r : RelP x o) : HT.sIx n dfl o = j := by
  cases x <;> first | (exact r.elim) | skip
  · cases r; cases e; rfl
  · cases r
    rename_i i
    cases i with
    | ofNat m =>
      cases e
      show (if (Int.ofNat m : Int) < 0 then ((Int.ofNat m : Int) + (n : Int)).toNat else min (Int.ofNat m).toNat n) = _
      rw [if_neg (by simp)]
      show min m n = bif Nat.ble m n then m else n
      cases q : Nat.ble m n with
      | true => have : m ≤ n := Nat.le_of_ble_eq_true q; simp only [cond_true]; omega
      | false =>
        have : ¬ m ≤ n := fun z => by rw [Nat.ble_eq_true_of_le z] at q; cases q
        simp only [cond_false]; omega
    | negSucc m =>
      cases e
      show (if (Int.negSucc m : Int) < 0 then (Int.negSucc m + (n : Int)).toNat else min (Int.negSucc m).toNat n) = n - (m + 1)
      rw [if_pos (by omega)]
      omega
theorem rp_some {e : Expr} {m : ME} (he : PE X e (RdE Z m W)) : PO X (some e) (RdP Z (mPrt m) W) := by
  refine ⟨fun pins s σ H Q I ⟨ρ, env, h, S, E, q⟩ => (po_some he).run pins s σ H Q I (RdE.to S E q fun x H1 ρ1 v h1 le S1 E1 r q1 => ?_)⟩
  cases r <;> first | exact q1.elim | skip
  exact ⟨_, rfl, q1 ρ1 _ H1 Le.refl S1 rfl⟩
theorem cut_rel {l : List D} {vs : List V} (r : RelL Z.L ρ H l vs) {lo hi : D} {o1 o2 : Option Int} (p1 : RelP lo o1) (p2 : RelP hi o2) {l' : List D} (e : cut l lo hi = some l') : RelL Z.L ρ H l' (cutV vs o1 o2) := by
  unfold cut at e
  split at e
  · rename_i a b e1 e2
    cases e
    unfold cutV
    rw [r.length, cutAt_eq e1 p1, cutAt_eq e2 p2]
    exact (r.drop a).take (b - a)
  · cases e
theorem PO.go {e : Option Expr} {m : ME} {env : Env} (he : PO X e (RdP Z m W)) (I : Inv X pins σ H s) (S : Sim Z.L ρ h H) (E : RelE Z.L ρ H env σ)
    {α β : Type} {R : Rho → Hp → α → β → Prop} {c : D → Hv → Res α} {Q : β → Hp → Prop} (q : Post Z.L R ρ H ((m env h).bind c) Q (Wat W σ)) {QQ : Value → Shared → Prop}
    (next : ∀ u s1 o H1 ρ1 v h1, Inv X pins σ H1 s1 → IsPart u o → Le ρ H ρ1 H1 → Sim Z.L ρ1 h1 H1 → RelE Z.L ρ1 H1 env σ → RelP v o → Post Z.L R ρ1 H1 (c v h1) Q (Wat W σ) → QQ u s1) : wpAny (model X.prog X.w) X.A (evalPart e X.env) QQ X.xe s :=
  thn (he.run pins s σ H _ I ⟨ρ, env, h, S, E, Post.bind (R := fun _ _ d o => RelP d o) q⟩) fun u s1 ⟨o, H1, I1, po, ρ1, v, h1, _, le, S1, r, q1⟩ => next u s1 o H1 ρ1 v h1 I1 po le S1 (E.mono le) r q1
theorem sl_post {r : V → Option Int → Option Int → Hp → VK → Prop} (hr : SlR X r) {x : V} {v vl vu : Value} {o1 o2 : Option Int} {sl : Addr} {Q : VK} (I : Inv X pins σ H s) (rx : RelV x v) (hs : s.heap.IsSliceOf sl vl vu .none) (pl : IsPart vl o1) (pu : IsPart vu o2) (q : r x o1 o2 H Q) {value slice : Expr}
    (hsub : subscripted slice false v (.ref sl) = operate [.ref sl, v] (getItem v (.ref sl))) : wpAny (model X.prog X.w) X.A (subscriptTail value slice v (.ref sl)) (EP X pins σ Q) X.xe s := by
  obtain ⟨T, id, hT, ht, hg⟩ := hr pins s σ H x v vl vu o1 o2 sl Q I rx hs pl pu q
  exact tail_any (ops := [.ref sl, v]) ht hT hg hsub
theorem re_sli {e : Expr} {lo hi : Option Expr} {m ml mh : ME} {p2 pos : Pos} (he : PE X e (RdE Z m W)) (hl : PO X lo (RdP Z ml W)) (hu : PO X hi (RdP Z mh W)) (K : Kt Z atts k d X W) : PE X (.Subscript e (.Slice lo hi none p2) pos) (RdE Z (mSli m ml mh) W) := by
  refine ⟨fun pins s σ H Q I ⟨ρ, env, h, S, E, q⟩ => Subscript_ (PE.go he I S E q fun v s1 x H1 ρ1 a h1 I1 r1 le S1 E1 ra q1 => ?_)⟩
  refine wpAny_Slice (PO.go hl I1 S1 E1 q1 fun vl s2 l H2 ρ2 dl h2 I2 pl le2 S2 E2 rl q2 => PO.go hu I2 S2 E2 q2 fun vu s3 u H3 ρ3 dh h3 I3 pu le3 S3 E3 rh q3 => ?_)
  rw [evalPart_none]
  refine wpAny_pure ?_
  skip; have I4 : Inv X pins σ H3 { s3 with heap := s3.heap.push { cls := .type "slice", data := .fields #[vl, vu, .none] } } := I3.kept (t' := s3.toks) fun b ob q => Heap.get?_push_of_some _ q
  have hs : Heap.IsSliceOf (s3.heap.push { cls := .type "slice", data := .fields #[vl, vu, .none] }) s3.heap.objs.size vl vu .none := Heap.IsSliceOf.new ..
  have sub : subscripted (.Slice lo hi none p2) false v (.ref s3.heap.objs.size) = operate [.ref s3.heap.objs.size, v] (getItem v (.ref s3.heap.objs.size)) := by with_unfolding_all rfl
  have ra3 := (ra.mono le2).mono le3
  skip; show wpAny (model X.prog X.w) X.A (subscriptTail e (.Slice lo hi none p2) v (.ref s3.heap.objs.size)) (EP X pins σ Q) X.xe { s3 with heap := s3.heap.push { cls := .type "slice", data := .fields #[vl, vu, .none] } }
  cases ra3 with
  | str t =>
    obtain ⟨c, q4⟩ := post_bif (r := opt ((cut t dl dh).map D.str) h3) q3
    obtain ⟨z, e1, q5⟩ := post_opt q4
    obtain ⟨t', e2, rfl⟩ := Option.map_eq_some_iff.mp e1
    refine sl_post sl_str I4 r1 hs pl pu ⟨_, rfl, by rw [toS_length]; exact ble_line c, ?_⟩ sub
    have e3 : cutS (toS t) l u = toS t' := by
      unfold cut at e2
      split at e2
      · rename_i x1 x2 y1 y2
        cases e2
        unfold cutS
        rw [toS_length, cutAt_eq y1 rl, cutAt_eq y2 rh]
        rfl
      · cases e2
    rw [e3]
    exact done q5 S3 (.str _)
  | @tup l1 p vs t r =>
    obtain ⟨z, e1, q5⟩ := post_opt (o := (cut l1 dl dh).map D.tup) q3
    obtain ⟨t', e2, rfl⟩ := Option.map_eq_some_iff.mp e1
    have rc := cut_rel r rl rh e2
    refine sl_post sl_tupA I4 r1 hs pl pu ⟨p, vs, rfl, tpX K t, fun wh => ?_, fun _ p3 hp => post_tup q5 S3 rc hp⟩ sub
    have e3 : cutV vs l u = vs := by
      unfold cutV
      rw [wh.1, wh.2]
      simp
    rw [e3] at rc
    exact done q5 S3 (.tup t rc)
  | @ref p0 p ea =>
    have q3 : PostD Z.L ρ3 H3 (match h3.get p0 with
      | some (.lst l) => newCut (cut l dl dh) h3
      | some (.fro l) => newCut (cut l dl dh) h3
      | _ => .bad) Q (Wat W σ) := q3
    split at q3
    · rename_i l1 eg
      obtain ⟨vs, g1, r⟩ := S3.lst ea eg
      unfold newCut at q3
      split at q3
      · rename_i l2 e2
        exact sl_post sl_list I4 r1 hs pl pu ⟨p, vs, rfl, sql X g1, fun p3 hp => post_new q3 S3 (cut_rel r rl rh e2) hp⟩ sub
      · exact q3.elim
    · rename_i l1 eg
      obtain ⟨vs, g1, r⟩ := S3.fro ea eg
      unfold newCut at q3
      split at q3
      · rename_i l2 e2
        exact sl_post sl_list I4 r1 hs pl pu ⟨p, vs, rfl, .inl g1, fun p3 hp => post_new q3 S3 (cut_rel r rl rh e2) hp⟩ sub
      · exact q3.elim
    · exact q3.elim
  | non => exact q3.elim
  | bl _ => exact q3.elim
  | int _ => exact q3.elim
  | ty _ => exact q3.elim
theorem re_rev {e : Expr} {m : ME} {k1 : Nat} {p1 p2 p3 pos : Pos} (he : PE X e (RdE Z m W)) : PE X (.Subscript e (.Slice none none (some (.UnaryOp .USub (.Constant (.int 1) k1 p1) p2)) p3) pos) (RdE Z (mRev m) W) := by
  refine ⟨fun pins s σ H Q I ⟨ρ, env, h, S, E, q⟩ => (pe_revL he).run pins s σ H Q I (RdE.to S E q fun x H1 ρ1 v h1 le S1 E1 r q1 => ?_)⟩
  cases r <;> first | exact q1.elim | skip
  rename_i p0 p ea
  unfold revV at q1
  simp only at q1
  split at q1
  · rename_i l eg
    obtain ⟨vs, g1, r⟩ := S1.lst ea eg
    exact ⟨p, vs, rfl, sql X g1, fun p3 hp => post_new q1 S1 r.reverse hp⟩
  · exact q1.elim
end
end TB

/-! TB, the link: chains of comparisons. -/
namespace TB
open L2 PySem PyProof.Rows PySem.Spec
def copOf : CmpOp → Cop
  | .Eq => .eq
  | .NotEq => .ne
  | .Lt => .lt
  | .LtE => .le
  | .Gt => .gt
  | .GtE => .ge
  | .Is => .isn
  | .IsNot => .isnot
  | .In => .mem
  | .NotIn => .nmem
section
variable {Z : Wl} {atts : List Nat} {k d : Nat} {X : Cx} {W : WX} {pins : List (Addr × Obj)} {σ : St} {H : Hp} {s : Shared} {ρ : Rho} {h : Hv} {env : Env}
theorem cm_ok (K : Kt Z atts k d X W) (op : CmpOp) : CmOk Z X W op (cmpR (copOf op)) := by
  cases op
  · exact eq_ok K
  · exact ne_ok K
  · exact lt_ok K
  · exact le_ok
  · exact gt_ok
  · exact ge_ok
  · exact is_ok
  · exact isnot_ok
  · exact mem_ok K
  · exact nmem_ok K
/-- a comparison's rest: as a value, as a test -/
structure PCh (Z : Wl) (X : Cx) (W : WX) (ops : List CmpOp) (rs : List Expr) (m : MC) (os : List Cop) : Prop where
  val : ∀ (pos : Pos) (pins : List (Addr × Obj)) (s : Shared) (σ : St) (H : Hp) (ρ : Rho) (env : Env) (h : Hv) (a : D) (x : V) (v : Value) (Q : VK), Inv X pins σ H s → Sim Z.L ρ h H → RelE Z.L ρ H env σ → RelV x v → RelD Z.L ρ H a x → PostD Z.L ρ H (m a os env h) Q (Wat W σ) →
    wpAny (model X.prog X.w) X.A (compareChain pos v ops (evalEach rs X.env)) (EP X pins σ Q) X.xe s
  tst : ∀ (pos : Pos) (pins : List (Addr × Obj)) (s : Shared) (σ : St) (H : Hp) (ρ : Rho) (env : Env) (h : Hv) (a : D) (x : V) (v : Value) (Q : VK) (R : Bool → Hp → Prop), Inv X pins σ H s → Sim Z.L ρ h H → RelE Z.L ρ H env σ → RelV x v → RelD Z.L ρ H a x → PostD Z.L ρ H (m a os env h) Q (Wat W σ) → (∀ b H', Q (.bl b) H' → R b H') →
    wpAny (model X.prog X.w) X.A (testChain pos v ops (evalEach rs X.env)) (TP X pins σ R) X.xe s
theorem truthy_bool {A : Around} {prog : Program} {w : World} {b : Bool} {Q : Bool → Shared → Prop} {E : Value → Shared → Prop} (q : Q b s) : wpAny (model prog w) A (PySem.truthy (.bool b)) Q E s := wpAny_pure q
theorem ch_one (K : Kt Z atts k d X W) {op : CmpOp} {e : Expr} {m : ME} {r : MC} (he : PE X e (RdE Z m W)) : PCh Z X W [op] [e] (cCons m r) [copOf op] := by
  constructor
  · intro pos pins s σ H ρ env h a x v Q I S E rx ra q
    refine chain_last (PE.go he I S E q fun u s1 y H1 ρ1 b h1 I1 ry le S1 E1 rb q1 => ?_)
    refine thn (cm_ok K op pins s1 σ H1 ρ1 h1 a b x y v u _ I1 S1 rx ry (ra.mono le) rb (Post.bind q1)) fun c s2 ⟨t, H2, ec, I2, ρ2, t', h2, _, le2, S2, et, q2⟩ => ?_
    cases et; subst ec
    exact ep I2 (x := .bl t) rfl S2 (.bl _) q2
  · intro pos pins s σ H ρ env h a x v Q R I S E rx ra q qr
    refine test_last (PE.go he I S E q fun u s1 y H1 ρ1 b h1 I1 ry le S1 E1 rb q1 => ?_)
    refine thn (cm_ok K op pins s1 σ H1 ρ1 h1 a b x y v u _ I1 S1 rx ry (ra.mono le) rb (Post.bind q1)) fun c s2 ⟨t, H2, ec, I2, ρ2, t', h2, _, le2, S2, et, q2⟩ => ?_
    cases et; subst ec
    exact truthy_bool ⟨H2, I2, qr _ _ (done q2 S2 (.bl _))⟩
theorem ch_cons (K : Kt Z atts k d X W) {op op' : CmpOp} {ops : List CmpOp} {e e' : Expr} {es : List Expr} {m : ME} {r : MC} {os : List Cop} (he : PE X e (RdE Z m W)) (hr : PCh Z X W (op' :: ops) (e' :: es) r (copOf op' :: os)) :
    PCh Z X W (op :: op' :: ops) (e :: e' :: es) (cCons m r) (copOf op :: copOf op' :: os) := by
  constructor
  · intro pos pins s σ H ρ env h a x v Q I S E rx ra q
    refine chain_link (PE.go he I S E q fun u s1 y H1 ρ1 b h1 I1 ry le S1 E1 rb q1 => ?_)
    refine thn (cm_ok K op pins s1 σ H1 ρ1 h1 a b x y v u _ I1 S1 rx ry (ra.mono le) rb (Post.bind q1)) fun c s2 ⟨t, H2, ec, I2, ρ2, t', h2, _, le2, S2, et, q2⟩ => ?_
    cases et; subst ec
    refine truthy_bool ?_
    cases t with
    | true => exact hr.val pos pins s2 σ H2 ρ2 env h2 b y u Q I2 S2 (E1.mono le2) ry (rb.mono le2) q2
    | false => exact ep I2 (x := .bl false) rfl S2 (.bl _) q2
  · intro pos pins s σ H ρ env h a x v Q R I S E rx ra q qr
    refine test_link (PE.go he I S E q fun u s1 y H1 ρ1 b h1 I1 ry le S1 E1 rb q1 => ?_)
    refine thn (cm_ok K op pins s1 σ H1 ρ1 h1 a b x y v u _ I1 S1 rx ry (ra.mono le) rb (Post.bind q1)) fun c s2 ⟨t, H2, ec, I2, ρ2, t', h2, _, le2, S2, et, q2⟩ => ?_
    cases et; subst ec
    refine truthy_bool ?_
    cases t with
    | true => exact hr.tst pos pins s2 σ H2 ρ2 env h2 b y u Q R I2 S2 (E1.mono le2) ry (rb.mono le2) q2 qr
    | false => exact ⟨H2, I2, qr _ _ (done q2 S2 (.bl _))⟩
theorem isTrue_ch {M : Model} {A : Around} {E : Value → Shared → Prop} {l : Expr} {ops : List CmpOp} {rs : List Expr} {pos : Pos} {en : PySem.Env} {Q : Bool → Shared → Prop} {whole : Sem Value} (h2 : 2 ≤ ops.length) (hl : ops.length = rs.length) (hm : lastMarks ops rs = false)
    (h : wpAny M A (eval l en) (fun a s₁ => wpAny M A (testChain pos a ops (evalEach rs en)) Q E s₁) E s) : wpAny M A (isTrue (.Compare l ops rs pos) en whole) Q E s := by
  match ops, rs, h2, hl, hm, h with
  | _ :: _ :: _, _ :: _ :: _, _, _, hm, h => exact isTrue_chain h hm
theorem eval_ch {M : Model} {A : Around} {E : Value → Shared → Prop} {l : Expr} {ops : List CmpOp} {rs : List Expr} {pos : Pos} {en : PySem.Env} {Q : Value → Shared → Prop} (h2 : 2 ≤ ops.length) (hl : ops.length = rs.length) (hm : lastMarks ops rs = false)
    (h : wpAny M A (eval l en) (fun a s₁ => wpAny M A (compareChain pos a ops (evalEach rs en)) Q E s₁) E s) : wpAny M A (eval (.Compare l ops rs pos) en) Q E s := by
  match ops, rs, h2, hl, hm, h with
  | _ :: _ :: _, _ :: _ :: _, _, _, hm, h => exact Compare_chain h hm
theorem re_cmpN {l : Expr} {ops : List CmpOp} {rs : List Expr} {pos : Pos} {ml : ME} {r : MC} {os : List Cop} (hl : PE X l (RdE Z ml W)) (hr : PCh Z X W ops rs r os) (h2 : 2 ≤ ops.length) (hn : ops.length = rs.length) (hm : lastMarks ops rs = false) : PE X (.Compare l ops rs pos) (RdE Z (mCmp ml os r) W) :=
  ⟨fun pins s σ H Q I ⟨ρ, env, h, S, E, q⟩ => eval_ch h2 hn hm (PE.go hl I S E q fun u s1 x H1 ρ1 v h1 I1 rx le S1 E1 r1 q1 => hr.val pos pins s1 σ H1 ρ1 env h1 v x u Q I1 S1 E1 rx r1 q1)⟩
theorem tru_bl {T : Tab} {call : Call} {m : ME} {Q : Bool → Hp → Prop} {Wk : WK} (q : PostB Z.L ρ H ((m env h).bind fun x h => TB.truthy T call x h) Q Wk) : PostD Z.L ρ H (m env h) (fun x H' => ∀ b, x = .bl b → Q b H') Wk :=
  (Post.bind q).imp (fun x H1 ⟨ρ1, v, h1, _, le, S1, r1, q1⟩ b e => by
    subst e
    cases r1
    exact doneB q1 S1) fun _ _ _ z => z
theorem bind_self {α β : Type} {R : Rho → Hp → α → β → Prop} {r : Res α} {Q : β → Hp → Prop} {Wk : WK} (q : Post Z.L R ρ H r Q Wk) : Post Z.L R ρ H (r.bind fun a h => .ok a h) Q Wk := by cases r <;> exact q
theorem rt_cmpN {T : Tab} {call : Call} {l : Expr} {ops : List CmpOp} {rs : List Expr} {pos : Pos} {ml : ME} {r : MC} {os : List Cop} (hl : PE X l (RdE Z ml W)) (hr : PCh Z X W ops rs r os) (h2 : 2 ≤ ops.length) (hn : ops.length = rs.length) (hm : lastMarks ops rs = false) : PT X (.Compare l ops rs pos) (RdT Z (mTru T call (mCmp ml os r)) W) :=
  ⟨fun pins s σ H Q I ⟨ρ, env, h, S, E, q⟩ => isTrue_ch h2 hn hm (PE.go hl I S E (tru_bl (m := mCmp ml os r) q) fun u s1 x H1 ρ1 v h1 I1 rx le S1 E1 r1 q1 => hr.tst pos pins s1 σ H1 ρ1 env h1 v x u _ Q I1 S1 E1 rx r1 q1 fun b H' z => z b rfl)⟩
theorem re_cmp1 (K : Kt Z atts k d X W) {l e : Expr} {op : CmpOp} {pos : Pos} {ml me : ME} {r : MC} (hl : PE X l (RdE Z ml W)) (he : PE X e (RdE Z me W)) (hm : behindInMarks op e = false) : PE X (.Compare l [op] [e] pos) (RdE Z (mCmp ml [copOf op] (cCons me r)) W) :=
  ⟨fun pins s σ H Q I ⟨ρ, env, h, S, E, q⟩ => wpAny_Compare1 (PE.go hl I S E q fun u s1 x H1 ρ1 v h1 I1 rx le S1 E1 r1 q1 => PE.go he I1 S1 E1 q1 fun u2 s2 y H2 ρ2 v2 h2 I2 ry le2 S2 E2 r2 q2 =>
    thn (cm_ok K op pins s2 σ H2 ρ2 h2 v v2 x y u u2 _ I2 S2 rx ry (r1.mono le2) r2 (Post.bind q2)) fun c s3 ⟨t, H3, ec, I3, ρ3, t', h3, _, le3, S3, et, q3⟩ => by
      cases et; subst ec
      exact ep I3 (x := .bl t) rfl S3 (.bl _) q3) hm⟩
theorem rt_cmp1 (K : Kt Z atts k d X W) {T : Tab} {call : Call} {l e : Expr} {op : CmpOp} {pos : Pos} {ml me : ME} {r : MC} (hl : PE X l (RdE Z ml W)) (he : PE X e (RdE Z me W)) (hm : behindInMarks op e = false) : PT X (.Compare l [op] [e] pos) (RdT Z (mTru T call (mCmp ml [copOf op] (cCons me r))) W) :=
  ⟨fun pins s σ H Q I ⟨ρ, env, h, S, E, q⟩ => wpAny_isTrue_Compare1 (PE.go hl I S E (tru_bl (m := mCmp ml [copOf op] (cCons me r)) q) fun u s1 x H1 ρ1 v h1 I1 rx le S1 E1 r1 q1 => PE.go he I1 S1 E1 q1 fun u2 s2 y H2 ρ2 v2 h2 I2 ry le2 S2 E2 r2 q2 =>
    thn (cm_ok K op pins s2 σ H2 ρ2 h2 v v2 x y u u2 _ I2 S2 rx ry (r1.mono le2) r2 (Post.bind q2)) fun c s3 ⟨t, H3, ec, I3, ρ3, t', h3, _, le3, S3, et, q3⟩ => by
      cases et; subst ec
      exact truthy_bool ⟨H3, I3, done q3 S3 (.bl _) t rfl⟩) hm⟩
end
end TB

/-! TB, the link: attributes, calls, methods, makings. -/
namespace TB
open L2 PySem PyProof.Rows PySem.Spec
/-- no bare super() -/
def noSup : Expr → Bool
  | .Call (.Name id _) [] [] _ => id != ("super" : Str)
  | _ => true
theorem base_plain {o : Expr} {attr : Str} {env : PySem.Env} {whole : Sem Value} (h : noSup o = true) : attributeBase o attr env whole = whole := by
  unfold attributeBase
  split
  · rename_i id _ _
    have h' : (id != ("super" : Str)) = true := h
    simp [h']
  · rfl
def plainArgs : List Expr → Bool
  | [] => true
  | e :: r => noStar e && plainArgs r
theorem any_plain {pos : Pos} {env : PySem.Env} : ∀ {es : List Expr}, plainArgs es = true → (backTo pos (starEach es env)).any (·.1) = false
  | [], _ => rfl
  | e :: r, h => by
    obtain ⟨h1, h2⟩ := Bool.and_eq_true_iff.mp h
    rw [starEach_cons h1]
    show (false || (backTo pos (starEach r env)).any (·.1)) = false
    rw [any_plain h2]; rfl
theorem all_plain {pos : Pos} {env : PySem.Env} : ∀ {es : List Expr}, plainArgs es = true → (backTo pos (starEach es env)).all (fun x => !x.1) = true
  | [], _ => rfl
  | e :: r, h => by
    obtain ⟨h1, h2⟩ := Bool.and_eq_true_iff.mp h
    rw [starEach_cons h1]
    show (true && (backTo pos (starEach r env)).all fun x => !x.1) = true
    rw [all_plain h2]; rfl

section
variable {Z : Wl} {atts : List Nat} {k d : Nat} {X : Cx} {W : WX} {pins : List (Addr × Obj)} {σ : St} {H : Hp} {s : Shared} {ρ : Rho} {h : Hv} {env : Env}
/-! ### fields -/
theorem post_nox {α β : Type} {R : Rho → Hp → α → β → Prop} {r : Res α} {Q : β → Hp → Prop} {Wk Wk' : WK} (q : Post Z.L R ρ H (nox r) Q Wk) : Post Z.L R ρ H r Q Wk' := by
  cases r with
  | ok a h' => exact q
  | exc c vs h' => exact q.elim
  | bad => exact q
theorem RelF.put {atts : List Nat} (C : ClsOk Z atts) {fs : List (Nat × D)} {gs : List (Str × V)} {f : Nat} {dv : D} {v : V} (R : RelF Z.L ρ H fs gs) (r : RelD Z.L ρ H dv v) : RelF Z.L ρ H (putN f dv fs) (putF (Z.L.nm f) v gs) := by
  have klen : ∀ l : List (Nat × D), (putN f dv l).length = if (lookN f l).isSome then l.length else l.length + 1 := by
    intro l
    induction l with
    | nil => rfl
    | cons p t ih =>
      unfold putN lookN
      cases q : Nat.beq p.1 f with
      | true => rfl
      | false =>
        show (putN f dv t).length + 1 = _
        rw [ih]
        show _ = if (lookN f t).isSome = true then t.length + 1 else t.length + 1 + 1
        split <;> rfl
  have glen : ∀ l : List (Str × V), (putF (Z.L.nm f) v l).length = if (l.lookup (Z.L.nm f)).isSome then l.length else l.length + 1 := by
    intro l
    induction l with
    | nil => rfl
    | cons p t ih =>
      unfold putF List.lookup
      by_cases q : Z.L.nm f = p.1
      · have q' : (Z.L.nm f == p.1) = true := by rw [q]; exact beq_self_eq_true _
        simp [q, q']
      · have q' : (Z.L.nm f == p.1) = false := by simpa using q
        have q2 : ¬ p.1 = Z.L.nm f := fun z => q z.symm
        simp only [q', if_neg q2, q2]
        first
          | (show (putF (Z.L.nm f) v t).length + 1 = _
             rw [ih]
             split <;> rfl)
          | (simp only [if_false, List.length_cons, ih]
             split <;> rfl)
  refine ⟨fun k dd e => ?_, fun x w e => ?_, ?_⟩
  · rw [lookN_putN] at e
    rw [lookup_putF]
    by_cases q : k = f
    · subst q
      rw [if_pos rfl] at e ⊢
      cases e
      exact ⟨v, rfl, r⟩
    · rw [if_neg q] at e
      rw [if_neg fun z => q (C.inj _ _ z)]
      exact R.1 k dd e
  · rw [lookup_putF] at e
    by_cases q : x = Z.L.nm f
    · refine ⟨f, dv, q, ?_⟩
      rw [lookN_putN, if_pos rfl]
    · rw [if_neg q] at e
      obtain ⟨j, dd, e1, e2⟩ := R.2.1 x w e
      refine ⟨j, dd, e1, ?_⟩
      rw [lookN_putN, if_neg fun z => q (by rw [e1, z])]
      exact e2
  · rw [klen, glen]
    have h3 := R.2.2
    cases e1 : lookN f fs with
    | some dd =>
      obtain ⟨w, e2, _⟩ := R.1 f dd e1
      rw [e2]; exact h3
    | none =>
      cases e2 : gs.lookup (Z.L.nm f) with
      | none => exact Nat.succ_le_succ h3
      | some w => exact Nat.le_succ_of_le h3
theorem att_ok (K : Kt Z atts k d X W) {f : Nat} (hf : f ∈ atts) {b : Bool} (I : Inv X pins σ H s) (S : Sim Z.L ρ h H) {a : D} {x : V} {v : Value} {Q : VK} (rx : RelV x v) (ra : RelD Z.L ρ H a x) (q : PostD Z.L ρ H (getAtt Z.L.T (cl Z d) a f h) Q (Wat W σ)) :
    wpAny (model X.prog X.w) X.A (getAttr v (Z.L.nm f) b) (EP X pins σ Q) X.xe s := by
  cases ra <;> first | exact q.elim | skip
  rename_i p0 p ea
  cases rx
  unfold getAtt at q
  simp only at q
  split at q
  · rename_i c fs eg
    obtain ⟨dx, gs, eH, R, z⟩ := S.ins ea eg
    obtain ⟨cl1, e1, C, em⟩ := S.insC K.cs ea eg
    split at q
    · rename_i g e2
      rw [em] at e2
      obtain ⟨⟨pp, hp⟩, ng⟩ := C.prop f g e2
      have q := post_nox (Wk' := fun _ _ _ => False) q
      obtain ⟨F, ws, eF, ew⟩ := callF_some (post_ne q)
      obtain ⟨fd, ps, LK, OK⟩ := K.fo g F eF (ng F eF)
      obtain ⟨hl, r2, e3, ews⟩ := fill_split _ _ _ _ ew
      obtain ⟨dvs, dd, hb, hv, hr⟩ := LK.binds _ r2 hl e3
      rw [← K.g.K] at hb
      have rr : RelL Z.L ρ H ws (.ref p :: dvs) := by rw [ews]; exact (RelL.one (.ref ea)).append (hr ρ H)
      refine getprop_ok I eH (by rw [K.g.K]; exact C.cls) (by rw [K.g.K]; exact hp) (K.g.fn OK) (K.g.room.mono K.hk) hb hv (E := fun _ _ _ => False) (fun _ _ _ _ _ _ _ ⟨_, _, _, _, _, _, _, _, _, _, _, _, z⟩ => z) ⟨?_, ρ, ws, h, S, rr, ?_⟩
      · rw [rr.length, fill_len _ _ _ _ ew]
      · rw [callF_fill eF ew]; exact q
    · exact q.elim
    · rename_i e2
      obtain ⟨dv, e3, q2⟩ := post_opt q
      obtain ⟨w, e4, r4⟩ := R.1 f dv e3
      rw [em] at e2
      exact getattr_ok I eH (by rw [K.g.K]; exact C.cls) (by rw [K.g.K]; exact C.noat f hf e2) e4 fun u s2 I2 ru => ep I2 ru S r4 q2
  · exact q.elim
theorem re_att (K : Kt Z atts k d X W) {e : Expr} {m : ME} {f : Nat} {fn : Str} {pos : Pos} (he : PE X e (RdE Z m W)) (hf : f ∈ atts) (hn : fn = Z.L.nm f) (hb : noSup e = true) : PE X (.Attribute e fn pos) (RdE Z (mAtt Z.L.T (cl Z d) m f) W) := by
  subst hn
  exact ⟨fun pins s σ H Q I ⟨ρ, env, h, S, E, q⟩ => attr_of (base_plain hb) (PE.go he I S E q fun u s1 x H1 ρ1 v h1 I1 rx le S1 E1 r q1 => att_ok K hf I1 S1 rx r q1)⟩
theorem sat_ok (K : Kt Z atts k d X W) {f : Nat} (hf : f ∈ atts) (I : Inv X pins σ H s) (S : Sim Z.L ρ h H) {a dv : D} {x y : V} {v u : Value} (rx : RelV x v) (ry : RelV y u) (ra : RelD Z.L ρ H a x) (rd : RelD Z.L ρ H dv y) {Q : Unit → Hp → Prop} (q : PostU Z.L ρ H (setAtt Z.L.T a f dv h) Q (Wat W σ)) :
    wpAny (model X.prog X.w) X.A (setAttr v (Z.L.nm f) u) (fun _ s' => ∃ H', Inv X pins σ H' s' ∧ Q () H') X.xe s := by
  cases ra <;> first | exact q.elim | skip
  rename_i p0 p ea
  cases rx
  unfold setAtt at q
  simp only at q
  split at q
  · rename_i c fs eg
    obtain ⟨dx, gs, eH, R, z⟩ := S.ins ea eg
    obtain ⟨cl1, e1, C, em⟩ := S.insC K.cs ea eg
    split at q
    · exact q.elim
    · rename_i e2
      obtain ⟨hz, q2⟩ := post_bif q
      have hz := Nat.lt_of_lt_of_le (Nat.lt_succ_of_le (Nat.le_refl _)) (Nat.le_of_ble_eq_true hz)
      have e2' := e2
      rw [em] at e2'
      have le : Le ρ H ρ (upd H p (.ins (Z.L.cA c) dx (putF (Z.L.nm f) y gs))) := S.le_put ea (.of eH)
      refine setattr_ok I eH (by rw [K.g.K]; exact C.cls) (by rw [K.g.K]; exact C.noat f hf e2') (by have := R.2.2; omega) ry fun s' I' => ⟨_, I', ?_⟩
      refine q2 ρ () _ le (S.put ea trivial ⟨⟨dx, _, upd_same, (RelF.put K.cs R rd).mono le⟩, fun k dd e => ?_, ?_⟩) trivial
      · rw [lookN_putN] at e
        by_cases qk : k = f
        · rw [qk]; exact e2
        · rw [if_neg qk] at e; exact z k dd e
      · exact (S.at ea eg).2.2
  · exact q.elim

/-! ### calls -/
/-- arguments -/
structure AsOk (Z : Wl) (X : Cx) (W : WX) (es : List Expr) (ms : ML) : Prop where
  pa : PA X es (RdL Z ms W)
  pl : plainArgs es = true
  nil : es = [] → ∀ σ h, ms σ h = .ok [] h
theorem as_nil : AsOk Z X W [] mNil := ⟨ra_nil, rfl, fun _ _ _ => rfl⟩
theorem as_cons {e : Expr} {es : List Expr} {m : ME} {ms : ML} (he : PE X e (RdE Z m W)) (hs : AsOk Z X W es ms) (hn : noStar e = true) : AsOk Z X W (e :: es) (mCons m ms) :=
  ⟨ra_cons he hs.pa hn, by show (noStar e && plainArgs es) = true; rw [hn, hs.pl]; rfl, fun z => nomatch z⟩
/-- call a value that K keeps with given arguments -/
theorem with_plain {fv : Value} {first : List Value} {es : List Expr} {ms : ML} {pos : Pos} (ha : AsOk Z X W es ms) (hk : PySem.W.keepIn X.K fv = true) (I : Inv X pins σ H s) (S : Sim Z.L ρ h H) (E : RelE Z.L ρ H env σ)
    {α β : Type} {R : Rho → Hp → α → β → Prop} {c : List D → Hv → Res α} {Q : β → Hp → Prop} (q : Post Z.L R ρ H ((ms env h).bind c) Q (Wat W σ)) {QQ : Value → Shared → Prop}
    (next : ∀ us s1 xs H1 ρ1 vs h1, Inv X pins σ H1 s1 → Vals xs us → Le ρ H ρ1 H1 → Sim Z.L ρ1 h1 H1 → RelE Z.L ρ1 H1 env σ → RelL Z.L ρ1 H1 vs xs → Post Z.L R ρ1 H1 (c vs h1) Q (Wat W σ) → wpAny (model X.prog X.w) X.A (call fv (first ++ us)) QQ X.xe s1) :
    wpAny (model X.prog X.w) X.A (callWith pos fv first (backTo pos (starEach es X.env)) []) QQ X.xe s := by
  cases es with
  | nil =>
    rw [ha.nil rfl] at q
    exact PySem.W.callWith_K0 I.kIn hk (next [] s [] H ρ [] h I .nil Le.refl S E .nil q)
  | cons e es =>
    obtain ⟨h1, h2⟩ := Bool.and_eq_true_iff.mp ha.pl
    refine PySem.W.callWith_K (h₀ := X.base) I.ok.mod.kin hk (PA.go ha.pa pos I S E q fun us s1 xs H1 ρ1 vs h1 I1 r le S1 E1 rl q1 => ⟨I1.kIn, next us s1 xs H1 ρ1 vs h1 I1 r le S1 E1 rl q1⟩) (starEach_cons h1) (any_plain h2)
theorem with_blt {id : String} {first : List Value} {es : List Expr} {ms : ML} {pos : Pos} (ha : AsOk Z X W es ms) (I : Inv X pins σ H s) (S : Sim Z.L ρ h H) (E : RelE Z.L ρ H env σ)
    {α β : Type} {R : Rho → Hp → α → β → Prop} {c : List D → Hv → Res α} {Q : β → Hp → Prop} (q : Post Z.L R ρ H ((ms env h).bind c) Q (Wat W σ)) {QQ : Value → Shared → Prop}
    (next : ∀ us s1 xs H1 ρ1 vs h1, Inv X pins σ H1 s1 → Vals xs us → Le ρ H ρ1 H1 → Sim Z.L ρ1 h1 H1 → RelE Z.L ρ1 H1 env σ → RelL Z.L ρ1 H1 vs xs → Post Z.L R ρ1 H1 (c vs h1) Q (Wat W σ) → wpAny (model X.prog X.w) X.A (call (.builtin id) (first ++ us)) QQ X.xe s1) :
    wpAny (model X.prog X.w) X.A (callWith pos (.builtin id) first (backTo pos (starEach es X.env)) []) QQ X.xe s := by
  cases es with
  | nil =>
    rw [ha.nil rfl] at q
    exact Calls.callWith_builtin rfl (PySem.evalArgs_none (next [] s [] H ρ [] h I .nil Le.refl S E .nil q))
  | cons e es =>
    obtain ⟨h1, h2⟩ := Bool.and_eq_true_iff.mp ha.pl
    refine Calls.callWith_builtin (any_plain ha.pl) ?_
    rw [starEach_cons h1]
    refine Calls.evalArgs_plain ?_
    have go := PA.go ha.pa pos I S E q (QQ := fun us s1 => wpAny (model X.prog X.w) X.A (call (.builtin id) (first ++ us)) QQ X.xe s1) next
    rw [starEach_cons h1] at go
    exact go
/-- f(..), an own def -/
theorem re_call (K : Kt Z atts k d X W) {x : Str} {f : Nat} {p pos : Pos} {es : List Expr} {ms : ML} (ha : AsOk Z X W es ms) (hg : Gl X x) (hm : X.mg x = some (.ref (Z.L.fA f))) (hk : PySem.W.keepIn Z.L.K (.ref (Z.L.fA f)) = true) (ng : notGen Z.L.T f) (hd : (x == ("__debug__" : Str)) = false) :
    PE X (.Call (.Name x p) es [] pos) (RdE Z (mCall (cl Z d) f ms) W) := by
  refine ⟨fun pins s σ H Q I ⟨ρ, env, h, S, E, q⟩ => wpAny_Call_Name_kw (ld_glob I hg hm ?_ hd)⟩
  exact with_plain ha (by rw [K.g.K]; exact hk) I S E q fun us s1 xs H1 ρ1 vs h1 I1 r le S1 E1 rl q1 => call_own K.g (by have := K.hk; omega) K.fo ng I1 S1 r rl q1

/-! ### makings -/
theorem made_sim {c p : Nat} {dx : Addr} (S : Sim Z.L ρ h H) (hp : H p = none) (hdx : H dx = none) (hne : dx ≠ p) (hi : methOf Z.L.T c nInit ≠ none) :
    Le ρ H (ext ρ h.n p) (upd (upd H dx (.own p)) p (.ins (Z.L.cA c) dx [])) ∧ Sim Z.L (ext ρ h.n p) (h.push (.ins c [])) (upd (upd H dx (.own p)) p (.ins (Z.L.cA c) dx [])) := by
  have S1 : Sim Z.L ρ h (upd H dx (.own p)) := S.fresh hdx
  have hp1 : upd H dx (.own p) p = none := by rw [upd_ne fun z => hne z.symm]; exact hp
  refine ⟨(Le.fresh hdx).trans (S1.le_ext hp1), S1.push hp1 trivial ⟨⟨dx, [], upd_same, ⟨fun k d e => (by cases e), fun x v e => (by cases e), Nat.le_refl _⟩⟩, fun k d e => (by cases e), hi⟩⟩
/-- C(..): its __init__ runs, what it raises is in our air -/
theorem make_air {C f : Addr} {j : Nat} {fd : FuncData} {ps : List Str} {sp : Sp} {dvs : List V} {ds : List Value} {E : St → XK} {us : List Value} {vs : List V} {Q : VK} (M : Mk X.K C f) (F : FnOk X.prog X.w X.K X.mg X.base (L2.CX X.prog X.w) j f fd ps sp)
    (room : Room (j + 1) X.A) (bd : Binds X.K fd ps ds) (dv : Vals dvs ds) (air : PassesAt (L2.CX X.prog X.w) X σ (E σ)) (I : Inv X pins σ H s) (r : Vals vs us)
    (law : ∀ p dx, H p = none → H dx = none → dx ≠ p → sp (.ref p :: (vs ++ dvs)) (upd (upd H dx (.own p)) p (.ins C dx [])) (fun v H2 => v = .non ∧ Q (.ref p) H2) (E σ)) :
    (wpAny (model X.prog X.w) X.A (call (.ref C) us) (EP X pins σ Q) X.xe s) := by
  let p : Addr := s.heap.objs.size + 1
  have at_ := law p s.heap.objs.size (I.hok.fresh (Nat.le_succ _)) (I.hok.fresh (Nat.le_refl _)) (Nat.ne_of_lt (Nat.lt_succ_self _))
  have mI : Inv X pins σ (upd (upd H s.heap.objs.size (.own p)) p (.ins C s.heap.objs.size [])) _ := Inv.made (C := C) I
  have given : Vals (V.ref p :: (vs ++ dvs)) (Value.ref p :: (us ++ ds)) := .cons (show RelV (.ref p) (.ref p) from rfl) (r.append dv)
  have long : (Value.ref p :: us ++ ds).length = ps.length := by
    have e1 := F.len _ _ _ _ at_
    have e2 := given.length
    show (Value.ref p :: (us ++ ds)).length = _
    omega
  have body := F.run _ X.stack _ _ ⟨Value.ref p :: us, []⟩ (Value.ref p :: (us ++ ds)) _ _ (E σ) (room.make C us []) (mI.env0.make C us []) (bd _ (Value.ref p :: us) mI.kIn long) given at_
  refine wpAny_call (make_map (f := f) I.kIn M.makes M.init (beq_iff_eq.mp M.fn) (codeAny_mono body fun res s' end_ => ?_))
  match res, end_ with
  | .error e, end_ => exact air pins _ _ e s' mI end_
  | .ok (.ret u), end_ =>
    obtain ⟨v, H3, I3, rv, rfl, fin⟩ := mI.after end_
    exact ⟨rv, .ref p, H3, I3, rfl, fin⟩
  | .ok .next, end_ => exact end_.elim
  | .ok .brk, end_ => exact end_.elim
  | .ok .cont, end_ => exact end_.elim
theorem make_own (K : Kt Z atts k d X W) {c : Nat} {ds : List D} {xs : List V} {us : List Value} {Q : VK} (I : Inv X pins σ H s) (S : Sim Z.L ρ h H) (rx : Vals xs us) (r : RelL Z.L ρ H ds xs) (q : PostD Z.L ρ H (makeI Z.L.T (cl Z d) c ds h) Q (Wat W σ)) :
    wpAny (model X.prog X.w) X.A (call (.ref (Z.L.cA c)) us) (EP X pins σ Q) X.xe s := by
  unfold makeI at q
  split at q
  · rename_i f em
    obtain ⟨cl1, e1, e2, e3⟩ := methOf_some em
    have C := K.cs.cl c cl1 e1 e3
    have M : Mk X.K (Z.L.cA c) (Z.L.fA f) := by rw [K.g.K]; exact C.mkr f e2
    have ng := (C.inst nInit f e2).2
    have nb : callF Z.L.T d f (.ref h.n :: ds) (h.push (.ins c [])) ≠ .bad := fun z => by
      have z2 : cl Z d f (.ref h.n :: ds) (h.push (.ins c [])) = .bad := z
      rw [z2] at q; exact q
    obtain ⟨F, ws, eF, ew⟩ := callF_some nb
    obtain ⟨fd, ps, LK, OK⟩ := K.fo f F eF (ng F eF)
    obtain ⟨hl, r2, e4, ews⟩ := fill_split _ _ _ _ ew
    obtain ⟨dvs, dd, hb, hv, hr⟩ := LK.binds _ r2 hl e4
    have hb' : Binds X.K fd ps (dd) := by rw [K.g.K]; exact hb
    refine make_air (E := fun σ => WE W σ) M (K.g.fn OK) (K.g.room.mono K.hk) hb' hv (passAt K.g.tk σ) I rx fun p dx hp hdx hne => ?_
    obtain ⟨le, S2⟩ := made_sim (c := c) S hp hdx hne (by rw [em]; simp)
    have rr : RelL Z.L (ext ρ h.n p) (upd (upd H dx (.own p)) p (.ins (Z.L.cA c) dx [])) ws (.ref p :: (xs ++ dvs)) := by
      rw [ews]
      exact RelL.cons (.ref ext_same) ((r.mono le).append (hr _ _))
    refine ⟨?_, _, ws, _, S2, rr, ?_⟩
    · rw [rr.length, fill_len _ _ _ _ ew]
    · rw [callF_fill eF ew]
      refine (Post.bind (R := fun ρ H d v => RelD Z.L ρ H d v) (Post.mono le q)).imp (fun v H3 ⟨ρ3, a, h3, _, le3, S3, ra, q3⟩ => ?_) fun _ _ _ z => z
      obtain ⟨hz, q4⟩ := post_bif q3
      cases ra <;> first | cases hz | skip
      exact ⟨rfl, done q4 S3 (.ref (le3.rho _ _ ext_same))⟩
  · exact q.elim
theorem re_mk (K : Kt Z atts k d X W) {x : Str} {c : Nat} {p pos : Pos} {es : List Expr} {ms : ML} (ha : AsOk Z X W es ms) (hg : Gl X x) (hm : X.mg x = some (.ref (Z.L.cA c))) (hk : PySem.W.keepIn Z.L.K (.ref (Z.L.cA c)) = true) (hd : (x == ("__debug__" : Str)) = false) :
    PE X (.Call (.Name x p) es [] pos) (RdE Z (mMk Z.L.T (cl Z d) c ms) W) := by
  refine ⟨fun pins s σ H Q I ⟨ρ, env, h, S, E, q⟩ => wpAny_Call_Name_kw (ld_glob I hg hm ?_ hd)⟩
  exact with_plain ha (by rw [K.g.K]; exact hk) I S E q fun us s1 xs H1 ρ1 vs h1 I1 r le S1 E1 rl q1 => make_own K I1 S1 r rl q1

/-! ### methods -/
/-- the built-in types' methods: what a name at a value is -/
def BmOk (Z : Wl) (X : Cx) (W : WX) (m : Nat) : Prop :=
  ∀ (pins : List (Addr × Obj)) (s : Shared) (σ : St) (H : Hp) (ρ : Rho) (h : Hv) (a : D) (x : V) (v : Value), Inv X pins σ H s → Sim Z.L ρ h H → RelV x v → RelD Z.L ρ H a x → okM (kindM a h) m = true →
    ∃ (T id : String), PlainAttrs T ∧ Slot T (Z.L.nm m) id ∧ typeOf (.builtin id) = pure (.type "method_descriptor") ∧ s.TypeIs v T ∧ (∀ p, v = .ref p → ∃ o, s.heap.get? p = some o ∧ o.dict = none) ∧
      ∀ (s1 : Shared) (H1 : Hp) (ρ1 : Rho) (h1 : Hv) (ds : List D) (xs : List V) (us : List Value) (Q : VK), Inv X pins σ H1 s1 → Le ρ H ρ1 H1 → Sim Z.L ρ1 h1 H1 → Vals xs us → RelL Z.L ρ1 H1 ds xs → PostD Z.L ρ1 H1 (mthB (kindM a h) a m ds h1) Q (Wat W σ) →
        wpAny (model X.prog X.w) X.A (call (.builtin id) (v :: us)) (EP X pins σ Q) X.xe s1
theorem mcall_eq {o : Expr} {m : Str} {apos pos : Pos} {en : PySem.Env} {es : List Expr} (hb : noSup o = true) (hl : (apos.endLine == pos.line) = true) (hp : plainArgs es = true) (hn : es.length < 29) : eval (.Call (.Attribute o m apos) es [] pos) en = (do
      let ov ← eval o en
      standAt apos.atName
      let (f, first) ← holding [ov] (getMethod ov m (plainOf o en))
      callWith pos f first (backTo pos (starEach es en)) (backToKw pos (keywordEach [] en))) := by
  rw [arm_eval_Call, base_plain hb]
  have hf : methodCallForm (es.length + ([] : List Keyword).length) (backTo pos (starEach es en)) (backToKw pos (keywordEach [] en)) = true := by
    show ((backTo pos (starEach es en)).all (fun x => !x.1) && true && decide (es.length + 0 + 0 < 30)) = true
    rw [all_plain hp, decide_eq_true (by omega)]; rfl
  congr 1
  funext ov
  congr 1
  funext _
  exact mcall_line hf hl
end
end TB

/-! TB, the link: methods of instances, of classes. -/
namespace TB
open PySem PySem.Spec PyProof.Rows L2 ClX
section
variable {Z : Wl} {atts : List Nat} {k d : Nat} {X : Cx} {W : WX} {pins : List (Addr × Obj)} {σ : St} {H : Hp} {s : Shared} {ρ : Rho} {h : Hv} {env : Env}
theorem isInst_some {x : D} {c : Nat} (e : isInst x h = some c) : ∃ a fs, x = .ref a ∧ h.get a = some (.ins c fs) := by
  unfold isInst at e
  split at e
  · rename_i a
    split at e
    · rename_i c' fs eg
      cases e
      exact ⟨a, fs, rfl, eg⟩
    · cases e
  · cases e
theorem post_ne2 {α β γ : Type} {R : Rho → Hp → β → γ → Prop} {r : Res α} {c : α → Hv → Res β} {Q : γ → Hp → Prop} {Wk : WK} (q : Post Z.L R ρ H (r.bind c) Q Wk) : (∃ a h', r = .ok a h' ∧ c a h' ≠ .bad) ∨ ∃ e vs h', r = .exc e vs h' := by
  cases r with
  | ok a h' => exact .inl ⟨a, h', rfl, post_ne q⟩
  | exc e vs h' => exact .inr ⟨e, vs, h', rfl⟩
  | bad => exact q.elim
theorem re_mth (K : Kt Z atts k d X W) {o : Expr} {mo : ME} {m : Nat} {mn : Str} {es : List Expr} {ms : ML} {apos pos : Pos} (ho : PE X o (RdE Z mo W)) (ha : AsOk Z X W es ms) (hn : mn = Z.L.nm m) (hb : noSup o = true) (hl : (apos.endLine == pos.line) = true) (hlen : es.length < 29) (hB : BmOk Z X W m) :
    PE X (.Call (.Attribute o mn apos) es [] pos) (RdE Z (mMth Z.L.T (cl Z d) mo m ms) W) := by
  subst hn
  refine ⟨fun pins s σ H Q I ⟨ρ, env, h, S, E, q⟩ => ?_⟩
  rw [mcall_eq hb hl ha.pl hlen]
  refine wpAny_bind (PE.go ho I S E q fun v s1 x H1 ρ1 a h1 I1 rx le S1 E1 r q1 => wpAny_bind (wpAny_standAt ?_))
  cases ei : isInst a h1 with
  | some c =>
    rw [ei] at q1
    obtain ⟨p0, fs, rfl, eg⟩ := isInst_some ei
    obtain ⟨p, ea, rfl⟩ : ∃ p, ρ1 p0 = some p ∧ x = .ref p := by cases r; exact ⟨_, by assumption, rfl⟩
    cases rx
    have q1 : PostD Z.L ρ1 H1 (match methOf Z.L.T c m with
      | some (.inst, f) => (ms env h1).bind fun vs h => cl Z d f (.ref p0 :: vs) h
      | _ => .bad) Q (Wat W σ) := q1
    split at q1
    · rename_i f em
      obtain ⟨cl1, e1, e2, e3⟩ := methOf_some em
      have C := K.cs.cl c cl1 e1 e3
      refine wpAny_bind (wpAny_holding (meth_own K.cs K.g em ea eg I1 S1 fun ng => ?_))
      refine with_plain (first := [.ref p]) ha (by rw [K.g.K]; exact (C.inst m f e2).1.kp) I1 S1 E1 q1 fun us s2 xs H2 ρ2 vs h2 I2 rv le2 S2 E2 rl q2 => ?_
      exact call_own K.g (by have := K.hk; omega) K.fo ng I2 S2 (.cons (show RelV (.ref p) (.ref p) from rfl) rv) (.cons (.ref (le2.rho _ _ ea)) rl) q2
    · exact q1.elim
  | none =>
    rw [ei] at q1
    obtain ⟨hk, q2⟩ := post_bif (r := (ms env h1).bind fun vs h' => mthB (kindM a h1) a m vs h') q1
    obtain ⟨T, id, pa, slot, ty, hT, hd, run⟩ := hB pins s1 σ H1 ρ1 h1 a x v I1 S1 rx r hk
    refine wpAny_bind (wpAny_holding (getMethod_builtin hT pa slot ty hd ?_))
    exact with_blt (first := [v]) ha I1 S1 E1 q2 fun us s2 xs H2 ρ2 vs h2 I2 rv le2 S2 E2 rl q3 => run s2 H2 ρ2 h2 vs xs us Q I2 le2 S2 rv rl q3
/-- C.m(..), a method of the class -/
theorem re_clm (K : Kt Z atts k d X W) {x : Str} {c m f : Nat} {mn : Str} {es : List Expr} {ms : ML} {p apos pos : Pos} (em : methOf Z.L.T c m = some (.clm, f)) (ha : AsOk Z X W es ms) (hn : mn = Z.L.nm m) (hl : (apos.endLine == pos.line) = true) (hlen : es.length < 29)
    (hg : Gl X x) (hm : X.mg x = some (.ref (Z.L.cA c))) (hd : (x == ("__debug__" : Str)) = false) : PE X (.Call (.Attribute (.Name x p) mn apos) es [] pos) (RdE Z (mSmt Z.L.T (cl Z d) c m ms) W) := by
  subst hn
  refine ⟨fun pins s σ H Q I ⟨ρ, env, h, S, E, q⟩ => ?_⟩
  unfold mSmt at q
  rw [em] at q
  obtain ⟨cl1, e1, e2, e3⟩ := methOf_some em
  have C := K.cs.cl c cl1 e1 e3
  obtain ⟨⟨mc, pp, rd, cm⟩, ng⟩ := C.clm m f e2
  rw [← K.g.K] at rd cm
  rw [mcall_eq rfl hl ha.pl hlen]
  refine wpAny_bind (ld_glob I hg hm (wpAny_bind (wpAny_standAt (wpAny_bind (wpAny_holding (getmethcm_ok I rd cm fun s2 I2 => ?_))))) hd)
  have fin : ∀ (us : List Value) (s3 : Shared) (xs : List V) (H3 : Hp) (ρ3 : Rho) (vs : List D) (h3 : Hv), Inv X ((s.heap.objs.size, PySem.W.methodObj (.ref (Z.L.fA f)) (.ref (Z.L.cA c))) :: pins) σ H3 s3 → Vals xs us → Sim Z.L ρ3 h3 H3 → RelL Z.L ρ3 H3 vs xs → PostD Z.L ρ3 H3 (cl Z d f (.ty c :: vs) h3) Q (Wat W σ) →
      wpAny (model X.prog X.w) X.A (call (.ref s.heap.objs.size) us) (EP X pins σ Q) X.xe s3 := by
    intro us s3 xs H3 ρ3 vs h3 I3 rv S3 rl q3
    refine wpAny_mono (wpAny_call (PySem.W.method_call (pin_at I3) (code_own K.g (by have := K.hk; omega) K.fo ng I3 S3 (.cons (show RelV (.ref (Z.L.cA c)) (.ref (Z.L.cA c)) from rfl) rv) (.cons (.ty c) rl) q3))) (fun _ _ y => unpinE y) fun _ _ y => y
  cases es with
  | nil =>
    rw [ha.nil rfl] at q
    exact PySem.W.callWith_M0 (first := []) ⟨pin_at I2, I2.kIn⟩ cm.fi (fin [] s2 [] H ρ [] h I2 .nil S .nil q)
  | cons e es =>
    obtain ⟨h1, h2⟩ := Bool.and_eq_true_iff.mp ha.pl
    refine callwith_cm I2 (base_none I (Nat.le_refl _)) cm.fi (PA.go ha.pa pos I2 S E q fun us s3 xs H3 ρ3 vs h3 I3 rv le3 S3 E3 rl q3 => ⟨⟨pin_at I3, I3.kIn⟩, ?_⟩) (starEach_cons h1) (any_plain h2)
    exact fin us s3 xs H3 ρ3 vs h3 I3 rv S3 rl q3
/-- C.m(..), a static method -/
theorem re_sta (K : Kt Z atts k d X W) {x : Str} {c m f : Nat} {mn : Str} {es : List Expr} {ms : ML} {p apos pos : Pos} (em : methOf Z.L.T c m = some (.stat, f)) (ha : AsOk Z X W es ms) (hn : mn = Z.L.nm m) (hl : (apos.endLine == pos.line) = true) (hlen : es.length < 29)
    (hg : Gl X x) (hm : X.mg x = some (.ref (Z.L.cA c))) (hd : (x == ("__debug__" : Str)) = false) : PE X (.Call (.Attribute (.Name x p) mn apos) es [] pos) (RdE Z (mSmt Z.L.T (cl Z d) c m ms) W) := by
  subst hn
  refine ⟨fun pins s σ H Q I ⟨ρ, env, h, S, E, q⟩ => ?_⟩
  unfold mSmt at q
  rw [em] at q
  obtain ⟨cl1, e1, e2, e3⟩ := methOf_some em
  have C := K.cs.cl c cl1 e1 e3
  obtain ⟨⟨mc, pp, rest, rd, fc, rc, kp⟩, ng⟩ := C.sta m f e2
  rw [← K.g.K] at rd fc rc kp
  rw [mcall_eq rfl hl ha.pl hlen]
  refine wpAny_bind (ld_glob I hg hm (wpAny_bind (wpAny_standAt (wpAny_bind (wpAny_holding (PySem.W.method_cls I.kIn rd.ga (PySem.W.cls_bind I.kIn rd.rd fc (wpAny_call (PySem.W.sm_get (s := { s with toks := s.toks + 1 }) I.kIn rc (PySem.W.handed_on rfl ?_))))))))) hd)
  exact with_plain (first := []) ha kp (I.tok _) S E q fun us s2 xs H2 ρ2 vs h2 I2 rv le2 S2 E2 rl q2 => call_own K.g (by have := K.hk; omega) K.fo ng I2 S2 rv rl q2
/-- cls(..) -/
theorem re_mkv (K : Kt Z atts k d X W) {x : Str} {mo : ME} {es : List Expr} {ms : ML} {p pos : Pos} (ho : PE X (.Name x p) (RdE Z mo W)) (ha : AsOk Z X W es ms) : PE X (.Call (.Name x p) es [] pos) (RdE Z (mMkv Z.L.T (cl Z d) mo ms) W) := by
  refine ⟨fun pins s σ H Q I ⟨ρ, env, h, S, E, q⟩ => wpAny_Call_Name_kw (PE.go ho I S E q fun v s1 x H1 ρ1 a h1 I1 rx le S1 E1 r q1 => ?_)⟩
  cases r <;> first | exact q1.elim | skip
  rename_i c
  cases rx
  have q1 : PostD Z.L ρ1 H1 (match methOf Z.L.T c nInit with
      | some _ => (ms env h1).bind fun vs h => makeI Z.L.T (cl Z d) c vs h
      | none => .bad) Q (Wat W σ) := q1
  split at q1
  · rename_i e hi
    obtain ⟨kd, f⟩ := e
    obtain ⟨cl1, e1, e2, e3⟩ := methOf_some hi
    have C := K.cs.cl c cl1 e1 e3
    exact with_plain ha (by rw [K.g.K]; exact C.kp) I1 S1 E1 q1 fun us s2 xs H2 ρ2 vs h2 I2 rv le2 S2 E2 rl q2 => make_own K I2 S2 rv rl q2
  · exact q1.elim
end
end TB

/-! TB, the link: methods of texts, lists, dicts. -/
namespace TB
open L2 PySem PyProof.Rows PySem.Spec
/-- the names that the evaluator knows -/
structure Nb (Z : Wl) : Prop where
  append : Z.L.nm nAppend = "append"
  pop : Z.L.nm nPop = "pop"
  get : Z.L.nm nGet = "get"
  setdefault : Z.L.nm nSetdefault = "setdefault"
  update : Z.L.nm nUpdate = "update"
  join : Z.L.nm nJoin = "join"
  split : Z.L.nm nSplit = "split"
  index : Z.L.nm nIndex = "index"
  upper : Z.L.nm nUpper = "upper"
  lower : Z.L.nm nLower = "lower"
  startswith : Z.L.nm nStartswith = "startswith"
  reverse : Z.L.nm nReverse = "reverse"
  clear : Z.L.nm nClear = "clear"
section
variable {Z : Wl} {atts : List Nat} {k d : Nat} {X : Cx} {W : WX} {pins : List (Addr × Obj)} {σ : St} {H : Hp} {s : Shared} {ρ : Rho} {h : Hv} {env : Env}
theorem keys_same {κ : Type} : ∀ {kvs : List (κ × V)} {vs : List (κ × Value)}, KV kvs vs → kvs.map (·.1) = vs.map (·.1)
  | _, _, .nil => rfl
  | _, _, .cons h t => by rw [List.map_cons, List.map_cons, h.1, keys_same t]
theorem nodupK (I : Inv X pins σ H s) {p : Addr} {kvs : List (Key × V)} (e : H p = some (.dK kvs)) : (kvs.map (·.1)).Nodup := by
  skip; obtain ⟨z, hd, vs, rel, dd⟩ := dk_of I.hok e
  obtain ⟨_, _, _, _, _, _, _, _, nd⟩ := dd
  rw [keys_same rel]; exact nd
theorem keys_sameT {P : Addr → List Key → Prop} : ∀ {kvs : List (List Key × V)} {xs : List (List Key × Addr × Value)}, Paired (fun p q => p.1 = q.1 ∧ P q.2.1 p.1 ∧ RelV p.2 q.2.2) kvs xs → kvs.map (·.1) = xs.map (·.1)
  | _, _, .nil => rfl
  | _, _, .cons h t => by rw [List.map_cons, List.map_cons, h.1, keys_sameT t]
theorem nodupT (I : Inv X pins σ H s) {p : Addr} {kvs : List (List Key × V)} (e : H p = some (.dT kvs)) : (kvs.map (·.1)).Nodup := by
  obtain ⟨z, hd, vs, rel, dd⟩ := dt_of I.hok e
  obtain ⟨_, _, _, _, _, _, _, _, nd⟩ := dd
  rw [keys_sameT (P := fun a k => H a = some (.tup (k.map kV))) rel]; exact nd
/-- a dict is written at a key -/
theorem dict_put (I : Inv X pins σ H s) (S : Sim Z.L ρ h H) {a : Nat} {p : Addr} (ea : ρ a = some p) {l : List (D × D)} (e : h.get a = some (.dct 0 l)) {k dv : D} {y v : V} (c : dOk k 0 l = true) (r : RelD Z.L ρ H k y) (rv : RelD Z.L ρ H dv v) (hz : l.length < sizeLine) :
    ∃ H1 H2, Inv X pins σ H1 s ∧ DPut H1 p y v H2 ∧ Le ρ H ρ H2 ∧ Sim Z.L ρ (h.put a (.dct 0 (dPut k dv l))) H2 := by
  obtain ⟨H1, I1, S1, le, ⟨kvs, κ, _, h0, t, e1, e2⟩ | ⟨kvs, κ, b, _, h0, t, e1, e2, e3⟩⟩ := dict_at I S ea e c r
  · have nd := nodupK I1 (h0 rfl)
    have t2 := t.put (fun _ _ _ _ => keyS_eqK) e1 (rv.mono le) nd
    refine ⟨H1, _, I1, .inl ⟨kvs, κ, h0 rfl, e2, by rw [t.length]; exact hz, rfl⟩, le.trans (S1.le_put ea (.of (h0 rfl))), S1.put ea trivial ⟨.dK _, ?_, upd_same⟩⟩
    exact RelKv.mono (S1.le_put ea (.of (h0 rfl))) t2
  · have nd := nodupT I1 (h0 rfl)
    have t2 := t.put (fun _ _ _ _ => keyT_eqK) e1 (rv.mono le) nd
    refine ⟨H1, _, I1, .inr ⟨kvs, κ, b, h0 rfl, e2, e3, by rw [t.length]; exact hz, rfl⟩, le.trans (S1.le_put ea (.of (h0 rfl))), S1.put ea trivial ⟨.dT _, ?_, upd_same⟩⟩
    exact RelKv.mono (S1.le_put ea (.of (h0 rfl))) t2
theorem blt_lt {a b : Nat} (h : Nat.blt a b = true) : a < b := Nat.le_of_ble_eq_true h
theorem room1 (K : Kt Z atts k d X W) : X.A.units + 1 < cLine := by have := K.g.room.units; omega
/-- x[i] = v -/
theorem setix_ok (K : Kt Z atts k d X W) {a b dv : D} {x y z : V} {u w r : Value} {Q : Unit → Hp → Prop} (I : Inv X pins σ H s) (S : Sim Z.L ρ h H) (rx : RelV x u) (ry : RelV y w) (rz : RelV z r) (ra : RelD Z.L ρ H a x) (rb : RelD Z.L ρ H b y) (rd : RelD Z.L ρ H dv z)
    (q : PostU Z.L ρ H (setIx a b dv h) Q (Wat W σ)) : wpAny (model X.prog X.w) X.A (setItem u w r) (fun _ s' => ∃ H', Inv X pins σ H' s' ∧ Q () H') X.xe s := by
  cases ra <;> first | exact q.elim | skip
  rename_i p0 p ea
  cases rx
  unfold setIx at q
  simp only at q
  split at q
  · rename_i l eg
    cases rb <;> first | exact q.elim | skip
    rename_i i
    simp only at q
    split at q
    · rename_i j ej
      obtain ⟨vs, g1, r1⟩ := S.lst ea eg
      rw [ixOf_eq] at ej
      cases ry with | intro t e => ?_
      refine thn (set_list pins s σ H (.ref p) (.int i) z (.ref p) _ r (fun H' => Q () H') I rfl ⟨t, e⟩ rz ⟨p, vs, i, j, rfl, rfl, g1, by rw [r1.length]; exact ej, ?_⟩) fun _ s' q' => q'
      exact q ρ () _ (S.le_put ea (.of g1)) (S.put ea trivial ⟨_, upd_same, (r1.mono (S.le_put ea (.of g1))).set j (rd.mono (S.le_put ea (.of g1)))⟩) trivial
    · exact q.elim
  · rename_i l eg
    obtain ⟨c, q2⟩ := post_bif q
    obtain ⟨c1, c2⟩ := Bool.and_eq_true_iff.mp c
    obtain ⟨H1, H2, I1, g, le, S2⟩ := dict_put I S ea eg c1 rb rd (blt_lt c2)
    exact d_setItem (room1 K) I1 g ry rz fun s' I' => ⟨H2, I', q2 ρ () H2 le S2 trivial⟩
  · exact q.elim

/-! ### lists -/
theorem ty_list (I : Inv X pins σ H s) {p : Addr} {vs : List V} (g : H p = some (.lst vs)) : s.TypeIs (.ref p) "list" ∧ ∀ a, Value.ref p = .ref a → ∃ ob, s.heap.get? a = some ob ∧ ob.dict = none :=
  tyV_is (x := .ref p) I rfl (.inl ⟨rfl, vs, .of g⟩)
theorem ty_dict (I : Inv X pins σ H s) {p : Addr} {u : HO} (g : Rd H p u) (hu : (∃ kvs, u = .dK kvs) ∨ ∃ kvs, u = .dT kvs) : s.TypeIs (.ref p) "dict" ∧ ∀ a, Value.ref p = .ref a → ∃ ob, s.heap.get? a = some ob ∧ ob.dict = none := by
  rcases hu with ⟨kvs, rfl⟩ | ⟨kvs, rfl⟩
  · obtain ⟨t1, t2, _⟩ := isD_at I (.inl ⟨kvs, g⟩)
    exact ⟨t1, t2⟩
  · obtain ⟨t1, t2, _⟩ := isD_at I (.inr ⟨kvs, g⟩)
    exact ⟨t1, t2⟩

/-- .. of one kind -/
def BmK (Z : Wl) (X : Cx) (W : WX) (m kd : Nat) : Prop :=
  ∀ (pins : List (Addr × Obj)) (s : Shared) (σ : St) (H : Hp) (ρ : Rho) (h : Hv) (a : D) (x : V) (v : Value), Inv X pins σ H s → Sim Z.L ρ h H → RelV x v → RelD Z.L ρ H a x → kindM a h = kd →
    ∃ (T id : String), PlainAttrs T ∧ Slot T (Z.L.nm m) id ∧ typeOf (.builtin id) = pure (.type "method_descriptor") ∧ s.TypeIs v T ∧ (∀ p, v = .ref p → ∃ o, s.heap.get? p = some o ∧ o.dict = none) ∧
      ∀ (s1 : Shared) (H1 : Hp) (ρ1 : Rho) (h1 : Hv) (ds : List D) (xs : List V) (us : List Value) (Q : VK), Inv X pins σ H1 s1 → Le ρ H ρ1 H1 → Sim Z.L ρ1 h1 H1 → Vals xs us → RelL Z.L ρ1 H1 ds xs → PostD Z.L ρ1 H1 (mthB kd a m ds h1) Q (Wat W σ) →
        wpAny (model X.prog X.w) X.A (call (.builtin id) (v :: us)) (EP X pins σ Q) X.xe s1
theorem kind1 {a : D} (e : kindM a h = 1) : ∃ t, a = .str t := by
  unfold kindM at e
  split at e
  · exact ⟨_, rfl⟩
  · split at e <;> cases e
  · cases e
theorem kind2 {a : D} (e : kindM a h = 2) : ∃ p l, a = .ref p ∧ h.get p = some (.lst l) := by
  unfold kindM at e
  split at e
  · cases e
  · split at e
    · exact ⟨_, _, rfl, by assumption⟩
    · cases e
    · cases e
  · cases e
theorem kind3 {a : D} (e : kindM a h = 3) : ∃ p lk l, a = .ref p ∧ h.get p = some (.dct lk l) := by
  unfold kindM at e
  split at e
  · cases e
  · split at e
    · cases e
    · exact ⟨_, _, _, rfl, by assumption⟩
    · cases e
  · cases e
theorem bm_list {m : Nat} {id : String} (slot : Slot "list" (Z.L.nm m) id) (ty : typeOf (.builtin id) = pure (.type "method_descriptor"))
    (run : ∀ (pins : List (Addr × Obj)) (s : Shared) (σ : St) (H : Hp) (ρ : Rho) (h : Hv) (p0 : Nat) (p : Addr) (l : List D) (vs : List V) (ds : List D) (xs : List V) (us : List Value) (Q : VK), Inv X pins σ H s → Sim Z.L ρ h H → ρ p0 = some p → h.get p0 = some (.lst l) → H p = some (.lst vs) → RelL Z.L ρ H l vs → Vals xs us → RelL Z.L ρ H ds xs →
      PostD Z.L ρ H (mthL p0 l m ds h) Q (Wat W σ) → wpAny (model X.prog X.w) X.A (call (.builtin id) (.ref p :: us)) (EP X pins σ Q) X.xe s) : BmK Z X W m 2 := by
  intro pins s σ H ρ h a x v I S rx ra e
  obtain ⟨p0, l, rfl, eg⟩ := kind2 e
  obtain ⟨p, ea, rfl⟩ : ∃ p, ρ p0 = some p ∧ x = .ref p := by cases ra; exact ⟨_, by assumption, rfl⟩
  cases rx
  obtain ⟨vs, g, r⟩ := S.lst ea eg
  obtain ⟨t1, t2⟩ := ty_list I g
  refine ⟨"list", id, F.plainAttrs_list, slot, ty, t1, t2, fun s1 H1 ρ1 h1 ds xs us Q I1 le S1 rv rl q => ?_⟩
  have q : PostD Z.L ρ1 H1 (match h1.get p0 with
    | some (.lst l) => mthL p0 l m ds h1
    | some (.dct lk l) => .bad
    | _ => .bad) Q (Wat W σ) := q
  split at q
  · rename_i l1 eg1
    obtain ⟨vs1, g1, r1⟩ := S1.lst (le.rho _ _ ea) eg1
    exact run pins s1 σ H1 ρ1 h1 p0 p l1 vs1 ds xs us Q I1 S1 (le.rho _ _ ea) eg1 g1 r1 rv rl q
  · exact q.elim
  · exact q.elim
theorem bm_dict {m : Nat} {id : String} (slot : Slot "dict" (Z.L.nm m) id) (ty : typeOf (.builtin id) = pure (.type "method_descriptor"))
    (run : ∀ (pins : List (Addr × Obj)) (s : Shared) (σ : St) (H : Hp) (ρ : Rho) (h : Hv) (p0 : Nat) (p : Addr) (lk : Nat) (l : List (D × D)) (ds : List D) (xs : List V) (us : List Value) (Q : VK), Inv X pins σ H s → Sim Z.L ρ h H → ρ p0 = some p → h.get p0 = some (.dct lk l) → Vals xs us → RelL Z.L ρ H ds xs →
      PostD Z.L ρ H (mthD p0 lk l m ds h) Q (Wat W σ) → wpAny (model X.prog X.w) X.A (call (.builtin id) (.ref p :: us)) (EP X pins σ Q) X.xe s) : BmK Z X W m 3 := by
  intro pins s σ H ρ h a x v I S rx ra e
  obtain ⟨p0, lk, l, rfl, eg⟩ := kind3 e
  obtain ⟨p, ea, rfl⟩ : ∃ p, ρ p0 = some p ∧ x = .ref p := by cases ra; exact ⟨_, by assumption, rfl⟩
  cases rx
  obtain ⟨u, ru, g, _⟩ := S.dct ea eg
  obtain ⟨t1, t2⟩ := ty_dict I g (by cases u <;> first | exact ru.elim | exact .inl ⟨_, rfl⟩ | exact .inr ⟨_, rfl⟩)
  refine ⟨"dict", id, F.plainAttrs_dict, slot, ty, t1, t2, fun s1 H1 ρ1 h1 ds xs us Q I1 le S1 rv rl q => ?_⟩
  have q : PostD Z.L ρ1 H1 (match h1.get p0 with
    | some (.lst l) => .bad
    | some (.dct lk l) => mthD p0 lk l m ds h1
    | _ => .bad) Q (Wat W σ) := q
  split at q
  · exact q.elim
  · rename_i l1 eg1
    exact run pins s1 σ H1 ρ1 h1 p0 p _ l1 ds xs us Q I1 S1 (le.rho _ _ ea) eg1 rv rl q
  · exact q.elim
theorem bm_str {m : Nat} {id : String} (slot : Slot "str" (Z.L.nm m) id) (ty : typeOf (.builtin id) = pure (.type "method_descriptor"))
    (run : ∀ (pins : List (Addr × Obj)) (s : Shared) (σ : St) (H : Hp) (ρ : Rho) (h : Hv) (t : Sg) (v : Value) (ds : List D) (xs : List V) (us : List Value) (Q : VK), Inv X pins σ H s → Sim Z.L ρ h H → RelV (.str (toS t)) v → Vals xs us → RelL Z.L ρ H ds xs →
      PostD Z.L ρ H (mthS t m ds h) Q (Wat W σ) → wpAny (model X.prog X.w) X.A (call (.builtin id) (v :: us)) (EP X pins σ Q) X.xe s) : BmK Z X W m 1 := by
  intro pins s σ H ρ h a x v I S rx ra e
  obtain ⟨t, rfl⟩ := kind1 e
  cases ra
  obtain ⟨t1, t2⟩ := tyV_is I rx (T := "str") rfl
  exact ⟨"str", id, F.plainAttrs_str, slot, ty, t1, t2, fun s1 H1 ρ1 h1 ds xs us Q I1 le S1 rv rl q => run pins s1 σ H1 ρ1 h1 t v ds xs us Q I1 S1 rx rv rl q⟩
theorem bm_one {m kd : Nat} (only : ∀ n, okM n m = true → n = kd) (hb : BmK Z X W m kd) : BmOk Z X W m := by
  intro pins s σ H ρ h a x v I S rx ra e
  have e2 := only _ e
  rw [e2]
  exact hb pins s σ H ρ h a x v I S rx ra e2
theorem only1 {m : Nat} (h2 : okM 2 m = false) (h3 : okM 3 m = false) : ∀ n, okM n m = true → n = 1
  | 0, e => nomatch e
  | 1, _ => rfl
  | 2, e => by rw [h2] at e; cases e
  | 3, e => by rw [h3] at e; cases e
  | _ + 4, e => nomatch e
theorem only2 {m : Nat} (h1 : okM 1 m = false) (h3 : okM 3 m = false) : ∀ n, okM n m = true → n = 2
  | 0, e => nomatch e
  | 1, e => by rw [h1] at e; cases e
  | 2, _ => rfl
  | 3, e => by rw [h3] at e; cases e
  | _ + 4, e => nomatch e
theorem only3 {m : Nat} (h1 : okM 1 m = false) (h2 : okM 2 m = false) : ∀ n, okM n m = true → n = 3
  | 0, e => nomatch e
  | 1, e => by rw [h1] at e; cases e
  | 2, e => by rw [h2] at e; cases e
  | 3, _ => rfl
  | _ + 4, e => nomatch e
/-! lists -/
theorem bm_append (N : Nb Z) : BmOk Z X W nAppend := by
  refine bm_one (kd := 2) (only2 rfl rfl) (bm_list (by rw [N.append]; exact F.slot_list_append) F.type_list_append fun pins s σ H ρ h p0 p l vs ds xs us Q I S ea eg g r rv rl q => ?_)
  · have q : PostD Z.L ρ H (appL p0 l ds h) Q (Wat W σ) := q
    unfold appL at q
    split at q
    · rename_i dv
      obtain ⟨c, q2⟩ := post_bif q
      cases rl with
      | cons rd rn =>
        cases rn
        rename_i y
        refine L2.mt_append pins s σ H (.ref p) [y] (.ref p) us Q I rfl rv ⟨p, vs, y, rfl, rfl, g, by rw [r.length]; exact blt_lt c, ?_⟩
        exact q2 ρ _ _ (S.le_put ea (.of g)) (S.put ea trivial ⟨_, upd_same, (r.append (.one rd)).mono (S.le_put ea (.of g))⟩) .non
    · exact q.elim
theorem bm_reverse (N : Nb Z) : BmOk Z X W nReverse := by
  refine bm_one (kd := 2) (only2 rfl rfl) (bm_list (by rw [N.reverse]; exact F.slot_list_reverse) F.type_list_reverse fun pins s σ H ρ h p0 p l vs ds xs us Q I S ea eg g r rv rl q => ?_)
  · have q : PostD Z.L ρ H (rvsL p0 l ds h) Q (Wat W σ) := q
    unfold rvsL at q
    split at q
    · cases rl
      exact L2.mt_reverse pins s σ H (.ref p) [] (.ref p) us Q I rfl rv ⟨p, vs, rfl, rfl, g, q ρ _ _ (S.le_put ea (.of g)) (S.put ea trivial ⟨_, upd_same, r.reverse.mono (S.le_put ea (.of g))⟩) .non⟩
    · exact q.elim
theorem bm_clear (N : Nb Z) : BmOk Z X W nClear := by
  refine bm_one (kd := 2) (only2 rfl rfl) (bm_list (by rw [N.clear]; exact F.slot_list_clear) F.type_list_clear fun pins s σ H ρ h p0 p l vs ds xs us Q I S ea eg g r rv rl q => ?_)
  · have q : PostD Z.L ρ H (clrL p0 ds h) Q (Wat W σ) := q
    unfold clrL at q
    split at q
    · cases rl
      exact L2.mt_clear pins s σ H (.ref p) [] (.ref p) us Q I rfl rv ⟨p, vs, rfl, rfl, g, q ρ _ _ (S.le_put ea (.of g)) (S.put ea trivial ⟨_, upd_same, .nil⟩) .non⟩
    · exact q.elim
theorem RelL.dropLast : ∀ {ds : List D} {vs : List V}, RelL Z.L ρ H ds vs → RelL Z.L ρ H ds.dropLast vs.dropLast
  | _, _, .nil => .nil
  | _, _, .cons h .nil => .nil
  | _, _, .cons h (.cons h' t) => .cons h (RelL.dropLast (.cons h' t))
theorem bmK_popL (N : Nb Z) : BmK Z X W nPop 2 := by
  refine bm_list (by rw [N.pop]; exact F.slot_list_pop) F.type_list_pop fun pins s σ H ρ h p0 p l vs ds xs us Q I S ea eg g r rv rl q => ?_
  have q : PostD Z.L ρ H (popL p0 l ds h) Q (Wat W σ) := q
  unfold popL at q
  split at q
  · cases rl
    split at q
    · rename_i dv e
      have e2 : l[l.length - 1]? = some dv := by rw [← List.getLast?_eq_getElem?]; exact e
      obtain ⟨y, e3, ry⟩ := r.get e2
      rw [← r.length] at e3
      refine L2.mt_pop pins s σ H (.ref p) [] (.ref p) us Q I rfl rv ⟨p, vs, y, rfl, rfl, g, e3, ?_⟩
      exact q ρ _ _ (S.le_put ea (.of g)) (S.put ea trivial ⟨_, upd_same, r.dropLast.mono (S.le_put ea (.of g))⟩) (ry.mono (S.le_put ea (.of g)))
    · exact q.elim
  · cases rl with
    | cons rd rn =>
      cases rn
      cases rd
      split at q
      · rename_i j ej
        split at q
        · rename_i dv e
          obtain ⟨y, e3, ry⟩ := r.get e
          rw [ixOf_eq] at ej
          have hz : l.length ≤ sizeLine := by rw [← r.length]; exact (I.lstM g).1
          obtain ⟨k1, k2, k3, k4⟩ := ixN_seq ej
          have hz2 : sizeLine ≤ 16777216 := by decide
          refine L2.mt_popAt pins s σ H (.ref p) [.int _] (.ref p) us Q I rfl rv ⟨p, vs, _, j, y, rfl, rfl, g, by omega, by omega, by rw [r.length]; exact k1, e3, ?_⟩
          exact q ρ _ _ (S.le_put ea (.of g)) (S.put ea trivial ⟨_, upd_same, (r.eraseIdx j).mono (S.le_put ea (.of g))⟩) (ry.mono (S.le_put ea (.of g)))
        · exact q.elim
      · exact q.elim
  · exact q.elim
/-! dicts -/
theorem bm_get (K : Kt Z atts k d X W) (N : Nb Z) : BmOk Z X W nGet := by
  refine bm_one (kd := 3) (only3 rfl rfl) (bm_dict (by rw [N.get]; exact F.slot_dict_get) F.type_dict_get fun pins s σ H ρ h p0 p lk l ds xs us Q I S ea eg rv rl q => ?_)
  · have q : PostD Z.L ρ H (getD l lk ds h) Q (Wat W σ) := q
    unfold getD at q
    split at q
    · rename_i kk dd
      obtain ⟨c, q2⟩ := post_bif q
      match xs, us, rv, rl with
      | [y, z], [u, w], .cons r1 (.cons r2 .nil), .cons k1 (.cons k2 .nil) =>
        obtain ⟨H1, o, I1, S1, le, g, alt⟩ := dict_get I S ea eg c k1
        refine d_get2 (room1 K) I1 g r1 r2 fun w' s' I' rw' => ⟨_, H1, I', rw', ?_⟩
        rcases alt with ⟨e1, e2⟩ | ⟨dv, v, e1, e2, r⟩
        · rw [e2]; rw [e1] at q2
          exact q2 ρ _ _ le S1 (k2.mono le)
        · rw [e2]; rw [e1] at q2
          exact q2 ρ _ _ le S1 r
    · exact q.elim
theorem nottup {a : D} (e : (!isTup a) = true) {κ : List Key} (z : keyT a = some κ) : False := by
  cases a <;> first | (cases z; done) | cases e
theorem keyS_eq1 {a : D} {κ : Key} (e : keyS a = some κ) {y : V} (r : RelD Z.L ρ H a y) : y = kV κ := keyS_rel e r
theorem bm_setdefault (K : Kt Z atts k d X W) (N : Nb Z) : BmOk Z X W nSetdefault := by
  refine bm_one (kd := 3) (only3 rfl rfl) (bm_dict (by rw [N.setdefault]; exact F.slot_dict_setdefault) F.type_dict_setdefault fun pins s σ H ρ h p0 p lk l ds xs us Q I S ea eg rv rl q => ?_)
  have q : PostD Z.L ρ H (setdD p0 l lk ds h) Q (Wat W σ) := q
  unfold setdD at q
  split at q
  · rename_i kk dd
    obtain ⟨c, q2⟩ := post_bif q
    obtain ⟨c, c4⟩ := Bool.and_eq_true_iff.mp c
    obtain ⟨c, c3⟩ := Bool.and_eq_true_iff.mp c
    obtain ⟨c1, c2⟩ := Bool.and_eq_true_iff.mp c
    have lk0 := Nat.eq_of_beq_eq_true c2
    subst lk0
    match xs, us, rv, rl with
    | [y, z], [u, w], .cons r1 (.cons r2 .nil), .cons k1 (.cons k2 .nil) =>
      obtain ⟨H1, I1, S1, le, ⟨kvs, κ, _, h0, t, e1, e2⟩ | ⟨kvs, κ, b, _, h0, t, e1, e2, e3⟩⟩ := dict_at I S ea eg c1 k1
      · subst e2
        refine d_setd I1 (h0 rfl) r1 r2 (by rw [t.length]; exact blt_lt c3) (fun v ev w' s' I' rw' => ?_) (fun ev w' s' I' rw' => ?_)
        · rcases t.get (fun _ _ _ _ => keyS_eqK) e1 with ⟨z1, z2⟩ | ⟨dv, v', z1, z2, r⟩
          · rw [z2] at ev; cases ev
          · rw [z2] at ev; cases ev
            rw [z1] at q2
            exact ⟨_, _, I', rw', q2 ρ _ _ le S1 r⟩
        · rcases t.get (fun _ _ _ _ => keyS_eqK) e1 with ⟨z1, z2⟩ | ⟨dv, v', z1, z2, r⟩
          · rw [z1] at q2
            have t2 := t.put (fun _ _ _ _ => keyS_eqK) e1 (k2.mono le) (nodupK I1 (h0 rfl))
            exact ⟨_, _, I', rw', q2 ρ _ _ (le.trans (S1.le_put ea (.of (h0 rfl)))) (S1.put ea trivial ⟨.dK _, RelKv.mono (S1.le_put ea (.of (h0 rfl))) t2, upd_same⟩) ((k2.mono le).mono (S1.le_put ea (.of (h0 rfl))))⟩
          · rw [z2] at ev; cases ev
      · exact (nottup c4 e1).elim
  · exact q.elim
theorem drop_none {κ : Type} [DecidableEq κ] {x : κ} : ∀ {r : List (κ × V)}, x ∉ r.map (·.1) → dropK r x = r
  | [], _ => rfl
  | p :: r, h => by
    rw [List.map_cons, List.mem_cons, not_or] at h
    have ih := drop_none h.2
    unfold dropK at ih ⊢
    rw [List.filter_cons_of_pos (by simpa using fun z => h.1 (Eq.symm z)), ih]
theorem RelKv.del {κ : Type} [DecidableEq κ] {f : D → Option κ} (hf : ∀ a b x y, f a = some x → f b = some y → eqK a b = decide (x = y)) {k : D} {x : κ} (ek : f k = some x) : ∀ {l : List (D × D)} {r : List (κ × V)}, RelKv Z.L ρ H f l r →
    (r.map (·.1)).Nodup → RelKv Z.L ρ H f (dDel k l) (dropK r x)
  | _, _, .nil, _ => .nil
  | _, _, .cons (l := l) (r := r) (k := k') (d := d') (κ' := y) (v := v') e rd t, nd => by
    have q := hf _ _ _ _ e ek
    skip; rw [List.map_cons, List.nodup_cons] at nd
    unfold dDel
    by_cases z : y = x
    · subst z
      rw [decide_eq_true rfl] at q
      rw [q]
      have e2 : dropK ((y, v') :: r) y = r := by
        have e3 := drop_none nd.1
        unfold dropK at e3 ⊢
        rw [List.filter_cons_of_neg (by simp), e3]
      rw [e2]; exact t
    · rw [decide_eq_false z] at q
      have e2 : dropK ((y, v') :: r) x = (y, v') :: dropK r x := by
        unfold dropK
        rw [List.filter_cons_of_pos (by simp [z])]
      rw [q, e2]
      exact .cons e rd (RelKv.del hf ek t nd.2)
theorem bmK_popD (N : Nb Z) : BmK Z X W nPop 3 := by
  refine bm_dict (by rw [N.pop]; exact F.slot_dict_pop) F.type_dict_pop fun pins s σ H ρ h p0 p lk l ds xs us Q I S ea eg rv rl q => ?_
  have q : PostD Z.L ρ H (popD p0 l lk ds h) Q (Wat W σ) := q
  unfold popD at q
  split at q
  · rename_i kk
    obtain ⟨c, q2⟩ := post_bif q
    obtain ⟨c, c4⟩ := Bool.and_eq_true_iff.mp c
    obtain ⟨c1, c2⟩ := Bool.and_eq_true_iff.mp c
    have lk0 := Nat.eq_of_beq_eq_true c2
    subst lk0
    match xs, us, rv, rl with
    | [y], [u], .cons r1 .nil, .cons k1 .nil =>
      obtain ⟨H1, I1, S1, le, ⟨kvs, κ, _, h0, t, e1, e2⟩ | ⟨kvs, κ, b, _, h0, t, e1, e2, e3⟩⟩ := dict_at I S ea eg c1 k1
      · subst e2
        rcases t.get (fun _ _ _ _ => keyS_eqK) e1 with ⟨z1, z2⟩ | ⟨dv, v', z1, z2, r⟩
        · rw [z1] at q2; exact q2.elim
        · rw [z1] at q2
          refine d_pop I1 (h0 rfl) r1 z2 (.inl rfl) fun w' s' I' rw' => ?_
          have t2 := t.del (fun _ _ _ _ => keyS_eqK) e1 (nodupK I1 (h0 rfl))
          exact ⟨_, _, I', rw', q2 ρ _ _ (le.trans (S1.le_put ea (.of (h0 rfl)))) (S1.put ea trivial ⟨.dK _, RelKv.mono (S1.le_put ea (.of (h0 rfl))) t2, upd_same⟩) (r.mono (S1.le_put ea (.of (h0 rfl))))⟩
      · exact (nottup c4 e1).elim
  · exact q.elim
theorem bm_pop (N : Nb Z) : BmOk Z X W nPop := by
  intro pins s σ H ρ h a x v I S rx ra e
  have z : kindM a h = 2 ∨ kindM a h = 3 := by
    revert e
    generalize kindM a h = n
    match n with
    | 0 => exact fun e => nomatch e
    | 1 => exact fun e => nomatch e
    | 2 => exact fun _ => .inl rfl
    | 3 => exact fun _ => .inr rfl
    | _ + 4 => exact fun e => nomatch e
  rcases z with z | z <;> rw [z]
  · exact bmK_popL N pins s σ H ρ h a x v I S rx ra z
  · exact bmK_popD N pins s σ H ρ h a x v I S rx ra z
end
end TB

/-! TB, the link: texts. -/
namespace TB
open L2 PySem PyProof.Rows PySem.Spec
theorem split_plain (c : Nat) : ∀ (s : Sg) (m : Nat) (acc : Sg), s.length ≤ m → splitC c m acc s = TL.spl [c] 0 acc.reverse s
  | [], m, acc, _ => by cases m <;> rfl
  | d :: r, 0, acc, h => nomatch h
  | d :: r, m + 1, acc, h => by
    have ih1 := split_plain c r m [] (Nat.le_of_succ_le_succ h)
    have ih2 := split_plain c r (m + 1) (d :: acc) (by simp at h; omega)
    unfold splitC
    cases q : Nat.beq c d with
    | true =>
      have e := Nat.eq_of_beq_eq_true q
      subst e
      rw [TL.spl_hit (by show ([c] == [c]) = true; exact beq_self_eq_true _)]
      show acc.reverse :: splitC c m [] r = acc.reverse :: TL.spl [c] 0 [] r
      rw [ih1]; rfl
    | false =>
      have n : c ≠ d := fun z => by rw [z] at q; simp at q
      rw [TL.spl_miss (by show ([d] == [c]) = false; simpa using fun z => n (Eq.symm z))]
      show splitC c (m + 1) (d :: acc) r = TL.spl [c] 0 (acc.reverse ++ [d]) r
      rw [ih2, List.reverse_cons]
theorem posC_spec (c : Nat) : ∀ s : Sg, (posC c s = none ∧ ∀ i : Nat, s[i]? ≠ some c) ∨ ∃ i : Nat, posC c s = some i ∧ s[i]? = some c ∧ ∀ k : Nat, k < i → s[k]? ≠ some c
  | [] => .inl ⟨rfl, fun i => by simp⟩
  | d :: r => by
    unfold posC
    cases q : Nat.beq c d with
    | true =>
      have e := Nat.eq_of_beq_eq_true q
      subst e
      exact .inr ⟨0, rfl, rfl, fun k hk => nomatch hk⟩
    | false =>
      have n : c ≠ d := fun z => by rw [z] at q; simp at q
      rcases posC_spec c r with ⟨h1, h2⟩ | ⟨i, h1, h2, h3⟩
      · refine .inl ⟨by rw [h1]; rfl, fun i => ?_⟩
        cases i with
        | zero => simpa using fun z => n (Eq.symm z)
        | succ i => exact h2 i
      · refine .inr ⟨i + 1, by rw [h1]; rfl, h2, fun k hk => ?_⟩
        cases k with
        | zero => simpa using fun z => n (Eq.symm z)
        | succ k => exact h3 k (by omega)
theorem occ_pos (c : Nat) (s : Sg) : Builtin.Str.occurrences (toS s) (toS [c]) 0 (toS s).length 1 = match posC c s with
    | none => []
    | some i => [i] := by
  have hl := StrLaws.occ_length_le (toS s) (toS [c]) 0 (toS s).length 1
  have at_ : ∀ i, StrLaws.At (toS s) (toS [c]) (toS s).length i ↔ s[i]? = some c := fun i => StrLaws.subAt_one (toS s) c i
  rcases StrLaws.occ_head (toS s) (toS [c]) 1 (Nat.le_refl 1) with ⟨h0, hn⟩ | ⟨i, r, h0, hi, hn⟩
  · rw [h0]
    rcases posC_spec c s with ⟨h1, _⟩ | ⟨i, h1, h2, _⟩
    · rw [h1]
    · exact absurd ((at_ i).mpr h2) (hn i)
  · rw [h0] at hl ⊢
    have r0 : r = [] := by
      cases r with
      | nil => rfl
      | cons a b => simp at hl
    subst r0
    rcases posC_spec c s with ⟨h1, h2⟩ | ⟨j, h1, h2, h3⟩
    · exact absurd ((at_ i).mp hi) (h2 i)
    · rw [h1]
      show [i] = [j]
      have e : i = j := by
        rcases Nat.lt_trichotomy i j with z | z | z
        · exact absurd ((at_ i).mp hi) (h3 i z)
        · exact z
        · exact absurd ((at_ j).mpr h2) (hn j z)
      rw [e]
theorem kind_low {c : Nat} (hc : c < 128) (s : Sg) : ¬ Builtin.Str.strKind (toS s) < Builtin.Str.strKind (toS [c]) := TL.kind_ok (SX.all256 (by show (decide (c < 256) && true) = true; rw [decide_eq_true (by omega)]; rfl))
theorem splitMax_one {c : Nat} (hc : c < 128) (s : Sg) : Txt.splitMax (toS s) (toS [c]) 1 = (splitOne c s).map toS := by
  have hk := kind_low hc s
  have occ := occ_pos c s
  have lim : limitOf (toS s) 1 = 1 := rfl
  unfold Txt.splitMax splitOne
  rw [lim, occ]
  rcases posC_spec c s with ⟨h1, h2⟩ | ⟨i, h1, h2, h3⟩
  · rw [h1]
    show (if _ then [toS s] else if true = true then [toS s] else _) = [toS s]
    rw [if_pos rfl]
    split <;> rfl
  · rw [h1]
    have hi : i < s.length := by
      rcases Nat.lt_or_ge i s.length with z | z
      · exact z
      · rw [List.getElem?_eq_none z] at h2; cases h2
    have nl : ¬ (toS s).length < (toS [c]).length := by
      rw [toS_length]
      show ¬ s.length < 1
      omega
    rw [if_neg (by simp only [Bool.or_eq_true, decide_eq_true_eq]; exact fun z => z.elim nl hk), if_neg (by show ¬ false = true; simp)]
    show [Builtin.Str.strSub (toS s) 0 i, Builtin.Str.strSub (toS s) (i + (toS [c]).length) (toS s).length] = [toS (s.take i), toS (s.drop (i + 1))]
    have e1 : Builtin.Str.strSub (toS s) 0 i = toS (s.take i) := TL.ext_tl (by rw [TL.tl_strSub]; show (s.drop 0).take (i - 0) = s.take i; simp)
    have e2 : Builtin.Str.strSub (toS s) (i + (toS [c]).length) (toS s).length = toS (s.drop (i + 1)) := TL.ext_tl (by rw [TL.tl_strSub_end]; rfl)
    rw [e1, e2]
theorem join_plain (sep : Sg) : ∀ l : List Sg, joinS sep l = TL.joinL sep l
  | [] => rfl
  | [x] => rfl
  | x :: y :: r => by
    have ih := join_plain sep (y :: r)
    show x ++ sep ++ joinS sep (y :: r) = x ++ (sep ++ TL.joinL sep (y :: r))
    rw [ih, List.append_assoc]
theorem ascii_all : ∀ {s : Sg}, asciiS s = true → s.all (· < 128) = true
  | [], _ => rfl
  | c :: r, h => by
    obtain ⟨h1, h2⟩ := Bool.and_eq_true_iff.mp h
    show (decide (c < 128) && r.all (· < 128)) = true
    rw [ascii_all h2, decide_eq_true (blt_lt h1)]; rfl
theorem upC_eq (c : Nat) : upC c = PyProof.Rows.up1 c := by
  unfold upC PyProof.Rows.up1
  by_cases h1 : 97 ≤ c <;> by_cases h2 : c ≤ 122
  · rw [Nat.ble_eq_true_of_le h1, Nat.ble_eq_true_of_le h2, if_pos ⟨h1, h2⟩]; rfl
  · rw [show Nat.ble c 122 = false from Bool.eq_false_iff.mpr fun z => h2 (Nat.le_of_ble_eq_true z), if_neg (fun z => h2 z.2), Bool.and_false]; rfl
  · rw [show Nat.ble 97 c = false from Bool.eq_false_iff.mpr fun z => h1 (Nat.le_of_ble_eq_true z), if_neg (fun z => h1 z.1), Bool.false_and]; rfl
  · rw [show Nat.ble 97 c = false from Bool.eq_false_iff.mpr fun z => h1 (Nat.le_of_ble_eq_true z), if_neg (fun z => h1 z.1), Bool.false_and]; rfl
theorem loC_eq (c : Nat) : loC c = PyProof.Rows.lo1 c := by
  unfold loC PyProof.Rows.lo1
  by_cases h1 : 65 ≤ c <;> by_cases h2 : c ≤ 90
  · rw [Nat.ble_eq_true_of_le h1, Nat.ble_eq_true_of_le h2, if_pos ⟨h1, h2⟩]; rfl
  · rw [show Nat.ble c 90 = false from Bool.eq_false_iff.mpr fun z => h2 (Nat.le_of_ble_eq_true z), if_neg (fun z => h2 z.2), Bool.and_false]; rfl
  · rw [show Nat.ble 65 c = false from Bool.eq_false_iff.mpr fun z => h1 (Nat.le_of_ble_eq_true z), if_neg (fun z => h1 z.1), Bool.false_and]; rfl
  · rw [show Nat.ble 65 c = false from Bool.eq_false_iff.mpr fun z => h1 (Nat.le_of_ble_eq_true z), if_neg (fun z => h1 z.1), Bool.false_and]; rfl
theorem preS_eq : ∀ b a : Sg, preS b a = (decide (b.length ≤ a.length) && (a.take b.length == b))
  | [], a => by simp [preS]
  | x :: b, [] => by simp [preS]
  | x :: b, y :: a => by
    have ih := preS_eq b a
    unfold preS
    cases q : Nat.beq x y with
    | true =>
      have e := Nat.eq_of_beq_eq_true q
      subst e
      show preS b a = _
      rw [ih]
      simp
    | false =>
      have n : y ≠ x := fun z => by rw [z] at q; simp at q
      simp [n]
theorem starts_plain (a b : Sg) : Txt.startswith (toS a) (toS b) = preS b a := by
  unfold Txt.startswith
  rw [preS_eq, StrLaws.subAt_eq, toS_length, toS_length, Nat.zero_add]
  rfl
section
variable {Z : Wl} {atts : List Nat} {k d : Nat} {X : Cx} {W : WX} {pins : List (Addr × Obj)} {σ : St} {H : Hp} {s : Shared} {ρ : Rho} {h : Hv} {env : Env}
theorem strs_rel : ∀ {l : List D} {ss : List Sg} {vs : List V}, strsOf l = some ss → RelL Z.L ρ H l vs → vs = (ss.map toS).map V.str
  | [], _, _, e, .nil => by cases e; rfl
  | x :: r, ss, _, e, .cons h t => by
    unfold strsOf at e
    split at e
    · rename_i e0; cases e0
    · rename_i s' r' e0
      cases e0
      obtain ⟨ss', e1, rfl⟩ := Option.map_eq_some_iff.mp e
      cases h
      rw [strs_rel e1 t]; rfl
    · cases e
theorem map_strs : ∀ ys : List Sg, RelL Z.L ρ H (ys.map .str) ((ys.map toS).map V.str)
  | [] => .nil
  | y :: r => .cons (.str y) (map_strs r)
theorem lens_toS (ss : List Sg) : (ss.map toS).map (·.length) = ss.map List.length := by
  rw [List.map_map]
  exact List.map_congr_left fun a _ => toS_length a
theorem bm_join (K : Kt Z atts k d X W) (N : Nb Z) : BmOk Z X W nJoin := by
  refine bm_one (kd := 1) (only1 rfl rfl) (bm_str (by rw [N.join]; exact F.slot_str_join) F.type_str_join fun pins s σ H ρ h t v ds xs us Q I S rx rv rl q => ?_)
  replace q : PostD Z.L ρ H (joinR t ds h) Q (Wat W σ) := q
  unfold joinR at q
  split at q
  · rename_i x
    split at q
    · rename_i l el
      split at q
      · rename_i ss es
        obtain ⟨c, q2⟩ := post_bif q
        cases rl with
        | cons rd rn =>
          cases rn
          have hz : ((ss.map toS).map (·.length)).sum + (ss.map toS).length * (toS t).length ≤ 16777216 := by
            rw [lens_toS, List.length_map, toS_length]
            exact Nat.le_of_ble_eq_true c
          have fin : ∀ H0, H0 = H → Q (.str (Txt.join (toS t) (ss.map toS))) H0 := by
            intro H0 e; subst e
            have e2 : Txt.join (toS t) (ss.map toS) = toS (joinS t ss) := by rw [join_plain]; exact SX.join_S t ss
            rw [e2]
            exact done q2 S (.str _)
          cases rd with
          | @tup l' p vs tp r =>
            cases el
            refine L2.mt_join pins s σ H _ _ v us Q I rx rv ⟨_, p, _, rfl, rfl, .inr ?_, hz, fin H rfl⟩
            rw [← strs_rel es r]; exact tpX K tp
          | @ref p0 p ea =>
            have el : (match h.get p0 with
              | some (.lst l) => some l
              | _ => none) = some l := el
            split at el
            · rename_i l' eg
              obtain rfl : l' = l := Option.some.inj el
              obtain ⟨vs, g, r⟩ := S.lst ea eg
              refine L2.mt_join pins s σ H _ _ v us Q I rx rv ⟨_, p, _, rfl, rfl, .inl ?_, hz, fin H rfl⟩
              rw [← strs_rel es r]; exact sql X g
            · cases el
          | non => cases el
          | bl _ => cases el
          | int _ => cases el
          | str _ => cases el
          | ty _ => cases el
      · exact q.elim
    · exact q.elim
  · exact q.elim
theorem new_strs {ys : List Sg} {Q : VK} {Wk : WK} (S : Sim Z.L ρ h H) (q : PostD Z.L ρ H (newL (ys.map .str) h) Q Wk) : rNewStrs (ys.map toS) H Q := by
  obtain ⟨_, q2⟩ := post_newL q
  exact fun p hp => post_new q2 S (map_strs ys) hp
theorem bm_split (N : Nb Z) : BmOk Z X W nSplit := by
  refine bm_one (kd := 1) (only1 rfl rfl) (bm_str (by rw [N.split]; exact F.slot_str_split) F.type_str_split fun pins s σ H ρ h t v ds xs us Q I S rx rv rl q => ?_)
  replace q : PostD Z.L ρ H (splitR t ds h) Q (Wat W σ) := q
  unfold splitR at q
  split at q
  · rename_i c
    obtain ⟨c1, q2⟩ := post_bif q
    obtain ⟨c1, c2⟩ := Bool.and_eq_true_iff.mp c1
    cases rl with
    | cons rd rn =>
      cases rn
      cases rd
      refine L2.mt_split pins s σ H _ _ v us Q I rx rv ⟨_, _, rfl, rfl, rfl, by rw [toS_length]; exact ble_line c1, ?_⟩
      have e : Txt.split (toS t) (toS [c]) = (splitC c t.length [] t).map toS := by
        rw [split_plain c t t.length [] (Nat.le_refl _)]
        exact SX.split_S (by simp) (by show (decide (c < 256) && true) = true; rw [decide_eq_true (by have := blt_lt c2; omega)]; rfl)
      rw [e]
      exact new_strs S q2
  · rename_i c k
    obtain ⟨c0, q2⟩ := post_bif q
    obtain ⟨c4, c3⟩ := Bool.and_eq_true_iff.mp c0
    obtain ⟨c1, c2⟩ := Bool.and_eq_true_iff.mp c4
    have k1 : k = 1 := by simpa using c3
    subst k1
    match xs, us, rv, rl with
    | [y, z], [u, w], .cons r1 (.cons r2 .nil), .cons z1 (.cons z2 .nil) =>
      cases z1
      cases z2
      refine L2.mt_splitMax pins s σ H _ _ v [u, w] Q I rx (.cons r1 (.cons r2 .nil)) ⟨_, _, 1, rfl, rfl, rfl, by decide, by decide, by rw [toS_length]; exact ble_line c1, ?_⟩
      rw [splitMax_one (blt_lt c2)]
      exact new_strs S q2
  · exact q.elim
theorem bm_index (N : Nb Z) : BmOk Z X W nIndex := by
  refine bm_one (kd := 1) (only1 rfl rfl) (bm_str (by rw [N.index]; exact F.slot_str_index) F.type_str_index fun pins s σ H ρ h t v ds xs us Q I S rx rv rl q => ?_)
  replace q : PostD Z.L ρ H (idxS t ds h) Q (Wat W σ) := q
  unfold idxS at q
  split at q
  · rename_i c
    obtain ⟨z, e, q2⟩ := post_opt q
    obtain ⟨i, e1, rfl⟩ := Option.map_eq_some_iff.mp e
    cases rl with
    | cons rd rn =>
      cases rn
      cases rd
      refine L2.mt_sindex pins s σ H _ _ v us Q I rx rv ⟨_, _, i, [], rfl, rfl, ?_, done q2 S (.int _)⟩
      rw [occ_pos, e1]
  · exact q.elim
theorem bm_upper (N : Nb Z) : BmOk Z X W nUpper := by
  refine bm_one (kd := 1) (only1 rfl rfl) (bm_str (by rw [N.upper]; exact F.slot_str_upper) F.type_str_upper fun pins s σ H ρ h t v ds xs us Q I S rx rv rl q => ?_)
  replace q : PostD Z.L ρ H (uprS t ds h) Q (Wat W σ) := q
  unfold uprS at q
  split at q
  · obtain ⟨c1, q2⟩ := post_bif q
    obtain ⟨c1, c2⟩ := Bool.and_eq_true_iff.mp c1
    cases rl
    refine L2.mt_upper pins s σ H _ _ v us Q I rx rv ⟨_, rfl, rfl, by rw [toS_length]; exact Nat.le_of_ble_eq_true c2, ?_⟩
    have e : Txt.upper (toS t) = toS (t.map upC) := by rw [show upC = PyProof.Rows.up1 from funext upC_eq]; exact SX.upper_S (ascii_all c1)
    rw [e]; exact done q2 S (.str _)
  · exact q.elim
theorem bm_lower (N : Nb Z) : BmOk Z X W nLower := by
  refine bm_one (kd := 1) (only1 rfl rfl) (bm_str (by rw [N.lower]; exact F.slot_str_lower) F.type_str_lower fun pins s σ H ρ h t v ds xs us Q I S rx rv rl q => ?_)
  replace q : PostD Z.L ρ H (lwrS t ds h) Q (Wat W σ) := q
  unfold lwrS at q
  split at q
  · obtain ⟨c1, q2⟩ := post_bif q
    obtain ⟨c1, c2⟩ := Bool.and_eq_true_iff.mp c1
    cases rl
    refine L2.mt_lower pins s σ H _ _ v us Q I rx rv ⟨_, rfl, rfl, by rw [toS_length]; exact Nat.le_of_ble_eq_true c2, ?_⟩
    have e : Txt.lower (toS t) = toS (t.map loC) := by rw [show loC = PyProof.Rows.lo1 from funext loC_eq]; exact SX.lower_S (ascii_all c1)
    rw [e]; exact done q2 S (.str _)
  · exact q.elim
theorem bm_startswith (N : Nb Z) : BmOk Z X W nStartswith := by
  refine bm_one (kd := 1) (only1 rfl rfl) (bm_str (by rw [N.startswith]; exact F.slot_str_startswith) F.type_str_startswith fun pins s σ H ρ h t v ds xs us Q I S rx rv rl q => ?_)
  replace q : PostD Z.L ρ H (stwS t ds h) Q (Wat W σ) := q
  unfold stwS at q
  split at q
  · cases rl with
    | cons rd rn =>
      cases rn
      cases rd
      refine L2.mt_startswith pins s σ H _ _ v us Q I rx rv ⟨_, _, rfl, rfl, ?_⟩
      rw [starts_plain]; exact done q S (.bl _)
  · exact q.elim
end
end TB

/-! TB, the link: what is walked. -/
namespace TB
open L2 PySem PyProof.Rows PySem.Spec
/-! ### walks that hand out tuples, as turns of the hand layer -/
section
variable {P : Program} {w : World} {K : PySem.W.Frag}
/-- one turn's walk -/
def TurnW (P : Program) (w : World) (A : Around) (it : Addr) (fp : List Addr) (tn : Nat → Heap → Prop) (J : L2.It) (i : Nat) (H : Hp) (h : Heap) : Prop :=
  ∃ (fp' wr : List Addr) (n : Nat) (Pt : Nat → Array Value → Prop) (St : Nat → Heap → Prop) (Mid : Nat → Addr → Heap → Prop), WalksT P w A it fp' wr n Pt St Mid ∧ i < n ∧ St i h ∧ (∀ b ∈ wr, b ∈ fp) ∧ (∀ h', St (i + 1) h' → tn (i + 1) h') ∧
    ∀ vals, Pt i vals → ∃ (xs : List V) (us : List Value), vals = us.toArray ∧ Vals xs us ∧ xs.length ≤ sizeLine ∧ ∀ T, H T = none → J.yld i H (.ref T) (upd H T (.tup xs))
def DoneW (P : Program) (w : World) (A : Around) (it : Addr) (fp : List Addr) (i : Nat) (h : Heap) : Prop :=
  ∃ (fp' wr : List Addr) (n : Nat) (Pt : Nat → Array Value → Prop) (St : Nat → Heap → Prop) (Mid : Nat → Addr → Heap → Prop), WalksT P w A it fp' wr n Pt St Mid ∧ St n h ∧ ∀ b ∈ wr, b ∈ fp
theorem turn_of {elts : List Expr} {kk : Nat} {tpos : Pos} {J : L2.It} {fp : List Addr} {it : Addr} {tn : Nat → Heap → Prop} (mem : it ∈ fp) (obj : ∀ i h, tn i h → ∀ b ∈ fp, ∃ o, h.get? b = some o ∧ ∀ v, o.data ≠ .cell v)
    (keep : ∀ i h h', tn i h → (∀ b ∈ fp, ∀ o, h.get? b = some o → h'.get? b = some o) → tn i h')
    (item : ∀ (X : Cx), X.prog = P → X.w = w → X.K = K → X.calm = true → ∀ (i : Nat) (pins : List (Addr × Obj)) (s : Shared) (σ : St) (H : Hp), L2.Inv X pins σ H s → (∀ b ∈ fp, H b = none) → tn i s.heap → J.go i H → TurnW P w X.A it fp tn J i H s.heap)
    (done : ∀ (X : Cx), X.prog = P → X.w = w → X.K = K → X.calm = true → ∀ (i : Nat) (pins : List (Addr × Obj)) (s : Shared) (σ : St) (H : Hp), L2.Inv X pins σ H s → (∀ b ∈ fp, H b = none) → tn i s.heap → J.stop i H → DoneW P w X.A it fp i s.heap)
    (self : ∀ (A : Around) (i : Nat) (s : Shared) (Q : Value → Shared → Prop) (E : Value → Shared → Prop), tn i s.heap → Q (.ref it) s → wpAny (model P w) A (pyIter (.ref it)) Q E s) : Turn P w K (.Tuple elts kk tpos) J fp it tn where
  mem := mem
  obj := obj
  keep := keep
  self := self
  item := by
    skip; intro X hP hw hK hc i pins s σ H E I hf st hg
    obtain ⟨fp', wr, n, Pt, St, Mid, W, hi, st1, sub, up, yl⟩ := item X hP hw hK hc i pins s σ H I (fun b hb => (hf b hb).1) st hg
    refine W.item i s _ E hi st1 fun T vals h' tk pt hT isT mid hk => ⟨.ref T, rfl, W.go elts kk tpos i T { s with heap := h', toks := tk } _ E mid fun h'' st2 hk2 => ?_⟩
    obtain ⟨xs, us, ev, rv, hz, y⟩ := yl vals pt
    have nT := W.apart i T h' mid
    obtain ⟨o, ho, hcl, k, hd⟩ := isT
    have ho2 : h''.get? T = some o := hk2 T o nT ho
    have fresh : H T = none := I.hok.fresh hT
    subst hP hw
    have new : ObjOk X.prog X.w (upd H T (.tup xs)) h'' T (.tup xs) := ⟨hz, us, rv, ⟨o, ho2, hcl, k, by rw [hd, ev]⟩⟩
    have I1 := I.turnedNew (t' := tk) (ch := fp) (fun b ob hb q => hk2 b ob (fun z => hb (sub b z)) (hk b ob (fun z => hb (sub b z)) q)) hf hT new
    refine ⟨.ref T, _, I1, rfl, y T fresh, up _ st2, fun b hb => ?_⟩
    obtain ⟨ob, hob, _⟩ := obj _ _ st b hb
    have : b ≠ T := Nat.ne_of_lt (Nat.lt_of_lt_of_le (Heap.lt_size hob) hT)
    rw [upd_ne this]
    exact (hf b hb).1
  done := by
    skip; intro X hP hw hK hc i pins s σ H E I hf st hg
    obtain ⟨fp', wr, n, Pt, St, Mid, W, st1, sub⟩ := done X hP hw hK hc i pins s σ H I (fun b hb => (hf b hb).1) st hg
    exact W.done s _ E st1 fun h' tk hk => ⟨rfl, I.turnedL (ch := fp) (fun b o hb q => hk b o (fun z => hb (sub b z)) q) hf⟩
end

/-! ### sources: lists, tuples, texts -/
inductive Sv where
  | lst (p : Addr)
  | tup (p : Addr) (vs : List V)
  | str (s : Sg)
def Sv.val : Sv → V
  | .lst p => .ref p
  | .tup p _ => .ref p
  | .str s => .str (toS s)
/-- what a source has at a place: an item, or its end -/
def atS : Sv → Nat → Hp → Option V → Prop
  | .lst p, i, H, o => ∃ vs : List V, Rd H p (.lst vs) ∧ i ≤ vs.length ∧ o = vs[i]?
  | .tup p vs, i, H, o => Tp H p vs ∧ i ≤ vs.length ∧ o = vs[i]?
  | .str s, i, H, o => i ≤ s.length ∧ o = (s[i]?).map fun c => V.str (toS [c])
theorem Rd.inj {H : Hp} {p : Addr} {u u' : List V} (a : Rd H p (.lst u)) (b : Rd H p (.lst u')) : u = u' := by
  rcases a with a | ⟨o, a⟩ <;> rcases b with b | ⟨o', b⟩ <;> (rw [a] at b; cases b) <;> rfl
theorem atS_fun : ∀ {sv : Sv} {i : Nat} {H : Hp} {a b : Option V}, atS sv i H a → atS sv i H b → a = b
  | .lst _, _, _, _, _, ⟨vs, r, _, e⟩, ⟨vs', r', _, e'⟩ => by
    have := Rd.inj r r'
    subst this
    rw [e, e']
  | .tup _ _, _, _, _, _, ⟨_, _, e⟩, ⟨_, _, e'⟩ => by rw [e, e']
  | .str _, _, _, _, _, ⟨_, e⟩, ⟨_, e'⟩ => by rw [e, e']
def curS : Sv → Addr → Nat → Heap → Prop
  | .lst p, it, i, h => h.IsListIter it p i
  | .tup p _, it, i, h => h.IsTupleIter it p i
  | .str s, it, i, h => ∃ t, h.IsStrIter it (strIterType (toS s)) (toS s) t i
theorem curS_obj : ∀ {sv : Sv} {it : Addr} {i : Nat} {h : Heap}, curS sv it i h → ∃ o, h.get? it = some o ∧ ∀ v, o.data ≠ .cell v
  | .lst _, _, _, _, ⟨o, e, _, d⟩ => ⟨o, e, fun v z => by rw [d] at z; cases z⟩
  | .tup _ _, _, _, _, ⟨o, e, _, d⟩ => ⟨o, e, fun v z => by rw [d] at z; cases z⟩
  | .str _, _, _, _, ⟨t, o, e, _, d⟩ => ⟨o, e, fun v z => by rw [d] at z; cases z⟩
theorem curS_keep : ∀ {sv : Sv} {it : Addr} {i : Nat} {h h' : Heap}, curS sv it i h → (∀ o, h.get? it = some o → h'.get? it = some o) → curS sv it i h'
  | .lst _, _, _, _, _, c, k => Heap.IsListIter.at c k
  | .tup _ _, _, _, _, _, c, k => Heap.IsTupleIter.at c k
  | .str _, _, _, _, _, ⟨t, o, e, r⟩, k => ⟨t, o, k o e, r⟩
/-- one place of a source is drawn -/
structure DrawS (X : Cx) (sv : Sv) (it : Addr) (i : Nat) (H : Hp) (h : Heap) (o : Option V) (fp : List Addr) (n : Nat) (P : Nat → Value → Prop) (St : Nat → Heap → Prop) : Prop where
  D : Draws X.prog X.w X.A.in1 it fp n P St
  st : St i h
  up : ∀ j h', St j h' → curS sv it j h'
  mem : it ∈ fp
  own : ∀ b ∈ fp, b = it ∨ H b ≠ none
  le : i ≤ n
  fin : o = none → i = n
  item : ∀ v, o = some v → i < n ∧ ∀ u, P i u → RelV v u
theorem drawS {X : Cx} {pins : List (Addr × Obj)} {σ : St} {H : Hp} {s : Shared} (hh : X.A.handled = none) (I : L2.Inv X pins σ H s) {it : Addr} {i : Nat} {o : Option V} (hit : H it = none) : ∀ {sv : Sv}, curS sv it i s.heap → atS sv i H o →
    ∃ fp n P St, DrawS X sv it i H s.heap o fp n P St
  | .lst p, c, ⟨vs, r, hi, e⟩ => by
    obtain ⟨its, rv, pl, hz⟩ := I.list (.inl r)
    have hp : H p ≠ none := by rcases r with r | ⟨_, r⟩ <;> (rw [r]; simp)
    have hl := rv.length
    refine ⟨_, _, _, _, ⟨Draws.list (A := X.A.in1) hh it p (fun z => hp (z ▸ hit)) its.toArray, ⟨c, pl.isList⟩, fun j h' st => st.1, by simp, fun b hb => ?_, by simp; omega, fun z => ?_, fun v z => ?_⟩⟩
    · rcases List.mem_cons.mp hb with z | z
      · exact .inl z
      · skip; have z := List.mem_singleton.mp z
        subst z; exact .inr hp
    · rw [z] at e
      have := List.getElem?_eq_none_iff.mp e.symm
      simp; omega
    · rw [z] at e
      obtain ⟨u, hu, ru⟩ := rv.get e.symm
      refine ⟨?_, fun u' hu' => ?_⟩
      · have := List.getElem?_eq_some_iff.mp e.symm
        obtain ⟨q, _⟩ := this
        simp; omega
      · have : its[i]? = some u' := by simpa using hu'
        rw [hu] at this; cases this; exact ru
  | .tup p vs, c, ⟨r, hi, e⟩ => by
    obtain ⟨its, rv, pl, hz⟩ := I.tuple r.sq
    have hp : H p ≠ none := by rw [show H p = some (.tup vs) from r]; simp
    have hl := rv.length
    refine ⟨_, _, _, _, ⟨Draws.tuple (A := X.A.in1) hh it p (fun z => hp (z ▸ hit)) its.toArray, ⟨c, show s.heap.IsTuple p its.toArray from pl⟩, fun j h' st => st.1, by simp, fun b hb => ?_, by simp; omega, fun z => ?_, fun v z => ?_⟩⟩
    · rcases List.mem_cons.mp hb with z | z
      · exact .inl z
      · skip; have z := List.mem_singleton.mp z
        subst z; exact .inr hp
    · rw [z] at e
      have := List.getElem?_eq_none_iff.mp e.symm
      simp; omega
    · rw [z] at e
      obtain ⟨u, hu, ru⟩ := rv.get e.symm
      refine ⟨?_, fun u' hu' => ?_⟩
      · have := List.getElem?_eq_some_iff.mp e.symm
        obtain ⟨q, _⟩ := this
        simp; omega
      · have : its[i]? = some u' := by simpa using hu'
        rw [hu] at this; cases this; exact ru
  | .str t, ⟨tk, c⟩, ⟨hi, e⟩ => by
    refine ⟨_, _, _, _, ⟨Draws.text (A := X.A.in1) hh it (toS t) tk, c, fun j h' st => ⟨tk, st⟩, by simp, fun b hb => .inl (by simpa using hb), by show i ≤ t.toArray.size; simpa using hi, fun z => ?_, fun v z => ?_⟩⟩
    · rw [z] at e
      have e := Option.map_eq_none_iff.mp e.symm
      have := List.getElem?_eq_none_iff.mp e
      show i = t.toArray.size
      simp; omega
    · rw [z] at e
      obtain ⟨c0, e0, rfl⟩ := Option.map_eq_some_iff.mp e.symm
      refine ⟨?_, fun u' ⟨c', tk', h1, h2⟩ => ?_⟩
      · obtain ⟨q, _⟩ := List.getElem?_eq_some_iff.mp e0
        show i < t.toArray.size
        simpa using q
      · have h1 : t.toArray[i]? = some c' := h1
        have h1 : t[i]? = some c' := by simpa using h1
        rw [e0] at h1; cases h1
        exact ⟨tk', h2⟩
end TB

/-! TB, the link: zip and enumerate over sources. -/
namespace TB
open L2 PySem PyProof.Rows PySem.Spec
section
variable {P : Program} {w : World} {K : PySem.W.Frag} {elts : List Expr} {kk : Nat} {tpos : Pos}
/-- pairs -/
def Jz (s1 s2 : Sv) : L2.It :=
  ⟨fun i H => ∃ v1 v2, atS s1 i H (some v1) ∧ atS s2 i H (some v2),
   fun i H v H' => ∃ T v1 v2, v = .ref T ∧ H T = none ∧ H' = upd H T (.tup [v1, v2]) ∧ atS s1 i H (some v1) ∧ atS s2 i H (some v2),
   fun i H => ∃ o1 o2, atS s1 i H o1 ∧ atS s2 i H o2 ∧ (o1 = none ∨ o2 = none)⟩
def tnZ (s1 s2 : Sv) (z TI TO i1 i2 : Addr) (i : Nat) (h : Heap) : Prop :=
  IsZip h z TI TO .none ∧ IsTupOf2 h TI (.ref i1) (.ref i2) ∧ (∃ a1 a2, IsTupOf2 h TO a1 a2) ∧ curS s1 i1 i h ∧ curS s2 i2 i h
structure Ap2 (z TI TO i1 i2 : Addr) : Prop where
  a : TI ≠ z
  b : TO ≠ z
  c : TI ≠ TO
  d : TI ≠ i1
  e : TI ≠ i2
  f : z ≠ i1
  g : z ≠ i2
  h : TO ≠ i1
  i : TO ≠ i2
  j : i1 ≠ i2
theorem off {H : Hp} {b it : Addr} {fp : List Addr} (own : ∀ b ∈ fp, b = it ∨ H b ≠ none) (hb : H b = none) (ne : b ≠ it) : b ∉ fp := fun z => (own b z).elim ne fun q => q hb
theorem Ap2.sep {z TI TO i1 i2 : Addr} (A : Ap2 z TI TO i1 i2) {H : Hp} {fp1 fp2 : List Addr} (m1 : i1 ∈ fp1) (m2 : i2 ∈ fp2) (o1 : ∀ b ∈ fp1, b = i1 ∨ H b ≠ none) (o2 : ∀ b ∈ fp2, b = i2 ∨ H b ≠ none)
    (hz : H z = none) (hTO : H TO = none) (h1 : H i1 = none) (h2 : H i2 = none) : ZipSep2 z TI TO i1 i2 fp1 fp2 :=
  ⟨A.a, A.b, A.c, A.d, m1, off o1 hz A.f, off o1 hTO A.h, A.e, m2, off o2 hz A.g, off o2 hTO A.i, off o2 h1 A.j, off o1 h2 (Ne.symm A.j)⟩
theorem turn_z {s1 s2 : Sv} {z TI TO i1 i2 : Addr} (A : Ap2 z TI TO i1 i2) : Turn P w K (.Tuple elts kk tpos) (Jz s1 s2) [z, TI, TO, i1, i2] z (tnZ s1 s2 z TI TO i1 i2) := by
  refine turn_of (by simp) (fun i h st c hc => ?_) (fun i h h' st k => ?_) (fun X hP hw hK hc i pins s σ H I hn st hg => ?_) (fun X hP hw hK hc i pins s σ H I hn st hg => ?_) (fun _ i s Q E st q => wpAny_pyIter_zip st.1 q)
  · obtain ⟨hz, hTI, ⟨x, y, hTO⟩, c1, c2⟩ := st
    skip; have e' : c = z ∨ c = TI ∨ c = TO ∨ c = i1 ∨ c = i2 := by simpa using hc
    rcases e' with q | q | q | q | q <;> rw [q]
    · exact ⟨_, hz, fun v q => nomatch q⟩
    · exact ⟨_, hTI, fun v q => nomatch q⟩
    · exact ⟨_, hTO, fun v q => nomatch q⟩
    · exact curS_obj c1
    · exact curS_obj c2
  · obtain ⟨hz, hTI, ⟨x, y, hTO⟩, c1, c2⟩ := st
    exact ⟨k z (by simp) _ hz, k TI (by simp) _ hTI, ⟨x, y, k TO (by simp) _ hTO⟩, curS_keep c1 fun o q => k i1 (by simp) o q, curS_keep c2 fun o q => k i2 (by simp) o q⟩
  · subst hP hw
    obtain ⟨hz, hTI, hTO, c1, c2⟩ := st
    obtain ⟨v1, v2, a1, a2⟩ := hg
    obtain ⟨fp1, n1, P1, St1, D1⟩ := drawS (I.ok.hd hc) I (hn i1 (by simp)) c1 a1
    obtain ⟨fp2, n2, P2, St2, D2⟩ := drawS (I.ok.hd hc) I (hn i2 (by simp)) c2 a2
    obtain ⟨l1, r1⟩ := D1.item v1 rfl
    obtain ⟨l2, r2⟩ := D2.item v2 rfl
    have S := A.sep (H := H) D1.mem D2.mem D1.own D2.own (hn z (by simp)) (hn TO (by simp)) (hn i1 (by simp)) (hn i2 (by simp))
    refine ⟨_, _, _, _, _, _, WalksT.zipD2 S D1.D D2.D, by omega, ⟨hz, hTI, hTO, D1.st, D2.st⟩, fun b hb => ?_, fun h' ⟨q1, q2, q3, q4, q5⟩ => ⟨q1, q2, q3, D1.up _ _ q4, D2.up _ _ q5⟩, fun vals ⟨u1, u2, p1, p2, ev⟩ => ?_⟩
    · have e' : b = z ∨ b = TO ∨ b = i1 ∨ b = i2 := by simpa using hb
      rcases e' with q | q | q | q <;> rw [q] <;> simp
    · exact ⟨[v1, v2], [u1, u2], ev, .cons (r1 u1 p1) (.cons (r2 u2 p2) .nil), by show 2 ≤ sizeLine; decide, fun T hT => ⟨T, v1, v2, rfl, hT, rfl, a1, a2⟩⟩
  · subst hP hw
    obtain ⟨hz, hTI, hTO, c1, c2⟩ := st
    obtain ⟨o1, o2, a1, a2, alt⟩ := hg
    obtain ⟨fp1, n1, P1, St1, D1⟩ := drawS (I.ok.hd hc) I (hn i1 (by simp)) c1 a1
    obtain ⟨fp2, n2, P2, St2, D2⟩ := drawS (I.ok.hd hc) I (hn i2 (by simp)) c2 a2
    have S := A.sep (H := H) D1.mem D2.mem D1.own D2.own (hn z (by simp)) (hn TO (by simp)) (hn i1 (by simp)) (hn i2 (by simp))
    have e : i = min n1 n2 := by
      have := D1.le
      have := D2.le
      rcases alt with q | q
      · have := D1.fin q; omega
      · have := D2.fin q; omega
    refine ⟨_, _, _, _, _, _, WalksT.zipD2 S D1.D D2.D, by rw [← e]; exact ⟨hz, hTI, hTO, D1.st, D2.st⟩, fun b hb => ?_⟩
    have e' : b = z ∨ b = TO ∨ b = i1 ∨ b = i2 := by simpa using hb
    rcases e' with q | q | q | q <;> rw [q] <;> simp
/-- threes -/
def Jz3 (s1 s2 s3 : Sv) : L2.It :=
  ⟨fun i H => ∃ v1 v2 v3, atS s1 i H (some v1) ∧ atS s2 i H (some v2) ∧ atS s3 i H (some v3),
   fun i H v H' => ∃ T v1 v2 v3, v = .ref T ∧ H T = none ∧ H' = upd H T (.tup [v1, v2, v3]) ∧ atS s1 i H (some v1) ∧ atS s2 i H (some v2) ∧ atS s3 i H (some v3),
   fun i H => ∃ o1 o2 o3, atS s1 i H o1 ∧ atS s2 i H o2 ∧ atS s3 i H o3 ∧ (o1 = none ∨ o2 = none ∨ o3 = none)⟩
def tnZ3 (s1 s2 s3 : Sv) (z TI TO i1 i2 i3 : Addr) (i : Nat) (h : Heap) : Prop :=
  IsZip h z TI TO .none ∧ IsTupOf3 h TI (.ref i1) (.ref i2) (.ref i3) ∧ (∃ a1 a2 a3, IsTupOf3 h TO a1 a2 a3) ∧ curS s1 i1 i h ∧ curS s2 i2 i h ∧ curS s3 i3 i h
structure Ap3 (z TI TO i1 i2 i3 : Addr) : Prop where
  a : TI ≠ z
  b : TO ≠ z
  c : TI ≠ TO
  d1 : TI ≠ i1
  d2 : TI ≠ i2
  d3 : TI ≠ i3
  f1 : z ≠ i1
  f2 : z ≠ i2
  f3 : z ≠ i3
  h1 : TO ≠ i1
  h2 : TO ≠ i2
  h3 : TO ≠ i3
  j12 : i1 ≠ i2
  j13 : i1 ≠ i3
  j23 : i2 ≠ i3
theorem turn_z3 {s1 s2 s3 : Sv} {z TI TO i1 i2 i3 : Addr} (A : Ap3 z TI TO i1 i2 i3) : Turn P w K (.Tuple elts kk tpos) (Jz3 s1 s2 s3) [z, TI, TO, i1, i2, i3] z (tnZ3 s1 s2 s3 z TI TO i1 i2 i3) := by
  have sep : ∀ {H : Hp} {fp1 fp2 fp3 : List Addr}, i1 ∈ fp1 → i2 ∈ fp2 → i3 ∈ fp3 → (∀ b ∈ fp1, b = i1 ∨ H b ≠ none) → (∀ b ∈ fp2, b = i2 ∨ H b ≠ none) → (∀ b ∈ fp3, b = i3 ∨ H b ≠ none) → (∀ b ∈ [z, TI, TO, i1, i2, i3], H b = none) → ZipSep3 z TI TO i1 i2 i3 fp1 fp2 fp3 :=
    fun m1 m2 m3 o1 o2 o3 hn => ⟨A.a, A.b, A.c, A.d1, m1, off o1 (hn z (by simp)) A.f1, off o1 (hn TO (by simp)) A.h1, A.d2, m2, off o2 (hn z (by simp)) A.f2, off o2 (hn TO (by simp)) A.h2, A.d3, m3, off o3 (hn z (by simp)) A.f3, off o3 (hn TO (by simp)) A.h3,
      off o2 (hn i1 (by simp)) A.j12, off o3 (hn i1 (by simp)) A.j13, off o1 (hn i2 (by simp)) (Ne.symm A.j12), off o3 (hn i2 (by simp)) A.j23, off o1 (hn i3 (by simp)) (Ne.symm A.j13), off o2 (hn i3 (by simp)) (Ne.symm A.j23)⟩
  refine turn_of (by simp) (fun i h st c hc => ?_) (fun i h h' st k => ?_) (fun X hP hw hK hc i pins s σ H I hn st hg => ?_) (fun X hP hw hK hc i pins s σ H I hn st hg => ?_) (fun _ i s Q E st q => wpAny_pyIter_zip st.1 q)
  · obtain ⟨hz, hTI, ⟨x, y, y3, hTO⟩, c1, c2, c3⟩ := st
    have e' : c = z ∨ c = TI ∨ c = TO ∨ c = i1 ∨ c = i2 ∨ c = i3 := by simpa using hc
    rcases e' with q | q | q | q | q | q <;> rw [q]
    · exact ⟨_, hz, fun v q => nomatch q⟩
    · exact ⟨_, hTI, fun v q => nomatch q⟩
    · exact ⟨_, hTO, fun v q => nomatch q⟩
    · exact curS_obj c1
    · exact curS_obj c2
    · exact curS_obj c3
  · obtain ⟨hz, hTI, ⟨x, y, y3, hTO⟩, c1, c2, c3⟩ := st
    exact ⟨k z (by simp) _ hz, k TI (by simp) _ hTI, ⟨x, y, y3, k TO (by simp) _ hTO⟩, curS_keep c1 fun o q => k i1 (by simp) o q, curS_keep c2 fun o q => k i2 (by simp) o q, curS_keep c3 fun o q => k i3 (by simp) o q⟩
  · subst hP hw
    obtain ⟨hz, hTI, hTO, c1, c2, c3⟩ := st
    obtain ⟨v1, v2, v3, a1, a2, a3⟩ := hg
    obtain ⟨fp1, n1, P1, St1, D1⟩ := drawS (I.ok.hd hc) I (hn i1 (by simp)) c1 a1
    obtain ⟨fp2, n2, P2, St2, D2⟩ := drawS (I.ok.hd hc) I (hn i2 (by simp)) c2 a2
    obtain ⟨fp3, n3, P3, St3, D3⟩ := drawS (I.ok.hd hc) I (hn i3 (by simp)) c3 a3
    obtain ⟨l1, r1⟩ := D1.item v1 rfl
    obtain ⟨l2, r2⟩ := D2.item v2 rfl
    obtain ⟨l3, r3⟩ := D3.item v3 rfl
    have S := sep (H := H) D1.mem D2.mem D3.mem D1.own D2.own D3.own hn
    refine ⟨_, _, _, _, _, _, WalksT.zipD3 S D1.D D2.D D3.D, by omega, ⟨hz, hTI, hTO, D1.st, D2.st, D3.st⟩, fun b hb => ?_, fun h' ⟨q1, q2, q3, q4, q5, q6⟩ => ⟨q1, q2, q3, D1.up _ _ q4, D2.up _ _ q5, D3.up _ _ q6⟩, fun vals ⟨u1, u2, u3, p1, p2, p3, ev⟩ => ?_⟩
    · have e' : b = z ∨ b = TO ∨ b = i1 ∨ b = i2 ∨ b = i3 := by simpa using hb
      rcases e' with q | q | q | q | q <;> rw [q] <;> simp
    · exact ⟨[v1, v2, v3], [u1, u2, u3], ev, .cons (r1 u1 p1) (.cons (r2 u2 p2) (.cons (r3 u3 p3) .nil)), by show 3 ≤ sizeLine; decide, fun T hT => ⟨T, v1, v2, v3, rfl, hT, rfl, a1, a2, a3⟩⟩
  · subst hP hw
    obtain ⟨hz, hTI, hTO, c1, c2, c3⟩ := st
    obtain ⟨o1, o2, o3, a1, a2, a3, alt⟩ := hg
    obtain ⟨fp1, n1, P1, St1, D1⟩ := drawS (I.ok.hd hc) I (hn i1 (by simp)) c1 a1
    obtain ⟨fp2, n2, P2, St2, D2⟩ := drawS (I.ok.hd hc) I (hn i2 (by simp)) c2 a2
    obtain ⟨fp3, n3, P3, St3, D3⟩ := drawS (I.ok.hd hc) I (hn i3 (by simp)) c3 a3
    have S := sep (H := H) D1.mem D2.mem D3.mem D1.own D2.own D3.own hn
    have e : i = min (min n1 n2) n3 := by
      have := D1.le
      have := D2.le
      have := D3.le
      rcases alt with q | q | q
      · have := D1.fin q; omega
      · have := D2.fin q; omega
      · have := D3.fin q; omega
    refine ⟨_, _, _, _, _, _, WalksT.zipD3 S D1.D D2.D D3.D, by rw [← e]; exact ⟨hz, hTI, hTO, D1.st, D2.st, D3.st⟩, fun b hb => ?_⟩
    have e' : b = z ∨ b = TO ∨ b = i1 ∨ b = i2 ∨ b = i3 := by simpa using hb
    rcases e' with q | q | q | q | q <;> rw [q] <;> simp
/-- numbered -/
def Je (s1 : Sv) : L2.It :=
  ⟨fun i H => ∃ v1, atS s1 i H (some v1),
   fun i H v H' => ∃ T v1, v = .ref T ∧ H T = none ∧ H' = upd H T (.tup [.int (i : Nat), v1]) ∧ atS s1 i H (some v1),
   fun i H => atS s1 i H none⟩
theorem turn_e {s1 : Sv} {e it : Addr} (hne : e ≠ it) : Turn P w K (.Tuple elts kk tpos) (Je s1) [e, it] e (fun i h => (∃ old, IsEnum h e it (i : Nat) old) ∧ curS s1 it i h) := by
  refine turn_of (by simp) (fun i h st c hc => ?_) (fun i h h' st k => ?_) (fun X hP hw hK hc i pins s σ H I hn st hg => ?_) (fun X hP hw hK hc i pins s σ H I hn st hg => ?_) (fun _ i s Q E ⟨⟨_, he⟩, _⟩ q => wpAny_pyIter_enum he q)
  · obtain ⟨⟨old, he⟩, c1⟩ := st
    have e' : c = e ∨ c = it := by simpa using hc
    rcases e' with q | q <;> rw [q]
    · exact ⟨_, he, fun v q => nomatch q⟩
    · exact curS_obj c1
  · obtain ⟨⟨old, he⟩, c1⟩ := st
    exact ⟨⟨old, k e (by simp) _ he⟩, curS_keep c1 fun o q => k it (by simp) o q⟩
  · subst hP hw
    obtain ⟨he, c1⟩ := st
    obtain ⟨v1, a1⟩ := hg
    obtain ⟨fp1, n1, P1, St1, D1⟩ := drawS (I.ok.hd hc) I (hn it (by simp)) c1 a1
    obtain ⟨l1, r1⟩ := D1.item v1 rfl
    refine ⟨_, _, _, _, _, _, WalksT.enumerateD D1.D e hne (off D1.own (hn e (by simp)) hne) D1.mem, l1, ⟨he, D1.st⟩, fun b hb => hb, fun h' ⟨q1, q2⟩ => ⟨q1, D1.up _ _ q2⟩, fun vals ⟨t, u, p1, ev⟩ => ?_⟩
    exact ⟨[.int (i : Nat), v1], [.int (i : Nat) t, u], ev, .cons ⟨t, rfl⟩ (.cons (r1 u p1) .nil), by show 2 ≤ sizeLine; decide, fun T hT => ⟨T, v1, rfl, hT, rfl, a1⟩⟩
  · subst hP hw
    obtain ⟨he, c1⟩ := st
    obtain ⟨fp1, n1, P1, St1, D1⟩ := drawS (I.ok.hd hc) I (hn it (by simp)) c1 hg
    have ei := D1.fin rfl
    subst ei
    exact ⟨_, _, _, _, _, _, WalksT.enumerateD D1.D e hne (off D1.own (hn e (by simp)) hne) D1.mem, ⟨he, D1.st⟩, fun b hb => hb⟩
end
end TB

/-! TB, the link: what a loop walks. -/
namespace TB
open L2 PySem PyProof.Rows PySem.Spec
/-- an iterator of the evaluator, and one of the hand layer -/
def ItJ (L : Lk) (ρ0 : Rho) (H0 : Hp) (t : TB.It) (J : L2.It) : Prop := t.dict? = none ∧
  ∀ (ρ : Rho) (h : Hv) (H : Hp) (i : Nat), Le1 ρ0 H0 ρ H → Sim L ρ h H → match t.at? h i with
    | some none => J.stop i H
    | some (some x) => J.go i H ∧ ∀ v H', J.yld i H v H' → ∃ ρ', Le ρ H ρ' H' ∧ Sim L ρ' h H' ∧ RelD L ρ' H' x v
    | none => True
abbrev PostI (L : Lk) := Post L (α := TB.It) (β := L2.It) (fun ρ H t J => ItJ L ρ H t J)
def RdI (Z : Wl) (m : MI) (W : WX) : TI := fun σ H R => ∃ ρ env h, Sim Z.L ρ h H ∧ RelE Z.L ρ H env σ ∧ PostI Z.L ρ H (m env h) R (Wat W σ)
section
variable {Z : Wl} {atts : List Nat} {k d : Nat} {X : Cx} {W : WX} {pins : List (Addr × Obj)} {σ : St} {H : Hp} {s : Shared} {ρ : Rho} {h : Hv} {env : Env} {tg : Expr}
theorem at_lst {h : Hv} {a : Nat} {i : Nat} {o : Option D} (e : (TB.It.lst a).at? h i = some o) : ∃ l, (h.get a = some (.lst l) ∨ h.get a = some (.fro l)) ∧ i ≤ l.length ∧ o = l[i]? := by
  have e : (match h.get a with
    | some (.lst l) => bif Nat.ble i l.length then some l[i]? else none
    | some (.fro l) => bif Nat.ble i l.length then some l[i]? else none
    | _ => none) = some o := e
  split at e
  · rename_i l eg
    cases c : Nat.ble i l.length with
    | false => rw [c] at e; cases e
    | true => rw [c] at e; cases e; exact ⟨l, .inl eg, Nat.le_of_ble_eq_true c, rfl⟩
  · rename_i l eg
    cases c : Nat.ble i l.length with
    | false => rw [c] at e; cases e
    | true => rw [c] at e; cases e; exact ⟨l, .inr eg, Nat.le_of_ble_eq_true c, rfl⟩
  · cases e
theorem at_seq {h : Hv} {l : List D} {i : Nat} {o : Option D} (e : (TB.It.seq l).at? h i = some o) : i ≤ l.length ∧ o = l[i]? := by
  have e : (bif Nat.ble i l.length then some l[i]? else none) = some o := e
  cases c : Nat.ble i l.length with
  | false => rw [c] at e; cases e
  | true => rw [c] at e; cases e; exact ⟨Nat.le_of_ble_eq_true c, rfl⟩
theorem Sim.anyl {L : Lk} {ρ : Rho} {h : Hv} {H : Hp} (S : Sim L ρ h H) {a : Nat} {p : Addr} (ea : ρ a = some p) {l : List D} (e : h.get a = some (.lst l) ∨ h.get a = some (.fro l)) : ∃ vs, Rd H p (.lst vs) ∧ RelL L ρ H l vs := by
  rcases e with e | e
  · obtain ⟨vs, g, r⟩ := S.at ea e
    exact ⟨vs, .inl g, r⟩
  · exact S.at ea e
/-- a source of zip or enumerate -/
def SrcOk (L : Lk) (ρ0 : Rho) (H0 : Hp) (t : TB.It) (sv : Sv) : Prop :=
  ∀ (ρ : Rho) (h : Hv) (H : Hp) (i : Nat) (o : Option D), Le1 ρ0 H0 ρ H → Sim L ρ h H → t.at? h i = some o → ∃ o', atS sv i H o' ∧ match o with
    | some x => ∃ v, o' = some v ∧ RelD L ρ H x v
    | none => o' = none
theorem src_lst {L : Lk} {ρ0 : Rho} {H0 : Hp} {a : Nat} {p : Addr} (ea : ρ0 a = some p) : SrcOk L ρ0 H0 (.lst a) (.lst p) := by
  intro ρ h H i o le S e
  obtain ⟨l, eg, hi, rfl⟩ := at_lst e
  obtain ⟨vs, g, r⟩ := S.anyl (le.rho _ _ ea) eg
  refine ⟨vs[i]?, ⟨vs, g, by rw [r.length]; exact hi, rfl⟩, ?_⟩
  cases q : l[i]? with
  | none => exact r.none_of q
  | some x => exact r.get q
theorem src_tup {L : Lk} {ρ0 : Rho} {H0 : Hp} {l : List D} {p : Addr} {vs : List V} (t : Tp H0 p vs) (r : RelL L ρ0 H0 l vs) : SrcOk L ρ0 H0 (.seq l) (.tup p vs) := by
  intro ρ h H i o le S e
  obtain ⟨hi, rfl⟩ := at_seq e
  have r := r.mono0 le.toLe0
  refine ⟨vs[i]?, ⟨le.tup _ _ t, by rw [r.length]; exact hi, rfl⟩, ?_⟩
  cases q : l[i]? with
  | none => exact r.none_of q
  | some x => exact r.get q
theorem src_str {L : Lk} {ρ0 : Rho} {H0 : Hp} {t : Sg} : SrcOk L ρ0 H0 (.seq (t.map fun c => .str [c])) (.str t) := by
  intro ρ h H i o le S e
  obtain ⟨hi, rfl⟩ := at_seq e
  rw [List.length_map] at hi
  refine ⟨(t[i]?).map fun c => V.str (toS [c]), ⟨hi, rfl⟩, ?_⟩
  rw [List.getElem?_map]
  cases q : t[i]? with
  | none => rfl
  | some c => exact ⟨_, rfl, .str _⟩
theorem src_of {L : Lk} {x : D} {v : V} {t : TB.It} (S : Sim L ρ h H) (r : RelD L ρ H x v) (e : srcV x h = some t) : ∃ sv, sv.val = v ∧ (∃ o, atS sv 0 H o) ∧ SrcOk L ρ H t sv ∧ t.dict? = none := by
  unfold srcV at e
  split at e
  · rename_i t' e1
    have e : (bif isSrc t' && (t'.at? h 0).isSome then some t' else none) = some t := e
    cases c : (isSrc t' && (t'.at? h 0).isSome) with
    | false => rw [c] at e; cases e
    | true =>
      rw [c] at e
      obtain rfl : t' = t := Option.some.inj e
      obtain ⟨c1, c2⟩ := Bool.and_eq_true_iff.mp c
      have fin : ∀ sv : Sv, sv.val = v → SrcOk L ρ H t' sv → t'.dict? = none → ∃ sv, sv.val = v ∧ (∃ o, atS sv 0 H o) ∧ SrcOk L ρ H t' sv ∧ t'.dict? = none := by
        intro sv hv ok hd
        obtain ⟨o, eo⟩ := Option.isSome_iff_exists.mp c2
        obtain ⟨o', a, _⟩ := ok ρ h H 0 o Le1.refl S eo
        exact ⟨sv, hv, ⟨o', a⟩, ok, hd⟩
      unfold iterV at e1
      split at e1
      · cases e1
        cases r with
        | tup tp r => exact fin (.tup _ _) rfl (src_tup tp r) rfl
      · cases e1
        cases r
        exact fin (.str _) rfl src_str rfl
      · cases r with
        | ref ea =>
          split at e1
          · cases e1; exact fin (.lst _) rfl (src_lst ea) rfl
          · cases e1; exact fin (.lst _) rfl (src_lst ea) rfl
          · cases e1
      · cases e1
  · cases e
/-- iter(v) of a source begins -/
theorem beg_of (I : Inv X pins σ H s) : ∀ {sv : Sv} {u : Value} {o : Option V}, RelV sv.val u → atS sv 0 H o → ∃ ob Hh, Begins u ob Hh ∧ Hh s.heap ∧ ∀ h' it, h'.get? it = some ob → curS sv it 0 h'
  | .lst p, u, o, r, ⟨vs, g, _, _⟩ => by
    cases r
    obtain ⟨its, rv, pl, hz⟩ := I.list (.inl g)
    exact ⟨_, _, begins_list p its.toArray, pl.isList, fun h' it e => ⟨_, e, rfl, rfl⟩⟩
  | .tup p vs, u, o, r, ⟨g, _, _⟩ => by
    cases r
    obtain ⟨its, rv, pl, hz⟩ := I.tuple g.sq
    exact ⟨_, _, begins_tuple p its.toArray, show s.heap.IsTuple p its.toArray from pl, fun h' it e => ⟨_, e, rfl, rfl⟩⟩
  | .str t, u, o, ⟨tk, e⟩, _ => by
    subst e
    exact ⟨_, _, begins_text (toS t) tk, trivial, fun h' it e => ⟨tk, _, e, rfl, rfl⟩⟩

/-! ### plain values -/
theorem itv_list {L : Lk} {K : PySem.W.Frag} {a : Nat} {p : Addr} (ea : ρ a = some p) : ItJ L ρ H (.lst a) (Itl K p) := by
  refine ⟨rfl, fun ρ1 h1 H1 i le S => ?_⟩
  split
  · rename_i e
    obtain ⟨l, eg, hi, eo⟩ := at_lst e
    obtain ⟨vs, g, r⟩ := S.anyl (le.rho _ _ ea) eg
    exact ⟨vs, .inl g, by rw [r.length]; exact List.getElem?_eq_none_iff.mp eo.symm⟩
  · rename_i x e
    obtain ⟨l, eg, hi, eo⟩ := at_lst e
    obtain ⟨vs, g, r⟩ := S.anyl (le.rho _ _ ea) eg
    obtain ⟨v, ev, rv⟩ := r.get eo.symm
    refine ⟨⟨vs, v, .inl g, ev⟩, fun w H' ⟨e1, e2⟩ => ?_⟩
    subst e1
    have := e2 vs (.inl g)
    rw [ev] at this; cases this
    exact ⟨ρ1, Le.refl, S, rv⟩
  · trivial
theorem itv_tup {L : Lk} {K : PySem.W.Frag} {l : List D} {p : Addr} {vs : List V} (t : Tp H p vs) (r : RelL L ρ H l vs) : ItJ L ρ H (.seq l) (Itt K p) := by
  refine ⟨rfl, fun ρ1 h1 H1 i le S => ?_⟩
  have r := r.mono0 le.toLe0
  have t : Tp H1 p vs := le.tup _ _ t
  split
  · rename_i e
    obtain ⟨hi, eo⟩ := at_seq e
    exact ⟨vs, t.sq, by rw [r.length]; exact List.getElem?_eq_none_iff.mp eo.symm⟩
  · rename_i x e
    obtain ⟨hi, eo⟩ := at_seq e
    obtain ⟨v, ev, rv⟩ := r.get eo.symm
    refine ⟨⟨vs, v, t.sq, ev⟩, fun w H' ⟨e1, e2⟩ => ?_⟩
    subst e1
    have := e2 vs t.sq
    rw [ev] at this; cases this
    exact ⟨ρ1, Le.refl, S, rv⟩
  · trivial
theorem itv_str {L : Lk} {t : Sg} : ItJ L ρ H (.seq (t.map fun c => .str [c])) (Its (toS t)) := by
  refine ⟨rfl, fun ρ1 h1 H1 i le S => ?_⟩
  have sz : (toS t).cps.size = t.length := by show t.toArray.size = _; simp
  split
  · rename_i e
    obtain ⟨hi, eo⟩ := at_seq e
    have := List.getElem?_eq_none_iff.mp eo.symm
    show (toS t).cps.size ≤ i
    rw [sz]; simpa using this
  · rename_i x e
    obtain ⟨hi, eo⟩ := at_seq e
    rw [List.getElem?_map] at eo
    obtain ⟨c, ec, rfl⟩ := Option.map_eq_some_iff.mp eo.symm
    obtain ⟨hlt, _⟩ := List.getElem?_eq_some_iff.mp ec
    refine ⟨by show i < (toS t).cps.size; rw [sz]; exact hlt, fun w H' ⟨e1, c', e2, e3⟩ => ?_⟩
    subst e1
    have e2 : t.toArray[i]? = some c' := e2
    have e2 : t[i]? = some c' := by simpa using e2
    rw [ec] at e2; cases e2
    exact ⟨ρ1, Le.refl, S, by rw [e3]; exact .str [c]⟩
  · trivial
theorem ri_itv {e : Expr} {m : ME} (he : PE X e (RdE Z m W)) : PI X tg e (RdI Z (iItv m) W) := by
  refine ⟨fun pins s σ H R I ⟨ρ, env, h, S, E, q⟩ => PE.go he I S E q fun u s1 x H1 ρ1 v h1 I1 rx le S1 E1 r q1 => ?_⟩
  obtain ⟨t, e1, q2⟩ := post_opt q1
  unfold iterV at e1
  split at e1
  · cases e1
    cases r with
    | @tup l p vs tp rl =>
      cases rx
      obtain ⟨its, rv, pl, hz⟩ := I1.tuple tp.sq
      exact wpAny_pyIter_tuple (show s1.heap.IsTuple p its.toArray from pl) (pi_one (tk := s1.toks) I1 _ (turn_tuple p _) ⟨_, Heap.get?_push_size _ rfl, rfl, rfl⟩ (q2 ρ1 _ _ Le.refl S1 (itv_tup tp rl)))
  · cases e1
    rename_i t0
    cases r with
    | str _ =>
      obtain ⟨tk, rfl⟩ := rx
      have qq := q2 ρ1 _ _ Le.refl S1 (itv_str (t := t0))
      cases ha : (toS t0).cps.all (· < 128)
      · exact wpAny_pyIter_wide ha (pi_one (tk := s1.toks) I1 _ (turn_str _ (toS t0) tk "str_iterator" (.inr rfl)) ⟨_, Heap.get?_push_size _ rfl, rfl, rfl⟩ qq)
      · exact wpAny_pyIter_ascii ha (pi_one (tk := s1.toks) I1 _ (turn_str _ (toS t0) tk "str_ascii_iterator" (.inl rfl)) ⟨_, Heap.get?_push_size _ rfl, rfl, rfl⟩ qq)
  · rename_i a
    cases r with
    | @ref _ p ea =>
      cases rx
      have fin : ∀ l, (h1.get a = some (.lst l) ∨ h1.get a = some (.fro l)) → t = .lst a → wpAny (model X.prog X.w) X.A (pyIter (.ref p)) (PIE X pins σ tg R) X.xe s1 := by
        intro l eg et
        subst et
        obtain ⟨vs, g, rl⟩ := S1.anyl ea eg
        obtain ⟨its, rv, pl, hz⟩ := I1.list (.inl g)
        exact wpAny_pyIter_list pl.isList (pi_one (tk := s1.toks) I1 _ (turn_list p _) ⟨_, Heap.get?_push_size _ rfl, rfl, rfl⟩ (q2 ρ1 _ _ Le.refl S1 (itv_list ea)))
      split at e1
      · rename_i l eg; cases e1; exact fin l (.inl eg) rfl
      · rename_i l eg; cases e1; exact fin l (.inr eg) rfl
      · cases e1
  · cases e1

/-! ### range -/
theorem range_get (lo : Int) : ∀ (n i : Nat), (rangeL lo n)[i]? = if i < n then some (D.int (lo + i)) else none
  | 0, i => by simp [rangeL]
  | n + 1, 0 => by simp [rangeL]
  | n + 1, i + 1 => by
    show (rangeL (lo + 1) n)[i]? = _
    rw [range_get (lo + 1) n i]
    by_cases c : i < n
    · rw [if_pos c, if_pos (by omega)]
      congr 2; omega
    · rw [if_neg c, if_neg (by omega)]
theorem range_len (lo : Int) : ∀ n : Nat, (rangeL lo n).length = n
  | 0 => rfl
  | n + 1 => congrArg (· + 1) (range_len (lo + 1) n)
theorem itv_rng {L : Lk} {lo : Int} {n : Nat} : ItJ L ρ H (.seq (rangeL lo n)) (Itr lo n) := by
  refine ⟨rfl, fun ρ1 h1 H1 i le S => ?_⟩
  split
  · rename_i e
    obtain ⟨hi, eo⟩ := at_seq e
    have := List.getElem?_eq_none_iff.mp eo.symm
    rw [range_len] at this
    exact this
  · rename_i x e
    obtain ⟨hi, eo⟩ := at_seq e
    rw [range_get] at eo
    by_cases c : i < n
    · rw [if_pos c] at eo
      cases eo
      refine ⟨c, fun w H' ⟨e1, e2⟩ => ?_⟩
      subst e1
      exact ⟨ρ1, Le.refl, S, by rw [e2]; exact .int _⟩
    · rw [if_neg c] at eo; cases eo
  · trivial
theorem rng_one {vs : List D} {xs : List V} {l : List D} (r : RelL Z.L ρ H vs xs) (e : rangeOf vs = some l) : (∃ j : Int, xs = [.int j] ∧ -(2 ^ 62) ≤ j ∧ j < 2 ^ 62 ∧ l = rangeL 0 j.toNat) ∨ ∃ i j : Int, xs = [.int i, .int j] ∧ (-(2 ^ 62) ≤ i ∧ i < 2 ^ 62 ∧ -(2 ^ 62) ≤ j ∧ j < 2 ^ 62) ∧ l = rangeL i (j - i).toNat := by
  unfold rangeOf at e
  split at e
  · rename_i b
    cases r with
    | cons z r =>
      cases r
      cases z
      have e : (bif decide (-4611686018427387904 ≤ b) && decide (b < 4611686018427387904) then some (rangeL 0 b.toNat) else none) = some l := e
      cases c : (decide (-4611686018427387904 ≤ b) && decide (b < 4611686018427387904)) with
      | false => rw [c] at e; cases e
      | true =>
        rw [c] at e
        cases e
        obtain ⟨c1, c2⟩ := Bool.and_eq_true_iff.mp c
        exact .inl ⟨b, rfl, of_decide_eq_true c1, of_decide_eq_true c2, rfl⟩
  · rename_i a b
    cases r with
    | cons z r =>
      cases r with
      | cons z2 r =>
        cases r
        cases z
        cases z2
        have e : (bif decide (-4611686018427387904 ≤ a) && decide (a < 4611686018427387904) && decide (-4611686018427387904 ≤ b) && decide (b < 4611686018427387904) then some (rangeL a (b - a).toNat) else none) = some l := e
        cases c : (decide (-4611686018427387904 ≤ a) && decide (a < 4611686018427387904) && decide (-4611686018427387904 ≤ b) && decide (b < 4611686018427387904)) with
        | false => rw [c] at e; cases e
        | true =>
          rw [c] at e
          cases e
          obtain ⟨c, c4⟩ := Bool.and_eq_true_iff.mp c
          obtain ⟨c, c3⟩ := Bool.and_eq_true_iff.mp c
          obtain ⟨c1, c2⟩ := Bool.and_eq_true_iff.mp c
          exact .inr ⟨a, b, rfl, ⟨of_decide_eq_true c1, of_decide_eq_true c2, of_decide_eq_true c3, of_decide_eq_true c4⟩, rfl⟩
  · cases e
theorem PA.goE {es : List Expr} {m : ML} (he : PA X es (RdL Z m W)) (pos : Pos) (I : Inv X pins σ H s) (S : Sim Z.L ρ h H) (E : RelE Z.L ρ H env σ)
    {α β : Type} {R : Rho → Hp → α → β → Prop} {c : List D → Hv → Res α} {Q : β → Hp → Prop}
    (q : Post Z.L R ρ H ((m env h).bind c) Q (Wat W σ)) {QQ : List Value → Shared → Prop}
    (next : ∀ us s1 xs H1 ρ1 vs h1, m env h = .ok vs h1 → Inv X pins σ H1 s1 → Vals xs us → Le ρ H ρ1 H1 → Sim Z.L ρ1 h1 H1 → RelE Z.L ρ1 H1 env σ → RelL Z.L ρ1 H1 vs xs → Post Z.L R ρ1 H1 (c vs h1) Q (Wat W σ) → QQ us s1) :
    wpAny (model X.prog X.w) X.A (spliced (backTo pos (starEach es X.env))) QQ X.xe s :=
  thn (he.run pos pins s σ H _ I ⟨ρ, env, h, S, E, Post.bind q⟩) fun u s1 ⟨x, H1, I1, rx, ρ1, v, h1, e, le, S1, r, q1⟩ => next u s1 x H1 ρ1 v h1 e I1 rx le S1 (E.mono le) r q1
theorem one_len {m : ME} {vs : List D} {h1 : Hv} (e : mCons m mNil env h = .ok vs h1) : vs.length = 1 := by
  unfold mCons mNil at e
  cases q : m env h with
  | ok x h' => rw [q] at e; cases e; rfl
  | exc c v h' => rw [q] at e; cases e
  | bad => rw [q] at e; cases e
theorem two_len {m m2 : ME} {vs : List D} {h1 : Hv} (e : mCons m (mCons m2 mNil) env h = .ok vs h1) : vs.length = 2 := by
  unfold mCons mNil at e
  cases q : m env h with
  | ok x h' =>
    rw [q] at e
    have e : ((m2 env h').bind fun x h => Res.ok [x] h).bind (fun xs h => Res.ok (x :: xs) h) = .ok vs h1 := e
    cases q2 : m2 env h' with
    | ok y h2 => rw [q2] at e; cases e; rfl
    | exc c v h' => rw [q2] at e; cases e
    | bad => rw [q2] at e; cases e
  | exc c v h' => rw [q] at e; cases e
  | bad => rw [q] at e; cases e
theorem three_len {m m2 m3 : ME} {vs : List D} {h1 : Hv} (e : mCons m (mCons m2 (mCons m3 mNil)) env h = .ok vs h1) : vs.length = 3 := by
  have e : (m env h).bind (fun x h => (mCons m2 (mCons m3 mNil) env h).bind fun xs h => .ok (x :: xs) h) = .ok vs h1 := e
  cases q : m env h with
  | ok x h' =>
    rw [q] at e
    have e : (mCons m2 (mCons m3 mNil) env h').bind (fun xs h => Res.ok (x :: xs) h) = .ok vs h1 := e
    cases q2 : mCons m2 (mCons m3 mNil) env h' with
    | ok y h2 => rw [q2] at e; cases e; exact congrArg (· + 1) (two_len q2)
    | exc c v h' => rw [q2] at e; cases e
    | bad => rw [q2] at e; cases e
  | exc c v h' => rw [q] at e; cases e
  | bad => rw [q] at e; cases e
theorem ri_rng1 {a : Expr} {m : ME} {p pos : Pos} (ha : PE X a (RdE Z m W)) (hg : Gl X "range") (hm : X.mg "range" = none) (hn : noStar a = true) : PI X tg (.Call (.Name "range" p) [a] [] pos) (RdI Z (iRng (mCons m mNil)) W) := by
  refine ⟨fun pins s σ H R I ⟨ρ, env, h, S, E, q⟩ => Call_ (ld_blt I hg hm boot_range (PyProof.Rows.callWith_type1 (PA.goE (ra_cons ha ra_nil hn) pos I S E q fun us s1 xs H1 ρ1 vs h1 e I1 rv le S1 E1 r q1 => ?_) (starEach_cons hn) rfl))⟩
  obtain ⟨t, e1, q2⟩ := post_opt q1
  obtain ⟨l, e2, rfl⟩ := Option.map_eq_some_iff.mp e1
  rcases rng_one r e2 with ⟨j, rfl, j1, j2, rfl⟩ | ⟨i, j, rfl, _, _⟩
  · cases rv with
    | cons r1 rv =>
      cases rv
      obtain ⟨tk, rfl⟩ := r1
      exact call_range_1 (range_it I1 (by omega) (by omega) j1 j2 (by simpa using q2 ρ1 _ _ Le.refl S1 itv_rng))
  · have := r.length
    rw [one_len e] at this
    cases this
theorem ri_rng2 {a b : Expr} {m m2 : ME} {p pos : Pos} (ha : PE X a (RdE Z m W)) (hb : PE X b (RdE Z m2 W)) (hg : Gl X "range") (hm : X.mg "range" = none) (hn : noStar a = true) (hn2 : noStar b = true) : PI X tg (.Call (.Name "range" p) [a, b] [] pos) (RdI Z (iRng (mCons m (mCons m2 mNil))) W) := by
  refine ⟨fun pins s σ H R I ⟨ρ, env, h, S, E, q⟩ => Call_ (ld_blt I hg hm boot_range (PyProof.Rows.callWith_type1 (PA.goE (ra_cons ha (ra_cons hb ra_nil hn2) hn) pos I S E q fun us s1 xs H1 ρ1 vs h1 e I1 rv le S1 E1 r q1 => ?_) (starEach_cons hn) (any_plain (by show (noStar b && true) = true; rw [hn2]; rfl))))⟩
  obtain ⟨t, e1, q2⟩ := post_opt q1
  obtain ⟨l, e2, rfl⟩ := Option.map_eq_some_iff.mp e1
  rcases rng_one r e2 with ⟨j, rfl, j1, j2, rfl⟩ | ⟨i, j, rfl, ⟨i1, i2, j1, j2⟩, rfl⟩
  · have := r.length
    rw [two_len e] at this
    cases this
  · cases rv with
    | cons r1 rv =>
      cases rv with
      | cons r2 rv =>
        cases rv
        obtain ⟨tk, rfl⟩ := r1
        obtain ⟨tk2, rfl⟩ := r2
        exact call_range_2 (range_it I1 i1 i2 j1 j2 (q2 ρ1 _ _ Le.refl S1 itv_rng))

/-! ### zip, enumerate -/
theorem itj_z {L : Lk} {t1 t2 : TB.It} {s1 s2 : Sv} (o1 : SrcOk L ρ H t1 s1) (o2 : SrcOk L ρ H t2 s2) : ItJ L ρ H (.zip t1 t2) (Jz s1 s2) := by
  refine ⟨rfl, fun ρ1 h1 H1 i le S => ?_⟩
  show match (match t1.at? h1 i, t2.at? h1 i with
    | some (some x), some (some y) => some (some (D.tup [x, y]))
    | some none, some _ => some none
    | some _, some none => some none
    | _, _ => none) with
    | some none => (Jz s1 s2).stop i H1
    | some (some x) => (Jz s1 s2).go i H1 ∧ ∀ v H', (Jz s1 s2).yld i H1 v H' → ∃ ρ', Le ρ1 H1 ρ' H' ∧ Sim L ρ' h1 H' ∧ RelD L ρ' H' x v
    | none => True
  cases e1 : t1.at? h1 i with
  | none => trivial
  | some x1 =>
    cases e2 : t2.at? h1 i with
    | none => cases x1 <;> trivial
    | some x2 =>
      obtain ⟨p1, a1, b1⟩ := o1 ρ1 h1 H1 i x1 le S e1
      obtain ⟨p2, a2, b2⟩ := o2 ρ1 h1 H1 i x2 le S e2
      cases x1 with
      | none => exact ⟨p1, p2, a1, a2, .inl b1⟩
      | some y1 =>
        cases x2 with
        | none => exact ⟨p1, p2, a1, a2, .inr b2⟩
        | some y2 =>
          obtain ⟨v1, rfl, r1⟩ := b1
          obtain ⟨v2, rfl, r2⟩ := b2
          refine ⟨⟨v1, v2, a1, a2⟩, fun w H' ⟨T, w1, w2, ew, hT, eH, c1, c2⟩ => ?_⟩
          have z1 := atS_fun c1 a1
          have z2 := atS_fun c2 a2
          cases z1; cases z2
          subst ew eH
          exact ⟨ρ1, Le.fresh hT, S.fresh hT, .tup upd_same (.cons (r1.mono (Le.fresh hT)) (.cons (r2.mono (Le.fresh hT)) .nil))⟩
theorem itj_z3 {L : Lk} {t1 t2 t3 : TB.It} {s1 s2 s3 : Sv} (o1 : SrcOk L ρ H t1 s1) (o2 : SrcOk L ρ H t2 s2) (o3 : SrcOk L ρ H t3 s3) : ItJ L ρ H (.zip3 t1 t2 t3) (Jz3 s1 s2 s3) := by
  refine ⟨rfl, fun ρ1 h1 H1 i le S => ?_⟩
  show match (match t1.at? h1 i, t2.at? h1 i, t3.at? h1 i with
    | some (some x), some (some y), some (some z) => some (some (D.tup [x, y, z]))
    | some none, some _, some _ => some none
    | some _, some none, some _ => some none
    | some _, some _, some none => some none
    | _, _, _ => none) with
    | some none => (Jz3 s1 s2 s3).stop i H1
    | some (some x) => (Jz3 s1 s2 s3).go i H1 ∧ ∀ v H', (Jz3 s1 s2 s3).yld i H1 v H' → ∃ ρ', Le ρ1 H1 ρ' H' ∧ Sim L ρ' h1 H' ∧ RelD L ρ' H' x v
    | none => True
  cases e1 : t1.at? h1 i with
  | none => trivial
  | some x1 =>
    cases e2 : t2.at? h1 i with
    | none => cases x1 <;> trivial
    | some x2 =>
      cases e3 : t3.at? h1 i with
      | none => cases x1 <;> cases x2 <;> trivial
      | some x3 =>
        obtain ⟨p1, a1, b1⟩ := o1 ρ1 h1 H1 i x1 le S e1
        obtain ⟨p2, a2, b2⟩ := o2 ρ1 h1 H1 i x2 le S e2
        obtain ⟨p3, a3, b3⟩ := o3 ρ1 h1 H1 i x3 le S e3
        cases x1 with
        | none => exact ⟨p1, p2, p3, a1, a2, a3, .inl b1⟩
        | some y1 =>
          cases x2 with
          | none => exact ⟨p1, p2, p3, a1, a2, a3, .inr (.inl b2)⟩
          | some y2 =>
            cases x3 with
            | none => exact ⟨p1, p2, p3, a1, a2, a3, .inr (.inr b3)⟩
            | some y3 =>
              obtain ⟨v1, rfl, r1⟩ := b1
              obtain ⟨v2, rfl, r2⟩ := b2
              obtain ⟨v3, rfl, r3⟩ := b3
              refine ⟨⟨v1, v2, v3, a1, a2, a3⟩, fun w H' ⟨T, w1, w2, w3, ew, hT, eH, c1, c2, c3⟩ => ?_⟩
              have z1 := atS_fun c1 a1
              have z2 := atS_fun c2 a2
              have z3 := atS_fun c3 a3
              cases z1; cases z2; cases z3
              subst ew eH
              exact ⟨ρ1, Le.fresh hT, S.fresh hT, .tup upd_same (.cons (r1.mono (Le.fresh hT)) (.cons (r2.mono (Le.fresh hT)) (.cons (r3.mono (Le.fresh hT)) .nil)))⟩
theorem itj_e {L : Lk} {t1 : TB.It} {s1 : Sv} (o1 : SrcOk L ρ H t1 s1) : ItJ L ρ H (.enm t1) (Je s1) := by
  refine ⟨rfl, fun ρ1 h1 H1 i le S => ?_⟩
  show match (match t1.at? h1 i with
    | some (some x) => some (some (D.tup [.int i, x]))
    | some none => some none
    | none => none) with
    | some none => (Je s1).stop i H1
    | some (some x) => (Je s1).go i H1 ∧ ∀ v H', (Je s1).yld i H1 v H' → ∃ ρ', Le ρ1 H1 ρ' H' ∧ Sim L ρ' h1 H' ∧ RelD L ρ' H' x v
    | none => True
  cases e1 : t1.at? h1 i with
  | none => trivial
  | some x1 =>
    obtain ⟨p1, a1, b1⟩ := o1 ρ1 h1 H1 i x1 le S e1
    cases x1 with
    | none => subst b1; exact a1
    | some y1 =>
      obtain ⟨v1, rfl, r1⟩ := b1
      refine ⟨⟨v1, a1⟩, fun w H' ⟨T, w1, ew, hT, eH, c1⟩ => ?_⟩
      have z1 := atS_fun c1 a1
      cases z1
      subst ew eH
      exact ⟨ρ1, Le.fresh hT, S.fresh hT, .tup upd_same (.cons (.int _) (.cons (r1.mono (Le.fresh hT)) .nil))⟩
theorem ri_zip2 {elts : List Expr} {kk : Nat} {tpos : Pos} {a b : Expr} {m m2 : ME} {p pos : Pos} (ha : PE X a (RdE Z m W)) (hb : PE X b (RdE Z m2 W)) (hg : Gl X "zip") (hm : X.mg "zip" = none) (hn : noStar a = true) (hn2 : noStar b = true) :
    PI X (.Tuple elts kk tpos) (.Call (.Name "zip" p) [a, b] [] pos) (RdI Z (iZip (mCons m (mCons m2 mNil))) W) := by
  refine ⟨fun pins s σ H R I ⟨ρ, env, h, S, E, q⟩ => Call_ (ld_blt I hg hm PyProof.Rows.boot_zip (PyProof.Rows.callWith_type1 (PA.goE (ra_cons ha (ra_cons hb ra_nil hn2) hn) pos I S E q fun us s1 xs H1 ρ1 vs h1 e I1 rv le S1 E1 r q1 => ?_) (starEach_cons hn) (any_plain (by show (noStar b && true) = true; rw [hn2]; rfl))))⟩
  have hl := two_len e
  match vs, xs, us, hl, r, rv with
  | [d1, d2], [x1, x2], [u1, u2], _, .cons r1 (.cons r2 .nil), .cons v1 (.cons v2 .nil) =>
    have q1 : PostI Z.L ρ1 H1 (match srcV d1 h1, srcV d2 h1 with
      | some i, some j => .ok (.zip i j) h1
      | _, _ => .bad) R (Wat W σ) := q1
    split at q1
    · rename_i t1 t2 e1 e2
      obtain ⟨s1v, z1, ⟨o1, a1⟩, k1, _⟩ := src_of S1 r1 e1
      obtain ⟨s2v, z2, ⟨o2, a2⟩, k2, _⟩ := src_of S1 r2 e2
      rw [← z1] at v1
      rw [← z2] at v2
      obtain ⟨ob1, Hh1, B1, hh1, cu1⟩ := beg_of I1 v1 a1
      obtain ⟨ob2, Hh2, B2, hh2, cu2⟩ := beg_of I1 v2 a2
      refine zip_begins2 B1 B2 hh1 hh2 fun h' hz hTI hTO g1 g2 hsz hk => wpAny_pyIter_zip hz ?_
      skip; have I2 : Inv X pins σ H1 { s1 with heap := h' } := I1.kept (t' := s1.toks) hk
      have ap : Ap2 (s1.heap.objs.size + 4) (s1.heap.objs.size + 2) (s1.heap.objs.size + 3) s1.heap.objs.size (s1.heap.objs.size + 1) := by constructor <;> (intro e; have e : @Eq Nat _ _ := e; omega)
      refine ⟨_, [s1.heap.objs.size + 4, s1.heap.objs.size + 2, s1.heap.objs.size + 3, s1.heap.objs.size, s1.heap.objs.size + 1], _, _, H1, rfl, I2, turn_z (s1 := s1v) (s2 := s2v) ap, ⟨hz, hTI, ⟨_, _, hTO⟩, cu1 _ _ g1, cu2 _ _ g2⟩, fun c hcm => ?_, q1 ρ1 _ _ Le.refl S1 (itj_z k1 k2)⟩
      have hle : (s1.heap.objs.size ≤ c) := by
        have hcm : c = s1.heap.objs.size + 4 ∨ c = s1.heap.objs.size + 2 ∨ c = s1.heap.objs.size + 3 ∨ c = s1.heap.objs.size ∨ c = s1.heap.objs.size + 1 := by simpa using hcm
        rcases hcm with q | q | q | q | q <;> rw [q] <;> first | exact Nat.le_add_right _ _ | exact Nat.le_refl _
      skip; exact I1.fpOk hle (I1.hok.fresh hle)
    · exact q1.elim
theorem ri_zip3 {elts : List Expr} {kk : Nat} {tpos : Pos} {a b c : Expr} {m m2 m3 : ME} {p pos : Pos} (ha : PE X a (RdE Z m W)) (hb : PE X b (RdE Z m2 W)) (hc : PE X c (RdE Z m3 W)) (hg : Gl X "zip") (hm : X.mg "zip" = none) (hn : noStar a = true) (hn2 : noStar b = true) (hn3 : noStar c = true) :
    PI X (.Tuple elts kk tpos) (.Call (.Name "zip" p) [a, b, c] [] pos) (RdI Z (iZip (mCons m (mCons m2 (mCons m3 mNil)))) W) := by
  refine ⟨fun pins s σ H R I ⟨ρ, env, h, S, E, q⟩ => Call_ (ld_blt I hg hm PyProof.Rows.boot_zip (PyProof.Rows.callWith_type1 (PA.goE (ra_cons ha (ra_cons hb (ra_cons hc ra_nil hn3) hn2) hn) pos I S E q fun us s1 xs H1 ρ1 vs h1 e I1 rv le S1 E1 r q1 => ?_) (starEach_cons hn) (any_plain (by show (noStar b && (noStar c && true)) = true; rw [hn2, hn3]; rfl))))⟩
  have hl := three_len e
  match vs, xs, us, hl, r, rv with
  | [d1, d2, d3], [x1, x2, x3], [u1, u2, u3], _, .cons r1 (.cons r2 (.cons r3 .nil)), .cons v1 (.cons v2 (.cons v3 .nil)) =>
    have q1 : PostI Z.L ρ1 H1 (match srcV d1 h1, srcV d2 h1, srcV d3 h1 with
      | some i, some j, some k => .ok (.zip3 i j k) h1
      | _, _, _ => .bad) R (Wat W σ) := q1
    split at q1
    · rename_i t1 t2 t3 e1 e2 e3
      obtain ⟨s1v, z1, ⟨o1, a1⟩, k1, _⟩ := src_of S1 r1 e1
      obtain ⟨s2v, z2, ⟨o2, a2⟩, k2, _⟩ := src_of S1 r2 e2
      obtain ⟨s3v, z3, ⟨o3, a3⟩, k3, _⟩ := src_of S1 r3 e3
      rw [← z1] at v1
      rw [← z2] at v2
      rw [← z3] at v3
      obtain ⟨ob1, Hh1, B1, hh1, cu1⟩ := beg_of I1 v1 a1
      obtain ⟨ob2, Hh2, B2, hh2, cu2⟩ := beg_of I1 v2 a2
      obtain ⟨ob3, Hh3, B3, hh3, cu3⟩ := beg_of I1 v3 a3
      refine zip_begins3 B1 B2 B3 hh1 hh2 hh3 fun h' hz hTI hTO g1 g2 g3 hsz hk => wpAny_pyIter_zip hz ?_
      skip; have I2 : Inv X pins σ H1 { s1 with heap := h' } := I1.kept (t' := s1.toks) hk
      have ap : Ap3 (s1.heap.objs.size + 5) (s1.heap.objs.size + 3) (s1.heap.objs.size + 4) s1.heap.objs.size (s1.heap.objs.size + 1) (s1.heap.objs.size + 2) := by constructor <;> (intro e; have e : @Eq Nat _ _ := e; omega)
      refine ⟨_, [s1.heap.objs.size + 5, s1.heap.objs.size + 3, s1.heap.objs.size + 4, s1.heap.objs.size, s1.heap.objs.size + 1, s1.heap.objs.size + 2], _, _, H1, rfl, I2, turn_z3 (s1 := s1v) (s2 := s2v) (s3 := s3v) ap, ⟨hz, hTI, ⟨_, _, _, hTO⟩, cu1 _ _ g1, cu2 _ _ g2, cu3 _ _ g3⟩, fun c hcm => ?_, q1 ρ1 _ _ Le.refl S1 (itj_z3 k1 k2 k3)⟩
      have hle : (s1.heap.objs.size ≤ c) := by
        have hcm : c = s1.heap.objs.size + 5 ∨ c = s1.heap.objs.size + 3 ∨ c = s1.heap.objs.size + 4 ∨ c = s1.heap.objs.size ∨ c = s1.heap.objs.size + 1 ∨ c = s1.heap.objs.size + 2 := by simpa using hcm
        rcases hcm with q | q | q | q | q | q <;> rw [q] <;> first | exact Nat.le_add_right _ _ | exact Nat.le_refl _
      skip; exact I1.fpOk hle (I1.hok.fresh hle)
    · exact q1.elim
end
/-! enumerate of one argument, any source -/
theorem meets_enum {v : Value} {o : Obj} {Hh : Heap → Prop} (B : Begins v o Hh) :
    Meets (Builtin.«enumerate.__new__» ⟨[.type "enumerate", v], []⟩) (fun _ R s => Hh s.heap ∧
      R (.ok (.ret (.ref (s.heap.push o).objs.size))) { s with heap := (s.heap.push o).push { cls := .type "enumerate", data := .fields #[.none, .bool false, .ref s.heap.objs.size, rawInt 0, .none, .none] } }) :=
  .of_wp fun prog w A0 R0 s h => by
    skip; obtain ⟨hp, g, d, tk, os⟩ := s
    obtain ⟨b, h⟩ := h
    have hsub := sub_enumerate
    have starts : ∀ {A' : Around} {E : Value → Shared → Prop} {Q : Value → Shared → Prop}, Q (.ref hp.objs.size) ⟨hp.push o, g, d, tk, os⟩ → wpAny (model prog w) A' (pyIter v) Q E ⟨hp, g, d, tk, os⟩ :=
      fun q => B.iter prog w _ _ ⟨hp, g, d, tk, os⟩ _ b q
    wp_walk using starts
    skip; refine wpAny_stack_any fun st => wpAny_pure ?_
    split
    · rename_i c _ _ _ _ _
      skip; cases (c == Value.type "enumerate")
      · wp_walk using starts
        exact ⟨_, rfl, h⟩
      · wp_walk using starts
        exact ⟨_, rfl, h⟩
    · wp_walk using starts
      exact ⟨_, rfl, h⟩
section
variable {w : World} {prog : Program} {s : Shared} {A : Around} {E : Value → Shared → Prop}
theorem enum_one {v : Value} {o : Obj} {Hh : Heap → Prop} {Q : Value → Shared → Prop} (B : Begins v o Hh) (b : Hh s.heap)
    (h : ∀ h', IsEnum h' (s.heap.objs.size + 1) s.heap.objs.size 0 .none → h'.get? s.heap.objs.size = some o → (∀ c u, s.heap.get? c = some u → h'.get? c = some u) → Q (.ref (s.heap.objs.size + 1)) { s with heap := h' }) :
    wpAny (model prog w) A (call (.type "enumerate") [v]) Q E s := by
  refine callType_new F.called_enumerate (by decide) (F.typeCall_enumerate_1 _) (F.newCall_enumerate_1 _) (fun obj => F.args_object_init_2 obj _) F.entry_enumerate_new (meets_enum B) ⟨b, ?_⟩
  have size : (s.heap.push o).objs.size = s.heap.objs.size + 1 := Heap.size_push ..
  have last := Heap.get?_push_size (s.heap.push o) (o := { cls := .type "enumerate", data := .fields #[.none, .bool false, .ref s.heap.objs.size, rawInt 0, .none, .none] }) rfl
  rw [size] at last
  show _ ∧ _
  rw [size]
  exact ⟨⟨_, last, rfl⟩, h _ last (Heap.get?_push_of_some _ (Heap.get?_push_size _ B.free)) fun c u e => Heap.get?_push_of_some _ (Heap.get?_push_of_some _ e)⟩
end
section
variable {Z : Wl} {atts : List Nat} {k d : Nat} {X : Cx} {W : WX} {pins : List (Addr × Obj)} {σ : St} {H : Hp} {s : Shared} {ρ : Rho} {h : Hv} {env : Env} {tg : Expr}
theorem ri_enum {elts : List Expr} {kk : Nat} {tpos : Pos} {a : Expr} {m : ME} {p pos : Pos} (ha : PE X a (RdE Z m W)) (hg : Gl X "enumerate") (hm : X.mg "enumerate" = none) (hn : noStar a = true) :
    PI X (.Tuple elts kk tpos) (.Call (.Name "enumerate" p) [a] [] pos) (RdI Z (iEnm m) W) := by
  refine ⟨fun pins s σ H R I ⟨ρ, env, h, S, E, q⟩ => ?_⟩
  have q' : PostI Z.L ρ H ((mCons m mNil env h).bind fun vs h => match vs with
    | [x] => match srcV x h with
      | some i => .ok (.enm i) h
      | none => .bad
    | _ => .bad) R (Wat W σ) := by
    unfold mCons mNil
    unfold iEnm at q
    cases e : m env h with
    | ok x h' => rw [e] at q; exact q
    | exc c v h' => rw [e] at q; exact q
    | bad => rw [e] at q; exact q
  refine Call_ (ld_blt I hg hm boot_enumerate (PyProof.Rows.callWith_type1 (PA.goE (ra_cons ha ra_nil hn) pos I S E q' fun us s1 xs H1 ρ1 vs h1 e I1 rv le S1 E1 r q1 => ?_) (starEach_cons hn) rfl))
  have hl := one_len e
  match vs, xs, us, hl, r, rv with
  | [d1], [x1], [u1], _, .cons r1 .nil, .cons v1 .nil =>
    have q1 : PostI Z.L ρ1 H1 (match srcV d1 h1 with
      | some i => .ok (.enm i) h1
      | none => .bad) R (Wat W σ) := q1
    split at q1
    · rename_i t1 e1
      obtain ⟨s1v, z1, ⟨o1, a1⟩, k1, _⟩ := src_of S1 r1 e1
      rw [← z1] at v1
      obtain ⟨ob1, Hh1, B1, hh1, cu1⟩ := beg_of I1 v1 a1
      refine enum_one B1 hh1 fun h' he g1 hk => wpAny_pyIter_enum he ?_
      skip; have I2 : Inv X pins σ H1 { s1 with heap := h' } := I1.kept (t' := s1.toks) hk
      refine ⟨_, [s1.heap.objs.size + 1, s1.heap.objs.size], _, _, H1, rfl, I2, turn_e (s1 := s1v) (Nat.succ_ne_self _), ⟨⟨_, he⟩, cu1 _ _ g1⟩, fun c hcm => ?_, q1 ρ1 _ _ Le.refl S1 (itj_e k1)⟩
      have hle : (s1.heap.objs.size ≤ c) := by
        have hcm : c = s1.heap.objs.size + 1 ∨ c = s1.heap.objs.size := by simpa using hcm
        rcases hcm with q | q <;> rw [q] <;> first | exact Nat.le_add_right _ _ | exact Nat.le_refl _
      skip; exact I1.fpOk hle (I1.hok.fresh hle)
    · exact q1.elim
end
end TB

/-! TB, the link: targets, statements. -/
namespace TB
open L2 PySem PyProof.Rows PySem.Spec
section
variable {Z : Wl} {atts : List Nat} {k d : Nat} {X : Cx} {W : WX} {pins : List (Addr × Obj)} {σ : St} {H : Hp} {s : Shared} {ρ : Rho} {h : Hv} {env : Env}
/-! ### targets -/
/-- only the target's names have changed -/
def WipeEq (t : Tg) (σ σ' : St) : Prop := ∀ vs : List Nat, (∀ i ∈ tgVars t, i ∈ vs) → wipe σ' vs = wipe σ vs
def RdG (Z : Wl) (t : Tg) : TG := fun v σ H Q => ∃ ρ env h x env', Sim Z.L ρ h H ∧ RelE Z.L ρ H env σ ∧ RelD Z.L ρ H x v ∧ asgT t [x] env = some env' ∧ ∀ ρ' σ' H', Le ρ H ρ' H' → Sim Z.L ρ' h H' → RelE Z.L ρ' H' env' σ' → WipeEq t σ σ' → Q σ' H'
def RdGs (Z : Wl) (t : Tg) : TGs := fun vs σ H Q => ∃ ρ env h xs env', Sim Z.L ρ h H ∧ RelE Z.L ρ H env σ ∧ RelL Z.L ρ H xs vs ∧ asgT t xs env = some env' ∧ ∀ ρ' σ' H', Le ρ H ρ' H' → Sim Z.L ρ' h H' → RelE Z.L ρ' H' env' σ' → WipeEq t σ σ' → Q σ' H'
theorem RelE.mono0 {L : Lk} {ρ' : Rho} {H' : Hp} (e : Le0 ρ H ρ' H') (E : RelE L ρ H env σ) : RelE L ρ' H' env σ := fun i d q => let ⟨v, a, b⟩ := E i d q; ⟨v, a, b.mono0 e⟩
theorem RelE.set {L : Lk} {i : Nat} {x : D} {v : V} (E : RelE L ρ H env σ) (r : RelD L ρ H x v) (hi : i < σ.length) : RelE L ρ H (env.set i (some x)) (σ.set i (some v)) := by
  intro j dd e
  by_cases q : j = i
  · subst q
    rw [List.getElem?_set_self' ] at e
    cases e0 : env[j]? with
    | none => rw [e0] at e; cases e
    | some o =>
      rw [e0] at e
      cases e
      exact ⟨v, by rw [List.getElem?_set_self hi], r⟩
  · rw [List.getElem?_set_ne (fun z => q z.symm)] at e
    obtain ⟨w, e1, r1⟩ := E j dd e
    exact ⟨w, by rw [List.getElem?_set_ne (fun z => q z.symm)]; exact e1, r1⟩
theorem wipe_comm {o : Option V} {i : Nat} : ∀ {vs : List Nat}, i ∉ vs → wipe (σ.set i o) vs = (wipe σ vs).set i o
  | [], _ => rfl
  | j :: r, h => by
    have n : i ≠ j := fun z => h (by rw [z]; exact List.mem_cons_self)
    show (wipe (σ.set i o) r).set j none = ((wipe σ r).set j none).set i o
    rw [wipe_comm fun z => h (List.mem_cons_of_mem _ z), List.set_comm _ _ n]
theorem wipe_set {o : Option V} {i : Nat} : ∀ {vs : List Nat}, i ∈ vs → wipe (σ.set i o) vs = wipe σ vs
  | [], h => nomatch h
  | j :: r, h => by
    show (wipe (σ.set i o) r).set j none = (wipe σ r).set j none
    by_cases z : i ∈ r
    · rw [wipe_set z]
    · have e : i = j := by
        skip; rcases List.mem_cons.mp h with q | q
        · exact q
        · exact absurd q z
      subst e
      rw [wipe_comm z, List.set_set]
theorem inv_slot (I : Inv X pins σ H s) {i : Nat} {x : Str} (hi : X.N[i]? = some x) : i < σ.length := by
  rw [I.len]
  exact (List.getElem?_eq_some_iff.mp hi).1
theorem rg_name {i : Nat} {x : Str} {pos : Pos} (hN : X.N.Nodup) (hi : X.N[i]? = some x) (hx : Loc X.env.scope x) (hf : X.fn x = true ∨ X.env.scope.names.lookup x = some .local) : PG X (.Name x pos) (RdG Z (.nm i)) := by
  refine ⟨fun pins s σ H v u Q I r ⟨ρ, env, h, y, env', S, E, ry, ea, q⟩ => (pg_name hN hi hx hf).run pins s σ H v u Q I r ?_⟩
  cases ea
  refine q ρ _ H Le.refl S (E.set ry (inv_slot I hi)) fun vs hv => ?_
  exact wipe_set (hv i (by simp [tgVars]))
theorem rgs_nil : PGs X [] (RdGs Z .nil) := by
  refine ⟨fun pins s σ H vs us Q I r ⟨ρ, env, h, xs, env', S, E, rl, ea, q⟩ => pgs_nil.run pins s σ H vs us Q I r ?_⟩
  cases rl with
  | nil => cases ea; exact ⟨rfl, q ρ σ H Le.refl S E fun _ _ => rfl⟩
  | cons _ _ => cases ea
theorem assign_cons {e : Expr} {es : List Expr} {en : PySem.Env} (h : noStar e = true) : assignEach (e :: es) en = (false, assign e en) :: assignEach es en := by
  cases e <;> first | rfl | cases h
theorem assign_len {en : PySem.Env} : ∀ {es : List Expr}, plainArgs es = true → (assignEach es en).length = es.length ∧ (assignEach es en).findIdx? (·.1) = none
  | [], _ => ⟨rfl, rfl⟩
  | e :: r, hp => by
    obtain ⟨h1, h2⟩ := Bool.and_eq_true_iff.mp hp
    obtain ⟨a, b⟩ := assign_len h2
    rw [assign_cons h1]
    refine ⟨congrArg (· + 1) a, ?_⟩
    rw [List.findIdx?_cons]
    simp [b]
theorem rgs_cons {e : Expr} {es : List Expr} {t r : Tg} (he : PG X e (RdG Z t)) (hs : PGs X es (RdGs Z r)) (hn : noStar e = true) : PGs X (e :: es) (RdGs Z (.cons t r)) := by
  refine ⟨fun pins s σ H vs us Q I rv ⟨ρ, env, h, xs, env', S, E, rl, ea, q⟩ => ?_⟩
  cases rl with
  | nil => cases ea
  | @cons x v xs vs rx rl =>
    cases rv with
    | cons r1 rv =>
      have ea : (match asgT t [x] env with
        | some σ' => asgT r xs σ'
        | none => none) = some env' := ea
      rw [assign_cons hn]
      cases e1 : asgT t [x] env with
      | none => rw [e1] at ea; cases ea
      | some en1 =>
        rw [e1] at ea
        refine assignInOrder_cons (thn (he.run pins s σ H _ _ (fun σ1 H1 => ∃ ρ1, Le ρ H ρ1 H1 ∧ Sim Z.L ρ1 h H1 ∧ RelE Z.L ρ1 H1 en1 σ1 ∧ WipeEq t σ σ1) I r1 ⟨ρ, env, h, x, en1, S, E, rx, e1, fun ρ' σ' H' le S' E' w' => ⟨ρ', le, S', E', w'⟩⟩) fun _ s1 ⟨σ1, H1, I1, ρ1, le, S1, E1, w1⟩ => ?_)
        exact hs.run pins s1 σ1 H1 _ _ Q I1 rv ⟨ρ1, en1, h, xs, env', S1, E1, rl.mono le, ea, fun ρ' σ' H' le' S' E' w' => q ρ' σ' H' (le.trans le') S' E' fun vs hv => (w' vs fun i hi => hv i (by simp [tgVars, hi])).trans (w1 vs fun i hi => hv i (by simp [tgVars, hi]))⟩
theorem rg_tup {es : List Expr} {kk : Nat} {pos : Pos} {t : Tg} (hc : X.calm = true) (hs : PGs X es (RdGs Z t)) (hp : plainArgs es = true) (hlen : ∀ xs env env', asgT t xs env = some env' → xs.length = es.length) : PG X (.Tuple es kk pos) (RdG Z (.tup t)) := by
  refine ⟨fun pins s σ H v u Q I r ⟨ρ, env, h, x, env', S, E, rx, ea, q⟩ => ?_⟩
  cases rx with
  | @tup l p vs tp rl =>
    have ea : asgT t l env = some env' := ea
    exact (pg_tup hc hs (assign_len hp).1 (assign_len hp).2).run pins s σ H _ u Q I r ⟨p, vs, rfl, tp.sq, by rw [rl.length]; exact hlen _ _ _ ea, ρ, env, h, l, env', S, E, rl, ea, q⟩
  | non => cases ea
  | bl _ => cases ea
  | int _ => cases ea
  | str _ => cases ea
  | ref _ => cases ea
  | ty _ => cases ea

/-! ### statements -/
def PostS (L : Lk) (ρ : Rho) (H : Hp) (r : R) (D : Ends) (W : WX) : Prop := match r with
  | .nx env h => ∀ ρ' σ' H', Le ρ H ρ' H' → Sim L ρ' h H' → RelE L ρ' H' env σ' → D.nx σ' H'
  | .ret x h => ∀ ρ' v H', Le ρ H ρ' H' → Sim L ρ' h H' → RelD L ρ' H' x v → D.rt v H'
  | .brk env h => ∀ ρ' σ' H', Le ρ H ρ' H' → Sim L ρ' h H' → RelE L ρ' H' env σ' → D.bk σ' H'
  | .cnt env h => ∀ ρ' σ' H', Le ρ H ρ' H' → Sim L ρ' h H' → RelE L ρ' H' env σ' → D.ct σ' H'
  | .exc c vs env h => ∀ ρ' dd σ' H', Le ρ H ρ' H' → Sim L ρ' h H' → RelE L ρ' H' env σ' → RelX L ρ' H' c vs dd → W (.ref (L.cA c)) dd σ' H'
  | .bad => False
def RdS (Z : Wl) (m : MS) (W : WX) : TS := fun D σ H => ∃ ρ env h, Sim Z.L ρ h H ∧ RelE Z.L ρ H env σ ∧ PostS Z.L ρ H (m env h) D W
theorem PostS.mono {L : Lk} {ρ1 : Rho} {H1 : Hp} {r : R} {D : Ends} {W : WX} (e : Le ρ H ρ1 H1) (q : PostS L ρ H r D W) : PostS L ρ1 H1 r D W := by
  cases r with
  | nx env h => exact fun ρ' σ' H' e' => q ρ' σ' H' (e.trans e')
  | ret x h => exact fun ρ' σ' H' e' => q ρ' σ' H' (e.trans e')
  | brk env h => exact fun ρ' σ' H' e' => q ρ' σ' H' (e.trans e')
  | cnt env h => exact fun ρ' σ' H' e' => q ρ' σ' H' (e.trans e')
  | exc c vs env h => exact fun ρ' dd σ' H' e' => q ρ' dd σ' H' (e.trans e')
  | bad => exact q
/-- an expression in a statement -/
theorem post_on {α β : Type} {R' : Rho → Hp → α → β → Prop} {r : Res α} {c : α → Hv → R} {Dn : Ends} (E : RelE Z.L ρ H env σ) (q : PostS Z.L ρ H (onR env r c) Dn W) :
    Post Z.L R' ρ H r (fun b H1 => ∃ ρ1 a h1, r = .ok a h1 ∧ Le ρ H ρ1 H1 ∧ Sim Z.L ρ1 h1 H1 ∧ R' ρ1 H1 a b ∧ PostS Z.L ρ1 H1 (c a h1) Dn W) (Wat W σ) := by
  cases r with
  | ok a h1 => exact fun ρ' b H' e s r => ⟨ρ', a, h1, rfl, e, s, r, PostS.mono e q⟩
  | exc cc vs h1 => exact fun ρ' dd H' e s x => q ρ' dd σ H' e s (E.mono e) x
  | bad => exact q
theorem PE.goS {e : Expr} {m : ME} (he : PE X e (RdE Z m W)) (I : Inv X pins σ H s) (S : Sim Z.L ρ h H) (E : RelE Z.L ρ H env σ) {c : D → Hv → R} {Dn : Ends} (q : PostS Z.L ρ H (onR env (m env h) c) Dn W) {QQ : Value → Shared → Prop}
    (next : ∀ u s1 x H1 ρ1 v h1, Inv X pins σ H1 s1 → RelV x u → Le ρ H ρ1 H1 → Sim Z.L ρ1 h1 H1 → RelE Z.L ρ1 H1 env σ → RelD Z.L ρ1 H1 v x → PostS Z.L ρ1 H1 (c v h1) Dn W → QQ u s1) : wpAny (model X.prog X.w) X.A (eval e X.env) QQ X.xe s :=
  thn (he.run pins s σ H _ I ⟨ρ, env, h, S, E, post_on E q⟩) fun u s1 ⟨x, H1, I1, rx, ρ1, v, h1, _, le, S1, r, q1⟩ => next u s1 x H1 ρ1 v h1 I1 rx le S1 (E.mono le) r q1
theorem RdE.toS {m : ME} {R' : VK} (S : Sim Z.L ρ h H) (E : RelE Z.L ρ H env σ) {c : D → Hv → R} {Dn : Ends} (q : PostS Z.L ρ H (onR env (m env h) c) Dn W)
    (next : ∀ x H1 ρ1 v h1, Le ρ H ρ1 H1 → Sim Z.L ρ1 h1 H1 → RelE Z.L ρ1 H1 env σ → RelD Z.L ρ1 H1 v x → PostS Z.L ρ1 H1 (c v h1) Dn W → R' x H1) : RdE Z m W σ H R' :=
  ⟨ρ, env, h, S, E, (post_on E q).imp (fun x H1 ⟨ρ1, v, h1, _, le, S1, r, q1⟩ => next x H1 ρ1 v h1 le S1 (E.mono le) r q1) fun _ _ _ z => z⟩
theorem RdT.toS {m : MT} {R' : Bool → Hp → Prop} (S : Sim Z.L ρ h H) (E : RelE Z.L ρ H env σ) {c : Bool → Hv → R} {Dn : Ends} (q : PostS Z.L ρ H (onR env (m env h) c) Dn W)
    (next : ∀ b H1 ρ1 h1, Le ρ H ρ1 H1 → Sim Z.L ρ1 h1 H1 → RelE Z.L ρ1 H1 env σ → PostS Z.L ρ1 H1 (c b h1) Dn W → R' b H1) : RdT Z m W σ H R' :=
  ⟨ρ, env, h, S, E, (post_on (R' := fun _ _ a b => a = b) E q).imp (fun x H1 ⟨ρ1, v, h1, _, le, S1, r, q1⟩ => by cases r; exact next x H1 ρ1 h1 le S1 (E.mono le) q1) fun _ _ _ z => z⟩
theorem rs_nil : PSs X [] (RdS Z sNop W) := ⟨fun pins s σ H D I ⟨ρ, env, h, S, E, q⟩ => pss_nil.run pins s σ H D I (q ρ σ H Le.refl S E)⟩
theorem rs_pass {pos : Pos} : PS X (.Pass pos) (RdS Z sNop W) := ⟨fun pins s σ H D I ⟨ρ, env, h, S, E, q⟩ => ps_pass.run pins s σ H D I (q ρ σ H Le.refl S E)⟩
theorem rs_brk {pos : Pos} : PS X (.Break pos) (RdS Z sBrk W) := ⟨fun pins s σ H D I ⟨ρ, env, h, S, E, q⟩ => ps_break.run pins s σ H D I (q ρ σ H Le.refl S E)⟩
theorem rs_cnt {pos : Pos} : PS X (.Continue pos) (RdS Z sCnt W) := ⟨fun pins s σ H D I ⟨ρ, env, h, S, E, q⟩ => ps_continue.run pins s σ H D I (q ρ σ H Le.refl S E)⟩
theorem rs_doc {x j pos pos'} : PS X (.Expr (.Constant (.str x) j pos) pos') (RdS Z sNop W) := ⟨fun pins s σ H D I ⟨ρ, env, h, S, E, q⟩ => ps_doc.run pins s σ H D I (q ρ σ H Le.refl S E)⟩
theorem post_then {a : R} {b : MS} {Dn : Ends} (q : PostS Z.L ρ H (thenR a b) Dn W) : PostS Z.L ρ H a { Dn with nx := fun σ' H' => ∃ ρ' env' h', Le ρ H ρ' H' ∧ Sim Z.L ρ' h' H' ∧ RelE Z.L ρ' H' env' σ' ∧ PostS Z.L ρ' H' (b env' h') Dn W } W := by
  cases a with
  | nx env h => exact fun ρ' σ' H' e S E => ⟨ρ', env, h, e, S, E, PostS.mono e q⟩
  | ret x h => exact q
  | brk env h => exact q
  | cnt env h => exact q
  | exc c vs env h => exact q
  | bad => exact q
theorem rs_cons {st : Stmt} {sts : List Stmt} {a b : MS} (ha : PS X st (RdS Z a W)) (hb : PSs X sts (RdS Z b W)) : PSs X (st :: sts) (RdS Z (sSeq a b) W) := by
  refine ⟨fun pins s σ H D I ⟨ρ, env, h, S, E, q⟩ => (pss_cons ha hb).run pins s σ H D I ⟨ρ, env, h, S, E, ?_⟩⟩
  have z := post_then q
  cases e : a env h with
  | nx env' h' =>
    rw [e] at z
    exact fun ρ' σ' H' le S' E' => let ⟨ρ1, env1, h1, le1, S1, E1, q1⟩ := z ρ' σ' H' le S' E'; ⟨ρ1, env1, h1, S1, E1, q1⟩
  | ret x h' => rw [e] at z; exact z
  | brk x h' => rw [e] at z; exact z
  | cnt x h' => rw [e] at z; exact z
  | exc c vs x h' => rw [e] at z; exact z
  | bad => rw [e] at z; exact z
theorem rs_one {st : Stmt} {a : MS} (ha : PS X st (RdS Z a W)) : PSs X [st] (RdS Z a W) := pss_one ha
theorem rs_exp {e : Expr} {m : ME} {pos : Pos} (he : PE X e (RdE Z m W)) (hs : swapsWith e none pos.line X.env = pure false) : PS X (.Expr e pos) (RdS Z (sExp m) W) := by
  refine ⟨fun pins s σ H D I ⟨ρ, env, h, S, E, q⟩ => (ps_expr he hs).run pins s σ H D I ?_⟩
  exact RdE.toS S E q fun x H1 ρ1 v h1 le S1 E1 r q1 => q1 ρ1 σ H1 Le.refl S1 E1
theorem rs_ret {e : Expr} {m : ME} {pos : Pos} (he : PE X e (RdE Z m W)) : PS X (.Return (some e) pos) (RdS Z (sRet m) W) := by
  refine ⟨fun pins s σ H D I ⟨ρ, env, h, S, E, q⟩ => (ps_ret he).run pins s σ H D I ?_⟩
  exact RdE.toS S E q fun x H1 ρ1 v h1 le S1 E1 r q1 => q1 ρ1 x H1 Le.refl S1 r
theorem rs_retN {pos : Pos} : PS X (.Return none pos) (RdS Z sRetN W) := ⟨fun pins s σ H D I ⟨ρ, env, h, S, E, q⟩ => ps_retN.run pins s σ H D I (q ρ .non H Le.refl S .non)⟩
theorem rs_if {c : Expr} {a b : List Stmt} {mc : MT} {ma mb : MS} {pos : Pos} (hc : PT X c (RdT Z mc W)) (ha : PSs X a (RdS Z ma W)) (hb : PSs X b (RdS Z mb W)) : PS X (.If c a b pos) (RdS Z (sIfs mc ma mb) W) := by
  refine ⟨fun pins s σ H D I ⟨ρ, env, h, S, E, q⟩ => (ps_if hc ha hb).run pins s σ H D I ?_⟩
  refine RdT.toS S E q fun t H1 ρ1 h1 le S1 E1 q1 => ?_
  cases t <;> exact ⟨ρ1, env, h1, S1, E1, q1⟩
theorem rs_asg {tg e : Expr} {m : ME} {t : Tg} {pos : Pos} (he : PE X e (RdE Z m W)) (hg : PG X tg (RdG Z t)) (hs : swapsWithSole [tg] e pos.line X.env = pure false) (hw : swappedStores [tg] e X.env = pure none) (h1 : (assignEach [tg] X.env).map (·.2) = [assign tg X.env]) : PS X (.Assign [tg] e pos) (RdS Z (sAsg t m) W) := by
  refine ⟨fun pins s σ H D I ⟨ρ, env, h, S, E, q⟩ => (ps_asg he hg hs hw h1).run pins s σ H D I ?_⟩
  refine RdE.toS S E q fun x H1 ρ1 v h1 le S1 E1 r q1 => ?_
  cases ea : asgT t [v] env with
  | none =>
    have q1 : PostS Z.L ρ1 H1 (match asgT t [v] env with
      | some σ => .nx σ h1
      | none => .bad) D W := q1
    rw [ea] at q1; exact q1.elim
  | some env' =>
    have q1 : PostS Z.L ρ1 H1 (match asgT t [v] env with
      | some σ => .nx σ h1
      | none => .bad) D W := q1
    rw [ea] at q1
    exact ⟨ρ1, env, h1, v, env', S1, E1, r, ea, fun ρ' σ' H' le S' E' _ => q1 ρ' σ' H' le S' E'⟩

/-! ### loops -/
theorem rs_whl {c : Expr} {body : List Stmt} {mc : MT} {mb : MS} {pos : Pos} (hp : PassesOwn (model X.prog X.w) X.A X.env X.xe) (hc : PT X c (RdT Z mc W)) (hb : PSs X body (RdS Z mb W)) : PS X (.While c body [] pos) (RdS Z (sWhl mc mb) W) := by
  refine ⟨fun pins s σ H D I ⟨ρ, env, h, S, E, q⟩ => (ps_while hp hc hb).run pins s σ H D I ?_⟩
  refine ⟨fun m σ1 H1 => ∃ ρ1 env1 h1, Sim Z.L ρ1 h1 H1 ∧ RelE Z.L ρ1 H1 env1 σ1 ∧ PostS Z.L ρ1 H1 (whlL mc mb m env1 h1) D W, ⟨whlFuel, ρ, env, h, S, E, q⟩, ?_⟩
  rintro m σ1 H1 ⟨ρ1, env1, h1, S1, E1, q1⟩
  cases m with
  | zero => exact q1.elim
  | succ n =>
    refine RdT.toS S1 E1 q1 fun t H2 ρ2 h2 le S2 E2 q2 => ?_
    cases t with
    | false => exact q2 ρ2 σ1 H2 Le.refl S2 E2
    | true =>
      show ∃ N : St → Hp → Prop, _ ∧ _
      refine ⟨fun σ3 H3 => ∃ ρ3 env3 h3, Sim Z.L ρ3 h3 H3 ∧ RelE Z.L ρ3 H3 env3 σ3 ∧ PostS Z.L ρ3 H3 (whlL mc mb n env3 h3) D W, fun σ3 H3 z => ⟨n, Nat.lt_succ_self n, z⟩, ρ2, env1, h2, S2, E2, ?_⟩
      have q2 : PostS Z.L ρ2 H2 (match mb env1 h2 with
        | .nx σ h => whlL mc mb n σ h
        | .cnt σ h => whlL mc mb n σ h
        | .brk σ h => .nx σ h
        | r => r) D W := q2
      cases e : mb env1 h2 with
      | nx env' h' => rw [e] at q2; exact fun ρ' σ' H' le S' E' => ⟨ρ', env', h', S', E', PostS.mono le q2⟩
      | cnt env' h' => rw [e] at q2; exact fun ρ' σ' H' le S' E' => ⟨ρ', env', h', S', E', PostS.mono le q2⟩
      | brk env' h' => rw [e] at q2; exact q2
      | ret x h' => rw [e] at q2; exact q2
      | exc c vs x h' => rw [e] at q2; exact q2
      | bad => rw [e] at q2; exact q2
theorem dict_none {t : TB.It} (e : t.dict? = none) (r : R) : unlockR t r = match r with
    | .brk _ _ => .bad
    | .cnt _ _ => .bad
    | r => r := by
  cases r <;> simp [unlockR, unlockI, e]
theorem lock_none {t : TB.It} (e : t.dict? = none) : lockI t h = h := by unfold lockI; rw [e]
theorem rs_for {tg iter : Expr} {body : List Stmt} {mi : MI} {t : Tg} {mb : MS} {pos : Pos} (hp : PassesOwn (model X.prog X.w) X.A X.env X.xe) (hc : X.calm = true) (hi : PI X tg iter (RdI Z mi W)) (hg : PG X tg (RdG Z t)) (hb : PSs X body (RdS Z mb W))
    (hs : ∀ x, foldedSetIterable iter X.env x = pure x) : PS X (.For tg iter body [] pos) (RdS Z (sFor t mi mb) W) := by
  refine ⟨fun pins s σ H D I ⟨ρ, env, h, S, E, q⟩ => (ps_for hp hc hi hg hb hs).run pins s σ H D I ?_⟩
  refine ⟨ρ, env, h, S, E, (post_on (R' := fun ρ H t J => ItJ Z.L ρ H t J) E q).imp (fun J H1 ⟨ρ1, it, h1, _, le, S1, ⟨nd, J1⟩, q1⟩ => ?_) fun _ _ _ z => z⟩
  have q1 : PostS Z.L ρ1 H1 (unlockR it (forL t it mb (it.len (lockI it h1)) 0 env (lockI it h1))) D W := q1
  rw [lock_none nd, dict_none nd] at q1
  have E1 := E.mono le
  refine ⟨fun i n σ2 H2 => ∃ ρ2 env2 h2, Le ρ1 H1 ρ2 H2 ∧ Sim Z.L ρ2 h2 H2 ∧ RelE Z.L ρ2 H2 env2 σ2 ∧ PostS Z.L ρ2 H2 (match forL t it mb n i env2 h2 with
    | .brk _ _ => .bad
    | .cnt _ _ => .bad
    | r => r) D W, ⟨_, ρ1, env, h1, Le.refl, S1, E1, q1⟩, ?_⟩
  rintro i n σ2 H2 ⟨ρ2, env2, h2, le2, S2, E2, q2⟩
  have J2 := J1 ρ2 h2 H2 i le2.toLe1 S2
  unfold forL at q2
  cases ea : it.at? h2 i with
  | none => simp only [ea] at q2; exact q2.elim
  | some o =>
    cases o with
    | none =>
      rw [ea] at J2
      simp only [ea] at q2
      exact .inl ⟨J2, q2 ρ2 σ2 H2 Le.refl S2 E2⟩
    | some x =>
      rw [ea] at J2
      obtain ⟨go, yl⟩ := J2
      simp only [ea] at q2
      cases eb : asgT t [x] env2 with
      | none => simp only [eb] at q2; exact q2.elim
      | some env3 =>
        simp only [eb] at q2
        cases n with
        | zero => exact q2.elim
        | succ n =>
          simp only at q2
          refine .inr ⟨go, fun σ3 H3 => ∃ ρ3 env3 h3, Le ρ1 H1 ρ3 H3 ∧ Sim Z.L ρ3 h3 H3 ∧ RelE Z.L ρ3 H3 env3 σ3 ∧ PostS Z.L ρ3 H3 (match forL t it mb n (i + 1) env3 h3 with
            | .brk _ _ => .bad
            | .cnt _ _ => .bad
            | r => r) D W, fun σ3 H3 z => ⟨n, Nat.lt_succ_self n, z⟩, fun v H' yv => ?_⟩
          obtain ⟨ρ', le3, S3, rv⟩ := yl v H' yv
          refine ⟨ρ', env2, h2, x, env3, S3, E2.mono le3, rv, eb, fun ρ4 σ4 H4 le4 S4 E4 _ => ⟨ρ4, env3, h2, S4, E4, ?_⟩⟩
          have q3 := PostS.mono (le3.trans le4) q2
          have le5 := le2.trans (le3.trans le4)
          cases ec : mb env3 h2 with
          | nx env' h' => simp only [ec] at q3; exact fun ρ5 σ5 H5 le6 S5 E5 => ⟨ρ5, env', h', le5.trans le6, S5, E5, PostS.mono le6 q3⟩
          | cnt env' h' => simp only [ec] at q3; exact fun ρ5 σ5 H5 le6 S5 E5 => ⟨ρ5, env', h', le5.trans le6, S5, E5, PostS.mono le6 q3⟩
          | brk env' h' => simp only [ec] at q3; exact q3
          | ret x h' => simp only [ec] at q3; exact q3
          | exc c vs x h' => simp only [ec] at q3; exact q3
          | bad => simp only [ec] at q3; exact q3
end
end TB

/-! TB, the link: comprehensions. -/
namespace TB
open L2 PySem PyProof.Rows PySem.Spec
/-- nothing is raised here -/
def W0 : WX := fun _ _ _ _ => False
/-! ### plain laws -/
def Grows (turn : Env → Hv → List D → Res (List D)) : Prop := ∀ env h acc acc' h', turn env h acc = .ok acc' h' → acc.length ≤ acc'.length
theorem bind_ok {α β : Type} {r : Res α} {k : α → Hv → Res β} {b : β} {h' : Hv} (e : r.bind k = .ok b h') : ∃ a h1, r = .ok a h1 ∧ k a h1 = .ok b h' := by
  cases r with
  | ok a h1 => exact ⟨a, h1, rfl, e⟩
  | exc c v h => cases e
  | bad => cases e
theorem compL_grows {t : Tg} {it : TB.It} {env : Env} {turn : Env → Hv → List D → Res (List D)} (g : Grows turn) : ∀ (n i : Nat) (h : Hv) (acc acc' : List D) (h' : Hv), compL t it env turn n i h acc = .ok acc' h' → acc.length ≤ acc'.length := by
  intro n
  induction n with
  | zero =>
    intro i h acc acc' h' e
    unfold compL at e
    split at e
    · cases e; exact Nat.le_refl _
    · split at e <;> cases e
    · cases e
  | succ n ih =>
    intro i h acc acc' h' e
    unfold compL at e
    split at e
    · cases e; exact Nat.le_refl _
    · split at e
      · obtain ⟨a1, h1, e1, e2⟩ := bind_ok e
        exact Nat.le_trans (g _ _ _ _ _ e1) (ih _ _ _ _ _ e2)
      · cases e
    · cases e
theorem elt_grows {me : ME} {mt : MT} : Grows (genTurn mt (gElt me)) := by
  intro env h acc acc' h' e
  obtain ⟨b, h1, e1, e2⟩ := bind_ok e
  cases b with
  | false => cases e2; exact Nat.le_refl _
  | true =>
    obtain ⟨x, h2, e3, e4⟩ := bind_ok e2
    cases e4
    exact Nat.le_succ _
theorem gen_eq {t : Tg} {mi : MI} {mt : MT} {g : MG} {en env : Env} {h : Hv} {acc : List D} : gGen t mi mt g en env h acc = (mi en h).bind fun i h => (compL t i (wipeE (tgVars t) env) (genTurn mt g) (i.len (lockI i h)) 0 (lockI i h) acc).bind fun acc h => .ok acc (unlockI i h) := rfl
theorem gen_grows {t : Tg} {mi : MI} {mt mt2 : MT} {g : MG} (hg : Grows (genTurn mt2 g)) : Grows (genTurn mt (gGen t mi mt2 g)) := by
  intro env h acc acc' h' e
  obtain ⟨b, h1, e1, e2⟩ := bind_ok e
  cases b with
  | false => cases e2; exact Nat.le_refl _
  | true =>
    obtain ⟨i, h2, e3, e4⟩ := bind_ok e2
    obtain ⟨a3, h3, e5, e6⟩ := bind_ok e4
    cases e6
    exact compL_grows hg _ _ _ _ _ _ e5
theorem wipeE_out (env : Env) : ∀ (vs : List Nat) (j : Nat) (d : D), (wipeE vs env)[j]? = some (some d) → env[j]? = some (some d) ∧ j ∉ vs
  | [], j, d, e => ⟨e, by simp⟩
  | i :: r, j, d, e => by
    have e : ((wipeE r env).set i none)[j]? = some (some d) := e
    by_cases z : j = i
    · subst z
      rw [List.getElem?_set_self'] at e
      cases q : (wipeE r env)[j]? with
      | none => (rw [q] at e; cases e)
      | some o => rw [q] at e; cases e
    · rw [List.getElem?_set_ne (fun q => z q.symm)] at e
      obtain ⟨a, b⟩ := wipeE_out env r j d e
      exact ⟨a, by simp [z, b]⟩
section
variable {Z : Wl} {atts : List Nat} {k d : Nat} {X : Cx} {W : WX} {pins : List (Addr × Obj)} {σ : St} {H : Hp} {s : Shared} {ρ : Rho} {h : Hv} {env : Env}
theorem RelE.wiped {L : Lk} (E : RelE L ρ H env σ) (vs : List Nat) : RelE L ρ H (wipeE vs env) (wipe σ vs) := by
  intro j dd e
  obtain ⟨e1, n⟩ := wipeE_out env vs j dd e
  obtain ⟨v, e2, r⟩ := E j dd e1
  exact ⟨v, by rw [wipe_out n]; exact e2, r⟩
theorem gd_blk (G : Gd Z k X W) {s : Shared} {H : Hp} {scope : Scope} {cenv : PySem.Env} {fp : List Addr} : Gd Z k (X.blk s H scope cenv fp) W0 :=
  ⟨G.prog, G.w, G.K, G.mg, G.base, G.calm, G.nd, fun e s ⟨_, _, _, _, _, _, _, _, _, _, _, _, _, _, _, _, z⟩ => z, G.room⟩
theorem wipe_idem : ∀ vs : List Nat, wipe (wipe σ vs) vs = wipe σ vs
  | [] => rfl
  | v :: r => by
    show (wipe ((wipe σ r).set v none) r).set v none = (wipe σ r).set v none
    by_cases z : v ∈ r
    · rw [wipe_set z, wipe_idem r]
    · rw [wipe_comm z, List.set_set, wipe_idem r]
theorem rts_nil : PTs X [] (RdT Z tNil W) := ⟨fun pins s σ H Q I ⟨ρ, env, h, S, E, q⟩ => pts_nil.run pins s σ H Q I (q ρ true H Le.refl S rfl)⟩
theorem rts_one {c : Expr} {m : MT} (hc : PT X c (RdT Z m W)) : PTs X [c] (RdT Z (tCons m tNil) W) := by
  refine ⟨fun pins s σ H Q I ⟨ρ, env, h, S, E, q⟩ => (pts_one hc).run pins s σ H Q I ⟨ρ, env, h, S, E, ?_⟩⟩
  unfold tCons tNil at q
  cases e : m env h with
  | ok b h' => rw [e] at q; cases b <;> exact q
  | exc c v h' => rw [e] at q; exact q
  | bad => rw [e] at q; exact q
/-- a comprehension's own contexts -/
abbrev Bk (X : Cx) (scope : Scope) (s : Shared) (H : Hp) (C : Addr) (cl : List (Str × Addr)) (fp : List Addr) : Cx := X.blk s H scope (compEnvC scope cl C X.env) fp
/-- what the evaluator's list comprehension ends with -/
theorem lc_end {env0 : Env} {g : MG} {Q : VK} {Wk : WK} (q : PostD Z.L ρ H ((nox (g env env0 h [])).bind fun acc h => newL acc.reverse h) Q Wk) : ∃ acc h', g env env0 h [] = .ok acc h' ∧ acc.length ≤ sizeLine ∧ PostD Z.L ρ H (new (.lst acc.reverse) h') Q Wk := by
  cases e : g env env0 h [] with
  | ok acc h' =>
    rw [e] at q
    obtain ⟨hz, q2⟩ := post_newL q
    exact ⟨acc, h', rfl, by simpa using hz, q2⟩
  | exc c v h' => rw [e] at q; exact q.elim
  | bad => rw [e] at q; exact q.elim
/-- the state of a list comprehension between turns -/
structure LcI (Z : Wl) (B : Addr) (ρ1 : Rho) (H1 : Hp) (ρ2 : Rho) (h2 : Hv) (H2 : Hp) (da : List TB.D) (va : List V) : Prop where
  le : Le ρ1 H1 ρ2 H2
  S : Sim Z.L ρ2 h2 H2
  eD : H2 B = some (.lst va)
  un : ∀ a, ρ2 a ≠ some B
  rel : RelL Z.L ρ2 H2 da va
theorem LcI.step {Z : Wl} {B : Addr} {ρ1 ρ2 ρ3 : Rho} {H1 H2 H3 : Hp} {h2 h3 : Hv} {da : List TB.D} {va : List V} (c : LcI Z B ρ1 H1 ρ2 h2 H2 da va) (le : Le ρ2 H2 ρ3 H3) (S : Sim Z.L ρ3 h3 H3) : LcI Z B ρ1 H1 ρ3 h3 H3 da va :=
  let ⟨e, n⟩ := le.un _ _ c.eD c.un
  ⟨c.le.trans le, S, e, n, c.rel.mono le⟩
theorem LcI.snoc {Z : Wl} {B : Addr} {ρ1 ρ2 : Rho} {H1 H2 : Hp} {h2 : Hv} {da : List TB.D} {va : List V} (c : LcI Z B ρ1 H1 ρ2 h2 H2 da va) (hD : H1 B = none) {y : TB.D} {v : V} (r : RelD Z.L ρ2 H2 y v) : LcI Z B ρ1 H1 ρ2 h2 (upd H2 B (.lst (va ++ [v]))) (da ++ [y]) (va ++ [v]) := by
  have le0 : Le0 ρ2 H2 ρ2 (upd H2 B (.lst (va ++ [v]))) := Le0.upd_un c.eD trivial
  exact ⟨c.le.upd_new hD, c.S.upd_un c.eD trivial c.un, upd_same, c.un, (c.rel.mono0 le0).append (.one (r.mono0 le0))⟩
theorem LcI.start {Z : Wl} {B : Addr} {ρ1 : Rho} {H1 : Hp} {h1 : Hv} (S : Sim Z.L ρ1 h1 H1) (hD : H1 B = none) : LcI Z B ρ1 H1 ρ1 h1 (upd H1 B (.lst [])) [] [] :=
  ⟨Le.fresh hD, S.fresh hD, upd_same, fun a e => (S.tr a B e).1 hD, .nil⟩
theorem LcI.fin {Z : Wl} {B : Addr} {ρ1 ρ2 : Rho} {H1 H2 : Hp} {h2 : Hv} {da : List TB.D} {va : List V} (c : LcI Z B ρ1 H1 ρ2 h2 H2 da va) (hD : H1 B = none) {Q : VK} {Wk : WK} (q : PostD Z.L ρ1 H1 (new (.lst da) h2) Q Wk) : Q (.ref B) H2 := by
  have le0 : Le0 ρ2 H2 (ext ρ2 h2.n B) H2 := ⟨fun a p e => by rw [ext_ne (Nat.ne_of_lt (c.S.lt a p e))]; exact e, fun _ _ z => z, fun _ _ z => z⟩
  exact q _ _ _ (c.le.adopt c.S hD) (c.S.adopt c.eD trivial c.un ⟨va, c.eD, c.rel.mono0 le0⟩) (.ref ext_same)
theorem RelE.less {L : Lk} (E : RelE L ρ H env σ) (vs : List Nat) : RelE L ρ H (wipeE vs env) σ := fun j dd e => E j dd (wipeE_out env vs j dd e).1
theorem unlock_ok {it : TB.It} (nd : it.dict? = none) {acc acc' : List D} {h' h2 : Hv} (e : (Res.ok acc' (unlockI it h') : Res (List D)) = .ok acc h2) : acc' = acc ∧ h' = h2 := by
  unfold unlockI at e
  rw [nd] at e
  cases e; exact ⟨rfl, rfl⟩
theorem lc1_t {own : List (Str × Nat)} {t : Tg} {mi : MI} {mt : MT} {me : ME} {Q : VK} (hv : ∀ i ∈ tgVars t, i ∈ own.map (·.2)) (hw : RdE Z (mLc (own.map (·.2)) (gGen t mi mt (gElt me))) W σ H Q) : tLc (RdI Z mi W) (RdG Z t) (RdT Z mt W0) (RdE Z me W0) (own.map (·.2)) σ H Q := by
  obtain ⟨ρ, env, h, S, E, q⟩ := hw
  refine ⟨ρ, env, h, S, E, ?_⟩
  obtain ⟨acc, hF, eF, hz, qF⟩ := lc_end q
  rw [gen_eq] at eF
  obtain ⟨it, h1, e1, e2⟩ := bind_ok eF
  obtain ⟨acc', h', e3, e4⟩ := bind_ok e2
  rw [e1]
  intro ρ1 J H1 le1 S1 ⟨nd, J1⟩ D hD
  rw [lock_none nd] at e3
  obtain ⟨rfl, rfl⟩ := unlock_ok nd e4
  have E1 := ((E.mono le1).wiped (own.map (·.2))).less (tgVars t)
  generalize hen : wipeE (tgVars t) (wipeE (own.map (·.2)) env) = en0 at e3 E1
  refine ⟨fun i n H2 => ∃ ρ2 h2 da va, LcI Z D ρ1 H1 ρ2 h2 H2 da va ∧ compL t it en0 (genTurn mt (gElt me)) n i h2 da.reverse = .ok acc' h', ⟨_, ρ1, h1, [], [], LcI.start S1 hD, e3⟩, ?_⟩
  rintro i n H2 ⟨ρ2, h2, da, va, c, e⟩
  have J2 := J1 ρ2 h2 H2 i c.le.toLe1 c.S
  unfold compL at e
  cases ea : it.at? h2 i with
  | none => rw [ea] at e; cases e
  | some o =>
    rw [ea] at e J2
    cases o with
    | none =>
      have e : Res.ok da.reverse h2 = .ok acc' h' := e
      cases e
      rw [List.reverse_reverse] at qF
      exact .inl ⟨J2, c.fin hD (Post.mono le1 qF)⟩
    | some x =>
      obtain ⟨go, yl⟩ := J2
      simp only at e
      cases eb : asgT t [x] en0 with
      | none => rw [eb] at e; cases e
      | some env3 =>
        rw [eb] at e
        cases n with
        | zero => cases e
        | succ n =>
          simp only at e
          refine .inr ⟨go, fun H3 => ∃ ρ3 h3 da va, LcI Z D ρ1 H1 ρ3 h3 H3 da va ∧ compL t it en0 (genTurn mt (gElt me)) n (i + 1) h3 da.reverse = .ok acc' h', fun H3 z => ⟨n, Nat.lt_succ_self n, z⟩, fun v H' yv => ?_⟩
          obtain ⟨ρ3, le3, S3, rv⟩ := yl v H' yv
          refine ⟨ρ3, _, h2, x, env3, S3, E1.mono (c.le.trans le3), rv, eb, fun ρ4 σ4 H4 le4 S4 E4 w4 => ⟨(w4 _ hv).trans (wipe_idem _), ρ4, env3, h2, S4, E4, ?_⟩⟩
          obtain ⟨a5, h6, e5, e6⟩ := bind_ok e
          obtain ⟨b, h5, e7, e8⟩ := bind_ok e5
          rw [e7]
          intro ρ5 b' H5 le5 S5 eb'
          cases eb'
          have c5 := c.step (le3.trans (le4.trans le5)) S5
          cases b with
          | false =>
            cases e8
            exact ⟨ρ5, h6, da, va, c5, e6⟩
          | true =>
            obtain ⟨y, h7, e9, e10⟩ := bind_ok e8
            cases e10
            refine ⟨ρ5, env3, h5, S5, E4.mono le5, ?_⟩
            rw [e9]
            intro ρ6 w6 H6 le6 S6 r6
            have c6 := c5.step le6 S6
            have gl := compL_grows elt_grows _ _ _ _ _ _ e6
            refine ⟨va, c6.eD, ?_, ρ6, h6, da ++ [y], va ++ [w6], c6.snoc hD r6, ?_⟩
            · rw [c6.rel.length]
              simp at gl
              omega
            · rw [List.reverse_append]; exact e6
theorem lc2_t {own : List (Str × Nat)} {t t1 : Tg} {mi mi1 : MI} {mt mt1 : MT} {me : ME} {Q : VK} (hv : ∀ i ∈ tgVars t, i ∈ own.map (·.2)) (hw : RdE Z (mLc (own.map (·.2)) (gGen t mi mt (gGen t1 mi1 mt1 (gElt me)))) W σ H Q) :
    tLc2 (RdI Z mi W) (RdG Z t) (RdT Z mt W0) (RdI Z mi1 W0) (RdG Z t1) (RdT Z mt1 W0) (RdE Z me W0) (own.map (·.2)) (tgVars t1) σ H Q := by
  obtain ⟨ρ, env, h, S, E, q⟩ := hw
  refine ⟨ρ, env, h, S, E, ?_⟩
  obtain ⟨acc, hF, eF, hz, qF⟩ := lc_end q
  rw [gen_eq] at eF
  obtain ⟨it, h1, e1, e2⟩ := bind_ok eF
  obtain ⟨acc', h', e3, e4⟩ := bind_ok e2
  rw [e1]
  intro ρ1 J H1 le1 S1 ⟨nd, J1⟩ D hD
  rw [lock_none nd] at e3
  obtain ⟨rfl, rfl⟩ := unlock_ok nd e4
  have E1 := ((E.mono le1).wiped (own.map (·.2))).less (tgVars t)
  generalize hen : wipeE (tgVars t) (wipeE (own.map (·.2)) env) = en0 at e3 E1
  refine ⟨fun i n H2 => ∃ ρ2 h2 da va, LcI Z D ρ1 H1 ρ2 h2 H2 da va ∧ compL t it en0 (genTurn mt (gGen t1 mi1 mt1 (gElt me))) n i h2 da.reverse = .ok acc' h', ⟨_, ρ1, h1, [], [], LcI.start S1 hD, e3⟩, ?_⟩
  rintro i n H2 ⟨ρ2, h2, da, va, c, e⟩
  have J2 := J1 ρ2 h2 H2 i c.le.toLe1 c.S
  unfold compL at e
  cases ea : it.at? h2 i with
  | none => rw [ea] at e; cases e
  | some o =>
    rw [ea] at e J2
    cases o with
    | none =>
      have e : Res.ok da.reverse h2 = .ok acc' h' := e
      cases e
      rw [List.reverse_reverse] at qF
      exact .inl ⟨J2, c.fin hD (Post.mono le1 qF)⟩
    | some x =>
      obtain ⟨go, yl⟩ := J2
      simp only at e
      cases eb : asgT t [x] en0 with
      | none => rw [eb] at e; cases e
      | some env3 =>
        rw [eb] at e
        cases n with
        | zero => cases e
        | succ n =>
          simp only at e
          refine .inr ⟨go, fun H3 => ∃ ρ3 h3 da va, LcI Z D ρ1 H1 ρ3 h3 H3 da va ∧ compL t it en0 (genTurn mt (gGen t1 mi1 mt1 (gElt me))) n (i + 1) h3 da.reverse = .ok acc' h', fun H3 z => ⟨n, Nat.lt_succ_self n, z⟩, fun v H' yv => ?_⟩
          obtain ⟨ρ3, le3, S3, rv⟩ := yl v H' yv
          refine ⟨ρ3, _, h2, x, env3, S3, E1.mono (c.le.trans le3), rv, eb, fun ρ4 σ4 H4 le4 S4 E4 w4 => ⟨(w4 _ hv).trans (wipe_idem _), ρ4, env3, h2, S4, E4, ?_⟩⟩
          obtain ⟨a5, h6, e5, e6⟩ := bind_ok e
          obtain ⟨b, h5, e7, e8⟩ := bind_ok e5
          rw [e7]
          intro ρ5 b' H5 le5 S5 eb'
          cases eb'
          have c5 := c.step (le3.trans (le4.trans le5)) S5
          cases b with
          | false =>
            cases e8
            exact ⟨ρ5, h6, da, va, c5, e6⟩
          | true =>
            have e8 : gGen t1 mi1 mt1 (gElt me) env3 env3 h5 da.reverse = .ok a5 h6 := e8
            rw [gen_eq] at e8
            obtain ⟨it1, h7, e9, e10⟩ := bind_ok e8
            obtain ⟨a8, h8, e11, e12⟩ := bind_ok e10
            refine ⟨ρ5, env3, h5, S5, E4.mono le5, ?_⟩
            rw [e9]
            intro ρ6 J6 H6 le6 S6 ⟨nd1, J7⟩
            rw [lock_none nd1] at e11
            obtain ⟨rfl, rfl⟩ := unlock_ok nd1 e12
            have c6 := c5.step le6 S6
            have E6 := ((E4.mono le5).mono le6).wiped (tgVars t1)
            generalize hen1 : wipeE (tgVars t1) env3 = en1 at e11 E6
            refine ⟨fun j m H7 => ∃ ρ7 hh da va, LcI Z D ρ1 H1 ρ7 hh H7 da va ∧ Le1 ρ6 H6 ρ7 H7 ∧ compL t1 it1 en1 (genTurn mt1 (gElt me)) m j hh da.reverse = .ok a8 h8, ⟨_, ρ6, h7, da, va, c6, Le1.refl, e11⟩, ?_⟩
            rintro j m H7 ⟨ρ7, g7, da7, va7, c7, le7, e13⟩
            have J8 := J7 ρ7 g7 H7 j le7 c7.S
            unfold compL at e13
            cases eg : it1.at? g7 j with
            | none => rw [eg] at e13; cases e13
            | some o =>
              rw [eg] at e13 J8
              cases o with
              | none =>
                have e13 : Res.ok da7.reverse g7 = .ok a8 h8 := e13
                cases e13
                exact .inl ⟨J8, ρ7, _, da7, va7, c7, e6⟩
              | some x1 =>
                obtain ⟨go1, yl1⟩ := J8
                simp only at e13
                cases eq : asgT t1 [x1] en1 with
                | none => rw [eq] at e13; cases e13
                | some env9 =>
                  rw [eq] at e13
                  cases m with
                  | zero => cases e13
                  | succ m =>
                    simp only at e13
                    refine .inr ⟨go1, fun H8 => ∃ ρ8 h8' da va, LcI Z D ρ1 H1 ρ8 h8' H8 da va ∧ Le1 ρ6 H6 ρ8 H8 ∧ compL t1 it1 en1 (genTurn mt1 (gElt me)) m (j + 1) h8' da.reverse = .ok a8 h8, fun H8 z => ⟨m, Nat.lt_succ_self m, z⟩, fun v1 H' yv1 => ?_⟩
                    obtain ⟨ρ8, le8, S8, rv1⟩ := yl1 v1 H' yv1
                    refine ⟨ρ8, _, g7, x1, env9, S8, E6.mono0 (le7.trans le8.toLe1).toLe0, rv1, eq, fun ρ9 σ9 H9 le9 S9 E9 w9 => ⟨(w9 _ fun _ z => z).trans (wipe_idem _), ρ9, env9, g7, S9, E9, ?_⟩⟩
                    obtain ⟨a10, h10, e14, e15⟩ := bind_ok e13
                    obtain ⟨b1, h11, e16, e17⟩ := bind_ok e14
                    rw [e16]
                    intro ρ10 b1' H10 le10 S10 eb1
                    cases eb1
                    have c10 := c7.step (le8.trans (le9.trans le10)) S10
                    have le10' := le7.trans (le8.trans (le9.trans le10)).toLe1
                    cases b1 with
                    | false =>
                      cases e17
                      exact ⟨ρ10, h10, da7, va7, c10, le10', e15⟩
                    | true =>
                      obtain ⟨y, h12, e18, e19⟩ := bind_ok e17
                      cases e19
                      refine ⟨ρ10, env9, h11, S10, E9.mono le10, ?_⟩
                      rw [e18]
                      intro ρ11 w11 H11 le11 S11 r11
                      have c11 := c10.step le11 S11
                      have gl := compL_grows elt_grows _ _ _ _ _ _ e15
                      have gl2 := compL_grows (gen_grows elt_grows) _ _ _ _ _ _ e6
                      refine ⟨va7, c11.eD, ?_, ρ11, h10, da7 ++ [y], va7 ++ [w11], c11.snoc hD r11, ?_, ?_⟩
                      · rw [c11.rel.length]
                        simp at gl
                        omega
                      · exact (le10'.trans le11.toLe1).trans (Le1.upd_un c11.eD)
                      · rw [List.reverse_append]; exact e15
section
variable {elt tg iter tg1 iter1 : Expr} {ifs ifs1 : List Expr} {scope : Scope} {own : List (Str × Nat)} {pos : Pos} {t t1 : Tg} {mi mi1 : MI} {mt mt1 : MT} {me : ME}
theorem re_lc1 (hc : X.calm = true) (hN : X.N.Nodup) (hi : PI X tg iter (RdI Z mi W)) (ok : BlkOk X.N X.env.scope scope own) (hv : ∀ i ∈ tgVars t, i ∈ own.map (·.2))
    (hg : ∀ s H C cl fp, PG (Bk X scope s H C cl fp) tg (RdG Z t)) (ht : ∀ s H C cl fp, PTs (Bk X scope s H C cl fp) ifs (RdT Z mt W0)) (he : ∀ s H C cl fp, PE (Bk X scope s H C cl fp) elt (RdE Z me W0)) (hs : ∀ x, foldedSetIterable iter X.env x = pure x) :
    PE X (.ListComp elt [⟨tg, iter, ifs, 0⟩] scope pos) (RdE Z (mLc (own.map (·.2)) (gGen t mi mt (gElt me))) W) :=
  ⟨fun pins s σ H Q I hw => (pe_lc hc hN hi ok hg ht he hs).run pins s σ H Q I (lc1_t hv hw)⟩
theorem rs_setLc1 {i : Nat} {y : Str} {py spos : Pos} (hc : X.calm = true) (hN : X.N.Nodup) (hy : X.N[i]? = some y) (hyl : X.env.scope.names.lookup y = some .local) (hsw : swapsWith (.ListComp elt [⟨tg, iter, ifs, 0⟩] scope pos) (some (.Name y py)) spos.line X.env = pure true)
    (hi : PI X tg iter (RdI Z mi W)) (ok : BlkOk X.N X.env.scope scope own) (hv : ∀ i ∈ tgVars t, i ∈ own.map (·.2))
    (hg : ∀ s H C cl fp, PG (Bk X scope s H C cl fp) tg (RdG Z t)) (ht : ∀ s H C cl fp, PTs (Bk X scope s H C cl fp) ifs (RdT Z mt W0)) (he : ∀ s H C cl fp, PE (Bk X scope s H C cl fp) elt (RdE Z me W0)) (hs : ∀ x, foldedSetIterable iter X.env x = pure x) :
    PS X (.Assign [.Name y py] (.ListComp elt [⟨tg, iter, ifs, 0⟩] scope pos) spos) (RdS Z (sAsg (.nm i) (mLc (own.map (·.2)) (gGen t mi mt (gElt me)))) W) := by
  refine ⟨fun pins s σ H D I ⟨ρ, env, h, S, E, q⟩ => (ps_setLc hc hN hy hyl hsw hi ok hg ht he hs).run pins s σ H D I (lc1_t hv (RdE.toS S E q fun x H1 ρ1 v h1 le S1 E1 r q1 => ?_))⟩
  exact q1 ρ1 _ H1 Le.refl S1 (E1.set r (inv_slot I hy))
theorem re_lc2 (hc : X.calm = true) (hN : X.N.Nodup) (hi : PI X tg iter (RdI Z mi W)) (ok : BlkOk X.N X.env.scope scope own) (hv : ∀ i ∈ tgVars t, i ∈ own.map (·.2)) (hv1 : ∀ i ∈ tgVars t1, i ∈ own.map (·.2))
    (hg : ∀ s H C cl fp, PG (Bk X scope s H C cl fp) tg (RdG Z t)) (ht : ∀ s H C cl fp, PTs (Bk X scope s H C cl fp) ifs (RdT Z mt W0)) (hi1 : ∀ s H C cl fp, PI (Bk X scope s H C cl fp) tg1 iter1 (RdI Z mi1 W0)) (hg1 : ∀ s H C cl fp, PG (Bk X scope s H C cl fp) tg1 (RdG Z t1))
    (ht1 : ∀ s H C cl fp, PTs (Bk X scope s H C cl fp) ifs1 (RdT Z mt1 W0)) (he : ∀ s H C cl fp, PE (Bk X scope s H C cl fp) elt (RdE Z me W0)) (hs : ∀ x, foldedSetIterable iter X.env x = pure x) (hs1 : ∀ env x, foldedSetIterable iter1 env x = pure x) :
    PE X (.ListComp elt [⟨tg, iter, ifs, 0⟩, ⟨tg1, iter1, ifs1, 0⟩] scope pos) (RdE Z (mLc (own.map (·.2)) (gGen t mi mt (gGen t1 mi1 mt1 (gElt me)))) W) :=
  ⟨fun pins s σ H Q I hw => (pe_lc2 hc hN hi ok hv1 hg ht hi1 hg1 ht1 he hs hs1).run pins s σ H Q I (lc2_t hv hw)⟩
theorem rs_setLc2 {i : Nat} {y : Str} {py spos : Pos} (hc : X.calm = true) (hN : X.N.Nodup) (hy : X.N[i]? = some y) (hyl : X.env.scope.names.lookup y = some .local) (hsw : swapsWith (.ListComp elt [⟨tg, iter, ifs, 0⟩, ⟨tg1, iter1, ifs1, 0⟩] scope pos) (some (.Name y py)) spos.line X.env = pure true)
    (hi : PI X tg iter (RdI Z mi W)) (ok : BlkOk X.N X.env.scope scope own) (hv : ∀ i ∈ tgVars t, i ∈ own.map (·.2)) (hv1 : ∀ i ∈ tgVars t1, i ∈ own.map (·.2))
    (hg : ∀ s H C cl fp, PG (Bk X scope s H C cl fp) tg (RdG Z t)) (ht : ∀ s H C cl fp, PTs (Bk X scope s H C cl fp) ifs (RdT Z mt W0)) (hi1 : ∀ s H C cl fp, PI (Bk X scope s H C cl fp) tg1 iter1 (RdI Z mi1 W0)) (hg1 : ∀ s H C cl fp, PG (Bk X scope s H C cl fp) tg1 (RdG Z t1))
    (ht1 : ∀ s H C cl fp, PTs (Bk X scope s H C cl fp) ifs1 (RdT Z mt1 W0)) (he : ∀ s H C cl fp, PE (Bk X scope s H C cl fp) elt (RdE Z me W0)) (hs : ∀ x, foldedSetIterable iter X.env x = pure x) (hs1 : ∀ env x, foldedSetIterable iter1 env x = pure x) :
    PS X (.Assign [.Name y py] (.ListComp elt [⟨tg, iter, ifs, 0⟩, ⟨tg1, iter1, ifs1, 0⟩] scope pos) spos) (RdS Z (sAsg (.nm i) (mLc (own.map (·.2)) (gGen t mi mt (gGen t1 mi1 mt1 (gElt me))))) W) := by
  refine ⟨fun pins s σ H D I ⟨ρ, env, h, S, E, q⟩ => (ps_setLc2 hc hN hy hyl hsw hi ok hv1 hg ht hi1 hg1 ht1 he hs hs1).run pins s σ H D I (lc2_t hv (RdE.toS S E q fun x H1 ρ1 v h1 le S1 E1 r q1 => ?_))⟩
  exact q1 ρ1 _ H1 Le.refl S1 (E1.set r (inv_slot I hy))
end
/-! ### dicts -/
theorem dPut_len (k v : D) : ∀ l : List (D × D), (dPut k v l).length ≤ l.length + 1
  | [] => Nat.le_refl _
  | p :: r => by
    unfold dPut
    cases eqK p.1 k with
    | true => exact Nat.le_succ _
    | false => exact Nat.succ_le_succ (dPut_len k v r)
theorem nodup_put {κ : Type} [DecidableEq κ] {k : κ} {v : V} : ∀ {l : List (κ × V)}, (l.map (·.1)).Nodup → ((putK l k v).map (·.1)).Nodup := by
  intro l nd
  unfold putK
  cases c : (l.any fun kv => decide (kv.1 = k)) with
  | true =>
    rw [if_pos rfl, List.map_map]
    have e : (((fun x : κ × V => x.1) ∘ fun kv : κ × V => if kv.1 = k then (kv.1, v) else kv)) = fun x : κ × V => x.1 := by
      funext kv
      show (if kv.1 = k then (kv.1, v) else kv).1 = kv.1
      split <;> rfl
    rw [e]; exact nd
  | false =>
    rw [if_neg (by simp), List.map_append]
    refine List.nodup_append.mpr ⟨nd, by simp, ?_⟩
    intro a ha b hb e
    have hb : b = k := by simpa using hb
    subst e hb
    obtain ⟨kv, h1, h2⟩ := List.mem_map.mp ha
    have := List.any_eq_false.mp c kv h1
    simp [h2] at this
end
end TB

/-! TB, the link: built-in functions. -/
namespace TB
open L2 PySem PyProof.Rows PySem.Spec
def tN : Ty → String
  | .int => "int"
  | .bool => "bool"
  | .str => "str"
  | .tuple => "tuple"
  | .list => "list"
  | .cls _ => ""
def kits : Bool := [0, 1, 2, 3, 4, 5, 6].all fun c => [Ty.int, Ty.bool, Ty.str, Ty.tuple, Ty.list].all fun t => kitB (kN c) (tN t) == isTyB c t
theorem kits_ok : kits = true := by decide +kernel
theorem kit_at {c : Nat} {t : Ty} {b : Bool} (hc : c < 7) (e : isTyB c t = some b) : kitB (kN c) (tN t) = some b := by
  have h := kits_ok
  unfold kits at h
  rw [List.all_eq_true] at h
  have h1 := h c (by
    have : c = 0 ∨ c = 1 ∨ c = 2 ∨ c = 3 ∨ c = 4 ∨ c = 5 ∨ c = 6 := by omega
    rcases this with q | q | q | q | q | q | q <;> rw [q] <;> simp)
  rw [List.all_eq_true] at h1
  have pick : ∀ t' : Ty, t' ∈ [Ty.int, Ty.bool, Ty.str, Ty.tuple, Ty.list] → kitB (kN c) (tN t') = isTyB c t' := fun t' m => beq_iff_eq.mp (h1 t' m)
  cases t with
  | cls c => cases e
  | int => exact (pick .int (by simp)).trans e
  | bool => exact (pick .bool (by simp)).trans e
  | str => exact (pick .str (by simp)).trans e
  | tuple => exact (pick .tuple (by simp)).trans e
  | list => exact (pick .list (by simp)).trans e
section
variable {Z : Wl} {atts : List Nat} {k d : Nat} {X : Cx} {W : WX} {pins : List (Addr × Obj)} {σ : St} {H : Hp} {s : Shared} {ρ : Rho} {h : Hv} {env : Env}
theorem tyN_ok {K : PySem.W.Frag} (S : Sim Z.L ρ h H) {x : D} {v : V} (r : RelD Z.L ρ H x v) {c : Nat} (e : tyN x h = some c) : c < 7 ∧ TyX K H v (.type (kN c)) := by
  cases r with
  | non => cases e; exact ⟨by decide, .base .non⟩
  | bl b => cases e; exact ⟨by decide, .base (.bl b)⟩
  | int i => cases e; exact ⟨by decide, .base (.int i)⟩
  | str t => cases e; exact ⟨by decide, .base (.str _)⟩
  | tup t _ => cases e; exact ⟨by decide, .base (.tup t)⟩
  | @ref a p ea =>
    have e : (match h.get a with
      | some (.lst _) => some 5
      | some (.fro _) => some 5
      | some (.dct 0 _) => some 6
      | _ => none) = some c := e
    split at e
    · rename_i l eg
      cases e
      obtain ⟨vs, g, _⟩ := S.lst ea eg
      exact ⟨by decide, .base (.lst g)⟩
    · rename_i l eg
      cases e
      obtain ⟨vs, g, _⟩ := S.fro ea eg
      rcases g with g | ⟨o, g⟩
      · exact ⟨by decide, .base (.lst g)⟩
      · exact ⟨by decide, .base (.frz g)⟩
    · rename_i l eg
      cases e
      obtain ⟨u, ru, _, g⟩ := S.dct ea eg
      have g := g rfl
      cases u <;> first | exact ru.elim | skip
      · exact ⟨by decide, .base (.dK g)⟩
      · exact ⟨by decide, .base (.dT g)⟩
    · cases e
  | ty _ => cases e
theorem re_isi {e : Expr} {m : ME} {t : Ty} (hnc : ∀ k, t ≠ .cls k) {x : Str} {p p2 pos : Pos} (he : PE X e (RdE Z m W)) (hg : Gl X "isinstance") (hm : X.mg "isinstance" = none) (hg2 : Gl X x) (hm2 : X.mg x = none) (hv2 : bootBuiltins x = some (.type (tN t))) (hn2 : x ≠ "__name__") (hd2 : (x == ("__debug__" : Str)) = false) (hn : noStar e = true) :
    PE X (.Call (.Name "isinstance" p) [e, .Name x p2] [] pos) (RdE Z (mIsi m [t]) W) := by
  refine ⟨fun pins s σ H Q I ⟨ρ, env, h, S, E, q⟩ => ?_⟩
  have bv : bootBuiltins "isinstance" = some (.builtin "isinstance") := by decide +kernel
  refine (pe_callB call_isi hg hm bv (pa_cons he (pa_cons (pe_bltn (v := .ty (tN t)) hg2 hm2 hv2 rfl hn2 hd2) pa_nil rfl) (starEach_cons hn)) (by decide) (by decide) (starEach_cons hn) rfl).run pins s σ H Q I ?_
  refine RdE.to S E q fun y H1 ρ1 v h1 le S1 E1 r q1 => ?_
  obtain ⟨z, e1, q2⟩ := post_opt q1
  obtain ⟨b, e2, rfl⟩ := Option.map_eq_some_iff.mp e1
  have e2 : ((tyN v h1).bind fun c => isAny c [t]) = some b := by cases t <;> first | exact e2 | exact absurd rfl (hnc _)
  obtain ⟨c, e3, e4⟩ := Option.bind_eq_some_iff.mp e2
  obtain ⟨c7, ty⟩ := tyN_ok (K := X.K) S1 r e3
  refine ⟨y, .ty (tN t), .type (kN c), .type (tN t), b, rfl, .ty _, ty, kit_ty (kit_at c7 ?_), done q2 S1 (.bl _)⟩
  unfold isAny at e4
  cases e5 : isTyB c t with
  | none => rw [e5] at e4; cases e4
  | some b' =>
    rw [e5] at e4
    cases b' with
    | true => exact e4
    | false => exact e4

/-- isinstance(x, C), an own class -/
theorem insC_some {x : D} {c : Nat} (e : insC x h = some c) : ∃ a fs, x = .ref a ∧ h.get a = some (.ins c fs) := by
  unfold insC at e
  split at e
  · split at e
    · cases e; exact ⟨_, _, rfl, by assumption⟩
    · cases e
  · cases e
theorem re_isc {atts : List Nat} {kk d : Nat} (K : Kt Z atts kk d X W) {e : Expr} {m : ME} {k : Nat} {cl : Cl} {x : Str} {p p2 pos : Pos} (ek : Z.L.T.cl.get k = some cl) (ne : cl.ms ≠ []) (he : PE X e (RdE Z m W)) (hg : Gl X "isinstance") (hm : X.mg "isinstance" = none) (hg2 : Gl X x) (hm2 : X.mg x = some (.ref (Z.L.cA k)))
    (hd2 : (x == ("__debug__" : Str)) = false) (hn : noStar e = true) : PE X (.Call (.Name "isinstance" p) [e, .Name x p2] [] pos) (RdE Z (mIsi m [.cls k]) W) := by
  refine ⟨fun pins s σ H Q I ⟨ρ, env, h, S, E, q⟩ => ?_⟩
  have bv : bootBuiltins "isinstance" = some (.builtin "isinstance") := by decide +kernel
  refine (pe_callB call_isi hg hm bv (pa_cons he (pa_cons (pe_glob (v := .ref (Z.L.cA k)) hg2 hm2 rfl hd2) pa_nil rfl) (starEach_cons hn)) (by decide) (by decide) (starEach_cons hn) rfl).run pins s σ H Q I ?_
  refine RdE.to S E q fun y H1 ρ1 v h1 le S1 E1 r q1 => ?_
  obtain ⟨z, e1, q2⟩ := post_opt q1
  obtain ⟨b, e2, rfl⟩ := Option.map_eq_some_iff.mp e1
  have KC := K.cs.cl k cl ek ne
  have e2 : (match insC v h1 with
    | some c => some (Nat.beq c k)
    | none => (tyN v h1).map fun _ => false) = some b := e2
  cases e3 : insC v h1 with
  | some c =>
    rw [e3] at e2
    cases e2
    obtain ⟨a, fs, rfl, g⟩ := insC_some e3
    cases r with
    | @ref _ pa ea =>
      obtain ⟨cl', f1, LK, _⟩ := S1.insC K.cs ea g
      have ne' : cl'.ms ≠ [] := by
        obtain ⟨_, _, z⟩ := S1.at ea g
        intro w
        refine z ?_
        unfold methOf
        rw [f1]
        show lookN nInit cl'.ms = none
        rw [w]; rfl
      obtain ⟨dx, gs, eH, _⟩ := S1.ins ea g
      obtain ⟨t1, t2, t3, t4⟩ := LK.tyc
      refine ⟨_, .ref (Z.L.cA k), .ref (Z.L.cA c), .ref (Z.L.cA k), Nat.beq c k, rfl, .own _, .base (.ins eH (by rw [K.g.K]; exact LK.cls) (by rw [K.g.K]; exact t1) (by rw [K.g.K]; exact t2) (by rw [K.g.K]; exact t3) (by rw [K.g.K]; exact t4)), ?_, done q2 S1 (.bl _)⟩
      rw [K.g.K]
      exact KC.kit.2 c cl' f1 ne'
  | none =>
    rw [e3] at e2
    obtain ⟨n, e4, rfl⟩ := Option.map_eq_some_iff.mp e2
    obtain ⟨c7, ty⟩ := tyN_ok (K := X.K) S1 r e4
    exact ⟨y, .ref (Z.L.cA k), .type (kN n), .ref (Z.L.cA k), false, rfl, .own _, ty, by rw [K.g.K]; exact KC.kit.1 n c7, done q2 S1 (.bl _)⟩

/-! ### plain calls of built-ins -/
def BiOk (Z : Wl) (X : Cx) (W : WX) (bv : Value) (f : List D → Hv → Res D) : Prop :=
  ∀ (pins : List (Addr × Obj)) (s : Shared) (σ : St) (H : Hp) (ρ : Rho) (h : Hv) (ds : List D) (xs : List V) (us : List Value) (Q : VK), Inv X pins σ H s → Sim Z.L ρ h H → Vals xs us → RelL Z.L ρ H ds xs → PostD Z.L ρ H (f ds h) Q (Wat W σ) → wpAny (model X.prog X.w) X.A (call bv us) (EP X pins σ Q) X.xe s
theorem re_bib {id : String} {f : List D → Hv → Res D} {x : Str} {p pos : Pos} {es : List Expr} {ms : ML} (hb : BiOk Z X W (.builtin id) f) (ha : AsOk Z X W es ms) (hg : Gl X x) (hm : X.mg x = none) (hv : bootBuiltins x = some (.builtin id)) (hn : x ≠ "__name__") (hd : (x == ("__debug__" : Str)) = false) :
    PE X (.Call (.Name x p) es [] pos) (RdE Z (fun σ h => (ms σ h).bind f) W) := by
  refine ⟨fun pins s σ H Q I ⟨ρ, env, h, S, E, q⟩ => wpAny_Call_Name_kw (ld_blt I hg hm hv ?_ hn hd)⟩
  exact with_blt (first := []) ha I S E q fun us s1 xs H1 ρ1 vs h1 I1 r le S1 E1 rl q1 => hb pins s1 σ H1 ρ1 h1 vs xs us Q I1 S1 r rl q1
theorem re_bit {T : String} {f : List D → Hv → Res D} {x : Str} {p pos : Pos} {es : List Expr} {ms : ML} (hb : BiOk Z X W (.type T) f) (ha : AsOk Z X W es ms) (hg : Gl X x) (hm : X.mg x = none) (hv : bootBuiltins x = some (.type T)) (hn : x ≠ "__name__") (hd : (x == ("__debug__" : Str)) = false) :
    PE X (.Call (.Name x p) es [] pos) (RdE Z (fun σ h => (ms σ h).bind f) W) := by
  refine ⟨fun pins s σ H Q I ⟨ρ, env, h, S, E, q⟩ => wpAny_Call_Name_kw (ld_blt I hg hm hv ?_ hn hd)⟩
  cases es with
  | nil =>
    have q : PostD Z.L ρ H ((ms env h).bind f) Q (Wat W σ) := q
    rw [ha.nil rfl] at q
    exact PyProof.Rows.callWith_type0 (hb pins s σ H ρ h [] [] [] Q I S .nil .nil q)
  | cons e es =>
    obtain ⟨h1, h2⟩ := Bool.and_eq_true_iff.mp ha.pl
    exact PyProof.Rows.callWith_type1 (PA.go ha.pa pos I S E q fun us s1 xs H1 ρ1 vs h1 I1 r le S1 E1 rl q1 => hb pins s1 σ H1 ρ1 h1 vs xs us Q I1 S1 r rl q1) (starEach_cons h1) (any_plain h2)
/-- one argument -/
theorem bi_one {bv : Value} {f : D → Hv → Res D} {g : List D → Hv → Res D} (hg : ∀ vs h, g vs h ≠ .bad → ∃ x, vs = [x] ∧ g vs h = f x h)
    (run : ∀ (pins : List (Addr × Obj)) (s : Shared) (σ : St) (H : Hp) (ρ : Rho) (h : Hv) (a : D) (x : V) (us : List Value) (Q : VK), Inv X pins σ H s → Sim Z.L ρ h H → Vals [x] us → RelD Z.L ρ H a x → PostD Z.L ρ H (f a h) Q (Wat W σ) → wpAny (model X.prog X.w) X.A (call bv us) (EP X pins σ Q) X.xe s) : BiOk Z X W bv g := by
  intro pins s σ H ρ h ds xs us Q I S rv rl q
  obtain ⟨x, rfl, e⟩ := hg ds h (post_ne q)
  rw [e] at q
  cases rl with
  | cons r rl =>
    cases rl
    exact run pins s σ H ρ h x _ us Q I S rv r q
theorem bi_len : BiOk Z X W (.builtin "len") (fun vs h => biR .len vs h) := by
  refine bi_one (f := lenR) (fun vs h n => ?_) (fun pins s σ H ρ h a x us Q I S rv r q => ?_)
  · match vs, n with
    | [x], _ => exact ⟨x, rfl, rfl⟩
    | [], n => exact absurd rfl n
    | [_, _], n => exact absurd rfl n
    | _ :: _ :: _ :: _, n => exact absurd rfl n
  · cases r with
    | @tup l p vs t r => exact call_len_seq pins s σ H _ us Q I rv ⟨p, vs, rfl, .inr t.sq, by rw [r.length]; exact done q S (.int _)⟩
    | str t =>
      obtain ⟨c, q2⟩ := post_bif (r := .ok (D.int t.length) h) q
      exact call_len_str pins s σ H _ us Q I rv ⟨_, rfl, by rw [toS_length]; exact ble_line c, by rw [toS_length]; exact done q2 S (.int _)⟩
    | @ref a p ea =>
      have q : PostD Z.L ρ H (match h.get a with
        | some (.lst l) => .ok (.int l.length) h
        | some (.fro l) => .ok (.int l.length) h
        | some (.dct 0 l) => .ok (.int l.length) h
        | _ => .bad) Q (Wat W σ) := q
      split at q
      · rename_i l eg
        obtain ⟨vs, g, r⟩ := S.lst ea eg
        exact call_len_seq pins s σ H _ us Q I rv ⟨p, vs, rfl, .inl (.of g), by rw [r.length]; exact done q S (.int _)⟩
      · rename_i l eg
        obtain ⟨vs, g, r⟩ := S.fro ea eg
        exact call_len_seq pins s σ H _ us Q I rv ⟨p, vs, rfl, .inl (.inl g), by rw [r.length]; exact done q S (.int _)⟩
      · rename_i l eg
        obtain ⟨u, ru, g, g0⟩ := S.dct ea eg
        cases u <;> first | exact ru.elim | skip
        · obtain ⟨u1, rfl, rx⟩ := vals1 rv
          cases rx
          refine d_len I g fun t s' I' => ⟨.int _, H, I', ⟨t, rfl⟩, ?_⟩
          rw [RelKv.length ru]
          exact done q S (.int _)
        · rename_i kvs
          exact call_len_dT pins s σ H _ us Q I rv ⟨p, kvs, rfl, g0 rfl, by rw [RelKv.length ru]; exact done q S (.int _)⟩
      · exact q.elim
    | non => exact q.elim
    | bl _ => exact q.elim
    | int _ => exact q.elim
    | ty _ => exact q.elim
theorem one_of {b : Bi} {f : D → Hv → Res D} (hf : bi1 b = f) (h2 : ∀ x y h, biR b [x, y] h = .bad) : ∀ vs h, biR b vs h ≠ .bad → ∃ x, vs = [x] ∧ biR b vs h = f x h := by
  intro vs h n
  match vs, n with
  | [x], _ => exact ⟨x, rfl, by rw [← hf]; rfl⟩
  | [], n => exact absurd rfl n
  | [x, y], n => exact absurd (h2 x y h) n
  | _ :: _ :: _ :: _, n => exact absurd rfl n
/-! numbers and texts -/
theorem showN_eq (n : Nat) : showN n = TL.numL n := by
  have go : ∀ (f n : Nat) (acc : Sg), n < f → digitsF f n acc = TL.numL n ++ acc := by
    intro f
    induction f with
    | zero => intro n acc h; omega
    | succ f ih =>
      intro n acc h
      unfold digitsF
      cases c : Nat.blt n 10 with
      | true =>
        have c := blt_lt c
        rw [TL.numL_lt c]; rfl
      | false =>
        have c : 10 ≤ n := Nat.le_of_not_lt fun z => by rw [show Nat.blt n 10 = true from Nat.ble_eq_true_of_le z] at c; cases c
        show digitsF f (n / 10) ((48 + n % 10) :: acc) = _
        rw [ih _ _ (by omega), TL.numL_step c, List.append_assoc]; rfl
  have := go (n + 1) n [] (Nat.lt_succ_self n)
  rw [List.append_nil] at this
  exact this
theorem show_nat (n : Nat) : Str.ofString (toString (Int.ofNat n)) = toS (showN n) := by
  rw [showN_eq]; exact SX.num_S n
theorem show_int (i : Int) : Str.ofString (toString i) = toS (showI i) := by
  cases i with
  | ofNat n => exact show_nat n
  | negSucc n =>
    refine TL.ext_tl ?_
    have e1 : toString (Int.negSucc n) = "-" ++ toString (n + 1) := rfl
    rw [e1, TL.tl_ofString]
    have e2 := congrArg TL.tl (show_nat (n + 1))
    have e3 : toString (Int.ofNat (n + 1)) = toString (n + 1) := rfl
    rw [e3, TL.tl_ofString] at e2
    rw [String.toList_append, List.map_append, e2]; rfl
theorem log_small {i : Int} (h : i.natAbs < 10 ^ 500) : i.natAbs.log2 < 1920 := by
  have : i.natAbs < 2 ^ 1920 := Nat.lt_trans h (by decide +kernel)
  by_cases z : i.natAbs = 0
  · rw [z]; decide
  · exact (Nat.log2_lt z).mpr this
theorem bi_str : BiOk Z X W (.type "str") (fun vs h => biR .str vs h) := by
  refine bi_one (one_of (f := strR) rfl fun _ _ _ => rfl) (fun pins s σ H ρ h a x us Q I S rv r q => ?_)
  cases r with
  | int i =>
    obtain ⟨c, q2⟩ := post_bif (r := .ok (D.str (showI i)) h) q
    refine call_str_int pins s σ H _ us Q I rv ⟨i, rfl, log_small (of_decide_eq_true c), ?_⟩
    show Q (.str (Str.ofString (toString i))) H
    rw [show_int]
    exact done q2 S (.str _)
  | str t => exact SkE.call_str_str pins s σ H _ us Q I rv ⟨_, rfl, done q S (.str _)⟩
  | non => exact q.elim
  | bl _ => exact q.elim
  | tup _ _ => exact q.elim
  | ref _ => exact q.elim
  | ty _ => exact q.elim
theorem allDig_all : ∀ {s : Sg}, allDig s = true → s.all (fun c => decide (48 ≤ c) && decide (c ≤ 57)) = true
  | [], _ => rfl
  | c :: r, h => by
    obtain ⟨h1, h2⟩ := Bool.and_eq_true_iff.mp h
    obtain ⟨h3, h4⟩ := Bool.and_eq_true_iff.mp h1
    show ((decide (48 ≤ c) && decide (c ≤ 57)) && _) = true
    rw [decide_eq_true (Nat.le_of_ble_eq_true h3), decide_eq_true (Nat.le_of_ble_eq_true h4)]
    exact allDig_all h2
theorem readN_eq (s : Sg) : ∀ a : Nat, readN s a = s.foldl (fun a c => a * 10 + (c - 48)) a := by
  induction s with
  | nil => intro a; rfl
  | cons c r ih => intro a; exact ih _
theorem intOf_ok {t : Sg} {i : Int} (e : intOf t = some i) : PySem.intText? (toS t) = some i ∧ (toS t).length ≤ 640 := by
  unfold intOf at e
  split at e
  · cases e
  · rename_i ne
    cases c : (allDig t && Nat.ble t.length 640) with
    | false => rw [c] at e; cases e
    | true =>
      rw [c] at e
      obtain ⟨c1, c2⟩ := Bool.and_eq_true_iff.mp c
      have c2 := Nat.le_of_ble_eq_true c2
      cases e
      refine ⟨?_, by rw [toS_length]; exact c2⟩
      rw [show toS t = SX.S t from rfl, SX.int_S (allDig_all c1) (fun z => ne z) (by omega)]
      congr 2
      rw [readN_eq]
      rfl
theorem bi_int : BiOk Z X W (.type "int") (fun vs h => biR .int vs h) := by
  refine bi_one (one_of (f := intR) rfl fun _ _ _ => rfl) (fun pins s σ H ρ h a x us Q I S rv r q => ?_)
  cases r with
  | int i => exact call_int1 pins s σ H _ us Q I rv (.inl ⟨i, rfl, done q S (.int _)⟩)
  | bl b => exact call_int1 pins s σ H _ us Q I rv (.inr ⟨b, rfl, done q S (.int _)⟩)
  | str t =>
    obtain ⟨z, e, q2⟩ := post_opt (o := (intOf t).map D.int) q
    obtain ⟨i, e1, rfl⟩ := Option.map_eq_some_iff.mp e
    obtain ⟨e2, e3⟩ := intOf_ok e1
    exact call_int_str pins s σ H _ us Q I rv ⟨_, i, rfl, e2, e3, done q2 S (.int _)⟩
  | non => exact q.elim
  | tup _ _ => exact q.elim
  | ref _ => exact q.elim
  | ty _ => exact q.elim
theorem bi_abs : BiOk Z X W (.builtin "abs") (fun vs h => biR .abs vs h) := by
  refine bi_one (one_of (f := absR) rfl fun _ _ _ => rfl) (fun pins s σ H ρ h a x us Q I S rv r q => ?_)
  cases r <;> first | exact q.elim | exact call_abs pins s σ H _ us Q I rv ⟨_, rfl, done q S (.int _)⟩
theorem bi_bool : BiOk Z X W (.type "bool") (fun vs h => biR .bool vs h) := by
  refine bi_one (one_of (f := boolR) rfl fun _ _ _ => rfl) (fun pins s σ H ρ h a x us Q I S rv r q => ?_)
  cases r with
  | int i => exact call_bool1 pins s σ H _ us Q I rv (.inl ⟨i, rfl, done q S (.bl _)⟩)
  | bl b => exact call_bool1 pins s σ H _ us Q I rv (.inr ⟨b, rfl, done q S (.bl _)⟩)
  | str _ => exact q.elim
  | non => exact q.elim
  | tup _ _ => exact q.elim
  | ref _ => exact q.elim
  | ty _ => exact q.elim
/-! lists of truth values, of numbers -/
theorem bools_rel : ∀ {l : List D} {bs : List Bool} {vs : List V}, boolsOf l = some bs → RelL Z.L ρ H l vs → vs = bs.map V.bl
  | [], _, _, e, .nil => by cases e; rfl
  | x :: r, bs, _, e, .cons h t => by
    cases h <;> first | (cases e; done) | skip
    obtain ⟨bs', e1, rfl⟩ := Option.map_eq_some_iff.mp (show (boolsOf r).map (_ :: ·) = some bs from e)
    rw [bools_rel e1 t]; rfl
theorem ints_rel : ∀ {l : List D} {bs : List Int} {vs : List V}, intsOf l = some bs → RelL Z.L ρ H l vs → vs = bs.map V.int
  | [], _, _, e, .nil => by cases e; rfl
  | x :: r, bs, _, e, .cons h t => by
    cases h <;> first | (cases e; done) | skip
    obtain ⟨bs', e1, rfl⟩ := Option.map_eq_some_iff.mp (show (intsOf r).map (_ :: ·) = some bs from e)
    rw [ints_rel e1 t]; rfl
theorem items_ok (S : Sim Z.L ρ h H) {x : D} {v : V} {l : List D} (r : RelD Z.L ρ H x v) (e : itemsL x h = some l) : ∃ p vs, v = .ref p ∧ Rd H p (.lst vs) ∧ RelL Z.L ρ H l vs := by
  cases r <;> first | (cases e; done) | skip
  rename_i a p ea
  have e : (match h.get a with
    | some (.lst l) => some l
    | some (.fro l) => some l
    | _ => none) = some l := e
  split at e
  · rename_i l' eg; cases e
    obtain ⟨vs, g, r⟩ := S.lst ea eg
    exact ⟨p, vs, rfl, .inl g, r⟩
  · rename_i l' eg; cases e
    obtain ⟨vs, g, r⟩ := S.fro ea eg
    exact ⟨p, vs, rfl, g, r⟩
  · cases e
theorem bi_all (hc : X.calm = true) : BiOk Z X W (.builtin "all") (fun vs h => biR .all vs h) := by
  refine bi_one (one_of (f := allR) rfl fun _ _ _ => rfl) (fun pins s σ H ρ h a x us Q I S rv r q => ?_)
  obtain ⟨z, e, q2⟩ := post_opt q
  obtain ⟨bs, e1, rfl⟩ := Option.map_eq_some_iff.mp e
  obtain ⟨l, e2, e3⟩ := Option.bind_eq_some_iff.mp e1
  obtain ⟨p, vs, rfl, g, rl⟩ := items_ok S r e2
  rw [bools_rel e3 rl] at g
  exact cr_all hc pins s σ H _ us Q I rv ⟨p, bs, rfl, .inl g, done q2 S (.bl _)⟩
theorem bi_any (hc : X.calm = true) : BiOk Z X W (.builtin "any") (fun vs h => biR .any vs h) := by
  refine bi_one (one_of (f := anyR) rfl fun _ _ _ => rfl) (fun pins s σ H ρ h a x us Q I S rv r q => ?_)
  obtain ⟨z, e, q2⟩ := post_opt q
  obtain ⟨bs, e1, rfl⟩ := Option.map_eq_some_iff.mp e
  obtain ⟨l, e2, e3⟩ := Option.bind_eq_some_iff.mp e1
  obtain ⟨p, vs, rfl, g, rl⟩ := items_ok S r e2
  rw [bools_rel e3 rl] at g
  exact cr_any hc pins s σ H _ us Q I rv ⟨p, bs, rfl, .inl g, done q2 S (.bl _)⟩
theorem bi_sum (hc : X.calm = true) : BiOk Z X W (.builtin "sum") (fun vs h => biR .sum vs h) := by
  refine bi_one (one_of (f := sumR) rfl fun _ _ _ => rfl) (fun pins s σ H ρ h a x us Q I S rv r q => ?_)
  obtain ⟨z, e, q2⟩ := post_opt q
  obtain ⟨bs, e1, rfl⟩ := Option.map_eq_some_iff.mp e
  obtain ⟨l, e2, e3⟩ := Option.bind_eq_some_iff.mp e1
  obtain ⟨p, vs, rfl, g, rl⟩ := items_ok S r e2
  rw [ints_rel e3 rl] at g
  exact cr_sum hc pins s σ H _ us Q I rv ⟨p, bs, rfl, .inl g, done q2 S (.int _)⟩
theorem bi_list : BiOk Z X W (.type "list") (fun vs h => biR .list vs h) := by
  refine bi_one (one_of (f := listR) rfl fun _ _ _ => rfl) (fun pins s σ H ρ h a x us Q I S rv r q => ?_)
  cases r with
  | @tup l p vs t r => exact call_list_of pins s σ H _ us Q I rv ⟨p, vs, rfl, .inr t.sq, fun p2 hp => post_new q S r hp⟩
  | @ref a p ea =>
    have q : PostD Z.L ρ H (match itemsL (.ref a) h with
      | some l => new (.lst l) h
      | none => .bad) Q (Wat W σ) := q
    split at q
    · rename_i l e
      obtain ⟨p2, vs, e2, g, rl⟩ := items_ok S (.ref ea) e
      cases e2
      exact call_list_of pins s σ H _ us Q I rv ⟨p, vs, rfl, .inl (.inl g), fun p2 hp => post_new q S rl hp⟩
    · exact q.elim
  | int _ => exact q.elim
  | bl _ => exact q.elim
  | str _ => exact q.elim
  | non => exact q.elim
  | ty _ => exact q.elim
theorem bi_tuple : BiOk Z X W (.type "tuple") (fun vs h => biR .tuple vs h) := by
  refine bi_one (one_of (f := tupR) rfl fun _ _ _ => rfl) (fun pins s σ H ρ h a x us Q I S rv r q => ?_)
  cases r with
  | @tup l p vs t r => exact call_tuple_of pins s σ H _ us Q I rv ⟨p, vs, rfl, .inr ⟨t.sq, done q S (.tup t r)⟩⟩
  | @ref a p ea =>
    have q : PostD Z.L ρ H (match itemsL (.ref a) h with
      | some l => .ok (.tup l) h
      | none => .bad) Q (Wat W σ) := q
    split at q
    · rename_i l e
      obtain ⟨p2, vs, e2, g, rl⟩ := items_ok S (.ref ea) e
      cases e2
      exact call_tuple_of pins s σ H _ us Q I rv ⟨p, vs, rfl, .inl ⟨.inl g, fun p2 hp => post_tup q S rl hp⟩⟩
    · exact q.elim
  | int _ => exact q.elim
  | bl _ => exact q.elim
  | str _ => exact q.elim
  | non => exact q.elim
  | ty _ => exact q.elim
end
end TB

/-! TB, the link: stores into fields and places, op=, pairs. -/
namespace TB
open L2 PySem PyProof.Rows PySem.Spec
section
variable {Z : Wl} {atts : List Nat} {k d : Nat} {X : Cx} {W : WX} {pins : List (Addr × Obj)} {σ : St} {H : Hp} {s : Shared} {ρ : Rho} {h : Hv} {env : Env}
theorem re_neg {e : Expr} {m : ME} {pos : Pos} (he : PE X e (RdE Z m W)) : PE X (.UnaryOp .USub e pos) (RdE Z (mNeg m) W) := by
  refine ⟨fun pins s σ H Q I ⟨ρ, env, h, S, E, q⟩ => (pe_un un_neg he).run pins s σ H Q I (RdE.to S E q fun x H1 ρ1 v h1 le S1 E1 r q1 => ?_)⟩
  cases r <;> first | exact q1.elim | exact ⟨_, rfl, done q1 S1 (.int _)⟩
/-- a store's result -/
theorem post_u {r : Res Unit} {c : Unit → Hv → R} {Dn : Ends} (E : RelE Z.L ρ H env σ) (q : PostS Z.L ρ H (onR env r c) Dn W) : PostU Z.L ρ H r (fun _ H1 => ∃ ρ1 h1, Le ρ H ρ1 H1 ∧ Sim Z.L ρ1 h1 H1 ∧ PostS Z.L ρ1 H1 (c () h1) Dn W) (Wat W σ) :=
  (post_on (R' := fun _ _ _ _ => True) E q).imp (fun _ H1 ⟨ρ1, a, h1, _, le, S1, _, q1⟩ => ⟨ρ1, h1, le, S1, q1⟩) fun _ _ _ z => z
theorem rs_sat (K : Kt Z atts k d X W) {o e : Expr} {mo me : ME} {f : Nat} {fn : Str} {pos pos' : Pos} (ho : PE X o (RdE Z mo W)) (he : PE X e (RdE Z me W)) (hf : f ∈ atts) (hn : fn = Z.L.nm f) (hs : swapsWith e (some (.Attribute o fn pos')) pos.line X.env = pure false) :
    PS X (.Assign [.Attribute o fn pos'] e pos) (RdS Z (sSat Z.L.T mo f me) W) := by
  subst hn
  refine ⟨fun pins s σ H D I ⟨ρ, env, h, S, E, q⟩ => plainObj_wpAny_Assign_Attribute (PE.goS he I S E q fun u s1 y H1 ρ1 v h1 I1 ry le S1 E1 r q1 => PE.goS ho I1 S1 E1 q1 fun ov s2 x H2 ρ2 a h2 I2 rx le2 S2 E2 r2 q2 => ?_) hs⟩
  exact thn (sat_ok K hf I2 S2 rx ry r2 (r.mono le2) (post_u E2 q2)) fun _ s3 ⟨H3, I3, ρ3, h3, le3, S3, q3⟩ => ⟨σ, H3, I3, q3 ρ3 σ H3 Le.refl S3 (E2.mono le3)⟩
theorem rs_six (K : Kt Z atts k d X W) {o i e : Expr} {mo mi me : ME} {pos pos' : Pos} (ho : PE X o (RdE Z mo W)) (hi : PE X i (RdE Z mi W)) (he : PE X e (RdE Z me W)) (hs : swapsWith e (some (.Subscript o i pos')) pos.line X.env = pure false) :
    PS X (.Assign [.Subscript o i pos'] e pos) (RdS Z (sSix mo mi me) W) := by
  refine ⟨fun pins s σ H D I ⟨ρ, env, h, S, E, q⟩ => wpAny_Assign_Subscript (PE.goS he I S E q fun u s1 y H1 ρ1 v h1 I1 ry le S1 E1 r q1 => PE.goS ho I1 S1 E1 q1 fun ov s2 x H2 ρ2 a h2 I2 rx le2 S2 E2 r2 q2 =>
    PE.goS hi I2 S2 E2 q2 fun iv s3 j H3 ρ3 b h3 I3 rj le3 S3 E3 r3 q3 => ?_) hs⟩
  exact thn (setix_ok K I3 S3 rx rj ry (r2.mono le3) r3 ((r.mono le2).mono le3) (post_u E3 q3)) fun _ s4 ⟨H4, I4, ρ4, h4, le4, S4, q4⟩ => ⟨σ, H4, I4, q4 ρ4 σ H4 Le.refl S4 (E3.mono le4)⟩
/-! op= -/
theorem ip_ext_ok {a b : Nat} {p p2 : Addr} {Q : VK} (I : Inv X pins σ H s) (S : Sim Z.L ρ h H) (ea : ρ a = some p) (eb : ρ b = some p2) (q : PostD Z.L ρ H (extR a b h) Q (Wat W σ)) : wpAny (model X.prog X.w) X.A (inplaceOp .Add (.ref p) (.ref p2)) (EP X pins σ Q) X.xe s := by
  unfold extR at q
  split at q
  · rename_i xs ys e1 e2
    obtain ⟨c, q2⟩ := post_bif q
    obtain ⟨vs, g1, r1⟩ := S.lst ea e1
    obtain ⟨ws, g2, r2⟩ := S.lst eb e2
    refine iop_ext pins s σ H (.ref p) (.ref p2) (.ref p) (.ref p2) Q I rfl rfl ⟨p, p2, vs, ws, rfl, rfl, g1, g2, by rw [r1.length, r2.length]; exact ble_line c, ?_⟩
    have le := S.le_put (o := .lst (vs ++ ws)) ea (.of g1)
    exact q2 ρ _ _ le (S.put ea trivial ⟨_, upd_same, (r1.append r2).mono le⟩) (.ref ea)
  · exact q.elim
theorem aug_ok {o : Op} {op : Operator} (ho : (o = .add ∧ op = .Add) ∨ (o = .sub ∧ op = .Sub)) : OpOk Z X W (inplaceOp op) (augR o) := by
  intro pins s σ H ρ h a b x y v u Q I S rx ry ra rb q
  rcases ho with ⟨rfl, rfl⟩ | ⟨rfl, rfl⟩
  · cases ra with
    | int i =>
      cases rb <;> first | exact q.elim | exact iop_add pins s σ H _ _ v u Q I rx ry ⟨_, _, rfl, rfl, done q S (.int _)⟩
    | @ref a p ea =>
      cases rb <;> first | exact q.elim | skip
      cases rx
      cases ry
      exact ip_ext_ok I S ea (by assumption) q
    | non => exact q.elim
    | bl _ => exact q.elim
    | str _ => exact q.elim
    | tup _ _ => exact q.elim
    | ty _ => exact q.elim
  · cases ra <;> first | exact q.elim | (cases rb <;> first | exact q.elim | exact iop_sub pins s σ H _ _ v u Q I rx ry ⟨_, _, rfl, rfl, done q S (.int _)⟩)
theorem PE.opS {f : Value → Value → Sem Value} {c : D → D → Hv → Res D} (ho : OpOk Z X W f c) {a b : D} {x y : V} {v u : Value} {c2 : D → Hv → R} {Dn : Ends} (I : Inv X pins σ H s) (S : Sim Z.L ρ h H) (E : RelE Z.L ρ H env σ) (rx : RelV x v) (ry : RelV y u) (ra : RelD Z.L ρ H a x) (rb : RelD Z.L ρ H b y) (q : PostS Z.L ρ H (onR env (c a b h) c2) Dn W)
    {QQ : Value → Shared → Prop} (next : ∀ w s1 z H1 ρ1 dz h1, Inv X pins σ H1 s1 → RelV z w → Le ρ H ρ1 H1 → Sim Z.L ρ1 h1 H1 → RelE Z.L ρ1 H1 env σ → RelD Z.L ρ1 H1 dz z → PostS Z.L ρ1 H1 (c2 dz h1) Dn W → QQ w s1) : wpAny (model X.prog X.w) X.A (f v u) QQ X.xe s :=
  thn (ho pins s σ H ρ h a b x y v u _ I S rx ry ra rb (post_on E q)) fun w s1 ⟨z, H1, I1, rz, ρ1, dz, h1, _, le, S1, r, q1⟩ => next w s1 z H1 ρ1 dz h1 I1 rz le S1 (E.mono le) r q1
theorem aug_calm {o : Op} {a b : D} {Q : VK} {Wk Wk' : WK} (q : PostD Z.L ρ H (augR o a b h) Q Wk) : PostD Z.L ρ H (augR o a b h) Q Wk' := by
  cases e : augR o a b h with
  | ok v h' => rw [e] at q; exact q
  | bad => rw [e] at q; exact q.elim
  | exc c v h' =>
    exfalso
    unfold augR at e
    split at e
    · unfold iaddR at e
      split at e
      · cases e
      · unfold extR at e
        split at e
        · rename_i xs ys _ _
          cases c : Nat.ble (xs.length + ys.length) line with
          | true => rw [c] at e; cases e
          | false => rw [c] at e; cases e
        · cases e
      · cases e
    · unfold subR at e
      split at e <;> cases e
    · cases e
theorem rs_aug {o : Op} {op : Operator} {i : Nat} {x : Str} {e : Expr} {me : ME} {pos pos' : Pos} (ho : (o = .add ∧ op = .Add) ∨ (o = .sub ∧ op = .Sub)) (hN : X.N.Nodup) (hi : X.N[i]? = some x) (hx : Loc X.env.scope x) (hf : X.fn x = true ∨ X.env.scope.names.lookup x = some .local) (he : PE X e (RdE Z me W)) :
    PS X (.AugAssign (.Name x pos') op e pos) (RdS Z (sAug i o me) W) := by
  have hp : PIp X op fun x y H Q => ∃ ρ h a b, Sim Z.L ρ h H ∧ RelD Z.L ρ H a x ∧ RelD Z.L ρ H b y ∧ PostD Z.L ρ H (augR o a b h) Q (fun _ _ _ => False) :=
    fun pins s σ H x y v u Q I rx ry ⟨ρ, h, a, b, S, ra, rb, q⟩ => aug_ok (W := W0) ho pins s σ H ρ h a b x y v u Q I S rx ry ra rb q
  refine ⟨fun pins s σ H D I ⟨ρ, env, h, S, E, q⟩ => (ps_aug hN hi hx he hp hf).run pins s σ H D I ?_⟩
  have q : PostS Z.L ρ H (match env[i]? with
    | some (some x) => onR env (me env h) fun y h => onR env (augR o x y h) fun z h => .nx (env.set i (some z)) h
    | _ => .bad) D W := q
  cases e1 : env[i]? with
  | none => rw [e1] at q; exact q.elim
  | some ox =>
    cases ox with
    | none => rw [e1] at q; exact q.elim
    | some dx =>
      rw [e1] at q
      obtain ⟨v, ev, rv⟩ := E i dx e1
      refine ⟨v, ev, RdE.toS S E q fun y H1 ρ1 b h1 le S1 E1 r q1 => ⟨ρ1, h1, dx, b, S1, rv.mono le, r, ?_⟩⟩
      refine aug_calm (Wk := Wat W σ) ((post_on (R' := fun ρ H d v => RelD Z.L ρ H d v) E1 q1).imp (fun z H2 ⟨ρ2, dz, h2, _, le2, S2, r2, q2⟩ => ?_) fun _ _ _ z => z)
      exact q2 ρ2 _ H2 Le.refl S2 ((E1.mono le2).set r2 (inv_slot I hi))
theorem rs_augf (K : Kt Z atts k d X W) {o : Op} {op : Operator} {ob e : Expr} {mo me : ME} {f : Nat} {fn : Str} {pos pos' : Pos} (ho : (o = .add ∧ op = .Add) ∨ (o = .sub ∧ op = .Sub)) (hob : PE X ob (RdE Z mo W)) (he : PE X e (RdE Z me W)) (hf : f ∈ atts) (hn : fn = Z.L.nm f) :
    PS X (.AugAssign (.Attribute ob fn pos') op e pos) (RdS Z (sAugf Z.L.T (cl Z d) mo f o me) W) := by
  subst hn
  refine ⟨fun pins s σ H D I ⟨ρ, env, h, S, E, q⟩ => wpAny_AugAssign_AttributeAny (PE.goS hob I S E q fun ov s1 x H1 ρ1 a h1 I1 rx le S1 E1 r1 q1 => ?_)⟩
  refine thn (att_ok K hf I1 S1 rx r1 (post_on E1 q1)) fun old s2 ⟨v, H2, I2, rv, ρ2, dv, h2, _, le2, S2, r2, q2⟩ => ?_
  have E2 := E1.mono le2
  refine PE.goS he I2 S2 E2 q2 fun u s3 y H3 ρ3 b h3 I3 ry le3 S3 E3 r3 q3 => PE.opS (aug_ok ho) I3 S3 E3 rv ry (r2.mono le3) r3 q3 fun w s4 z H4 ρ4 dz h4 I4 rz le4 S4 E4 r4 q4 => ?_
  exact thn (sat_ok K hf I4 S4 rx rz (((r1.mono le2).mono le3).mono le4) r4 (post_u E4 q4)) fun _ s5 ⟨H5, I5, ρ5, h5, le5, S5, q5⟩ => ⟨σ, H5, I5, q5 ρ5 σ H5 Le.refl S5 (E4.mono le5)⟩
/-- a, b = x, y -/
theorem rs_par {i j : Nat} {x y : Str} {a b : Expr} {ma mb : ME} {px py pt pos : Pos} {kt k2 pt2} (hc : X.calm = true) (hN : X.N.Nodup) (hi : X.N[i]? = some x) (hj : X.N[j]? = some y) (hij : i ≠ j) (hx : X.env.scope.names.lookup x = some .local) (hy : X.env.scope.names.lookup y = some .local)
    (ha : PE X a (RdE Z ma W)) (hb : PE X b (RdE Z mb W)) (na : noStar a = true) (nb : noStar b = true) (hw : swappedStores [.Tuple [.Name x px, .Name y py] kt pt] (.Tuple [a, b] k2 pt2) X.env = pure (some [x, y])) :
    PS X (.Assign [.Tuple [.Name x px, .Name y py] kt pt] (.Tuple [a, b] k2 pt2) pos) (RdS Z (sAsg (.tup (.cons (.nm i) (.cons (.nm j) .nil))) (mTup (mCons ma (mCons mb mNil)))) W) := by
  refine ⟨fun pins s σ H D I ⟨ρ, env, h, S, E, q⟩ => (ps_par hc hN hi hj hij hx hy (ra_cons ha (ra_cons hb ra_nil nb) na) hw rfl).run pins s σ H D I ?_⟩
  have q' : PostS Z.L ρ H (onR env (mCons ma (mCons mb mNil) env h) fun vs h => match vs with
    | [v, w] => .nx ((env.set i (some v)).set j (some w)) h
    | _ => .bad) D W := by
    have q : PostS Z.L ρ H (onR env ((mCons ma (mCons mb mNil) env h).bind fun vs h => bif Nat.ble vs.length line then .ok (.tup vs) h else .bad) fun v h => match asgT (.tup (.cons (.nm i) (.cons (.nm j) .nil))) [v] env with
      | some σ => .nx σ h
      | none => .bad) D W := q
    cases e : mCons ma (mCons mb mNil) env h with
    | ok vs h1 =>
      rw [e] at q
      match vs, two_len e with
      | [v, w], _ => exact q
    | exc c v h1 => rw [e] at q; exact q
    | bad => rw [e] at q; exact q
  refine ⟨ρ, env, h, S, E, (post_on (R' := fun ρ H d v => RelL Z.L ρ H d v) E q').imp (fun xs H1 ⟨ρ1, vs, h1, e, le, S1, rl, q1⟩ => ?_) fun _ _ _ z => z⟩
  match vs, xs, two_len e, rl with
  | [v, w], [x1, x2], _, .cons r1 (.cons r2 .nil) =>
    refine ⟨x1, x2, rfl, q1 ρ1 _ H1 Le.refl S1 ?_⟩
    exact ((E.mono le).set r1 (inv_slot I hi)).set r2 (by rw [List.length_set]; exact inv_slot I hj)
end
end TB

/-! TB, the link: try with any clauses. -/
namespace TB
open L2 PySem PyProof.Rows PySem.Spec

/-- a clause's suite: a the exception, cls its class, d its dict -/
abbrev SuT := Addr → Value → Option Addr → TS
/-- how a suite ends: the name's slot is free again -/
def offD (oi : Option Nat) (D : Ends) : Ends := match oi with
  | none => D
  | some i => { nx := fun σ H => D.nx (σ.set i none) H, rt := D.rt, bk := fun σ H => D.bk (σ.set i none) H, ct := fun σ H => D.ct (σ.set i none) H }
def onS (oi : Option Nat) (a : Addr) (σ : St) : St := match oi with
  | none => σ
  | some i => σ.set i (some (.ref a))
def wCl (K : PySem.W.Frag) (Wout : WX) (D : Ends) : List (Value × Option Nat × SuT) → WX
  | [] => Wout
  | (c, oi, ts) :: r => fun cls d σ H => ∃ b, PySem.W.exmOne K cls c = some b ∧ (b = true → ∀ a, H a = none → ts a cls d (offD oi D) (onS oi a σ) H) ∧ (b = false → wCl K Wout D r cls d σ H)
def NmOk (X : Cx) : Option Str → Option Nat → Prop
  | none, none => True
  | some n, some i => X.N[i]? = some n ∧ X.env.kindOf n = some .local
  | _, _ => False
inductive ClsS (X : Cx) : List ExceptHandler → List (Value × Option Nat × SuT) → Prop
  | nil : ClsS X [] []
  | cons {x : Str} {c : Value} {oi : Option Nat} {on : Option Str} {ts : SuT} {b₀ : Stmt} {suite : List Stmt} {np hp : Pos} {hds : List ExceptHandler} {l : List (Value × Option Nat × SuT)} (hc : Names X x c) (hn : NmOk X on oi)
      (hsu : ∀ (a : Addr) (oe : Obj) (cls : Value) (d : Option Addr) (pn : List (Addr × Obj)), Zc cls d oe → (∃ vs, oe.data = .fields vs) → PSs (X.suite a ((a, oe) :: pn)) (b₀ :: suite) (ts a cls d)) (r : ClsS X hds l) :
      ClsS X (.ExceptHandler (some (.Name x np)) on (b₀ :: suite) hp :: hds) ((c, oi, ts) :: l)
section
variable {s : Shared} {X : Cx} {σ : St} {H : Hp} {pins : List (Addr × Obj)}
/-- an end of the tried body is one of the whole -/
theorem sp_of_try {D : Ends} {xe : Value → Shared → Prop} {f : Flow} {s1 : Shared} (ok : X.Ok) (hsp : SP (X.tr (X.pn ++ pins) xe) [] D f s1) : SP X pins D f s1 := by
  cases f with
  | ret u =>
    obtain ⟨v, σ', H', J, r, q⟩ := hsp
    exact ⟨v, σ', H', J.ofTry ok, r, q⟩
  | _ =>
    obtain ⟨σ', H', J, q⟩ := hsp
    exact ⟨σ', H', J.ofTry ok, q⟩
/-- an end of a suite without a name -/
theorem sp_of_suite {D : Ends} {a : Addr} {q0 : Addr × Obj} {f : Flow} {s1 : Shared} (ok : X.Ok) (hsp : SP (X.suite a (q0 :: (X.pn ++ pins))) [] D f s1) : SP X pins D f s1 := by
  cases f with
  | ret u =>
    obtain ⟨v, σ', H', J, r, q⟩ := hsp
    exact ⟨v, σ', H', J.unsuite ok, r, q⟩
  | _ =>
    obtain ⟨σ', H', J, q⟩ := hsp
    exact ⟨σ', H', J.unsuite ok, q⟩
/-- an end of a suite with a name -/
theorem sp_of_named {D : Ends} {a : Addr} {q0 : Addr × Obj} {f : Flow} {s1 : Shared} {i : Nat} {n : Str} {hp : Pos} {M : Model} {A : Around} {E : Value → Shared → Prop} (ok : X.Ok) (hN : X.N.Nodup) (hi : X.N[i]? = some n) (hl : X.env.kindOf n = some .local)
    (hsp : SP (X.suite a (q0 :: (X.pn ++ pins))) [] (offD (some i) D) f s1) : wpAny M A (do bindName X.env n .none; unbindBehindTheSuite X.env n hp) (fun _ s2 => SP X pins D f s2) E s1 := by
  cases f with
  | ret u =>
    obtain ⟨v, σ', H', J, r, q⟩ := hsp
    exact gone_ok (J.unsuite ok) hN hi hl fun s2 J2 => ⟨v, _, H', J2, r, q⟩
  | _ =>
    obtain ⟨σ', H', J, q⟩ := hsp
    exact gone_ok (J.unsuite ok) hN hi hl fun s2 J2 => ⟨_, H', J2, q⟩
variable {body : List Stmt} {h₀ : ExceptHandler} {hds : List ExceptHandler} {l : List (Value × Option Nat × SuT)} {pos : Pos} {tb : WX → TS} {Wout : WX}
/-- the exception a flies over the frames of X -/
structure Fly (X : Cx) (pins : List (Addr × Obj)) (B : Heap) (a : Addr) (cls : Value) (d : Option Addr) (sI s0 : Shared) (σ : St) (H : Hp) : Prop where
  I : Inv X pins σ H sI
  nb : ∀ b o, sI.heap.get? b = some o → b ∉ frs X.stack → B.get? b = some o
  up : sI.heap.UpToSlots s0.heap
  na : H a = none
  os : s0.os = sI.os
  ag : AllBare s0.gens
  fl : HandSPX.FlyingZ B (X.env :: X.outer) a (Zc cls d) s0.heap
theorem Fly.notIn {B : Heap} {a : Addr} {cls : Value} {d : Option Addr} {sI s0 : Shared} (F : Fly X pins B a cls d sI s0 σ H) (hf : X.env.frame = some X.env.locals) : a ≠ X.env.locals ∧ a ∉ X.fs := by
  obtain ⟨oe, vs, he, _, hd⟩ := F.fl.there
  have no : a ∉ frs (X.env :: X.outer) := fun hm => by
    obtain ⟨_, o, e, hx⟩ := F.fl.2.2.1.mem hm
    cases he.symm.trans e
    exact hx _ hd
  refine ⟨fun z => no (List.mem_filterMap.mpr ⟨X.env, .head _, by rw [hf, z]⟩), fun hm => ?_⟩
  skip; obtain ⟨e, he, q⟩ := List.mem_filterMap.mp hm
  exact no (List.mem_filterMap.mpr ⟨e, .tail _ he, q⟩)
theorem Fly.inv {B : Heap} {a : Addr} {cls : Value} {d : Option Addr} {sI s0 : Shared} (F : Fly X pins B a cls d sI s0 σ H) : Inv X pins σ H { s0 with heap := s0.heap } := F.I.landed F.nb F.fl.1 F.up F.os F.ag
theorem Fly.suite {B : Heap} {a : Addr} {cls : Value} {d : Option Addr} {sI s0 : Shared} (F : Fly X pins B a cls d sI s0 σ H) (hf : X.env.frame = some X.env.locals) :
    ∃ oe, s0.heap.get? a = some oe ∧ Zc cls d oe ∧ (∃ vs, oe.data = .fields vs) ∧ Inv (X.suite a ((a, oe) :: (X.pn ++ pins))) [] σ H s0 := by
  obtain ⟨oe, vs, he, hz, hd⟩ := F.fl.there
  obtain ⟨n1, n2⟩ := F.notIn hf
  exact ⟨oe, he, hz, ⟨vs, hd⟩, F.inv.suite he hd F.na n1 n2⟩
theorem handle_all (hs : X.stack = X.env :: X.outer) (hf : X.env.frame = some X.env.locals) (hN : X.N.Nodup) (tk : Takes X Wout) {D : Ends} {B : Heap} {a : Addr} {cls : Value} {d : Option Addr} {sI s0 : Shared} (F : Fly X pins B a cls d sI s0 σ H) :
    ∀ {hs' : List ExceptHandler} {l' : List (Value × Option Nat × SuT)}, ClsS X hs' l' → wCl X.K Wout D l' cls d σ H → wpAny (model X.prog X.w) X.A (handleBy (.ref a) X.env hs') (SP X pins D) X.xe s0 := by
  intro hs' l' hk
  induction hk with
  | nil =>
    intro w
    have w : Wout cls d σ H := w
    refine wpAny_handleBy_nil ?_
    unfold PySem.passOn
    obtain ⟨_, _, _, oe, vs, T, oT, ts', he, hz, hd, h1, _⟩ := id F.fl
    skip; refine wpAny_bind (wpAny_field he hd h1 ?_)
    rw [if_neg (show ¬ (Value.ref T == Value.none) = true from by simp)]
    have last : wpAny (model X.prog X.w) X.A (setFlight (.ref a) X.env.frame) (fun _ s4 => wpAny (model X.prog X.w) X.A (throw (.ref a) : Sem Flow) (SP X pins D) X.xe s4) X.xe s0 := by
      rw [hf]
      exact HandSPX.setFlight_upZ F.fl fun h4 z4 up4 => wpAny_throw (tk _ _ ⟨a, B, sI, pins, σ, H, cls, d, rfl, F.I, F.nb, F.up.trans up4, .inr (.inr (by rw [hs]; exact z4)), F.na, F.os, F.ag, w⟩)
    first
      | exact wpAny_bind (wpAny_pure (wpAny_bind last))
      | exact wpAny_bind last
  | @cons x c oi on ts b₀ suite np hp hds2 l2 hc hn hsu r ih =>
    rintro ⟨b, e1, yes, no⟩
    skip; refine wpAny_handleBy_cons (codeAny_handlers_test ?_) (by intro q; cases q)
    obtain ⟨oe, he, hz, hd, J⟩ := F.suite hf
    have ty : PySem.W.Looks (model X.prog X.w) s0.heap (typeOf (.ref a)) cls := fun A Q E s k q => wpAny_typeOf_ref (k _ _ he) (by rw [hz.1]; exact q)
    have mt := (PySem.W.exm_one (M := model X.prog X.w) F.inv.kIn ty e1)
    have name : ∀ {Q : Value → Shared → Prop} {E : Value → Shared → Prop}, Q c s0 → wpAny (model X.prog X.w) (X.A.mark (some (.ref a))) (eval (.Name x np) X.env) Q E s0 := fun {Q E} q => by
      obtain ⟨g, nd, m | ⟨m, v, nn⟩⟩ := hc
      · exact ld_glob J g m q nd
      · exact ld_blt J g m v q nn nd
    refine name (mt.here ?_)
    cases b with
    | false => exact ih (no rfl)
    | true =>
      have y := yes rfl a F.na
      cases on with
      | none =>
        cases oi with
        | some i => exact hn.elim
        | none =>
          refine codeAny_handlers_suite (HandSPX.lands_againZ F.fl fun h4 z4 up4 => ?_)
          have F4 : Fly X pins B a cls d sI { s0 with heap := h4 } σ H := ⟨F.I, F.nb, F.up.trans up4, F.na, F.os, F.ag, z4⟩
          obtain ⟨oe4, he4, hz4, hd4, J4⟩ := F4.suite hf
          exact wpAny_mono ((hsu a oe4 cls d (X.pn ++ pins) hz4 hd4).run [] _ _ H _ J4 y) (fun f s6 z => sp_of_suite F.I.ok z) fun _ _ z => False.elim z
      | some n =>
        cases oi with
        | none => exact hn.elim
        | some i =>
          obtain ⟨hi, hl⟩ := hn
          refine codeAny_handlers_suite_as (HandSPX.lands_againZ F.fl fun h4 z4 up4 => ?_)
          have F4 : Fly X pins B a cls d sI { s0 with heap := h4 } σ H := ⟨F.I, F.nb, F.up.trans up4, F.na, F.os, F.ag, z4⟩
          obtain ⟨oe4, he4, hz4, hd4, J4⟩ := F4.suite hf
          refine store_ok (X := X.suite a ((a, oe4) :: (X.pn ++ pins))) (v := .ref a) J4 hN hi (.inl hl) rfl (fun s5 J5 => ?_) (.inr hl)
          exact wpAny_mono ((hsu a oe4 cls d (X.pn ++ pins) hz4 hd4).run [] s5 _ H _ J5 y) (fun f s6 z => sp_of_named F.I.ok hN hi hl z) fun _ _ z => False.elim z
theorem ps_try_cl (hs : X.stack = X.env :: X.outer) (hf : X.env.frame = some X.env.locals) (hN : X.N.Nodup) (tk : Takes X Wout)
    (hb : ∀ (W : WX) (pn : List (Addr × Obj)) (ye : Value → Shared → Prop), Takes (X.tr pn ye) W → PassesOwn (model X.prog X.w) X.A X.env ye → PSs (X.tr pn ye) body (tb W))
    (hh : ClsS X (h₀ :: hds) l) : PS X (.Try body (h₀ :: hds) [] [] pos) (fun D σ H => tb (wCl X.K Wout D l) D σ H) := by
  refine ⟨fun pins s σ H D I h => wpAny_Try_except (wpAny_mono ((hb _ (X.pn ++ pins) _ ?_ PassesOwn.looking).run [] s σ H D (I.toTry _) h) (fun f s1 z => ?_) fun e s1 z => z)⟩
  · rintro u s' ⟨a, B, sI, pins', σ', H', cls, d, rfl, J', nb, up, sky, na, os, ag, w⟩
    skip; have sky' : Sky B (X.env :: X.outer) a (Zc cls d) X.env.locals s'.heap := by rw [← hs]; exact sky
    refine Sky.land Zc.steady (by rw [I.ok.frames, hs]) hf sky' fun h3 z3 up3 => ?_
    exact handle_all hs hf hN tk (s0 := { s' with heap := h3 }) ⟨J'.ofTry I.ok, nb, up.trans up3, na, os, ag, z3⟩ hh w
  · have z := sp_of_try I.ok z
    cases f with
    | next =>
      obtain ⟨σ', H', J, q⟩ := z
      exact wpAny_execs_nil ⟨σ', H', J, q⟩
    | _ => exact z
end
end TB

/-! TB, the link: raise, try. -/
namespace TB
open L2 PySem PyProof.Rows PySem.Spec

/-- an exception's own __init__: fields stored, one after the other -/
def spX (L : Lk) (c : Nat) (fl : List Nat) : Sp := fun vs H Q E => ∃ (a : Addr) (xs : List V), vs = .ref a :: xs ∧ xs.length = fl.length ∧ H a = some (exo a (L.cA c) none) ∧
  ∀ (dx : Addr) (fs : List (Str × V)) (H2 : Hp), H dx = none → dx ≠ a → H2 a = some (exo a (L.cA c) (some dx)) → H2 dx = some (exd dx fs) → (∀ b, b ≠ a → b ≠ dx → H2 b = H b) →
    (∀ (i f : Nat) (x : V), fl[i]? = some f → xs[i]? = some x → fs.lookup (L.nm f) = some x) → Q .non H2
def bmVE : List Value := [.type "ValueError", .type "Exception", .type "BaseException", .type "object"]
/-- what stands behind an exception class -/
structure ExLk (Z : Wl) (c : Nat) (k : Cl) : Prop where
  kp : PySem.W.keepIn Z.L.K (.ref (Z.L.cA c)) = true
  ex : PySem.W.subIn Z.L.K (.ref (Z.L.cA c)) (.type "BaseException") = some true
  ty : PySem.W.typeIn Z.L.K (.ref (Z.L.cA c)) = some (.type "type")
  made : (k.flds = [] ∧ PySem.W.excIn Z.L.K (Z.L.cA c) bmVE "ValueError.__new__" = true) ∨
    (k.flds ≠ [] ∧ k.flds.length ≤ 900 ∧ OexC Z.L.K (Z.L.cA c) ∧ ∃ fI fd ps, PySem.W.findIn Z.L.K (.ref (Z.L.cA c)) "__init__" = some (some (.ref fI)) ∧ PySem.W.typeIn Z.L.K (.ref fI) = some (.type "function") ∧ Binds Z.L.K fd ps [] ∧ FnOk Z.P Z.w Z.L.K Z.mg Z.base (L2.CX Z.P Z.w) 1 fI fd ps (spX Z.L c k.flds))
  xf : k.flds ≠ [] → XfC Z.L.K (Z.L.cA c) ∧ ∀ f ∈ k.flds, PySem.W.findIn Z.L.K (.ref (Z.L.cA c)) (Z.L.nm f) = some none
  mt : ∀ c' k', Z.L.T.cl.get c' = some k' → k'.exc = true → PySem.W.exmOne Z.L.K (.ref (Z.L.cA c)) (.ref (Z.L.cA c')) = some (subCl Z.L.T 5 c c')
def ExOk (Z : Wl) : Prop := ∀ c k, Z.L.T.cl.get c = some k → k.exc = true → ExLk Z c k

section
variable {Z : Wl} {k : Nat} {X : Cx} {W : WX} {pins : List (Addr × Obj)} {σ : St} {H : Hp} {s : Shared} {ρ : Rho} {h : Hv} {env : Env}
def rExc (T : Tab) (c : Nat) : List D → Hv → Res Unit := fun vs h => match T.cl.get c with
  | some k => bif k.exc && Nat.beq k.flds.length vs.length then .exc c vs h else .bad
  | none => .bad
/-- the making of what is raised -/
def RdX (Z : Wl) (m : ML) (c : Nat) (W : WX) : St → Hp → XK → Prop := fun σ H Q => (∀ cls d H', W cls d σ H' → Q cls d H') ∧ ∃ ρ env h, Sim Z.L ρ h H ∧ RelE Z.L ρ H env σ ∧ PostU Z.L ρ H ((m env h).bind (rExc Z.L.T c)) (fun _ _ => False) (Wat W σ)
theorem rExc_at {c : Nat} {vs : List D} {Wk : WK} {Q : Unit → Hp → Prop} (q : PostU Z.L ρ H (rExc Z.L.T c vs h) Q Wk) : ∃ cl, Z.L.T.cl.get c = some cl ∧ cl.exc = true ∧ cl.flds.length = vs.length ∧
    ∀ ρ' d H', Le ρ H ρ' H' → Sim Z.L ρ' h H' → RelX Z.L ρ' H' c vs d → Wk (.ref (Z.L.cA c)) d H' := by
  unfold rExc at q
  cases e : Z.L.T.cl.get c with
  | none => rw [e] at q; exact q.elim
  | some cl =>
    rw [e] at q
    obtain ⟨a, b⟩ := post_bif q
    obtain ⟨a1, a2⟩ := Bool.and_eq_true_iff.mp a
    exact ⟨cl, rfl, a1, Nat.eq_of_beq_eq_true a2, b⟩
theorem pmk_any (G : Gd Z k X W) (EO : ExOk Z) (hk : 2 ≤ k) {x : Str} {c : Nat} {p pos : Pos} {es : List Expr} {ms : ML} (ha : AsOk Z X W es ms) (hg : Gl X x) (hm : X.mg x = some (.ref (Z.L.cA c))) (hd : (x == ("__debug__" : Str)) = false)
    {cl : Cl} (ec : Z.L.T.cl.get c = some cl) (ee : cl.exc = true) : PMk X (.Call (.Name x p) es [] pos) (RdX Z ms c W) := by
  have LK := EO c cl ec ee
  have kp : PySem.W.keepIn X.K (.ref (Z.L.cA c)) = true := by rw [G.K]; exact LK.kp
  have rs : Raises X (.ref (Z.L.cA c)) := raises_own (by rw [G.K]; exact LK.ex) (by rw [G.K]; exact LK.ty)
  rcases LK.made with ⟨nf, xi⟩ | ⟨nf, fz, ox, fI, fd, ps, iC, tI, hb, OK⟩
  · rintro pins s σ H Q I ⟨hQ, ρ, env, h, S, E, q⟩
    skip; refine wpAny_Call_Name_kw (ld_glob I hg hm ?_ hd)
    refine with_plain (first := []) ha kp I S E q fun us s1 xs H1 ρ1 vs h1 I1 r le S1 E1 rl q1 => ?_
    obtain ⟨cl', e1, e2, e3, q2⟩ := rExc_at q1
    cases ec.symm.trans e1
    rw [nf] at e3
    have ev : vs = [] := List.length_eq_zero_iff.mp e3.symm
    subst ev
    cases rl
    cases r
    show wpAny _ _ (call (.ref (Z.L.cA c)) []) _ _ _
    obtain ⟨bm, N, nm, qn, bs, hdct, sn, sub, ab, col, dd, k0, k1, k2, k3, k5, mN, hC, hN, hni, T⟩ := exc_obj I1.kIn (by rw [G.K]; exact xi)
    refine wpAny_call_exc_subT F.excBase_ValueError T hC hN hni (fun h' e hm => ?_) (by show 0 ≤ sizeLine; exact Nat.zero_le _)
    exact mk_of I1 hm rs (hQ _ _ _ (q2 ρ1 none H1 Le.refl S1 ⟨cl, ec, ee, by rw [nf]; rfl, .inl ⟨rfl, rfl⟩⟩)) (I1.hok.gone hm.new)
  · cases es with
    | nil =>
      rintro pins s σ H Q I ⟨hQ, ρ, env, h, S, E, q⟩
      rw [ha.nil rfl] at q
      obtain ⟨cl', e1, e2, e3, q2⟩ := rExc_at q
      cases ec.symm.trans e1
      exact absurd (List.length_eq_zero_iff.mp e3) nf
    | cons e es =>
      obtain ⟨h1, h2⟩ := Bool.and_eq_true_iff.mp ha.pl
      have OK' : FnOk X.prog X.w X.K X.mg X.base (L2.CX X.prog X.w) 1 fI fd ps (spX Z.L c cl.flds) := by rw [G.prog, G.w, G.K, G.mg, G.base]; exact OK
      have pm := pmk_oex (x := x) (p := p) (pos := pos) (dvs := []) (by rw [G.K]; exact ox) (by rw [G.K]; exact iC) (by rw [G.K]; exact tI) OK' (G.room.mono hk) (by rw [G.K]; exact hb) .nil
        (fun _ _ _ _ _ _ _ ⟨_, _, _, _, _, _, _, _, _, _, _, _, z⟩ => z.elim) hg hm ha.pa hd (starEach_cons h1) (any_plain h2)
      rintro pins s σ H Q I ⟨hQ, ρ, env, h, S, E, q⟩
      refine pm pins s σ H Q I (RdL.to S E q fun xs H1 ρ1 vs h1 le S1 E1 r q1 => ?_)
      obtain ⟨cl', e1, e2, e3, q2⟩ := rExc_at q1
      cases ec.symm.trans e1
      have hz : xs.length ≤ 1000 := by rw [r.length, ← e3]; omega
      refine ⟨hz, fun a na => ⟨a, xs, by rw [List.append_nil], by rw [r.length, e3], upd_same, fun dx fs H2 nd ne ea ed eo lk => ⟨rfl, dx, fs, ea, ed, ?_, hQ _ _ _ ?_⟩⟩⟩
      · rw [upd_ne ne] at nd; exact nd
      · rw [upd_ne ne] at nd
        have eH : upd (del H2 a) dx (.xd fs) = upd H1 dx (.xd fs) := by
          funext b
          by_cases b1 : b = dx
          · rw [b1, upd_same, upd_same]
          · rw [upd_ne b1, upd_ne b1]
            by_cases b2 : b = a
            · rw [b2, del_same, na]
            · rw [del_ne b2, eo b b2 b1, upd_ne b2]
        rw [eH]
        exact q2 ρ1 (some dx) _ (Le.fresh nd) (S1.fresh nd) ⟨cl, ec, ee, e3, .inr ⟨dx, xs, fs, rfl, r.mono (Le.fresh nd), upd_same, lk⟩⟩
/-- raise C(..) -/
theorem rs_rse (G : Gd Z k X W) (EO : ExOk Z) (hk : 2 ≤ k) {x : Str} {c : Nat} {p p2 pos : Pos} {es : List Expr} {ms : ML} (ha : AsOk Z X W es ms) (hg : Gl X x) (hm : X.mg x = some (.ref (Z.L.cA c))) (hd : (x == ("__debug__" : Str)) = false)
    {cl : Cl} (ec : Z.L.T.cl.get c = some cl) (ee : cl.exc = true) : PS X (.Raise (some (.Call (.Name x p) es [] p2)) none pos) (RdS Z (sRse Z.L.T c ms) W) := by
  refine ⟨fun pins s σ H D I ⟨ρ, env, h, S, E, q⟩ => (ps_raise G.calm G.tk (pmk_any G EO hk ha hg hm hd ec ee)).run pins s σ H D I ⟨fun _ _ _ z => z, ρ, env, h, S, E, ?_⟩⟩
  unfold sRse at q
  cases em : ms env h with
  | ok vs h1 =>
    rw [em] at q
    have q : PostS Z.L ρ H (match Z.L.T.cl.get c with
      | some k => bif k.exc && Nat.beq k.flds.length vs.length then .exc c vs env h1 else .bad
      | none => .bad) D W := q
    show PostU Z.L ρ H (rExc Z.L.T c vs h1) _ _
    unfold rExc
    rw [ec] at q ⊢
    cases b : (cl.exc && Nat.beq cl.flds.length vs.length) with
    | false => simp only [b] at q; exact q.elim
    | true =>
      simp only [b] at q ⊢
      exact fun ρ' d H' le S' r => q ρ' d σ H' le S' (E.mono le) r
  | exc c1 vs h1 =>
    rw [em] at q
    exact fun ρ' d H' le S' r => q ρ' d σ H' le S' (E.mono le) r
  | bad => rw [em] at q; exact q.elim
end
end TB

/-! TB, the link: try, its suites. -/
namespace TB
open L2 PySem PyProof.Rows PySem.Spec
section
variable {Z : Wl} {k : Nat} {X : Cx} {W : WX} {pins : List (Addr × Obj)} {σ : St} {H : Hp} {s : Shared} {ρ : Rho} {h : Hv} {env : Env}
abbrev W0x : WX := fun _ _ _ _ => False
/-- the names in a suite -/
def EnvH (Z : Wl) (oi : Option Nat) (a : Addr) (cls : Value) (d : Option Addr) (ρ : Rho) (H : Hp) (env : Env) (σ : St) : Prop := RelE Z.L ρ H (offE oi env) σ ∧ match oi with
  | none => True
  | some i => (i < σ.length → σ[i]? = some (some (.ref a))) ∧ ∃ c vs, cls = .ref (Z.L.cA c) ∧ RelX Z.L ρ H c vs d ∧ ∀ dv, env[i]? = some (some dv) → dv = .exv c vs
def RdH (Z : Wl) (oi : Option Nat) (m : MS) : SuT := fun a cls d D σ H => ∃ ρ env h, Sim Z.L ρ h H ∧ EnvH Z oi a cls d ρ H env σ ∧ PostS Z.L ρ H (offR oi (m env h)) D W0x
def RdHE (Z : Wl) (oi : Option Nat) (m : ME) (a : Addr) (cls : Value) (d : Option Addr) : TE := fun σ H Q => ∃ ρ env h, Sim Z.L ρ h H ∧ EnvH Z oi a cls d ρ H env σ ∧ PostD Z.L ρ H (m env h) Q (Wat W0x σ)
def RdHL (Z : Wl) (oi : Option Nat) (m : ML) (a : Addr) (cls : Value) (d : Option Addr) : TA := fun σ H Q => ∃ ρ env h, Sim Z.L ρ h H ∧ EnvH Z oi a cls d ρ H env σ ∧ PostL Z.L ρ H (m env h) Q (Wat W0x σ)
inductive HsOk (Z : Wl) (X : Cx) : List ExceptHandler → MH → Prop
  | nil : HsOk Z X [] hNil
  | cons {x : Str} {c : Nat} {cl : Cl} {oi : Option Nat} {on : Option Str} {m : MS} {mr : MH} {b₀ : Stmt} {suite : List Stmt} {np hp : Pos} {hds : List ExceptHandler} (hc : Names X x (.ref (Z.L.cA c))) (ec : Z.L.T.cl.get c = some cl) (ee : cl.exc = true) (hn : NmOk X on oi)
      (hsu : ∀ (a : Addr) (oe : Obj) (cls : Value) (d : Option Addr) (pn : List (Addr × Obj)), Zc cls d oe → (∃ vs, oe.data = .fields vs) → PSs (X.suite a ((a, oe) :: pn)) (b₀ :: suite) (RdH Z oi m a cls d)) (r : HsOk Z X hds mr) :
      HsOk Z X (.ExceptHandler (some (.Name x np)) on (b₀ :: suite) hp :: hds) (hCons Z.L.T c oi m mr)
theorem EnvH.mono {oi : Option Nat} {a : Addr} {cls : Value} {d : Option Addr} {ρ' : Rho} {H' : Hp} (e : Le ρ H ρ' H') (E : EnvH Z oi a cls d ρ H env σ) : EnvH Z oi a cls d ρ' H' env σ := by
  refine ⟨E.1.mono e, ?_⟩
  cases oi with
  | none => trivial
  | some i =>
    obtain ⟨_, h1, c, vs, h2, h3, h4⟩ := E
    exact ⟨h1, c, vs, h2, h3.mono0 e.toLe0, h4⟩
theorem relE_off {oi : Option Nat} (E : RelE Z.L ρ H (offE oi env) σ) : RelE Z.L ρ H (offE oi env) (match oi with
    | none => σ
    | some i => σ.set i none) := by
  cases oi with
  | none => exact E
  | some i =>
    intro j dd e
    by_cases q : i = j
    · subst q
      have e : (env.set i none)[i]? = some (some dd) := e
      rw [List.getElem?_set_self'] at e
      cases e0 : env[i]? <;> rw [e0] at e <;> cases e
    · obtain ⟨v, e1, r⟩ := E j dd e
      exact ⟨v, by show (σ.set i none)[j]? = _; rw [List.getElem?_set_ne q]; exact e1, r⟩
theorem off_on {oi : Option Nat} {c : Nat} {vs : List D} (E : RelE Z.L ρ H env σ) (a : Addr) : RelE Z.L ρ H (offE oi (onE oi c vs env)) (onS oi a σ) := by
  cases oi with
  | none => exact E
  | some i =>
    intro j dd e
    have e : ((env.set i (some (.exv c vs))).set i none)[j]? = some (some dd) := e
    rw [List.set_set] at e
    by_cases q : i = j
    · subst q
      rw [List.getElem?_set_self'] at e
      cases e0 : env[i]? <;> rw [e0] at e <;> cases e
    · rw [List.getElem?_set_ne q] at e
      obtain ⟨v, e1, r⟩ := E j dd e
      exact ⟨v, by show (σ.set i _)[j]? = _; rw [List.getElem?_set_ne q]; exact e1, r⟩
/-- behind a suite -/
theorem post_off {oi : Option Nat} {r : R} {D : Ends} (q : PostS Z.L ρ H (offR oi r) D W) : PostS Z.L ρ H (offR oi r) (offD oi D) W0x := by
  cases r with
  | ret x h1 => cases oi <;> exact q
  | exc c vs e h1 => exact q.elim
  | bad => exact q.elim
  | nx e h1 =>
    intro ρ' σ' H' le S' E'
    cases oi with
    | none => exact q ρ' σ' H' le S' E'
    | some i => exact q ρ' _ H' le S' (relE_off (oi := some i) E')
  | brk e h1 =>
    intro ρ' σ' H' le S' E'
    cases oi with
    | none => exact q ρ' σ' H' le S' E'
    | some i => exact q ρ' _ H' le S' (relE_off (oi := some i) E')
  | cnt e h1 =>
    intro ρ' σ' H' le S' E'
    cases oi with
    | none => exact q ρ' σ' H' le S' E'
    | some i => exact q ρ' _ H' le S' (relE_off (oi := some i) E')
theorem hs_ok (EO : ExOk Z) (hK : X.K = Z.L.K) {hds : List ExceptHandler} {mh : MH} (hk : HsOk Z X hds mh) : ∃ l, ClsS X hds l ∧ ∀ (Dn : Ends) (c : Nat) (vs : List D) (env : Env) (h : Hv) (ρ : Rho) (σ : St) (H : Hp) (dd : Option Addr),
    Sim Z.L ρ h H → RelE Z.L ρ H env σ → RelX Z.L ρ H c vs dd → PostS Z.L ρ H (mh c vs env h) Dn W → wCl X.K W Dn l (.ref (Z.L.cA c)) dd σ H := by
  induction hk with
  | nil => exact ⟨[], .nil, fun Dn c vs env h ρ σ H dd S E x q => q ρ dd σ H Le.refl S E x⟩
  | @cons x c' cl oi on m mr b₀ suite np hp hds hc ec ee hn hsu r ih =>
    obtain ⟨l, cs, ih⟩ := ih
    refine ⟨(.ref (Z.L.cA c'), oi, RdH Z oi m) :: l, .cons hc hn hsu cs, fun Dn c vs env h ρ σ H dd S E x q => ?_⟩
    obtain ⟨kc, e1, e2, _⟩ := id x
    refine ⟨subCl Z.L.T 5 c c', by rw [hK]; exact (EO c kc e1 e2).mt c' cl ec ee, fun y a na => ?_, fun y => ih Dn c vs env h ρ σ H dd S E x ?_⟩
    · have q : PostS Z.L ρ H (bif subCl Z.L.T 5 c c' then runH oi m c vs env h else mr c vs env h) Dn W := q
      rw [y] at q
      refine ⟨ρ, onE oi c vs env, h, S, ⟨off_on E a, ?_⟩, post_off q⟩
      cases oi with
      | none => trivial
      | some i =>
        refine ⟨fun hi => ?_, c, vs, rfl, x, fun dv e => ?_⟩
        · have hi : i < (σ.set i (some (.ref a))).length := hi
          show (σ.set i _)[i]? = _
          rw [List.getElem?_set_self (by simpa using hi)]
        · have e : (env.set i (some (.exv c vs)))[i]? = some (some dv) := e
          rw [List.getElem?_set_self'] at e
          cases e0 : env[i]? <;> rw [e0] at e <;> cases e
          rfl
    · have q : PostS Z.L ρ H (bif subCl Z.L.T 5 c c' then runH oi m c vs env h else mr c vs env h) Dn W := q
      rw [y] at q; exact q
/-- try: .. except ..: -/
theorem rs_tr (G : Gd Z k X W) (EO : ExOk Z) (hs : X.stack = X.env :: X.outer) (hf : X.env.frame = some X.env.locals) {body : List Stmt} {h₀ : ExceptHandler} {hds : List ExceptHandler} {pos : Pos} {mb : MS} {mh : MH}
    (hb : ∀ (W' : WX) (pn : List (Addr × Obj)) (xe : Value → Shared → Prop), Takes (X.tr pn xe) W' → PassesOwn (model X.prog X.w) X.A X.env xe → PSs (X.tr pn xe) body (RdS Z mb W')) (hh : HsOk Z X (h₀ :: hds) mh) :
    PS X (.Try body (h₀ :: hds) [] [] pos) (RdS Z (sTr mb mh) W) := by
  obtain ⟨l, cs, hl⟩ := hs_ok (W := W) EO G.K hh
  refine ⟨fun pins s σ H D I ⟨ρ, env, h, S, E, q⟩ => (ps_try_cl (tb := fun W' => RdS Z mb W') hs hf G.nd G.tk hb cs).run pins s σ H D I ⟨ρ, env, h, S, E, ?_⟩⟩
  have q : PostS Z.L ρ H (match mb env h with
    | .exc c fs σ h => mh c fs σ h
    | r => r) D W := q
  cases e : mb env h with
  | exc c vs env1 h1 =>
    rw [e] at q
    exact fun ρ' dd σ' H' le S' E' x => hl D c vs env1 h1 ρ' σ' H' dd S' E' x (q.mono le)
  | nx env1 h1 => rw [e] at q; exact q
  | ret x h1 => rw [e] at q; exact q
  | brk env1 h1 => rw [e] at q; exact q
  | cnt env1 h1 => rw [e] at q; exact q
  | bad => rw [e] at q; exact q.elim

/-! ### expressions in a suite -/
theorem EnvH.at {oi : Option Nat} {a : Addr} {cls : Value} {d : Option Addr} (E : EnvH Z oi a cls d ρ H env σ) {j : Nat} (hj : oi ≠ some j) {x : D} (e : env[j]? = some (some x)) : ∃ v, σ[j]? = some (some v) ∧ RelD Z.L ρ H x v := by
  refine E.1 j x ?_
  cases oi with
  | none => exact e
  | some i =>
    show (env.set i none)[j]? = _
    rw [List.getElem?_set_ne (fun z => hj (by rw [z]))]; exact e
variable {oi : Option Nat} {a : Addr} {cls : Value} {d : Option Addr}
theorem hu_cst {v : D} {e : Expr} {x : V} (hp : PE X e (tC x)) (r : ∀ ρ H, RelD Z.L ρ H v x) : PE X e (RdHE Z oi (mCst v) a cls d) :=
  ⟨fun pins s σ H Q I ⟨ρ, env, h, S, E, q⟩ => hp.run pins s σ H Q I (done q S (r ρ H))⟩
theorem hu_var {j : Nat} {x : Str} {pos : Pos} (hj : oi ≠ some j) (hN : X.N[j]? = some x) (hv : Vis X.env.scope x) (hd : (x == ("__debug__" : Str)) = false) (hcd : (x == ("__classdict__" : Str)) = false) : PE X (.Name x pos) (RdHE Z oi (mVar j) a cls d) := by
  refine ⟨fun pins s σ H Q I ⟨ρ, env, h, S, E, q⟩ => ?_⟩
  unfold mVar at q
  cases e : env[j]? with
  | none => rw [e] at q; exact q.elim
  | some o =>
    cases o with
    | none => rw [e] at q; exact q.elim
    | some dv =>
      rw [e] at q
      obtain ⟨v, ev, r⟩ := E.at hj e
      exact (pe_var hN hv hd hcd).run pins s σ H Q I ⟨v, ev, done q S r⟩
theorem look_zip {f : Nat} {dv : D} : ∀ {fl : List Nat} {vs : List D}, lookN f (fl.zip vs) = some dv → ∃ i : Nat, fl[i]? = some f ∧ vs[i]? = some dv
  | [], _, e => nomatch e
  | _ :: _, [], e => nomatch e
  | g :: fl, v :: vs, e => by
    have e : (bif Nat.beq g f then some v else lookN f (fl.zip vs)) = some dv := e
    cases q : Nat.beq g f with
    | true =>
      rw [q] at e; cases e
      exact ⟨0, by rw [Nat.eq_of_beq_eq_true q]; rfl, rfl⟩
    | false =>
      rw [q] at e
      obtain ⟨i, e1, e2⟩ := look_zip e
      exact ⟨i + 1, e1, e2⟩
/-- n.f -/
theorem hu_fld (EO : ExOk Z) (hK : X.K = Z.L.K) {i f : Nat} {n fn : Str} {oe : Obj} {pn : List (Addr × Obj)} {p pos : Pos} {call : Call} (hN : X.N[i]? = some n) (hv : Vis X.env.scope n) (hd : (n == ("__debug__" : Str)) = false) (hcd : (n == ("__classdict__" : Str)) = false) (hfn : fn = Z.L.nm f)
    (hz : Zc cls d oe) (hvs : ∃ vs, oe.data = .fields vs) : PE (X.suite a ((a, oe) :: pn)) (.Attribute (.Name n p) fn pos) (RdHE Z (some i) (mAtt Z.L.T call (mVar i) f) a cls d) := by
  refine ⟨fun pins s σ H Q I ⟨ρ, env, h, S, E, q⟩ => ?_⟩
  obtain ⟨_, hσ, c, vs, ec, ⟨kc, e1, e2, e3, x⟩, hx⟩ := E
  have q : PostD Z.L ρ H ((mVar i env h).bind fun x h => getAtt Z.L.T call x f h) Q (Wat W0x σ) := q
  unfold mVar at q
  cases e : env[i]? with
  | none => rw [e] at q; exact q.elim
  | some o =>
    cases o with
    | none => rw [e] at q; exact q.elim
    | some dv =>
      rw [e] at q
      cases hx dv e
      have q : PostD Z.L ρ H (match Z.L.T.cl.get c with
        | some k => opt (lookN f (k.flds.zip vs)) h
        | none => .bad) Q (Wat W0x σ) := q
      rw [e1] at q
      have q : PostD Z.L ρ H (opt (lookN f (kc.flds.zip vs)) h) Q (Wat W0x σ) := q
      cases el : lookN f (kc.flds.zip vs) with
      | none => rw [el] at q; exact q.elim
      | some w =>
        rw [el] at q
        obtain ⟨j, j1, j2⟩ := look_zip el
        rcases x with ⟨rfl, _⟩ | ⟨dx, xs, gs, ed, rx, hgs, hl⟩
        · cases j2
        obtain ⟨y, y1, y2⟩ := rx.get j2
        have hm : f ∈ kc.flds := List.mem_of_getElem? j1
        obtain ⟨xf, xn⟩ := (EO c kc e1 e2).xf (fun z => by rw [z] at hm; cases hm)
        subst hfn
        refine (pe_xf (C := Z.L.cA c) (by rw [hK]; exact xf) (by rw [hK]; exact xn f hm) hz hvs (pe_var (X := X.suite a ((a, oe) :: pn)) hN hv hd hcd)).run pins s σ H Q I ?_
        exact ⟨_, hσ (inv_slot I hN), rfl, ec, dx, gs, y, ed, hgs, hl j f y j1 y1, done q S y2⟩
theorem hu_nil : PA X [] (RdHL Z oi mNil a cls d) := ⟨fun pos pins s σ H Q I ⟨ρ, env, h, S, E, q⟩ => pa_nil.run pos pins s σ H Q I (q ρ [] H Le.refl S .nil)⟩
theorem hu_cons {e : Expr} {es : List Expr} {m : ME} {ms : ML} (he : PE X e (RdHE Z oi m a cls d)) (hs : PA X es (RdHL Z oi ms a cls d)) (hn : noStar e = true) : PA X (e :: es) (RdHL Z oi (mCons m ms) a cls d) := by
  refine ⟨fun pos pins s σ H Q I ⟨ρ, env, h, S, E, q⟩ => ?_⟩
  rw [starEach_cons hn]
  skip; show wpAny _ _ (spliced ((false, eval e X.env) :: backTo pos (starEach es X.env))) _ _ s
  refine Calls.spliced_cons (thn (he.run pins s σ H _ I ⟨ρ, env, h, S, E, Post.bind q⟩) fun u s1 ⟨x, H1, I1, rx, ρ1, v, h1, _, le, S1, r, q1⟩ => ?_)
  refine thn (hs.run pos pins s1 σ H1 _ I1 ⟨ρ1, env, h1, S1, E.mono le, Post.bind q1⟩) fun us s2 ⟨xs, H2, I2, rxs, ρ2, vs, h2, _, le2, S2, rs, q2⟩ => ?_
  exact ⟨x :: xs, H2, I2, .cons rx rxs, q2 ρ2 _ H2 Le.refl S2 (.cons (r.mono le2) rs)⟩
theorem hu_tup {es : List Expr} {m : ML} {x1 : Nat} {pos : Pos} (hs : PA X es (RdHL Z oi m a cls d)) : PE X (.Tuple es x1 pos) (RdHE Z oi (mTup m) a cls d) := by
  refine ⟨fun pins s σ H Q I ⟨ρ, env, h, S, E, q⟩ => (pe_tup hs).run pins s σ H Q I ⟨ρ, env, h, S, E, (Post.bind q).imp (fun xs H1 ⟨ρ1, vs, h1, _, le, S1, r, q1⟩ => ?_) fun _ _ _ z => z⟩⟩
  obtain ⟨hz, q2⟩ := post_bif q1
  exact ⟨r.length ▸ ble_line hz, fun p hp => post_tup q2 S1 r hp⟩
theorem hu_lst {es : List Expr} {m : ML} {pos : Pos} (hs : PA X es (RdHL Z oi m a cls d)) : PE X (.List es pos) (RdHE Z oi (mLst m) a cls d) := by
  refine ⟨fun pins s σ H Q I ⟨ρ, env, h, S, E, q⟩ => (pe_lst hs).run pins s σ H Q I ⟨ρ, env, h, S, E, (Post.bind q).imp (fun xs H1 ⟨ρ1, vs, h1, _, le, S1, r, q1⟩ => ?_) fun _ _ _ z => z⟩⟩
  obtain ⟨hz, q2⟩ := post_newL q1
  exact ⟨r.length ▸ hz, fun p hp => post_new q2 S1 r hp⟩
/-! ### statements in a suite -/
theorem post_onH {α β : Type} {R' : Rho → Hp → α → β → Prop} {r : Res α} {c : α → Hv → R} {Dn : Ends} (q : PostS Z.L ρ H (offR oi (onR env r c)) Dn W0x) :
    Post Z.L R' ρ H r (fun b H1 => ∃ ρ1 x h1, Le ρ H ρ1 H1 ∧ Sim Z.L ρ1 h1 H1 ∧ R' ρ1 H1 x b ∧ PostS Z.L ρ1 H1 (offR oi (c x h1)) Dn W0x) (Wat W0x σ) := by
  cases r with
  | ok x h1 => exact fun ρ' b H' e s r => ⟨ρ', x, h1, e, s, r, PostS.mono e q⟩
  | exc cc vs h1 => exact q.elim
  | bad => exact q.elim
theorem hs_ret {e : Expr} {m : ME} {pos : Pos} (he : PE X e (RdHE Z oi m a cls d)) : PS X (.Return (some e) pos) (RdH Z oi (sRet m) a cls d) := by
  refine ⟨fun pins s σ H D I ⟨ρ, env, h, S, E, q⟩ => (ps_ret he).run pins s σ H D I ⟨ρ, env, h, S, E, (post_onH q).imp (fun x H1 ⟨ρ1, v, h1, le, S1, r, q1⟩ => ?_) fun _ _ _ z => z⟩⟩
  exact q1 ρ1 x H1 Le.refl S1 r
theorem hs_asg {e : Expr} {m : ME} {j : Nat} {x : Str} {p pos : Pos} (hj : oi ≠ some j) (hN : X.N.Nodup) (hi : X.N[j]? = some x) (hx : Loc X.env.scope x) (hf : X.fn x = true ∨ X.env.scope.names.lookup x = some .local) (he : PE X e (RdHE Z oi m a cls d))
    (hs : swapsWithSole [.Name x p] e pos.line X.env = pure false) (hw : swappedStores [.Name x p] e X.env = pure none) : PS X (.Assign [.Name x p] e pos) (RdH Z oi (sAsg (.nm j) m) a cls d) := by
  refine ⟨fun pins s σ H D I ⟨ρ, env, h, S, E, q⟩ => (ps_asg he (pg_name hN hi hx hf) hs hw rfl).run pins s σ H D I ⟨ρ, env, h, S, E, (post_onH q).imp (fun v H1 ⟨ρ1, y, h1, le, S1, r, q1⟩ => ?_) fun _ _ _ z => z⟩⟩
  refine q1 ρ1 _ H1 Le.refl S1 ?_
  have E1 := (E.mono le).1.set r (inv_slot I hi)
  have ee : offE oi (env.set j (some y)) = (offE oi env).set j (some y) := by
    cases oi with
    | none => rfl
    | some i => exact List.set_comm _ _ (fun z => hj (by rw [z]))
  rw [ee]
  exact E1
end
end TB

/-! TB, the link: dict displays. -/
namespace TB
open L2 PySem PyProof.Rows PySem.Spec
section
variable {Z : Wl} {X : Cx} {W : WX}
theorem re_dsp0 {pos : Pos} : PE X (.Dict [] [] pos) (RdE Z (mDsp mNil) W) := by
  refine ⟨fun pins s σ H Q I ⟨ρ, env, h, S, E, q⟩ => pe_dnewK.run pins s σ H Q I fun p hp => ?_⟩
  have q : PostD Z.L ρ H (new (.dct 0 []) h) Q (Wat W σ) := q
  exact q (ext ρ h.n p) _ _ (S.le_ext hp) (S.push hp trivial ⟨.dK [], .nil, upd_same⟩) (.ref ext_same)
end
end TB

/-! TB, the link: three names stored at once; least and greatest. -/
namespace TB
open L2 PySem PyProof.Rows PySem.Spec
section
variable {Z : Wl} {atts : List Nat} {k d : Nat} {X : Cx} {W : WX} {pins : List (Addr × Obj)} {σ : St} {H : Hp} {s : Shared} {ρ : Rho} {h : Hv} {env : Env}
theorem of_three {vs : List D} (h : vs.length = 3) : ∃ a b c, vs = [a, b, c] := by
  match vs, h with
  | [a, b, c], _ => exact ⟨a, b, c, rfl⟩
/-- a, b, c = x, y, z -/
theorem rs_par3 {i j l : Nat} {x y z : Str} {a b c : Expr} {ma mb mc : ME} {px py pz pt pos : Pos} {kt k2 pt2} (hc : X.calm = true) (hN : X.N.Nodup) (hi : X.N[i]? = some x) (hj : X.N[j]? = some y) (hl : X.N[l]? = some z) (hij : i ≠ j) (hil : i ≠ l) (hjl : j ≠ l)
    (hx : X.env.scope.names.lookup x = some .local) (hy : X.env.scope.names.lookup y = some .local) (hz : X.env.scope.names.lookup z = some .local)
    (ha : PE X a (RdE Z ma W)) (hb : PE X b (RdE Z mb W)) (hcc : PE X c (RdE Z mc W)) (na : noStar a = true) (nb : noStar b = true) (nc : noStar c = true) (hw : swappedStores [.Tuple [.Name x px, .Name y py, .Name z pz] kt pt] (.Tuple [a, b, c] k2 pt2) X.env = pure (some [x, y, z])) :
    PS X (.Assign [.Tuple [.Name x px, .Name y py, .Name z pz] kt pt] (.Tuple [a, b, c] k2 pt2) pos) (RdS Z (sAsg (.tup (.cons (.nm i) (.cons (.nm j) (.cons (.nm l) .nil)))) (mTup (mCons ma (mCons mb (mCons mc mNil))))) W) := by
  refine ⟨fun pins s σ H D I ⟨ρ, env, h, S, E, q⟩ => (ps_par3 hc hN hi hj hl hij hil hjl hx hy hz (ra_cons ha (ra_cons hb (ra_cons hcc ra_nil nc) nb) na) hw rfl).run pins s σ H D I ?_⟩
  have q' : PostS Z.L ρ H (onR env (mCons ma (mCons mb (mCons mc mNil)) env h) fun vs h => match vs with
    | [u, v, w] => .nx (((env.set i (some u)).set j (some v)).set l (some w)) h
    | _ => .bad) D W := by
    have q : PostS Z.L ρ H (onR env ((mCons ma (mCons mb (mCons mc mNil)) env h).bind fun vs h => bif Nat.ble vs.length line then .ok (.tup vs) h else .bad) fun v h => match asgT (.tup (.cons (.nm i) (.cons (.nm j) (.cons (.nm l) .nil)))) [v] env with
      | some σ => .nx σ h
      | none => .bad) D W := q
    cases e : mCons ma (mCons mb (mCons mc mNil)) env h with
    | ok vs h1 =>
      rw [e] at q
      obtain ⟨u, v, w, rfl⟩ := of_three (three_len e)
      exact q
    | exc c v h1 => rw [e] at q; exact q
    | bad => rw [e] at q; exact q
  refine ⟨ρ, env, h, S, E, (post_on (R' := fun ρ H d v => RelL Z.L ρ H d v) E q').imp (fun xs H1 ⟨ρ1, vs, h1, e, le, S1, rl, q1⟩ => ?_) fun _ _ _ z => z⟩
  obtain ⟨u, v, w, rfl⟩ := of_three (three_len e)
  match xs, rl with
  | [x1, x2, x3], .cons r1 (.cons r2 (.cons r3 .nil)) =>
    refine ⟨x1, x2, x3, rfl, q1 ρ1 _ H1 Le.refl S1 ?_⟩
    exact (((E.mono le).set r1 (inv_slot I hi)).set r2 (by rw [List.length_set]; exact inv_slot I hj)).set r3 (by rw [List.length_set, List.length_set]; exact inv_slot I hl)
/-! least, greatest -/
theorem minI_ok : ∀ (r : List Int) (m : Int), (minI m r = m ∨ minI m r ∈ r) ∧ minI m r ≤ m ∧ ∀ y ∈ r, minI m r ≤ y
  | [], m => ⟨.inl rfl, Int.le_refl _, fun y h => nomatch h⟩
  | x :: r, m => by
    have e : minI m (x :: r) = minI (if x < m then x else m) r := rfl
    rw [e]
    obtain ⟨h1, h2, h3⟩ := minI_ok r (if x < m then x else m)
    by_cases c : x < m
    · rw [if_pos c] at h1 h2 h3 ⊢
      refine ⟨?_, by omega, fun y hy => ?_⟩
      · rcases h1 with h1 | h1
        · exact .inr (by rw [h1]; exact List.mem_cons_self)
        · exact .inr (List.mem_cons_of_mem _ h1)
      · rcases List.mem_cons.mp hy with z | z
        · rw [z]; exact h2
        · exact h3 y z
    · rw [if_neg c] at h1 h2 h3 ⊢
      refine ⟨?_, h2, fun y hy => ?_⟩
      · rcases h1 with h1 | h1
        · exact .inl h1
        · exact .inr (List.mem_cons_of_mem _ h1)
      · rcases List.mem_cons.mp hy with z | z
        · rw [z]; omega
        · exact h3 y z
theorem maxI_ok : ∀ (r : List Int) (m : Int), (maxI m r = m ∨ maxI m r ∈ r) ∧ m ≤ maxI m r ∧ ∀ y ∈ r, y ≤ maxI m r
  | [], m => ⟨.inl rfl, Int.le_refl _, fun y h => nomatch h⟩
  | x :: r, m => by
    have e : maxI m (x :: r) = maxI (if m < x then x else m) r := rfl
    rw [e]
    obtain ⟨h1, h2, h3⟩ := maxI_ok r (if m < x then x else m)
    by_cases c : m < x
    · rw [if_pos c] at h1 h2 h3 ⊢
      refine ⟨?_, by omega, fun y hy => ?_⟩
      · rcases h1 with h1 | h1
        · exact .inr (by rw [h1]; exact List.mem_cons_self)
        · exact .inr (List.mem_cons_of_mem _ h1)
      · rcases List.mem_cons.mp hy with z | z
        · rw [z]; exact h2
        · exact h3 y z
    · rw [if_neg c] at h1 h2 h3 ⊢
      refine ⟨?_, h2, fun y hy => ?_⟩
      · rcases h1 with h1 | h1
        · exact .inl h1
        · exact .inr (List.mem_cons_of_mem _ h1)
      · rcases List.mem_cons.mp hy with z | z
        · rw [z]; omega
        · exact h3 y z
theorem best_at {f : Int → List Int → Int} {x : D} {v : V} (S : Sim Z.L ρ h H) (r : RelD Z.L ρ H x v) {Q : VK} {Wk : WK} (q : PostD Z.L ρ H (bestR f x h) Q Wk) : ∃ p m l, v = .ref p ∧ Rd H p (.lst ((m :: l).map V.int)) ∧ Q (.int (f m l)) H := by
  unfold bestR at q
  split at q
  · rename_i m l e
    obtain ⟨ds, e1, e2⟩ := Option.bind_eq_some_iff.mp e
    obtain ⟨p, vs, rfl, g, rl⟩ := items_ok S r e1
    rw [ints_rel e2 rl] at g
    exact ⟨p, m, l, rfl, g, done q S (.int _)⟩
  · exact q.elim
theorem vals_two {xs : List V} {ds : List D} (r : RelL Z.L ρ H ds xs) {a b : D} (e : ds = [a, b]) : ∃ x y, xs = [x, y] ∧ RelD Z.L ρ H a x ∧ RelD Z.L ρ H b y := by
  subst e
  match xs, r with
  | [x, y], .cons r1 (.cons r2 .nil) => exact ⟨x, y, rfl, r1, r2⟩
theorem bi_min (hc : X.calm = true) : BiOk Z X W (.builtin "min") (fun vs h => biR .min vs h) := by
  intro pins s σ H ρ h ds xs us Q I S rv r q
  match ds, r with
  | [a], .cons r1 .nil =>
    obtain ⟨p, m, l, rfl, g, q2⟩ := best_at S r1 (show PostD Z.L ρ H (bestR minI a h) Q (Wat W σ) from q)
    refine cr_min hc pins s σ H _ us Q I rv ⟨p, m :: l, rfl, .inl g, by simp, fun z hz hy => ?_⟩
    obtain ⟨h1, h2, h3⟩ := minI_ok l m
    have e : z = minI m l := by
      have b1 : minI m l ∈ m :: l := by
        rcases h1 with w | w
        · rw [w]; exact List.mem_cons_self
        · exact List.mem_cons_of_mem _ w
      have b2 := hy _ b1
      have b3 : minI m l ≤ z := by
        rcases List.mem_cons.mp hz with w | w
        · rw [w]; exact h2
        · exact h3 _ w
      omega
    rw [e]
    exact q2
  | [a, b], .cons r1 (.cons r2 .nil) =>
    have q : PostD Z.L ρ H (min2R a b h) Q (Wat W σ) := q
    cases r1 <;> first | exact q.elim | skip
    cases r2 <;> first | exact q.elim | skip
    exact call_min2 hc pins s σ H _ us Q I rv ⟨_, _, rfl, done q S (.int _)⟩
  | [], _ => exact q.elim
  | _ :: _ :: _ :: _, _ => exact q.elim
theorem bi_max (hc : X.calm = true) : BiOk Z X W (.builtin "max") (fun vs h => biR .max vs h) := by
  intro pins s σ H ρ h ds xs us Q I S rv r q
  match ds, r with
  | [a], .cons r1 .nil =>
    obtain ⟨p, m, l, rfl, g, q2⟩ := best_at S r1 (show PostD Z.L ρ H (bestR maxI a h) Q (Wat W σ) from q)
    refine cr_max hc pins s σ H _ us Q I rv ⟨p, m :: l, rfl, .inl g, by simp, fun z hz hy => ?_⟩
    obtain ⟨h1, h2, h3⟩ := maxI_ok l m
    have e : z = maxI m l := by
      have b1 : maxI m l ∈ m :: l := by
        rcases h1 with w | w
        · rw [w]; exact List.mem_cons_self
        · exact List.mem_cons_of_mem _ w
      have b2 := hy _ b1
      have b3 : z ≤ maxI m l := by
        rcases List.mem_cons.mp hz with w | w
        · rw [w]; exact h2
        · exact h3 _ w
      omega
    rw [e]
    exact q2
  | [a, b], .cons r1 (.cons r2 .nil) =>
    have q : PostD Z.L ρ H (max2R a b h) Q (Wat W σ) := q
    cases r1 <;> first | exact q.elim | skip
    cases r2 <;> first | exact q.elim | skip
    exact call_max2 hc pins s σ H _ us Q I rv ⟨_, _, rfl, done q S (.int _)⟩
  | [], _ => exact q.elim
  | _ :: _ :: _ :: _, _ => exact q.elim
end
end TB

/-! TB, the link: dict comprehensions with tuples as keys. -/
namespace TB
open L2 PySem PyProof.Rows PySem.Spec
/-- what a turn stores -/
abbrev PutR := Addr → V → V → Hp → Hp → Prop
/-- {k: v for ..}: o0 the new dict, Put a store -/
def tDg (o0 : HO) (Put : PutR) (wi : TI) (g : TG) (tt : TT) (tk tv : TE) (vs : List Nat) : TE := fun σ H Q => wi σ H fun J Hi => ∀ D, Hi D = none → ∃ Z : Nat → Nat → Hp → Prop, (∃ n, Z 0 n (upd Hi D o0)) ∧ ∀ j n Ha, Z j n Ha →
  (J.stop j Ha ∧ Q (.ref D) Ha) ∨ (J.go j Ha ∧ ∃ Nx : Hp → Prop, (∀ Hb, Nx Hb → ∃ n', n' < n ∧ Z (j + 1) n' Hb) ∧ ∀ x Hb, J.yld j Ha x Hb → g x (wipe σ vs) Hb fun σc Hc => wipe σc vs = wipe σ vs ∧ tt σc Hc fun b Hd =>
    if b = true then tk σc Hd fun y He => tv σc He fun z Hf => ∃ Hg, Put D y z Hf Hg ∧ Nx Hg else Nx Hd)
def PutOk (o0 : HO) (Put : PutR) : Prop := (∀ (P : Program) (w : World) (H : Hp) (h : Heap), sysModules < h.objs.size → ObjOk P w H (h.push { cls := .type "dict", data := .dict #[] }) h.objs.size o0) ∧
  ∀ (Xb : Cx) (pins : List (Addr × Obj)) (σ : St) (H H' : Hp) (s : Shared) (D : Addr) (y z : V) (u r : Value) (Q : Unit → Shared → Prop) (E : Value → Shared → Prop), Xb.A.units < cLine → Inv Xb pins σ H s → Put D y z H H' → RelV y u → RelV z r →
    (∀ s', Inv Xb pins σ H' s' → Q () s') → wpAny (model Xb.prog Xb.w) Xb.A (dictSet D u r) Q E s
section
variable {X : Cx} {o0 : HO} {Put : PutR}
theorem pe_dg {kx vx tg iter : Expr} {ifs : List Expr} {scope : Scope} {own : List (Str × Nat)} {pos : Pos} {wi : TI} {g : TG} {tt : TT} {tk tv : TE} (OK : PutOk o0 Put) (hc : X.calm = true) (hu : X.A.units < cLine) (hN : X.N.Nodup) (hi : PI X tg iter wi) (ok : BlkOk X.N X.env.scope scope own)
    (hg : ∀ s H C cl fp, PG (Bk X scope s H C cl fp) tg g) (ht : ∀ s H C cl fp, PTs (Bk X scope s H C cl fp) ifs tt) (hk : ∀ s H C cl fp, PE (Bk X scope s H C cl fp) kx tk) (he : ∀ s H C cl fp, PE (Bk X scope s H C cl fp) vx tv) (hs : ∀ x, foldedSetIterable iter X.env x = pure x) :
    PE X (.DictComp kx vx [⟨tg, iter, ifs, 0⟩] scope pos) (tDg o0 Put wi g tt tk tv (own.map (·.2))) := by
  skip; refine ⟨fun pins s σ H Q I hw => ?_⟩
  rw [arm_eval_DictComp]
  have cells : ∀ y ∈ scope.names, y.2 = .free → ∃ c, X.env.cells.lookup y.1 = some c := fun y hy e => (ok.free y hy e).elim (fun k => I.ok.has _ (.inl k)) fun k => I.ok.has _ (.inr k)
  refine wpAny_comprehension_free (use := none) rfl hs (closure_ok cells) ok.kind (fun y hy e => by rw [ok.uniq y hy, e]) (thn (hi.run pins s σ H _ I hw) fun _ sx hx => thn hx fun _ sy ⟨it, fp, tn, J, Hy, e, Iy, T, sty, fy, q⟩ => ?_)
  subst e
  skip; refine wpAny_newObj_type (newEnv_comp ?_)
  generalize hD : sy.heap.objs.size = D
  have hDn : Hy D = none := Iy.hok.fresh (Nat.le_of_eq hD)
  obtain ⟨Z, ⟨n0, z0⟩, turn⟩ := q D hDn
  -- the new dict is laid
  generalize hsd : ({ sy with heap := sy.heap.push { cls := .type "dict", data := .dict #[] } } : Shared) = sd
  have kd : ∀ b o, sy.heap.get? b = some o → sd.heap.get? b = some o := fun b o e => by rw [← hsd]; exact Heap.get?_push_of_some _ e
  have Id : Inv X pins σ (upd Hy D o0) sd := by
    rw [← hsd]
    refine Iy.laid (t' := sy.toks) (fun b o e => Heap.get?_push_of_some _ e) (Nat.le_of_eq hD) ?_
    rw [← hD]
    exact OK.1 _ _ _ _ Iy.big
  have low : ∀ b ∈ fp, b < sy.heap.objs.size := fun b hb => let ⟨o, e, _⟩ := T.obj _ _ sty b hb; Heap.lt_size e
  have fd : ∀ b ∈ fp, FpOk X pins (upd Hy D o0) b ∧ b < sd.heap.objs.size := fun b hb =>
    ⟨⟨by rw [upd_ne (by rw [← hD]; exact Nat.ne_of_lt (low b hb))]; exact (fy b hb).1, (fy b hb).2⟩, let ⟨o, e, _⟩ := T.obj _ _ sty b hb; Heap.lt_size (kd b o e)⟩
  have Ib := block_start Id ok hN fd
  let cl := cellsFrom (sd.heap.objs.size + 1) scope.names (cloFrom X.env.cells scope.names [])
  have gB : PG (X.blk sd (upd Hy D o0) scope (compEnvC scope cl sd.heap.objs.size X.env) fp) tg g := hg sd (upd Hy D o0) sd.heap.objs.size cl fp
  have tB : PTs (X.blk sd (upd Hy D o0) scope (compEnvC scope cl sd.heap.objs.size X.env) fp) ifs tt := ht sd (upd Hy D o0) sd.heap.objs.size cl fp
  have kB : PE (X.blk sd (upd Hy D o0) scope (compEnvC scope cl sd.heap.objs.size X.env) fp) kx tk := hk sd (upd Hy D o0) sd.heap.objs.size cl fp
  have eB : PE (X.blk sd (upd Hy D o0) scope (compEnvC scope cl sd.heap.objs.size X.env) fp) vx tv := he sd (upd Hy D o0) sd.heap.objs.size cl fp
  have hdp : sd.heap = sy.heap.push { cls := .type "dict", data := .dict #[] } := by rw [← hsd]
  show codeAny (model X.prog X.w) X.A (.compStart (.DictComp kx vx [⟨tg, iter, ifs, 0⟩] scope pos) 0 (.ref it) (.ref D) (compEnvC scope cl sd.heap.objs.size X.env)) (compPost (model X.prog X.w) X.A X.xe none (EP X pins σ Q) (.ref D) sd.heap.objs.size) { sd with heap := pushCells (sd.heap.push { cls := .type "dict", data := .dict #[] }) scope.names }
  have stB : tn 0 (pushCells (sd.heap.push { cls := .type "dict", data := .dict #[] }) scope.names) := T.keep _ _ _ sty fun b _ o e => pushCells_keeps _ _ _ _ (Heap.get?_push_of_some _ (kd b o e))
  have bare : ∀ b ∈ fp, (upd Hy D o0) b = none := fun b hb => (fd b hb).1.1
  generalize hce : compEnvC scope cl sd.heap.objs.size X.env = ce at Ib gB tB kB eB ⊢
  have hL : ce.locals = sd.heap.objs.size := by rw [← hce]; rfl
  generalize hHd : upd Hy D o0 = Hd at Id fd Ib gB tB kB eB bare z0
  generalize hse : ({ sd with heap := pushCells (sd.heap.push { cls := .type "dict", data := .dict #[] }) scope.names } : Shared) = se at Ib ⊢
  have stE : tn 0 se.heap := by rw [← hse]; exact stB
  -- the iterator's own places stay out of sight
  have own_fp : ∀ {σ' : St} {H' : Hp} {s' : Shared}, Inv (X.blk sd Hd scope ce fp) [] σ' H' s' → (∀ b ∈ fp, H' b = none) → ∀ b ∈ fp, FpOk (X.blk sd Hd scope ce fp) [] H' b := fun {σ' H' s'} Iv nn b hb =>
    ⟨nn b hb, (Iv.ok.exf b hb).1, Iv.ok.exfs b hb, .inl hb, fun x c e => (Iv.ok.exf b hb).2 x c e, fun p hp => by simp at hp⟩
  have run : codeAny (model X.prog X.w) X.A (.compLoop (.DictComp kx vx [⟨tg, iter, ifs, 0⟩] scope pos) 0 (.ref it) (.ref D) ce) (compPost (model X.prog X.w) X.A X.xe none (EP X pins σ Q) (.ref D) sd.heap.objs.size) se := by
    refine compLoop_anyD (fun n s' => ∃ j Ha, Inv (X.blk sd Hd scope ce fp) [] (wipe σ (own.map (·.2))) Ha s' ∧ tn j s'.heap ∧ (∀ b ∈ fp, Ha b = none) ∧ Z j n Ha) ?_ n0 ⟨0, Hd, Ib, stE, bare, z0⟩
    rintro n sa ⟨j, Ha, Ia, sta, na, za⟩
    rcases turn j n Ha za with ⟨halt, fin⟩ | ⟨go, Nx, hNx, step⟩
    · refine thnF (T.done (X.blk sd Hd scope ce fp) rfl rfl rfl hc j [] sa _ Ha (fun _ _ => False) Ia (own_fp Ia na) sta halt) fun r sb ⟨hr, Ib2⟩ => ?_
      subst hr
      have Iz : Inv X pins σ Ha sb := Id.call' (ch := fp) Ib2.os Ib2.base Ib2.hok Ib2.bare fun b hb => ⟨(fd b hb).1.2.2.2.1, (fd b hb).1.2.1, (fd b hb).1.2.2.2.2.1, (fd b hb).1.2.2.2.2.2⟩
      have free : Ha sd.heap.objs.size = none := by rw [← hL]; exact Ib2.free
      obtain ⟨m, hm, _⟩ := Ib2.loc
      have hm : sb.heap.Ns ce.locals m := hm
      rw [hL] at hm
      refine ⟨m, hm, fun h'' sb2 => ?_⟩
      obtain ⟨f0, f1, f2, f3, f4, f5⟩ := Id.fpOk (Nat.le_refl _) free
      exact ⟨.ref D, Ha, Iz.turned (t' := sb.toks) (fun b o hb e => (sb2.2 b hb).trans e) f0 f1 f3 f4 f5, rfl, fin⟩
    · refine thnF (T.item (X.blk sd Hd scope ce fp) rfl rfl rfl hc j [] sa _ Ha (fun _ _ => False) Ia (own_fp Ia na) sta go) fun r sb ⟨u, hr, hb⟩ => ?_
      subst hr
      refine thnF hb fun _ sc ⟨x, Hb, Ib2, rx, yx, stc, nb⟩ => ?_
      have Ip := Ib2.pinned (own_fp Ib2 nb) (T.obj _ _ stc)
      refine thnF (gB.run _ sc _ Hb x u _ Ip rx (step x Hb yx)) fun _ sd2 ⟨σc, Hc, Ic, hw2, qc⟩ => ?_
      refine thnF (tB.run _ sd2 σc Hc _ Ic qc) fun b se2 ⟨Hd2, Id2, qd⟩ => ?_
      have next : ∀ {s' : Shared} {H' : Hp}, Inv (X.blk sd Hd scope ce fp) ([] ++ pinsAt fp sc.heap) σc H' s' → Nx H' → ∃ m, m < n ∧ ∃ i H', Inv (X.blk sd Hd scope ce fp) [] (wipe σ (own.map (·.2))) H' s' ∧ tn i s'.heap ∧ (∀ b ∈ fp, H' b = none) ∧ Z i m H' := fun {s' H'} Iv nx => by
        obtain ⟨m', hm, z'⟩ := hNx H' nx
        have pins' : ∀ b ∈ fp, ∀ o, sc.heap.get? b = some o → s'.heap.get? b = some o ∧ H' b = none := fun b hb o e =>
          let z := Iv.pin (b, o) (List.mem_append_right _ (List.mem_append_right _ (mem_pinsAt hb e)))
          ⟨z.1, z.2.1⟩
        have hlen : (wipe σ (own.map (·.2))).length = σc.length := by rw [← hw2, wipe_length]
        refine ⟨m', hm, j + 1, H', (Iv.unpinned (pins := [])).weak hlen (fun i v e => (wipe_some (by rw [hw2]; exact e)).1), T.keep _ _ _ stc fun b hb o e => (pins' b hb o e).1, fun b hb => ?_, z'⟩
        obtain ⟨o, e, _⟩ := T.obj _ _ stc b hb
        exact (pins' b hb o e).2
      cases b with
      | false => exact next Id2 qd
      | true =>
        refine thnF (kB.run _ se2 σc Hd2 _ Id2 qd) fun ku sf ⟨yk, He, Ie, rk, qe⟩ => ?_
        refine thnF (eB.run _ sf σc He _ Ie qe) fun vu sg ⟨yv, Hf, If, rv, Hg, hput, nx⟩ => ?_
        exact OK.2 (X.blk sd Hd scope ce fp) _ σc Hf Hg sg D yk yv ku vu _ _ hu If hput rk rv fun s' Is => next Is nx
  exact codeAny_compStart_dict run (T.self X.A 0 _ _ _ stE run)
end
/-! ### the evaluator's dict comprehension -/
/-- a pair is stored -/
def Put0 : PutR := fun D y z H H' => (∃ kvs k, y = kV k ∧ H D = some (.dK kvs) ∧ kvs.length < sizeLine ∧ H' = upd H D (.dK (putK kvs k z))) ∨
  ∃ kvs k b, y = .ref b ∧ H b = some (.tup (k.map kV)) ∧ (H D = some (.dT kvs) ∨ (kvs = [] ∧ H D = some (.dK []))) ∧ kvs.length < sizeLine ∧ H' = upd H D (.dT (putK kvs k z))
theorem dset_T {X : Cx} {pins : List (Addr × Obj)} {σ : St} {H : Hp} {s : Shared} {E : Value → Shared → Prop} {D b : Addr} {kvs : List (List Key × V)} {k : List Key} {v : V} {r : Value} {Q : Unit → Shared → Prop} (hu : X.A.units < cLine) (I : Inv X pins σ H s) (e : H D = some (.dT kvs)) (eb : H b = some (.tup (k.map kV)))
    (hz : kvs.length < sizeLine) (rv : RelV v r) (h : ∀ s', Inv X pins σ (upd H D (.dT (putK kvs k v))) s' → Q () s') : wpAny (model X.prog X.w) X.A (dictSet D (.ref b) r) Q E s := by
  skip; obtain ⟨z, hd, xs, rel, dd⟩ := dt_of I.hok e
  have hxs : xs.length ≤ sizeLine := by rw [← Paired.length rel]; exact z
  skip; have hl : (putK kvs k v).length ≤ sizeLine := by have := length_putK kvs k v; omega
  refine wpAny_dictSet_heap (hsz := hxs) (knd := tupleKind (mixKind X.prog X.w)) hu (key_of I.hok eb) dd fun h' dd' hs => h _ ?_
  obtain ⟨o, es, ep, ho, h2, h3, h4, _, h5⟩ := dd'
  refine d_write I (by rw [e]; trivial) hs ⟨o, ho⟩ ⟨hl, hd, _, (rel.put k eb rv).keeps fun c ys ec => ?_, o, es, ep, ho, h2, h3, h4, h5⟩
  skip; rw [upd_ne (ne_of ec e (fun z => nomatch z))]
  exact ec
theorem put0_ok : PutOk (.dK []) Put0 := by
  refine ⟨fun P w H h hb => dk_empty h hb, fun Xb pins σ H H' s D y z u r Q E hu I p ry rz q => ?_⟩
  rcases p with ⟨kvs, k, rfl, e, hl, rfl⟩ | ⟨kvs, k, b, rfl, eb, e, hl, rfl⟩
  · exact d_dictSet I e hl ry rz q
  · obtain rfl : u = Value.ref b := ry
    rcases e with e | ⟨rfl, e⟩
    · exact dset_T hu I e eb hl rz q
    · have I2 := Inv.reT I e
      have nb : b ≠ D := fun w => by rw [w, e] at eb; cases eb
      have q2 : ∀ s', Inv Xb pins σ (upd (upd H D (.dT [])) D (.dT (putK [] k z))) s' → Q () s' := fun s' I3 => q s' (by
        have e1 : upd (upd H D (.dT [])) D (.dT (putK [] k z)) = upd H D (.dT (putK [] k z)) := by
          funext c
          by_cases w : c = D
          · rw [w, upd_same, upd_same]
          · rw [upd_ne w, upd_ne w, upd_ne w]
        rw [e1] at I3
        exact I3)
      exact dset_T hu I2 upd_same (by rw [upd_ne nb]; exact eb) hl rz q2
def NdO : HO → Prop
  | .dK va => (va.map (·.1)).Nodup
  | .dT va => (va.map (·.1)).Nodup
  | _ => False
/-- the state of a dict comprehension between turns -/
structure DgI (Z : Wl) (B : Addr) (ρ1 : Rho) (H1 : Hp) (ρ2 : Rho) (h2 : Hv) (H2 : Hp) (da : List (D × D)) (o : HO) : Prop where
  le : Le ρ1 H1 ρ2 H2
  S : Sim Z.L ρ2 h2 H2
  eD : H2 B = some o
  un : ∀ a, ρ2 a ≠ some B
  rel : RelDc Z.L ρ2 H2 da o
  nd : NdO o
  st : da = [] → o = .dK []
section
variable {Z : Wl} {atts : List Nat} {k d : Nat} {X : Cx} {W : WX} {pins : List (Addr × Obj)} {σ : St} {H : Hp} {s : Shared} {ρ : Rho} {h : Hv} {env : Env}
theorem ndo_good {o : HO} (n : NdO o) : Good o := by cases o <;> first | trivial | exact n.elim
theorem DgI.step {B : Addr} {ρ1 ρ2 ρ3 : Rho} {H1 H2 H3 : Hp} {h2 h3 : Hv} {da : List (D × D)} {o : HO} (c : DgI Z B ρ1 H1 ρ2 h2 H2 da o) (le : Le ρ2 H2 ρ3 H3) (S : Sim Z.L ρ3 h3 H3) : DgI Z B ρ1 H1 ρ3 h3 H3 da o :=
  let ⟨e, n⟩ := le.un _ _ c.eD c.un
  ⟨c.le.trans le, S, e, n, c.rel.mono le, c.nd, c.st⟩
theorem DgI.start {B : Addr} {ρ1 : Rho} {H1 : Hp} {h1 : Hv} (S : Sim Z.L ρ1 h1 H1) (hB : H1 B = none) : DgI Z B ρ1 H1 ρ1 h1 (upd H1 B (.dK [])) [] (.dK []) :=
  ⟨Le.fresh hB, S.fresh hB, upd_same, fun a e => (S.tr a B e).1 hB, .nil, List.nodup_nil, fun _ => rfl⟩
theorem DgI.fin {B : Addr} {ρ1 ρ2 : Rho} {H1 H2 : Hp} {h2 : Hv} {da : List (D × D)} {o : HO} (c : DgI Z B ρ1 H1 ρ2 h2 H2 da o) (hB : H1 B = none) {Q : VK} {Wk : WK} (q : PostD Z.L ρ1 H1 (new (.dct 0 da) h2) Q Wk) : Q (.ref B) H2 := by
  have le0 : Le0 ρ2 H2 (ext ρ2 h2.n B) H2 := ⟨fun a p e => by rw [ext_ne (Nat.ne_of_lt (c.S.lt a p e))]; exact e, fun _ _ z => z, fun _ _ z => z⟩
  exact q _ _ _ (c.le.adopt c.S hB) (c.S.adopt c.eD (ndo_good c.nd) c.un ⟨o, c.rel.mono0 le0, c.eD⟩) (.ref ext_same)
theorem dc_len {L : Lk} {da : List (D × D)} : ∀ {kvs : List (Key × V)}, RelDc L ρ H da (.dK kvs) → kvs.length = da.length := fun r => RelKv.length r
theorem dcT_len {L : Lk} {da : List (D × D)} : ∀ {kvs : List (List Key × V)}, RelDc L ρ H da (.dT kvs) → kvs.length = da.length := fun r => RelKv.length r
theorem dPut_ne (k v : D) (l : List (D × D)) : dPut k v l ≠ [] := by
  cases l with
  | nil => exact fun z => nomatch z
  | cons p r =>
    unfold dPut
    cases eqK p.1 k <;> exact fun z => nomatch z
theorem keyT_tup {k : D} {κ : List Key} (e : keyT k = some κ) : isTup k = true := by cases k <;> first | rfl | cases e
theorem keyS_tup {k : D} {κ : Key} (e : keyS k = some κ) : isTup k = false := by cases k <;> first | rfl | cases e
/-- a pair comes to it -/
theorem DgI.put {B : Addr} {ρ1 ρ2 : Rho} {H1 H2 : Hp} {h2 : Hv} {da : List (D × D)} {o : HO} (c : DgI Z B ρ1 H1 ρ2 h2 H2 da o) (hB : H1 B = none) {k y : D} {x v : V} (ok : dOk k 0 da = true) (rk : RelD Z.L ρ2 H2 k x) (r : RelD Z.L ρ2 H2 y v) (hz : da.length < sizeLine) :
    ∃ H3 o', Put0 B x v H2 H3 ∧ DgI Z B ρ1 H1 ρ2 h2 H3 (dPut k y da) o' := by
  obtain ⟨c1, c2⟩ := Bool.and_eq_true_iff.mp ok
  have grow : ∀ {o' : HO}, NdO o' → RelDc Z.L ρ2 H2 (dPut k y da) o' → DgI Z B ρ1 H1 ρ2 h2 (upd H2 B o') (dPut k y da) o' := fun {o'} n r' =>
    ⟨c.le.upd_new hB, c.S.upd_un c.eD (ndo_good c.nd) c.un, upd_same, c.un, r'.mono0 (Le0.upd_un c.eD (ndo_good c.nd)), n, fun z => absurd z (dPut_ne _ _ _)⟩
  have nd := c.nd
  have rel := c.rel
  have eD := c.eD
  have st := c.st
  rcases relK_of c1 rk with ⟨κ, ek, rfl⟩ | ⟨κ, b, ek, rfl, tp⟩
  · cases o <;> first | exact nd.elim | skip
    · rename_i va
      exact ⟨_, _, .inl ⟨va, κ, rfl, eD, by rw [dc_len rel]; exact hz, rfl⟩, grow (o' := .dK (putK va κ v)) (nodup_put nd) (RelKv.put (fun _ _ _ _ => keyS_eqK) ek r rel nd)⟩
    · rename_i va
      exfalso
      cases da with
      | nil => cases st rfl
      | cons p da =>
        have rel : RelKv Z.L ρ2 H2 keyT (p :: da) va := rel
        have c2 : (isTup p.1 == isTup k) = true := c2
        cases rel with
        | cons e0 _ _ =>
          rw [keyT_tup e0, keyS_tup ek] at c2
          cases c2
  · cases o <;> first | exact nd.elim | skip
    · rename_i va
      have : da = [] ∧ va = [] := by
        cases da with
        | nil =>
          have rel : RelKv Z.L ρ2 H2 keyS [] va := rel
          cases rel
          exact ⟨rfl, rfl⟩
        | cons p da =>
          exfalso
          have rel : RelKv Z.L ρ2 H2 keyS (p :: da) va := rel
          have c2 : (isTup p.1 == isTup k) = true := c2
          cases rel with
          | cons e0 _ _ =>
            rw [keyS_tup e0, keyT_tup ek] at c2
            cases c2
      obtain ⟨rfl, rfl⟩ := this
      exact ⟨_, _, .inr ⟨[], κ, b, rfl, tp, .inr ⟨rfl, eD⟩, hz, rfl⟩, grow (o' := .dT (putK [] κ v)) (nodup_put List.nodup_nil) (RelKv.put (fun _ _ _ _ => keyT_eqK) ek r .nil List.nodup_nil)⟩
    · rename_i va
      exact ⟨_, _, .inr ⟨va, κ, b, rfl, tp, .inl eD, by rw [dcT_len rel]; exact hz, rfl⟩, grow (o' := .dT (putK va κ v)) (nodup_put nd) (RelKv.put (fun _ _ _ _ => keyT_eqK) ek r rel nd)⟩
/-! pairs -/
theorem pairs_snoc : ∀ (l : List D) (acc : List (D × D)) (k v : D), pairsH (l ++ [.tup [k, v]]) acc = (pairsH l acc).bind fun a => dAdd k v a
  | [], acc, k, v => by
    show (match dAdd k v acc with
      | some acc => pairsH [] acc
      | none => none) = dAdd k v acc
    cases dAdd k v acc <;> rfl
  | x :: r, acc, k, v => by
    cases x <;> try rfl
    rename_i l
    match l with
    | [] => rfl
    | [_] => rfl
    | [a, b] =>
      show (match dAdd a b acc with
        | some acc => pairsH (r ++ [.tup [k, v]]) acc
        | none => none) = Option.bind (match dAdd a b acc with
        | some acc => pairsH r acc
        | none => none) _
      cases dAdd a b acc with
      | some acc => exact pairs_snoc r _ k v
      | none => rfl
    | _ :: _ :: _ :: _ => rfl
theorem dAdd_len {k v : D} {acc a : List (D × D)} (e : dAdd k v acc = some a) : a.length ≤ acc.length + 1 ∧ dOk k 0 acc = true ∧ a = dPut k v acc := by
  unfold dAdd at e
  cases c : dOk k 0 acc with
  | false => rw [c] at e; cases e
  | true => rw [c] at e; cases e; exact ⟨dPut_len k v acc, rfl, rfl⟩
theorem pairs_len : ∀ (l : List D) (acc a : List (D × D)), pairsH l acc = some a → a.length ≤ acc.length + l.length
  | [], acc, a, e => by cases e; exact Nat.le_refl _
  | x :: r, acc, a, e => by
    cases x <;> first | (cases e; done) | skip
    rename_i l
    match l, e with
    | [k, v], e =>
      have e : (match dAdd k v acc with
        | some acc => pairsH r acc
        | none => none) = some a := e
      cases c : dAdd k v acc with
      | none => rw [c] at e; cases e
      | some acc' =>
        rw [c] at e
        have h1 := pairs_len r _ a e
        have h2 := (dAdd_len c).1
        simp
        omega
/-- what is gathered, in parts -/
theorem pairs_pre : ∀ (l m : List D) (acc a : List (D × D)), pairsH (l ++ m) acc = some a → ∃ b, pairsH l acc = some b
  | [], m, acc, a, e => ⟨acc, rfl⟩
  | x :: r, m, acc, a, e => by
    cases x <;> first | (cases e; done) | skip
    rename_i l
    match l, e with
    | [k, v], e =>
      have e : (match dAdd k v acc with
        | some acc => pairsH (r ++ m) acc
        | none => none) = some a := e
      show ∃ b, (match dAdd k v acc with
        | some acc => pairsH r acc
        | none => none) = some b
      cases c : dAdd k v acc with
      | none => rw [c] at e; cases e
      | some acc' => rw [c] at e; exact pairs_pre r m acc' a e
theorem kv_pre {t : Tg} {it : TB.It} {env : Env} {mk mv : ME} {mt : MT} : ∀ (n i : Nat) (h : Hv) (acc acc' : List D) (h' : Hv), compL t it env (genTurn mt (gEkv mk mv)) n i h acc = .ok acc' h' → ∃ m, acc' = m ++ acc := by
  have turn : ∀ (env : Env) (h : Hv) (acc acc' : List D) (h' : Hv), genTurn mt (gEkv mk mv) env h acc = .ok acc' h' → ∃ m, acc' = m ++ acc := by
    intro env h acc acc' h' e
    obtain ⟨b, h1, e1, e2⟩ := bind_ok e
    cases b with
    | false => cases e2; exact ⟨[], rfl⟩
    | true =>
      obtain ⟨x, h2, e3, e4⟩ := bind_ok e2
      obtain ⟨y, h3, e5, e6⟩ := bind_ok e4
      cases c : keyOk x with
      | false => rw [c] at e6; cases e6
      | true => rw [c] at e6; cases e6; exact ⟨[_], rfl⟩
  intro n
  induction n with
  | zero =>
    intro i h acc acc' h' e
    unfold compL at e
    split at e
    · cases e; exact ⟨[], rfl⟩
    · split at e <;> cases e
    · cases e
  | succ n ih =>
    intro i h acc acc' h' e
    unfold compL at e
    split at e
    · cases e; exact ⟨[], rfl⟩
    · split at e
      · obtain ⟨a1, h1, e1, e2⟩ := bind_ok e
        obtain ⟨m, rfl⟩ := turn _ _ _ _ _ e1
        obtain ⟨m2, rfl⟩ := ih _ _ _ _ _ e2
        exact ⟨m2 ++ m, by rw [List.append_assoc]⟩
      · cases e
    · cases e
theorem kv_grows {mk mv : ME} {mt : MT} : Grows (genTurn mt (gEkv mk mv)) := by
  intro env h acc acc' h' e
  obtain ⟨b, h1, e1, e2⟩ := bind_ok e
  cases b with
  | false => cases e2; exact Nat.le_refl _
  | true =>
    obtain ⟨x, h2, e3, e4⟩ := bind_ok e2
    obtain ⟨y, h3, e5, e6⟩ := bind_ok e4
    cases c : keyOk x with
    | false => rw [c] at e6; cases e6
    | true => rw [c] at e6; cases e6; exact Nat.le_succ _
theorem dc_end {env0 : Env} {g : MG} {Q : VK} {Wk : WK} (q : PostD Z.L ρ H ((nox (g env env0 h [])).bind fun acc h => dictEnd acc.reverse h) Q Wk) : ∃ acc h' kd, g env env0 h [] = .ok acc h' ∧ acc.length ≤ sizeLine ∧ pairsH acc.reverse [] = some kd ∧ PostD Z.L ρ H (new (.dct 0 kd) h') Q Wk := by
  cases e : g env env0 h [] with
  | ok acc h' =>
    rw [e] at q
    have q : PostD Z.L ρ H (match pairsH acc.reverse [] with
      | some kvs => bif Nat.ble acc.reverse.length line then new (.dct 0 kvs) h' else .bad
      | none => .bad) Q Wk := q
    cases e2 : pairsH acc.reverse [] with
    | none => rw [e2] at q; exact q.elim
    | some kd =>
      rw [e2] at q
      obtain ⟨c, q2⟩ := post_bif q
      exact ⟨acc, h', kd, rfl, by have := ble_line c; simpa using this, e2, q2⟩
  | exc c v h' => rw [e] at q; exact q.elim
  | bad => rw [e] at q; exact q.elim
theorem dc_t {own : List (Str × Nat)} {t : Tg} {mi : MI} {mt : MT} {mk mv : ME} {Q : VK} (hv : ∀ i ∈ tgVars t, i ∈ own.map (·.2)) (hw : RdE Z (mDc (own.map (·.2)) (gGen t mi mt (gEkv mk mv))) W σ H Q) :
    tDg (.dK []) Put0 (RdI Z mi W) (RdG Z t) (RdT Z mt W0) (RdE Z mk W0) (RdE Z mv W0) (own.map (·.2)) σ H Q := by
  obtain ⟨ρ, env, h, S, E, q⟩ := hw
  refine ⟨ρ, env, h, S, E, ?_⟩
  obtain ⟨acc, hF, kd, eF, hz, ekd, qF⟩ := dc_end q
  rw [gen_eq] at eF
  obtain ⟨it, h1, e1, e2⟩ := bind_ok eF
  obtain ⟨acc', h', e3, e4⟩ := bind_ok e2
  rw [e1]
  intro ρ1 J H1 le1 S1 ⟨nd, J1⟩ D hD
  rw [lock_none nd] at e3
  obtain ⟨rfl, rfl⟩ := unlock_ok nd e4
  have E1 := ((E.mono le1).wiped (own.map (·.2))).less (tgVars t)
  generalize hen : wipeE (tgVars t) (wipeE (own.map (·.2)) env) = en0 at e3 E1
  refine ⟨fun i n H2 => ∃ ρ2 h2 l da o, DgI Z D ρ1 H1 ρ2 h2 H2 da o ∧ pairsH l [] = some da ∧ compL t it en0 (genTurn mt (gEkv mk mv)) n i h2 l.reverse = .ok acc' h', ⟨_, ρ1, h1, [], [], .dK [], DgI.start S1 hD, rfl, e3⟩, ?_⟩
  rintro i n H2 ⟨ρ2, h2, l, da, o, c, el, e⟩
  have J2 := J1 ρ2 h2 H2 i c.le.toLe1 c.S
  unfold compL at e
  cases ea : it.at? h2 i with
  | none => rw [ea] at e; cases e
  | some oa =>
    rw [ea] at e J2
    cases oa with
    | none =>
      have e : Res.ok l.reverse h2 = .ok acc' h' := e
      cases e
      rw [List.reverse_reverse, el] at ekd
      cases ekd
      exact .inl ⟨J2, c.fin hD (Post.mono le1 qF)⟩
    | some x =>
      obtain ⟨go, yl⟩ := J2
      simp only at e
      cases eb : asgT t [x] en0 with
      | none => rw [eb] at e; cases e
      | some env3 =>
        rw [eb] at e
        cases n with
        | zero => cases e
        | succ n =>
          simp only at e
          refine .inr ⟨go, fun H3 => ∃ ρ3 h3 l da o, DgI Z D ρ1 H1 ρ3 h3 H3 da o ∧ pairsH l [] = some da ∧ compL t it en0 (genTurn mt (gEkv mk mv)) n (i + 1) h3 l.reverse = .ok acc' h', fun H3 z => ⟨n, Nat.lt_succ_self n, z⟩, fun v H' yv => ?_⟩
          obtain ⟨ρ3, le3, S3, rv⟩ := yl v H' yv
          refine ⟨ρ3, _, h2, x, env3, S3, E1.mono (c.le.trans le3), rv, eb, fun ρ4 σ4 H4 le4 S4 E4 w4 => ⟨(w4 _ hv).trans (wipe_idem _), ρ4, env3, h2, S4, E4, ?_⟩⟩
          obtain ⟨a5, h6, e5, e6⟩ := bind_ok e
          obtain ⟨b, h5, e7, e8⟩ := bind_ok e5
          rw [e7]
          intro ρ5 b' H5 le5 S5 eb'
          cases eb'
          have c5 := c.step (le3.trans (le4.trans le5)) S5
          cases b with
          | false =>
            cases e8
            exact ⟨ρ5, h6, l, da, o, c5, el, e6⟩
          | true =>
            obtain ⟨kx, h7, e9, e10⟩ := bind_ok e8
            obtain ⟨y, h8, e11, e12⟩ := bind_ok e10
            cases ck : keyOk kx with
            | false => rw [ck] at e12; cases e12
            | true =>
              rw [ck] at e12
              cases e12
              refine ⟨ρ5, env3, h5, S5, E4.mono le5, ?_⟩
              rw [e9]
              intro ρ6 w6 H6 le6 S6 r6
              refine ⟨ρ6, env3, h7, S6, (E4.mono le5).mono le6, ?_⟩
              rw [e11]
              intro ρ7 w7 H7 le7 S7 r7
              have c7 := (c5.step le6 S6).step le7 S7
              have gl := compL_grows kv_grows _ _ _ _ _ _ e6
              have pl := pairs_len _ _ _ el
              obtain ⟨m, em⟩ := kv_pre _ _ _ _ _ _ e6
              have ekd2 := ekd
              rw [em, List.reverse_append, List.reverse_cons, List.reverse_reverse] at ekd2
              obtain ⟨da2, ed2⟩ := pairs_pre _ _ _ _ ekd2
              have ed3 := ed2
              rw [pairs_snoc, el] at ed3
              obtain ⟨_, d1, d2⟩ := dAdd_len (show dAdd kx y da = some da2 from ed3)
              subst d2
              obtain ⟨H8, o', p8, c8⟩ := c7.put hD d1 (r6.mono le7) r7 (by simp at gl pl; omega)
              exact ⟨H8, p8, ρ7, h6, l ++ [.tup [kx, y]], dPut kx y da, o', c8, ed2, by rw [List.reverse_append]; exact e6⟩
section
variable {kx vx tg iter : Expr} {ifs : List Expr} {scope : Scope} {own : List (Str × Nat)} {pos : Pos} {t : Tg} {mi : MI} {mt : MT} {mk mv : ME}
theorem re_dc (hc : X.calm = true) (hu : X.A.units < cLine) (hN : X.N.Nodup) (hi : PI X tg iter (RdI Z mi W)) (ok : BlkOk X.N X.env.scope scope own) (hv : ∀ i ∈ tgVars t, i ∈ own.map (·.2))
    (hg : ∀ s H C cl fp, PG (Bk X scope s H C cl fp) tg (RdG Z t)) (ht : ∀ s H C cl fp, PTs (Bk X scope s H C cl fp) ifs (RdT Z mt W0)) (hk : ∀ s H C cl fp, PE (Bk X scope s H C cl fp) kx (RdE Z mk W0)) (he : ∀ s H C cl fp, PE (Bk X scope s H C cl fp) vx (RdE Z mv W0)) (hs : ∀ x, foldedSetIterable iter X.env x = pure x) :
    PE X (.DictComp kx vx [⟨tg, iter, ifs, 0⟩] scope pos) (RdE Z (mDc (own.map (·.2)) (gGen t mi mt (gEkv mk mv))) W) :=
  ⟨fun pins s σ H Q I hw => (pe_dg put0_ok hc hu hN hi ok hg ht hk he hs).run pins s σ H Q I (dc_t hv hw)⟩
end
end
end TB

/-! TB, the link: a display of one pair; walks over keys; sorted. -/
namespace TB
open L2 PySem PyProof.Rows PySem.Spec
section
variable {Z : Wl} {atts : List Nat} {k d : Nat} {X : Cx} {W : WX} {pins : List (Addr × Obj)} {σ : St} {H : Hp} {s : Shared} {ρ : Rho} {h : Hv} {env : Env}
theorem res_assoc {α β γ : Type} (r : Res α) (f : α → Hv → Res β) (g : β → Hv → Res γ) : (r.bind f).bind g = r.bind fun x h => (f x h).bind g := by cases r <;> rfl
theorem tup_only {β : Type} {ms : ML} {env : Env} {h : Hv} (f : TB.D → Hv → Res β) : (mTup ms env h).bind f = (mTup ms env h).bind fun x h => match x with
    | .tup l => f (.tup l) h
    | _ => .bad := by
  unfold mTup
  cases ms env h with
  | ok vs h1 => show (bif Nat.ble vs.length line then Res.ok (TB.D.tup vs) h1 else .bad).bind _ = (bif Nat.ble vs.length line then Res.ok (TB.D.tup vs) h1 else .bad).bind _; cases Nat.ble vs.length line <;> rfl
  | exc c v h1 => rfl
  | bad => rfl
/-- {k: v}, k a tuple -/
theorem re_dsp1 {kx vx : Expr} {ms : ML} {mv : ME} {pos : Pos} (hu : X.A.units < cLine) (hk : PE X kx (RdE Z (mTup ms) W)) (hv : PE X vx (RdE Z mv W)) : PE X (.Dict [some kx] [vx] pos) (RdE Z (mDsp (mCons (mTup ms) (mCons mv mNil))) W) := by
  refine ⟨fun pins s σ H Q I ⟨ρ, env, h, S, E, q⟩ => ?_⟩
  have eq0 : mDsp (mCons (mTup ms) (mCons mv mNil)) env h = (mTup ms env h).bind fun x h => (mv env h).bind fun y h => match pairsUp [x, y] with
    | some ps => match pairsD ps [] with
      | some kvs => new (.dct 0 kvs) h
      | none => .bad
    | none => .bad := by
    show (((mTup ms env h).bind fun x h => ((mv env h).bind fun y h => (Res.ok [] h).bind fun xs h => .ok (y :: xs) h).bind fun xs h => .ok (x :: xs) h).bind _) = _
    rw [res_assoc]
    congr 1
    funext x h
    rw [res_assoc, res_assoc]
    rfl
  rw [eq0, tup_only] at q
  rw [arm_eval_Dict, zip_pairTrees [some kx] [vx] X.env pos rfl rfl, dictDisplay_pairs (pairTrees [some kx] [vx] X.env pos) (by simp [pairTrees]) (by simp [pairTrees])]
  skip; have hn := I.hok.fresh (Nat.le_refl s.heap.objs.size)
  generalize hD : s.heap.objs.size = B at hn
  have I1 : Inv X pins σ (upd H B (.dT [])) { s with heap := s.heap.push { cls := .type "dict", data := .dict #[] } } := by
    rw [← hD]
    exact I.laid (o := .dT []) (t' := s.toks) (fun _ _ q => Heap.get?_push_of_some _ q) (Nat.le_refl _) (dt_empty s.heap I.big)
  refine wpAny_bind (wpAny_standAt (wpAny_bind (wpAny_subDictH (knd := tupleKind (mixKind X.prog X.w)) hu (by simp [pairTrees]) ?_)))
  rw [hD]
  have S1 : Sim Z.L ρ h (upd H B (.dT [])) := S.fresh hn
  have le1 : Le ρ H ρ (upd H B (.dT [])) := Le.fresh hn
  have un1 : ∀ a, ρ a ≠ some B := fun a e => (S.tr a B e).1 hn
  have E1 := E.mono le1
  have P1 : PostD Z.L ρ (upd H B (.dT [])) (mTup ms env h) (fun x H2 => ∃ ρ2 v h2, mTup ms env h = .ok v h2 ∧ Le ρ (upd H B (.dT [])) ρ2 H2 ∧ Sim Z.L ρ2 h2 H2 ∧ RelD Z.L ρ2 H2 v x) (Wat W σ) := by
    cases e : mTup ms env h with
    | ok v h2 => exact fun ρ2 x H2 le2 S2 r2 => ⟨ρ2, v, h2, rfl, le2, S2, r2⟩
    | exc c v h2 => rw [e] at q; exact fun ρ2 x H2 le2 S2 r2 => q ρ2 x H2 (le1.trans le2) S2 r2
    | bad => rw [e] at q; exact q.elim
  refine pairTrees_cons_walk (thn (hk.run pins _ σ _ _ I1 ⟨ρ, env, h, S1, E1, P1⟩) fun u s2 ⟨x, H2, I2, rx, ρ2, v, h2, ev, le2, S2, r2⟩ => ?_)
  rw [ev] at q
  have q : PostD Z.L ρ H (match (generalizing := false) v with
    | .tup l => (mv env h2).bind fun y h => match pairsUp [.tup l, y] with
      | some ps => match pairsD ps [] with
        | some kvs => new (.dct 0 kvs) h
        | none => .bad
      | none => .bad
    | _ => .bad) Q (Wat W σ) := q
  obtain ⟨l, b, vs, rfl, rfl, tp, rl⟩ : ∃ l b vs, v = .tup l ∧ x = .ref b ∧ Tp H2 b vs ∧ RelL Z.L ρ2 H2 l vs := by cases r2 <;> first | exact q.elim | exact ⟨_, _, _, rfl, rfl, by assumption, by assumption⟩
  have q : PostD Z.L ρ H ((mv env h2).bind fun y h => match (bif keyOk (.tup l) then some [(TB.D.tup l, y)] else none : Option (List (TB.D × TB.D))) with
    | some kvs => new (.dct 0 kvs) h
    | none => .bad) Q (Wat W σ) := q
  have le02 := le1.trans le2
  have P2 : PostD Z.L ρ2 H2 (mv env h2) (fun y H3 => ∃ ρ3 v3 h3, mv env h2 = .ok v3 h3 ∧ Le ρ2 H2 ρ3 H3 ∧ Sim Z.L ρ3 h3 H3 ∧ RelD Z.L ρ3 H3 v3 y) (Wat W σ) := by
    cases e : mv env h2 with
    | ok v h3 => exact fun ρ3 x H3 le3 S3 r3 => ⟨ρ3, v, h3, rfl, le3, S3, r3⟩
    | exc c v h3 => rw [e] at q; exact fun ρ3 x H3 le3 S3 r3 => q ρ3 x H3 (le02.trans le3) S3 r3
    | bad => rw [e] at q; exact q.elim
  refine thn (hv.run pins s2 σ H2 _ I2 ⟨ρ2, env, h2, S2, E.mono le02, P2⟩) fun w s3 ⟨y, H3, I3, ry, ρ3, v3, h3, ev3, le3, S3, r3⟩ => pairTrees_nil_walk ?_
  rw [ev3] at q
  obtain ⟨e3, un3⟩ := (le2.trans le3).un B _ upd_same un1
  have q : PostD Z.L ρ H (match (bif keyOk (.tup l) then some [(TB.D.tup l, v3)] else none : Option (List (TB.D × TB.D))) with
    | some kvs => new (.dct 0 kvs) h3
    | none => .bad) Q (Wat W σ) := q
  cases ck : keyOk (.tup l) with
  | false => rw [ck] at q; exact q.elim
  | true =>
    rw [ck] at q
    have q : PostD Z.L ρ H (new (.dct 0 [(.tup l, v3)]) h3) Q (Wat W σ) := q
    obtain ⟨κ, eκ⟩ := keys_some (show l.all key1 = true from ck)
    have ev : vs = κ.map kV := keysS_rel eκ rl
    subst ev
    have tb : H3 b = some (.tup (κ.map kV)) := le3.tup _ _ tp
    obtain rfl : u = Value.ref b := rx
    obtain ⟨z, hd, xs, rel, dd⟩ := dt_of I3.hok e3
    cases rel
    refine ⟨[(κ, b, w)], ⟨rfl, rfl, key_of I3.hok tb, trivial⟩, dd, fun h' tk dd' hs => wpAny_pure ⟨.ref B, upd H3 B (.dT [(κ, y)]), ?_, rfl, ?_⟩⟩
    · have dd' : h'.DictOfH (tupleKind (mixKind X.prog X.w)) B [(κ, b, w)] := dd'
      obtain ⟨o, es, ep, ho, h2', h3', h4', _, h5'⟩ := dd'
      refine d_write I3 (by rw [e3]; trivial) hs ⟨o, ho⟩ ⟨by show 1 ≤ sizeLine; rw [sizeLine_eq]; omega, hd, [(κ, b, w)], .cons ⟨rfl, ?_, ry⟩ .nil, o, es, ep, ho, h2', h3', h4', h5'⟩
      rw [upd_ne (fun w => by have w : b = B := w; rw [w, e3] at tb; cases tb)]
      exact tb
    · have c : DgI Z B ρ H ρ3 h3 (upd H3 B (.dT [(κ, y)])) [(.tup l, v3)] (.dT [(κ, y)]) := by
        have le03 : Le0 ρ3 H3 ρ3 (upd H3 B (.dT [(κ, y)])) := Le0.upd_un e3 trivial
        have rel3 : RelKv Z.L ρ3 H3 keyT [(TB.D.tup l, v3)] [(κ, y)] := .cons eκ r3 .nil
        exact ⟨(le02.trans le3).upd_new hn, S3.upd_un e3 trivial un3, upd_same, un3, rel3.mono0 le03, by simp [NdO], fun w => nomatch w⟩
      exact c.fin hn q
/-! ### a list comprehension over a dict's keys: the dict is locked meanwhile -/
/-- the value, a dict, locked -/
def tLk (X : Cx) (te : TE) : TE := fun σ H Q => te σ H fun x H1 => ∃ p u, x = .ref p ∧ H1 p = some u ∧ Mut (some u) ∧ ∀ od, (∀ o' u', X.H_0 p ≠ some (.frz o' u')) → Q x (upd H1 p (.frz od u))
theorem pe_lk {e : Expr} {te : TE} (he : PE X e te) : PE X e (tLk X te) := by
  refine ⟨fun pins s σ H Q I hw => thn (he.run pins s σ H _ I hw) fun v s1 ⟨x, H1, I1, rx, p, u, ex, hp, mu, q⟩ => ?_⟩
  obtain ⟨od, I2⟩ := I1.lock hp mu
  exact ⟨x, _, I2, rx, q od (I1.nofrz hp mu)⟩
/-- with a locked dict let go again -/
def UnQ (X : Cx) (Q : VK) : VK := fun x H => ∃ p od u, H p = some (.frz od u) ∧ (∀ o' u', X.H_0 p ≠ some (.frz o' u')) ∧ Q x (upd H p u)
theorem pe_un {e : Expr} {te te' : TE} (he : PE X e te) (w : ∀ σ H Q, te' σ H Q → te σ H (UnQ X Q)) : PE X e te' :=
  ⟨fun pins s σ H Q I hw => thn (he.run pins s σ H _ I (w σ H Q hw)) fun v s1 ⟨x, H1, I1, rx, p, od, u, hp, hn, q⟩ => ⟨x, _, I1.unlock hp hn, rx, q⟩⟩
/-- a thing of the evaluator's that is walked, at each later state -/
def ItAt (L : Lk) (ρ0 : Rho) (H0 : Hp) (t : TB.It) (J : L2.It) : Prop := ∀ (ρ : Rho) (h : Hv) (H : Hp) (i : Nat), Le1 ρ0 H0 ρ H → Sim L ρ h H → match t.at? h i with
  | some none => J.stop i H
  | some (some x) => J.go i H ∧ ∀ v H', J.yld i H v H' → ∃ ρ', Le ρ H ρ' H' ∧ Sim L ρ' h H' ∧ RelD L ρ' H' x v
  | none => True
def jK (p : Addr) (od : Obj) : HO → L2.It
  | .dK kvs => Itk p od kvs
  | .dT kvs => Itkt p od kvs
  | _ => ⟨fun _ _ => False, fun _ _ _ _ => False, fun _ _ => False⟩
theorem keyS_val {L : Lk} {d : TB.D} {κ : Key} (e : keyS d = some κ) : RelD L ρ H d (kV κ) := by cases d <;> cases e <;> constructor
theorem keysS_val {L : Lk} : ∀ {l : List TB.D} {κ : List Key}, keysS l = some κ → RelL L ρ H l (κ.map kV)
  | [], _, e => by cases e; exact .nil
  | x :: r, κ, e => by
    unfold keysS at e
    split at e
    · rename_i k ks e1 e2
      cases e
      exact .cons (keyS_val e1) (keysS_val e2)
    · cases e
theorem kv_at {κ : Type} {L : Lk} {f : TB.D → Option κ} : ∀ {l : List (TB.D × TB.D)} {r : List (κ × V)}, RelKv L ρ H f l r → ∀ i, (∀ p, l[i]? = some p → ∃ q, r[i]? = some q ∧ f p.1 = some q.1) ∧ (l[i]? = none → r.length ≤ i)
  | _, _, .nil, i => ⟨fun p e => by simp at e, fun _ => Nat.zero_le _⟩
  | _, _, .cons (k := k) (d := d) (κ' := x) (v := v) e1 e2 t, 0 => ⟨fun p e => by cases e; exact ⟨(x, v), rfl, e1⟩, fun e => by cases e⟩
  | _, _, .cons e1 e2 t, i + 1 => ⟨fun p e => (kv_at t i).1 p e, fun e => Nat.succ_le_succ ((kv_at t i).2 e)⟩
theorem keys_it {L : Lk} {ρ1 : Rho} {HL : Hp} {a : Nat} {p : Addr} {od : Obj} {u : HO} {l : List (TB.D × TB.D)} (ea : ρ1 a = some p) (hp : HL p = some (.frz od u)) (r : RelDc L ρ1 HL l u) : ItAt L ρ1 HL (.keys a) (jK p od u) := by
  intro ρ h H i le S
  have ea' := le.rho _ _ ea
  have hp' := le.fz _ _ _ hp
  show match (match h.get a with
    | some (.dct _ l) => some ((l[i]?).map (·.1))
    | _ => none : Option (Option TB.D)) with
    | some none => (jK p od u).stop i H
    | some (some x) => (jK p od u).go i H ∧ ∀ v H', (jK p od u).yld i H v H' → ∃ ρ', Le ρ H ρ' H' ∧ Sim L ρ' h H' ∧ RelD L ρ' H' x v
    | none => True
  cases eo : h.get a with
  | none => trivial
  | some ob =>
    cases ob <;> try trivial
    rename_i lk l2
    obtain ⟨u2, r2, q2⟩ := S.at ea' eo
    have eu : u2 = u := by
      cases lk with
      | zero =>
        have q2 : H p = some u2 := q2
        rw [hp'] at q2
        cases q2
        exact r2.elim
      | succ n =>
        obtain ⟨o, q2⟩ := (show ∃ o, H p = some (.frz o u2) from q2)
        rw [hp'] at q2
        cases q2
        rfl
    subst eu
    show match some ((l2[i]?).map (·.1)) with
      | some none => (jK p od u2).stop i H
      | some (some x) => (jK p od u2).go i H ∧ ∀ v H', (jK p od u2).yld i H v H' → ∃ ρ', Le ρ H ρ' H' ∧ Sim L ρ' h H' ∧ RelD L ρ' H' x v
      | none => True
    cases u2 <;> first | exact r2.elim | skip
    · rename_i kvs
      have r2 : RelKv L ρ H keyS l2 kvs := r2
      have k := kv_at r2 i
      cases ei : l2[i]? with
      | none => exact ⟨hp', k.2 ei⟩
      | some pr =>
        obtain ⟨q, e1, e2⟩ := k.1 pr ei
        refine ⟨⟨hp', (List.getElem?_eq_some_iff.mp e1).1⟩, fun v H' ⟨e3, k', v', e4, e5⟩ => ⟨ρ, by rw [e3]; exact Le.refl, by rw [e3]; exact S, ?_⟩⟩
        rw [e1] at e4
        cases e4
        rw [e5]
        exact keyS_val e2
    · rename_i kvs
      have r2 : RelKv L ρ H keyT l2 kvs := r2
      have k := kv_at r2 i
      cases ei : l2[i]? with
      | none => exact ⟨hp', k.2 ei⟩
      | some pr =>
        obtain ⟨q, e1, e2⟩ := k.1 pr ei
        refine ⟨⟨hp', (List.getElem?_eq_some_iff.mp e1).1⟩, fun v H' ⟨e3, k', v', b, e4, e5, e6⟩ => ⟨ρ, by rw [e3]; exact Le.refl, by rw [e3]; exact S, ?_⟩⟩
        rw [e1] at e4
        cases e4
        rw [e5, e3]
        show RelD L ρ H pr.1 (.ref b)
        cases ep : pr.1 <;> rw [ep] at e2 <;> first | (cases e2; done) | skip
        exact .tup e6 (keysS_val e2)
theorem mut_dc {L : Lk} {l : List (TB.D × TB.D)} {u : HO} (r : RelDc L ρ H l u) : Mut (some u) ∧ NoFz (some u) ∧ Good u := by cases u <;> first | exact r.elim | exact ⟨trivial, trivial, trivial⟩
/-- the dict of an iterator over keys -/
theorem iKys_ok {me : ME} {it : TB.It} {h1 : Hv} (e : iKys me env h = .ok it h1) : ∃ a l, me env h = .ok (.ref a) h1 ∧ h1.get a = some (.dct 0 l) ∧ it = .keys a := by
  obtain ⟨x, h2, e1, e2⟩ := bind_ok e
  cases x <;> first | (cases e2; done) | skip
  rename_i a
  have e2 : (match h2.get a with
    | some (.dct 0 _) => Res.ok (TB.It.keys a) h2
    | _ => .bad) = .ok it h1 := e2
  split at e2
  · rename_i l eg
    cases e2
    exact ⟨a, l, e1, eg, rfl⟩
  · cases e2
theorem lock_at {h1 : Hv} {a : Nat} {l : List (TB.D × TB.D)} (e : h1.get a = some (.dct 0 l)) : lockI (.keys a) h1 = h1.put a (.dct 1 l) := by
  show lockD h1 a = _
  unfold lockD
  rw [e]
theorem le_un {ρ1 ρ2 : Rho} {H1 H2 : Hp} {a : Nat} {p : Addr} {od : Obj} {u : HO} (ea : ρ1 a = some p) (e : H1 p = some u) (g : Good u) (nf : NoFz (some u)) (le : Le ρ1 (upd H1 p (.frz od u)) ρ2 H2) : Le ρ1 H1 ρ2 (upd H2 p u) := by
  have ne : ∀ q o, H1 q = some o → o ≠ u → q ≠ p := fun q o h n z => by rw [z, e] at h; cases h; exact n rfl
  refine ⟨⟨⟨le.rho, fun q xs h => ?_, fun q fs h => ?_⟩, fun q o x h => ?_⟩, fun q o h n => ?_⟩
  · have n := ne q _ h (fun z => by rw [← z] at g; exact g)
    rw [upd_ne n]; exact le.tup q xs (by rw [upd_ne n]; exact h)
  · have n := ne q _ h (fun z => by rw [← z] at g; exact g)
    rw [upd_ne n]; exact le.xd q fs (by rw [upd_ne n]; exact h)
  · have n := ne q _ h (fun z => by rw [← z] at nf; exact nf)
    rw [upd_ne n]; exact le.fz q o x (by rw [upd_ne n]; exact h)
  · have nq : q ≠ p := fun z => n a (by rw [z]; exact ea)
    obtain ⟨h1, h2⟩ := le.un q o (by rw [upd_ne nq]; exact h) n
    exact ⟨by rw [upd_ne nq]; exact h1, h2⟩
theorem lcK_t {own : List (Str × Nat)} {t : Tg} {mi me : ME} {mt : MT} {Q : VK} (hv : ∀ i ∈ tgVars t, i ∈ own.map (·.2)) (hw : RdE Z (mLc (own.map (·.2)) (gGen t (iKys mi) mt (gElt me))) W σ H Q) :
    tLc (iKeys (tLk X (RdE Z mi W))) (RdG Z t) (RdT Z mt W0) (RdE Z me W0) (own.map (·.2)) σ H (UnQ X Q) := by
  obtain ⟨ρ, env, h, S, E, q⟩ := hw
  refine ⟨ρ, env, h, S, E, ?_⟩
  obtain ⟨acc, hF, eF, hz, qF⟩ := lc_end q
  rw [gen_eq] at eF
  obtain ⟨it, h1, e1, e2⟩ := bind_ok eF
  obtain ⟨acc', h', e3, e4⟩ := bind_ok e2
  obtain ⟨a, l, e5, eg, rfl⟩ := iKys_ok e1
  obtain ⟨rfl, rfl⟩ : acc' = acc ∧ unlockI (.keys a) h' = hF := by cases e4; exact ⟨rfl, rfl⟩
  rw [e5]
  intro ρ1 x H1 le1 S1 rx
  cases rx with
  | @ref _ p ea =>
    obtain ⟨u, ru, hu⟩ := S1.at ea eg
    have hu : H1 p = some u := hu
    obtain ⟨mu, nf, gu⟩ := mut_dc ru
    refine ⟨p, u, rfl, hu, mu, fun od hn => ⟨p, od, rfl, ?_⟩⟩
    have leL : Le ρ1 H1 ρ1 (upd H1 p (.frz od u)) := S1.le_put ea (by rw [hu]; exact nf)
    have ruL := ru.mono leL
    have SL : Sim Z.L ρ1 (h1.put a (.dct 1 l)) (upd H1 p (.frz od u)) := S1.put ea trivial ⟨u, ruL, od, upd_same⟩
    rw [lock_at eg] at e3
    have J1 := keys_it (L := Z.L) ea upd_same ruL
    have main : ∀ D, (upd H1 p (.frz od u)) D = none → ∃ Wn : Nat → Nat → Hp → Prop, (∃ m, Wn 0 m (upd (upd H1 p (.frz od u)) D (.lst []))) ∧ ∀ i m H, Wn i m H →
        ((jK p od u).stop i H ∧ UnQ X Q (.ref D) H) ∨ ((jK p od u).go i H ∧ ∃ Nx : Hp → Prop, (∀ H', Nx H' → ∃ m', m' < m ∧ Wn (i + 1) m' H') ∧ ∀ x H', (jK p od u).yld i H x H' → RdG Z t x (wipe σ (own.map (·.2))) H' fun σ2 H2 => wipe σ2 (own.map (·.2)) = wipe σ (own.map (·.2)) ∧ RdT Z mt W0 σ2 H2 fun b H3 =>
          if b = true then RdE Z me W0 σ2 H3 fun y H4 => ∃ acc, H4 D = some (.lst acc) ∧ acc.length < sizeLine ∧ Nx (upd H4 D (.lst (acc ++ [y]))) else Nx H3) := by
      intro D hD
      have E1 := (((E.mono le1).mono leL).wiped (own.map (·.2))).less (tgVars t)
      generalize hen : wipeE (tgVars t) (wipeE (own.map (·.2)) env) = en0 at e3 E1
      generalize hHL : upd H1 p (.frz od u) = HL at *
      have hpL : HL p = some (.frz od u) := by rw [← hHL]; exact upd_same
      refine ⟨fun i n H2 => ∃ ρ2 h2 da va, LcI Z D ρ1 HL ρ2 h2 H2 da va ∧ compL t (.keys a) en0 (genTurn mt (gElt me)) n i h2 da.reverse = .ok acc' h', ⟨_, ρ1, _, [], [], LcI.start SL hD, e3⟩, ?_⟩
      rintro i n H2 ⟨ρ2, h2, da, va, c, e⟩
      have J2 := J1 ρ2 h2 H2 i c.le.toLe1 c.S
      unfold compL at e
      cases eat : (TB.It.keys a).at? h2 i with
      | none => rw [eat] at e; cases e
      | some o =>
        rw [eat] at e J2
        cases o with
        | none =>
          have e : Res.ok da.reverse h2 = .ok acc' h' := e
          cases e
          rw [List.reverse_reverse] at qF
          refine .inl ⟨J2, p, od, u, c.le.fz _ _ _ hpL, hn, ?_⟩
          -- the dict is let go
          have hp2 := c.le.fz _ _ _ hpL
          have ea2 := c.le.rho _ _ ea
          have leU : Le ρ1 H1 ρ2 (upd H2 p u) := le_un ea hu gu nf (by rw [hHL]; exact c.le)
          have nD : D ≠ p := fun z => by rw [z, hpL] at hD; cases hD
          have SU : Sim Z.L ρ2 (unlockI (.keys a) h') (upd H2 p u) := by
            obtain ⟨ob, eo⟩ : ∃ ob, h'.get a = some ob := by
              have eat : (match h'.get a with
                | some (.dct _ l) => some ((l[i]?).map (·.1))
                | _ => none) = some none := eat
              cases q9 : h'.get a with
              | none => rw [q9] at eat; cases eat
              | some ob => exact ⟨ob, rfl⟩
            have eat : (match h'.get a with
              | some (.dct _ l) => some ((l[i]?).map (·.1))
              | _ => none) = some none := eat
            rw [eo] at eat
            cases ob <;> first | (cases eat; done) | skip
            rename_i lk l2
            obtain ⟨u2, r2, q2⟩ := c.S.at ea2 eo
            have eu : u2 = u := by
              cases lk with
              | zero =>
                have q2 : H2 p = some u2 := q2
                rw [hp2] at q2
                cases q2
                exact r2.elim
              | succ n2 =>
                obtain ⟨o9, q2⟩ := (show ∃ o, H2 p = some (.frz o u2) from q2)
                rw [hp2] at q2
                cases q2
                rfl
            subst eu
            have ul : unlockI (.keys a) h' = h'.put a (.dct 0 l2) := by
              show unlockD h' a = _
              unfold unlockD
              rw [eo]
            rw [ul]
            exact c.S.put ea2 gu ⟨u2, r2.mono0 (c.S.le0_put ea2), upd_same⟩
          have hD1 : H1 D = none := by rw [← hHL, upd_ne nD] at hD; exact hD
          have eD2 : (upd H2 p u) D = some (.lst va) := by rw [upd_ne nD]; exact c.eD
          have le0 : Le0 ρ2 H2 ρ2 (upd H2 p u) := c.S.le0_put ea2
          have leX : Le0 ρ2 (upd H2 p u) (ext ρ2 (unlockI (.keys a) h').n D) (upd H2 p u) := ⟨fun b q e => by rw [ext_ne (Nat.ne_of_lt (SU.lt b q e))]; exact e, fun _ _ z => z, fun _ _ z => z⟩
          exact (Post.mono le1 qF) _ _ _ (leU.adopt SU hD1) (SU.adopt eD2 trivial c.un ⟨va, eD2, (c.rel.mono0 le0).mono0 leX⟩) (.ref ext_same)
        | some x =>
          obtain ⟨go, yl⟩ := J2
          simp only at e
          cases eb : asgT t [x] en0 with
          | none => rw [eb] at e; cases e
          | some env3 =>
            rw [eb] at e
            cases n with
            | zero => cases e
            | succ n =>
              simp only at e
              refine .inr ⟨go, fun H3 => ∃ ρ3 h3 da va, LcI Z D ρ1 HL ρ3 h3 H3 da va ∧ compL t (.keys a) en0 (genTurn mt (gElt me)) n (i + 1) h3 da.reverse = .ok acc' h', fun H3 z => ⟨n, Nat.lt_succ_self n, z⟩, fun v H' yv => ?_⟩
              obtain ⟨ρ3, le3, S3, rv⟩ := yl v H' yv
              refine ⟨ρ3, _, h2, x, env3, S3, E1.mono (c.le.trans le3), rv, eb, fun ρ4 σ4 H4 le4 S4 E4 w4 => ⟨(w4 _ hv).trans (wipe_idem _), ρ4, env3, h2, S4, E4, ?_⟩⟩
              obtain ⟨a5, h6, e5, e6⟩ := bind_ok e
              obtain ⟨b, h5, e7, e8⟩ := bind_ok e5
              rw [e7]
              intro ρ5 b' H5 le5 S5 eb'
              cases eb'
              have c5 := c.step (le3.trans (le4.trans le5)) S5
              cases b with
              | false =>
                cases e8
                exact ⟨ρ5, h6, da, va, c5, e6⟩
              | true =>
                obtain ⟨y, h7, e9, e10⟩ := bind_ok e8
                cases e10
                refine ⟨ρ5, env3, h5, S5, E4.mono le5, ?_⟩
                rw [e9]
                intro ρ6 w6 H6 le6 S6 r6
                have c6 := c5.step le6 S6
                have gl := compL_grows elt_grows _ _ _ _ _ _ e6
                refine ⟨va, c6.eD, ?_, ρ6, h6, da ++ [y], va ++ [w6], c6.snoc hD r6, ?_⟩
                · rw [c6.rel.length]
                  simp at gl
                  omega
                · rw [List.reverse_append]; exact e6
    cases u <;> first | exact ru.elim | exact .inl ⟨_, upd_same, main⟩ | exact .inr ⟨_, upd_same, main⟩
section
variable {elt tg iter : Expr} {ifs : List Expr} {scope : Scope} {own : List (Str × Nat)} {pos : Pos} {t : Tg} {mi : ME} {mt : MT} {me : ME}
theorem re_lcK (hc : X.calm = true) (hN : X.N.Nodup) (hi : PE X iter (RdE Z mi W)) (ok : BlkOk X.N X.env.scope scope own) (hv : ∀ i ∈ tgVars t, i ∈ own.map (·.2))
    (hg : ∀ s H C cl fp, PG (Bk X scope s H C cl fp) tg (RdG Z t)) (ht : ∀ s H C cl fp, PTs (Bk X scope s H C cl fp) ifs (RdT Z mt W0)) (he : ∀ s H C cl fp, PE (Bk X scope s H C cl fp) elt (RdE Z me W0)) (hs : ∀ x, foldedSetIterable iter X.env x = pure x) :
    PE X (.ListComp elt [⟨tg, iter, ifs, 0⟩] scope pos) (RdE Z (mLc (own.map (·.2)) (gGen t (iKys mi) mt (gElt me))) W) :=
  pe_un (pe_lc hc hN (pi_keys (pe_lk hi)) ok hg ht he hs) fun σ H Q hw => lcK_t hv hw
end
end
end TB

/-! TB, the link: sorted, of a list's items or a dict's keys that are all of one shape. -/
namespace TB
open L2 PySem PyProof.Rows PySem.Spec
/-! ### one shape -/
mutual
theorem sh_alike : ∀ p q : P, P.sh p q = true → PySem.W.alike p.py q.py = true
  | .bl a, q, h => by cases q <;> first | (cases h; done) | simp [P.py, PySem.W.alike]
  | .int a, q, h => by cases q <;> first | (cases h; done) | simp [P.py, PySem.W.alike]
  | .str a, q, h => by cases q <;> first | (cases h; done) | simp [P.py, PySem.W.alike]
  | .tup a, q, h => by
    cases q <;> first | (cases h; done) | skip
    rename_i b
    simp only [P.py, PySem.W.alike]
    exact shL_alike a b h
  | .non, q, h => by cases q <;> cases h
  | .lst _, q, h => by cases q <;> cases h
theorem shL_alike : ∀ a b : List P, P.shL a b = true → PySem.W.alikeAll (P.pyL a) (P.pyL b) = true
  | [], [], _ => by simp [P.pyL, PySem.W.alikeAll]
  | [], _ :: _, h => by cases h
  | _ :: _, [], h => by cases h
  | x :: r, y :: q, h => by
    obtain ⟨h1, h2⟩ := Bool.and_eq_true_iff.mp (show (P.sh x y && P.shL r q) = true from h)
    simp only [P.pyL, PySem.W.alikeAll]
    rw [sh_alike x y h1, shL_alike r q h2]
    rfl
end
mutual
theorem sh_euc : ∀ p q r : P, P.sh p q = true → P.sh p r = true → P.sh q r = true
  | .bl a, q, r, h, g => by cases q <;> first | (cases h; done) | skip; all_goals (cases r <;> first | (cases g; done) | rfl)
  | .int a, q, r, h, g => by cases q <;> first | (cases h; done) | skip; all_goals (cases r <;> first | (cases g; done) | rfl)
  | .str a, q, r, h, g => by cases q <;> first | (cases h; done) | skip; all_goals (cases r <;> first | (cases g; done) | rfl)
  | .tup a, q, r, h, g => by
    cases q <;> first | (cases h; done) | skip
    cases r <;> first | (cases g; done) | skip
    exact shL_euc a _ _ h g
  | .non, q, r, h, g => by cases q <;> cases h
  | .lst _, q, r, h, g => by cases q <;> cases h
theorem shL_euc : ∀ a b c : List P, P.shL a b = true → P.shL a c = true → P.shL b c = true
  | [], [], [], _, _ => rfl
  | [], _ :: _, _, h, _ => (by cases h)
  | [], [], _ :: _, _, h => by cases h
  | _ :: _, [], _, h, _ => (by cases h)
  | _ :: _, _ :: _, [], _, h => by cases h
  | x :: r, y :: q, z :: s, h, g => by
    obtain ⟨h1, h2⟩ := Bool.and_eq_true_iff.mp (show (P.sh x y && P.shL r q) = true from h)
    obtain ⟨g1, g2⟩ := Bool.and_eq_true_iff.mp (show (P.sh x z && P.shL r s) = true from g)
    show (P.sh y z && P.shL q s) = true
    rw [sh_euc x y z h1 g1, shL_euc r q s h2 g2]
    rfl
end
mutual
/-- such data have no list in them -/
theorem sh_flat {h : Heap} : ∀ (p : P) (v : Value) (as : List Addr), P.sh p p = true → Reads h v p.py as → as = []
  | .bl a, v, as, e, r => by cases r; rfl
  | .int a, v, as, e, r => by cases r; rfl
  | .str a, v, as, e, r => by cases r; rfl
  | .tup l, v, as, e, r => by
    simp only [P.py] at r
    cases r with
    | tuple _ _ _ w => exact shL_flat l _ _ e w
  | .non, v, as, e, r => by cases e
  | .lst _, v, as, e, r => by cases e
theorem shL_flat {h : Heap} : ∀ (l : List P) (vs : List Value) (as : List Addr), P.shL l l = true → ReadsAll h vs (P.pyL l) as → as = []
  | [], vs, as, e, r => by simp only [P.pyL] at r; cases r; rfl
  | x :: l, vs, as, e, r => by
    obtain ⟨h1, h2⟩ := Bool.and_eq_true_iff.mp (show (P.sh x x && P.shL l l) = true from e)
    simp only [P.pyL] at r
    cases r with
    | cons r1 r2 => rw [sh_flat x _ _ h1 r1, shL_flat l _ _ h2 r2]; rfl
end
mutual
theorem lt_data : ∀ (p q : P) (b : Bool), P.sh p q = true → P.lt p q = some b → PySem.W.dataLt p.py q.py = b
  | .int x, q, b, h, e => by
    cases q <;> first | (cases h; done) | skip
    cases e
    exact PySem.W.dataLt_int _ _
  | .str x, q, b, h, e => by
    cases q <;> first | (cases h; done) | skip
    cases e
    show PySem.W.dataLt (.str (toS x)) (.str (toS _)) = _
    rw [PySem.W.dataLt_str, toS_cps, toS_cps, ltS_dec]
  | .tup a, q, b, h, e => by
    cases q <;> first | (cases h; done) | skip
    simp only [P.py]
    rw [PySem.W.dataLt_tuple]
    exact ltL_data a _ b h e
  | .bl a, q, b, h, e => by cases q <;> first | (cases h; done) | (cases e; done)
  | .non, q, b, h, e => by cases q <;> cases h
  | .lst _, q, b, h, e => by cases q <;> cases h
theorem ltL_data : ∀ (a c : List P) (b : Bool), P.shL a c = true → P.ltL a c = some b → PyProof.Rows.lexLt itemOrd (PySem.W.keyToksAll (P.pyL a)) (PySem.W.keyToksAll (P.pyL c)) = b
  | [], [], b, h, e => by
    cases e
    exact PyProof.Rows.lex_irrefl _
  | [], _ :: _, b, h, e => by cases h
  | _ :: _, [], b, h, e => by cases h
  | x :: r, y :: q, b, h, e => by
    obtain ⟨h1, h2⟩ := Bool.and_eq_true_iff.mp (show (P.sh x y && P.shL r q) = true from h)
    simp only [P.pyL]
    rw [PySem.W.dataLt_cons (sh_alike x y h1), P.eqv_py]
    have e : (bif P.eqv x y then P.ltL r q else bif P.okL r q then P.lt x y else none) = some b := e
    cases c : P.eqv x y with
    | true =>
      rw [c] at e
      rw [if_pos rfl]
      exact ltL_data r q b h2 e
    | false =>
      rw [c] at e
      skip; rw [if_neg Bool.false_ne_true]
      have e : (bif P.okL r q then P.lt x y else none) = some b := e
      cases c2 : P.okL r q with
      | true => rw [c2] at e; exact lt_data x y b h1 e
      | false => rw [c2] at e; cases e
end
/-! ### the sort -/
abbrev encS (b : P × TB.D) : PyData := b.1.py
theorem enc_total : PySem.W.TotalLe (PySem.W.dataLe false encS) := PySem.W.sortLe_total _ _ _
theorem le_lt {a b : P × TB.D} : PySem.W.dataLe false encS a b = !PySem.W.dataLt b.1.py a.1.py := rfl
/-- strictly less, all pairs -/
abbrev LtD (a b : P × TB.D) : Prop := PySem.W.dataLe false encS b a = false
theorem ltD_le {a b : P × TB.D} (h : LtD a b) : PySem.W.dataLe false encS a b = true := by
  rcases enc_total.total a b with g | g
  · exact g
  · rw [show PySem.W.dataLe false encS b a = false from h] at g; cases g
theorem ltD_trans {a b c : P × TB.D} (h : LtD a b) (g : LtD b c) : LtD a c := by
  cases e : PySem.W.dataLe false encS c a with
  | false => exact e
  | true => exact absurd (enc_total.trans _ _ _ e (ltD_le h)) (by rw [show PySem.W.dataLe false encS c b = false from g]; exact Bool.false_ne_true)
theorem ltD_of {a b : P × TB.D} (h : P.sh a.1 b.1 = true) (e : P.lt a.1 b.1 = some true) : LtD a b := by
  show (!PySem.W.dataLt a.1.py b.1.py) = false
  rw [lt_data _ _ _ h e]
  rfl
theorem insS_ok {x : P × TB.D} : ∀ {l r : List (P × TB.D)}, insS x l = some r → (∀ y ∈ l, P.sh x.1 y.1 = true ∧ P.sh y.1 x.1 = true) → l.Pairwise LtD → r.Perm (x :: l) ∧ r.Pairwise LtD
  | [], r, e, _, _ => by cases e; exact ⟨.refl _, List.pairwise_singleton _ _⟩
  | y :: l, r, e, h, pw => by
    obtain ⟨h1, h2⟩ := h y (List.mem_cons_self ..)
    obtain ⟨pw1, pw2⟩ := List.pairwise_cons.mp pw
    unfold insS at e
    split at e
    · rename_i el
      split at e
      · rename_i q eq
        cases e
        obtain ⟨p1, p2⟩ := insS_ok eq (fun z hz => h z (List.mem_cons_of_mem _ hz)) pw2
        refine ⟨(p1.cons y).trans (.swap _ _ _), List.pairwise_cons.mpr ⟨fun z hz => ?_, p2⟩⟩
        rcases List.mem_cons.mp (p1.mem_iff.mp hz) with rfl | hz
        · exact ltD_of h2 el
        · exact pw1 z hz
      · cases e
    · split at e
      · rename_i el
        cases e
        have lt := ltD_of h1 el
        refine ⟨.refl _, List.pairwise_cons.mpr ⟨fun z hz => ?_, pw⟩⟩
        skip; rcases List.mem_cons.mp hz with rfl | hz
        · exact lt
        · exact ltD_trans lt (pw1 z hz)
      · cases e
theorem sortS_ok : ∀ {l r : List (P × TB.D)}, sortS l = some r → (∀ a ∈ l, ∀ b ∈ l, P.sh a.1 b.1 = true) → r.Perm l ∧ r.Pairwise LtD
  | [], r, e, _ => by cases e; exact ⟨.refl _, .nil⟩
  | x :: l, r, e, h => by
    unfold sortS at e
    split at e
    · rename_i q eq
      obtain ⟨p1, p2⟩ := sortS_ok eq fun a ha b hb => h a (List.mem_cons_of_mem _ ha) b (List.mem_cons_of_mem _ hb)
      obtain ⟨q1, q2⟩ := insS_ok e (fun y hy => ⟨h x (List.mem_cons_self ..) y (List.mem_cons_of_mem _ (p1.mem_iff.mp hy)), h y (List.mem_cons_of_mem _ (p1.mem_iff.mp hy)) x (List.mem_cons_self ..)⟩) p2
      exact ⟨q1.trans (p1.cons x), q2⟩
    · cases e
/-- a list in strict order is its own sort -/
theorem sort_is {l r : List (P × TB.D)} (hp : r.Perm l) (hs : r.Pairwise LtD) : r = l.mergeSort (PySem.W.dataLe false encS) := by
  refine PySem.W.sort_unique enc_total (hs.imp ltD_le) fun c => ?_
  have pf : (r.filter (PySem.W.sameRank (PySem.W.dataLe false encS) c)).Perm (l.filter (PySem.W.sameRank (PySem.W.dataLe false encS) c)) := hp.filter _
  have one : ∀ f : List (P × TB.D), f.Pairwise LtD → (∀ z ∈ f, PySem.W.sameRank (PySem.W.dataLe false encS) c z = true) → f.length ≤ 1 := by
    intro f hf ha
    match f with
    | [] => exact Nat.zero_le _
    | [_] => exact Nat.le_refl _
    | a :: b :: t =>
      exfalso
      have lt := (List.pairwise_cons.mp hf).1 b (List.mem_cons_self ..)
      obtain ⟨a1, a2⟩ := Bool.and_eq_true_iff.mp (ha a (List.mem_cons_self ..))
      obtain ⟨b1, b2⟩ := Bool.and_eq_true_iff.mp (ha b (List.mem_cons_of_mem _ (List.mem_cons_self ..)))
      have := enc_total.trans _ _ _ b2 a1
      rw [show PySem.W.dataLe false encS b a = false from lt] at this
      cases this
  have l1 := one _ (hs.filter _) fun z hz => (List.mem_filter.mp hz).2
  match e : r.filter (PySem.W.sameRank (PySem.W.dataLe false encS) c) with
  | [] => rw [e] at pf; exact (List.Perm.nil_eq pf)
  | [a] => rw [e] at pf; exact (List.perm_singleton.mp pf.symm).symm
  | _ :: _ :: _ => rw [e] at l1; simp at l1
theorem srt_sh : ∀ p q : P, P.srt p = true → P.sh p q = true → P.srt q = true
  | .bl _, q, _, g => by cases q <;> first | rfl | (cases g; done)
  | .int _, q, _, g => by cases q <;> first | rfl | (cases g; done)
  | .str _, q, _, g => by cases q <;> first | rfl | (cases g; done)
  | .tup [], q, h, _ => by cases h
  | .tup (x :: a), q, h, g => by
    cases q <;> first | (cases g; done) | skip
    rename_i b
    cases b with
    | nil => cases g
    | cons y b => rfl
  | .non, q, h, _ => by cases h
  | .lst _, q, h, _ => by cases h
theorem sameSh_all : ∀ {ps : List P}, sameSh ps = true → (∀ p ∈ ps, ∀ q ∈ ps, P.sh p q = true) ∧ ∀ p ∈ ps, P.srt p = true
  | [], _ => ⟨fun _ h => (nomatch h), fun _ h => (nomatch h)⟩
  | p :: r, h => by
    obtain ⟨h1, h2⟩ := Bool.and_eq_true_iff.mp (show (P.srt p && (P.sh p p && r.all (P.sh p))) = true from h)
    obtain ⟨h2, h3⟩ := Bool.and_eq_true_iff.mp h2
    have hd : ∀ q ∈ p :: r, P.sh p q = true := fun q hq => by
      skip; rcases List.mem_cons.mp hq with rfl | hq
      · exact h2
      · exact List.all_eq_true.mp h3 q hq
    have al : ∀ a ∈ p :: r, ∀ b ∈ p :: r, P.sh a b = true := fun a ha b hb => sh_euc p a b (hd a ha) (hd b hb)
    refine ⟨al, fun q hq => ?_⟩
    exact srt_sh p q h1 (hd q hq)

section
variable {Z : Wl} {atts : List Nat} {k d : Nat} {X : Cx} {W : WX} {pins : List (Addr × Obj)} {σ : St} {H : Hp} {s : Shared} {ρ : Rho} {h : Hv} {env : Env}
/-- what an item stands for -/
abbrev StR (Z : Wl) (ρ : Rho) (H : Hp) (u : Value) (b : P × TB.D) : Prop := ∃ v, RelD Z.L ρ H b.2 v ∧ RelV v u
theorem sort_each (K : Kt Z atts k d X W) (I : Inv X pins σ H s) (S : Sim Z.L ρ h H) : ∀ {l : List TB.D} {vs : List V} {us : List Value} {ps : List P}, toPs (toP 60 h) l = some ps → RelL Z.L ρ H l vs → Vals vs us → (∀ p ∈ ps, P.sh p p = true) →
    PySem.W.EachIs (StR Z ρ H) us (ps.zip l) ∧ PySem.W.EachIs (fun u b => Reads s.heap u (encS b) []) us (ps.zip l) ∧ (ps.zip l).map (·.1) = ps ∧ (∀ p ∈ ps, p.py.depth ≤ 60) ∧ (ps.zip l).length = l.length
  | [], _, _, ps, e, rl, rv, _ => by cases e; cases rl; cases rv; exact ⟨.nil, .nil, rfl, fun _ h => (nomatch h), rfl⟩
  | x :: l, _, _, ps, e, rl, rv, hs => by
    unfold toPs at e
    split at e
    · rename_i p qs e1 e2
      cases e
      cases rl with
      | cons r1 r2 =>
        cases rv with
        | cons w1 w2 =>
          obtain ⟨a1, a2, a3, a4, a5⟩ := sort_each K I S e2 r2 w2 fun p hp => hs p (List.mem_cons_of_mem _ hp)
          obtain ⟨d1, c1, l1⟩ := toP_dp K S 60 _ _ _ e1 r1
          obtain ⟨as, rd⟩ := Dp.reads I _ _ _ d1 w1
          have ea := sh_flat p _ _ (hs p (List.mem_cons_self ..)) rd
          subst ea
          refine ⟨.cons ⟨_, r1, w1⟩ a1, .cons rd a2, ?_, fun q hq => ?_, ?_⟩
          · exact congrArg (p :: ·) a3
          · skip; rcases List.mem_cons.mp hq with rfl | hq
            · exact l1
            · exact a4 q hq
          · exact congrArg (· + 1) a5
    · cases e
theorem each_out : ∀ {out : List Value} {qs : List (P × TB.D)}, PySem.W.EachIs (StR Z ρ H) out qs → ∃ vs, RelL Z.L ρ H (qs.map (·.2)) vs ∧ Vals vs out
  | _, _, .nil => ⟨[], .nil, .nil⟩
  | _, _, .cons ⟨v, h1, h2⟩ t => by
    obtain ⟨vs, a, b⟩ := each_out t
    exact ⟨v :: vs, .cons h1 a, .cons h2 b⟩
theorem py_tup {p : P} (h : P.srt p = true) : (∃ x r, p.py = .tuple (x :: r)) ∨ (p.py ≠ .none ∧ ∀ xs, p.py ≠ .tuple xs) := by
  cases p <;> first | (cases h; done) | skip
  · exact .inr ⟨by simp [P.py], by simp [P.py]⟩
  · exact .inr ⟨by simp [P.py], by simp [P.py]⟩
  · exact .inr ⟨by simp [P.py], by simp [P.py]⟩
  · rename_i l
    cases l with
    | nil => cases h
    | cons x r => exact .inl ⟨x.py, P.pyL r, by simp [P.py, P.pyL]⟩
theorem sh_tup {p q : P} (h : P.sh p q = true) (e : ∃ x r, p.py = .tuple (x :: r)) (g : P.srt q = true) : ∃ x r, q.py = .tuple (x :: r) := by
  rcases py_tup g with w | ⟨_, w⟩
  · exact w
  · obtain ⟨x, r, e⟩ := e
    cases p <;> cases q <;> first | (cases h; done) | skip
    · exact absurd e (by simp [P.py])
    · exact absurd e (by simp [P.py])
    · exact absurd e (by simp [P.py])
    · exact absurd (by simp only [P.py]; rfl) (w (P.pyL _))
theorem sort_prep (K : Kt Z atts k d X W) (I : Inv X pins σ H s) (S : Sim Z.L ρ h H) {l r : List TB.D} {vs : List V} {us : List Value} (rl : RelL Z.L ρ H l vs) (rv : Vals vs us) (e : sortD h l = some r) :
    ∃ bs : List (P × TB.D), PySem.W.EachIs (StR Z ρ H) us bs ∧ PySem.W.EachIs (fun u b => Reads s.heap u (encS b) []) us bs ∧ PySem.W.AllAlike (bs.map encS) ∧ PySem.W.Sortable (bs.map encS) ∧ bs.length = l.length ∧ (∀ b, b ∈ bs → X.A.units + 2 + (encS b).depth < cLine) ∧
      (bs.mergeSort (PySem.W.dataLe false encS)).map (·.2) = r := by
  unfold sortD at e
  split at e
  · rename_i ps ep
    cases c : sameSh ps with
    | false => rw [c] at e; cases e
    | true =>
      rw [c] at e
      have e : (sortS (ps.zip l)).map (fun r => r.map (·.2)) = some r := e
      obtain ⟨al, st⟩ := sameSh_all c
      obtain ⟨a1, a2, a3, a4, a5⟩ := sort_each K I S ep rl rv fun p hp => al p hp p hp
      have mem : ∀ b ∈ ps.zip l, b.1 ∈ ps := fun b hb => by rw [← a3]; exact List.mem_map_of_mem hb
      cases es : sortS (ps.zip l) with
      | none => rw [es] at e; cases e
      | some q =>
        rw [es] at e
        cases e
        obtain ⟨p1, p2⟩ := sortS_ok es fun a ha b hb => al _ (mem a ha) _ (mem b hb)
        have hu := K.g.room.units
        refine ⟨ps.zip l, a1, a2, ?_, ?_, a5, fun b hb => ?_, ?_⟩
        · intro x hx y hy
          skip; obtain ⟨b, hb, rfl⟩ := List.mem_map.mp hx
          obtain ⟨b', hb', rfl⟩ := List.mem_map.mp hy
          exact sh_alike _ _ (al _ (mem b hb) _ (mem b' hb'))
        · by_cases w : ∃ b ∈ ps.zip l, ∃ x r, (encS b) = .tuple (x :: r)
          · obtain ⟨b, hb, w⟩ := w
            refine .inl fun x hx => ?_
            obtain ⟨b', hb', rfl⟩ := List.mem_map.mp hx
            exact sh_tup (al _ (mem b hb) _ (mem b' hb')) w (st _ (mem b' hb'))
          · refine .inr fun x hx => ?_
            obtain ⟨b', hb', rfl⟩ := List.mem_map.mp hx
            rcases py_tup (st _ (mem b' hb')) with g | g
            · exact absurd ⟨b', hb', g⟩ w
            · exact g
        · have := a4 _ (mem b hb)
          show X.A.units + 2 + b.1.py.depth < cLine
          omega
        · rw [← sort_is p1 p2]
  · cases e
/-- sorted, of a list -/
theorem sort_list (K : Kt Z atts k d X W) (I : Inv X pins σ H s) (S : Sim Z.L ρ h H) {p : Addr} {l r : List TB.D} {vs : List V} {Q : VK} (hs : SqL X.K H p vs) (rl : RelL Z.L ρ H l vs) (e : sortD h l = some r) (q : PostD Z.L ρ H (newL r h) Q (Wat W σ)) :
    wpAny (model X.prog X.w) X.A (call (.builtin "sorted") [.ref p]) (EP X pins σ Q) X.xe s := by
  skip; obtain ⟨its, rv, hl, _⟩ := I.list hs
  obtain ⟨bs, e1, e2, e3, e4, e5, e6, e7⟩ := sort_prep K I S rl rv e
  obtain ⟨hz, q⟩ := post_newL q
  have er : r.length = bs.length := by rw [← e7, List.length_map, (List.mergeSort_perm _ _).length_eq]
  refine PySem.W.sorted_data (R := StR Z ρ H) hl.isList e1 (e2.mono fun _ _ x => ⟨_, x⟩) e3 e4 (by rw [← er]; exact hz) e6 fun out ho eo => ?_
  skip; obtain ⟨ep, he'⟩ := PyProof.Rows.sortedAll_at s.heap its out.toArray
  obtain ⟨vs', rl', rv'⟩ := each_out eo
  rw [e7] at rl'
  exact ⟨.ref _, upd H (s.heap.objs.size + 1) (.lst vs'), I.laid (t' := s.toks) (fun _ _ => PyProof.Rows.sortedAll_old) (Nat.le_succ _) ⟨by rw [rl'.length]; exact hz, out, ep, rv', he'⟩, rfl, post_new q S rl' (I.hok.fresh (Nat.le_succ _))⟩
/-- .. of what is collected first -/
theorem sort_coll (K : Kt Z atts k d X W) (I : Inv X pins σ H s) (S : Sim Z.L ρ h H) {l r : List TB.D} {vs : List V} {Q : VK} {a : Addr} (rl : RelL Z.L ρ H l vs) (e : sortD h l = some r) (q : PostD Z.L ρ H (newL r h) Q (Wat W σ))
    (hc : ∀ (A : Around) (R : List Value → Shared → Prop) (E : Value → Shared → Prop), A.handled = none → (∀ (h' : Heap) (tk : Nat) (acc : List Value), (∀ b o, s.heap.get? b = some o → h'.get? b = some o) → Vals vs acc → R acc { s with heap := h', toks := tk }) → wpAny (model X.prog X.w) A (collect (.ref a)) R E s) (hcalm : X.calm = true) :
    wpAny (model X.prog X.w) X.A (call (.builtin "sorted") [.ref a]) (EP X pins σ Q) X.xe s := by
  obtain ⟨hz, q⟩ := post_newL q
  skip; refine Calls.call_function_entry PyProof.Rows.kind_sorted PyProof.Rows.plain_sorted PyProof.Rows.entry_sorted (PyProof.Rows.args_sorted1 _) ?_
  unfold Builtin.«sorted»
  skip; refine wpAny_bind (m := checkCount "sorted" 1 1 _) (wpAny_pure ?_)
  refine wpAny_bind (hc X.A.in1 _ _ (I.ok.hd hcalm) fun h' tk acc hk rv => ?_)
  skip; have I1 : Inv X pins σ H { s with heap := h', toks := tk } := I.kept hk
  obtain ⟨bs, e1, e2, e3, e4, e5, e6, e7⟩ := sort_prep K I1 S rl rv e
  have er : r.length = bs.length := by rw [← e7, List.length_map, (List.mergeSort_perm _ _).length_eq]
  have hal : acc.length = bs.length := e1.length
  refine wpAny_bind (wpAny_newList ?_ (by rw [hal, ← er]; exact hz))
  have hoL : (h'.push (seqObj "list" acc.toArray 0)).get? h'.objs.size = some (seqObj "list" acc.toArray 0) := Heap.get?_push_size _ rfl
  show wpAny _ _ _ _ _ { s with heap := h'.push (seqObj "list" acc.toArray 0), toks := tk }
  have e2' : PySem.W.EachIs (fun u b => ∃ as, Reads (h'.push (seqObj "list" acc.toArray 0)) u (encS b) as ∧ h'.objs.size ∉ as) acc bs := e2.mono fun _ _ x => ⟨[], PyProof.Rows.Reads.keeps (fun _ _ g => Heap.get?_push_of_some _ g) x, fun z => (nomatch z)⟩
  refine wpAny_bind (wpAny_holding (PySem.W.list_sort_data (R := StR Z ρ H) (s := { s with heap := h'.push (seqObj "list" acc.toArray 0), toks := tk }) hoL e1 e2' e3 e4 (by rw [← er]; exact hz) (fun b hb => ?_) fun out ho eo => ?_))
  · have := e6 b hb
    show X.A.units + 1 + 1 + _ < cLine
    omega
  obtain ⟨e', he'⟩ := PyProof.Rows.sortedHeap_at (vs := acc) (out := out.toArray) hoL
  obtain ⟨vs', rl', rv'⟩ := each_out eo
  rw [e7] at rl'
  refine wpAny_pure ⟨_, rfl, .ref h'.objs.size, upd H h'.objs.size (.lst vs'), I1.laid (t' := tk) (fun b u e => ?_) (Nat.le_refl _)
    (show ObjOk X.prog X.w _ _ _ (.lst vs') from ⟨by rw [rl'.length]; exact hz, out, e', rv', he'⟩), rfl, post_new q S rl' (I1.hok.fresh (Nat.le_refl _))⟩
  skip; have hb : b < h'.objs.size := Heap.lt_size e
  skip; rw [PyProof.Rows.sortedHeap_old (Nat.ne_of_lt hb) (by rw [size_push']; exact Nat.lt_succ_of_lt hb)]
  skip; exact Heap.get?_push_of_some _ e

theorem keys_K {l : List (TB.D × TB.D)} {kvs : List (Key × V)} (t : RelKv Z.L ρ H keyS l kvs) : RelL Z.L ρ H (l.map (·.1)) (kvs.map fun p => kV p.1) := by
  induction t with
  | nil => exact .nil
  | cons e _ _ ih => exact .cons (keyS_val e) ih
theorem keys_T {l : List (TB.D × TB.D)} {kvs : List (List Key × V)} (t : RelKv Z.L ρ H keyT l kvs) : ∀ {bs : List Addr}, IsKeys H kvs bs → RelL Z.L ρ H (l.map (·.1)) (bs.map V.ref) := by
  induction t with
  | nil => intro bs h; cases h; exact .nil
  | @cons k' d' κ v l r e _ _ ih =>
    intro bs h
    cases h with
    | cons h1 h2 =>
      refine .cons ?_ (ih h2)
      cases k' <;> first | (cases e; done) | skip
      exact .tup h1 (keysS_val e)
/-- sorted, of a dict -/
theorem sort_dict (K : Kt Z atts k d X W) (I : Inv X pins σ H s) (S : Sim Z.L ρ h H) {a : Addr} {l : List (TB.D × TB.D)} {u : HO} {r : List TB.D} {Q : VK} (rd : Rd H a u) (t : RelDc Z.L ρ H l u) (e : sortD h (l.map (·.1)) = some r) (q : PostD Z.L ρ H (newL r h) Q (Wat W σ)) (hcalm : X.calm = true) :
    wpAny (model X.prog X.w) X.A (call (.builtin "sorted") [.ref a]) (EP X pins σ Q) X.xe s := by
  cases u <;> first | exact t.elim | skip
  · rename_i kvs
    obtain ⟨z, lo, vs, rel, dd⟩ := dk_rd I.hok rd
    obtain ⟨ep, hat⟩ := dd.dictAt
    refine sort_coll K I S (keys_K t) e q (fun A R E hh g => ?_) hcalm
    have h16 : vs.length ≤ sizeLine := by rw [← rel.length]; exact z
    skip; have ek : (kvs.map fun kv => kV kv.1) = vs.map fun p => kV p.1 := by
      skip; have e := congrArg (List.map kV) rel.keys
      skip; rw [List.map_map, List.map_map] at e
      exact e
    refine PySem.W.kdu_collect (A := A) (PySem.W.kdl_dict (knd := mixKind X.prog X.w) (kvs := vs) (ep := ep) lo) hh hat h16 fun h' tk acc hk hacc => g h' tk _ hk ?_
    rw [ek]
    exact keys_at (by rw [Array.length_toList]; exact hacc.1) fun j v e => hacc.2 j v (by rw [← Array.getElem?_toList]; exact e)
  · rename_i kvs
    obtain ⟨z, hs, ks, pr, o, es, ep, ho, hx, hdt, he, hn⟩ := (show ObjOk X.prog X.w H s.heap a (.dT kvs) from rd.ok I.hok)
    skip; have l1 : es.size = ks.length := size_of_entries he
    skip; have l2 : kvs.length = ks.length := Paired.length pr
    refine sort_coll K I S (keys_T t (isKeys_of pr)) e q (fun A R E hh g => ?_) hcalm
    refine PySem.W.kdu_collect (A := A) (kdl_raw hs hx hdt) hh ho (by omega) fun h' tk acc' hk it => g h' tk _ hk ?_
    skip; have ea : acc'.toList = ks.map fun x => Value.ref x.2.1 := by
      skip; have hl : acc'.toList.length = ks.length := by rw [Array.length_toList, it.1]; exact l1
      apply List.ext_getElem?
      intro j
      rw [List.getElem?_map]
      skip; cases hj : acc'.toList[j]? with
      | none =>
        skip; have h1 := List.getElem?_eq_none_iff.mp hj
        skip; rw [List.getElem?_eq_none (by omega)]
        all_goals rfl
      | some v =>
        skip; obtain ⟨en, hen, hv⟩ := it.2 j v (by rw [← Array.getElem?_toList]; exact hj)
        have qe := entry_at he j
        rw [hen] at qe
        cases hb : ks[j]? with
        | none =>
          rw [hb] at qe
          skip; exact nomatch (show some en = none from qe)
        | some b =>
          rw [hb] at qe
          skip; have e2 : en = entryOfKey (tupleKind (mixKind X.prog X.w)) b := Option.some.inj qe
          rw [hv, e2]
          all_goals rfl
    skip; have eb : acc'.toList = (ks.map fun x => x.2.1).map Value.ref := by rw [ea, List.map_map]; all_goals rfl
    rw [eb]
    exact vals_refs _
theorem bi_sorted (K : Kt Z atts k d X W) (hc : X.calm = true) : BiOk Z X W (.builtin "sorted") (fun vs h => biR .sorted vs h) := by
  refine bi_one (one_of (f := sortR) rfl fun _ _ _ => rfl) (fun pins s σ H ρ h a x us Q I S rv r q => ?_)
  have q2 : PostD Z.L ρ H (match seqL a h with
    | some l => match sortD h l with
      | some r => newL r h
      | none => .bad
    | none => .bad) Q (Wat W σ) := q
  clear q
  cases el : seqL a h with
  | none => rw [el] at q2; exact q2.elim
  | some l =>
    rw [el] at q2
    have q3 : PostD Z.L ρ H (match sortD h l with
      | some r => newL r h
      | none => .bad) Q (Wat W σ) := q2
    clear q2
    cases er : sortD h l with
    | none => rw [er] at q3; exact q3.elim
    | some r' =>
      rw [er] at q3
      have q : PostD Z.L ρ H (newL r' h) Q (Wat W σ) := q3
      cases r <;> first | (cases el; done) | skip
      rename_i a' p ea
      obtain ⟨u', rfl, rx⟩ := vals1 rv
      cases rx
      have el : (match h.get a' with
        | some (.lst l) => some l
        | some (.fro l) => some l
        | some (.dct _ l) => some (l.map (·.1))
        | _ => none) = some l := el
      split at el
      · rename_i l0 eg
        cases el
        obtain ⟨vs, e1, rl⟩ := S.at ea eg
        exact sort_list K I S (.inl (.inl e1)) rl er q
      · rename_i l0 eg
        cases el
        obtain ⟨vs, e1, rl⟩ := S.at ea eg
        exact sort_list K I S (.inl e1) rl er q
      · rename_i lk l0 eg
        cases el
        obtain ⟨u, ru, hu⟩ := S.at ea eg
        refine sort_dict K I S (u := u) ?_ ru er q hc
        cases lk with
        | zero => exact .inl hu
        | succ n => exact .inr hu
      · cases el
end
end TB

/-! TB, the link: sorted(d.items()), keys whole numbers. -/
namespace TB
open PySem PySem.Spec PyProof.Rows L2 DX
def keyI (d : TB.D) : Int := match d with
  | .int i => i
  | _ => 0
theorem insI_ok {p : TB.D × TB.D} : ∀ {l r : List (TB.D × TB.D)}, insI p l = some r → l.Pairwise (fun a b => keyI a.1 < keyI b.1) → r.Perm (p :: l) ∧ r.Pairwise (fun a b => keyI a.1 < keyI b.1) ∧ ∃ i, p.1 = .int i
  | [], r, e, _ => by
    unfold insI at e
    split at e
    · rename_i i ei
      cases e
      exact ⟨.refl _, List.pairwise_singleton _ _, i, ei⟩
    · cases e
  | q :: l, r, e, pw => by
    unfold insI at e
    split at e
    · rename_i a b ea eb
      obtain ⟨w1, w2⟩ := List.pairwise_cons.mp pw
      have ka : keyI p.1 = a := by rw [ea]; rfl
      have kb : keyI q.1 = b := by rw [eb]; rfl
      by_cases c : a < b
      · rw [show decide (a < b) = true from decide_eq_true c] at e
        cases e
        refine ⟨.refl _, List.pairwise_cons.mpr ⟨fun z hz => ?_, pw⟩, a, ea⟩
        skip; rcases List.mem_cons.mp hz with rfl | hz
        · rw [ka, kb]; exact c
        · have := w1 z hz; rw [ka]; rw [kb] at this; omega
      · rw [show decide (a < b) = false from decide_eq_false c] at e
        have e : (bif decide (b < a) then (insI p l).map (q :: ·) else none) = some r := e
        by_cases c2 : b < a
        · rw [show decide (b < a) = true from decide_eq_true c2] at e
          obtain ⟨t, e1, rfl⟩ := Option.map_eq_some_iff.mp e
          obtain ⟨p1, p2, p3⟩ := insI_ok e1 w2
          refine ⟨(p1.cons q).trans (.swap _ _ _), List.pairwise_cons.mpr ⟨fun z hz => ?_, p2⟩, p3⟩
          rcases List.mem_cons.mp (p1.mem_iff.mp hz) with rfl | hz
          · rw [ka, kb]; exact c2
          · exact w1 z hz
        · rw [show decide (b < a) = false from decide_eq_false c2] at e
          cases e
    · cases e
theorem sortI_ok : ∀ {l r : List (TB.D × TB.D)}, sortI l = some r → r.Perm l ∧ r.Pairwise (fun a b => keyI a.1 < keyI b.1) ∧ ∀ p ∈ l, ∃ i, p.1 = .int i
  | [], r, e => by cases e; exact ⟨.refl _, .nil, fun _ h => (nomatch h)⟩
  | p :: l, r, e => by
    unfold sortI at e
    cases e1 : sortI l with
    | none => rw [e1] at e; cases e
    | some t =>
      rw [e1] at e
      have e : insI p t = some r := e
      obtain ⟨a1, a2, a3⟩ := sortI_ok e1
      obtain ⟨b1, b2, b3⟩ := insI_ok e a2
      refine ⟨b1.trans (a1.cons p), b2, fun z hz => ?_⟩
      skip; rcases List.mem_cons.mp hz with rfl | hz
      · exact b3
      · exact a3 z hz
theorem perm_one {α : Type} (k : α → Int) : ∀ {a b : List α}, a.Perm b → a.Pairwise (fun x y => k x ≤ k y) → b.Pairwise (fun x y => k x < k y) → a = b
  | [], b, h, _, _ => List.Perm.nil_eq h
  | x :: a, [], h, _, _ => absurd h.length_eq (by simp)
  | x :: a, y :: b, h, w1, w2 => by
    obtain ⟨u1, u2⟩ := List.pairwise_cons.mp w1
    obtain ⟨v1, v2⟩ := List.pairwise_cons.mp w2
    have e : x = y := by
      rcases List.mem_cons.mp (h.mem_iff.mp (List.mem_cons_self ..)) with e | hx
      · exact e
      · rcases List.mem_cons.mp (h.mem_iff.mpr (List.mem_cons_self ..)) with e | hy
        · exact e.symm
        · have := v1 x hx
          have := u1 y hy
          omega
    subst e
    rw [perm_one k h.cons_inv u2 v2]
section
variable {Z : Wl} {atts : List Nat} {k d : Nat} {X : Cx} {W : WX} {pins : List (Addr × Obj)} {σ : St} {H : Hp} {s : Shared} {ρ : Rho} {h : Hv} {env : Env}
/-- the view of a dict with plain keys -/
def rItemsK : V → List V → Hp → VK → Prop := fun x xs H Q => ∃ (a : Addr) (kvs : List (Key × V)), x = .ref a ∧ xs = [] ∧ H a = some (.dK kvs) ∧ ∀ p, H p = none → Q (.ref p) (upd H p (itemsO p a))
theorem raw_of {h : Heap} {P : Program} {w : World} {a : Addr} {vs : List (Key × Value)} (dd : h.DictOf (mixKind P w) a vs) : ∃ es ep, DT.Raw h a es ep ∧ Pairs (mixKind P w) es.toList vs ∧ (vs.map (·.1)).Nodup := by
  obtain ⟨o, es, ep, ho, hx, hd, _, hp, hn⟩ := dd
  exact ⟨es, ep, ⟨o, ho, hx, hd⟩, hp, hn⟩
theorem mt_itemsK : MtR X "dict.items" rItemsK := by
  skip; intro pins s σ H x xs v us Q I rx rxs h
  skip; obtain ⟨a, kvs, rfl, rfl, ha, q⟩ := h
  cases rx
  cases rxs
  obtain ⟨z, hd, vs, rel, dd⟩ := dk_of I.hok ha
  obtain ⟨es, ep, raw, _, _⟩ := raw_of dd
  refine DT.callItems (es := es) (ep := ep) hd raw ?_
  skip; have hf : H s.heap.objs.size = none := I.hok.fresh (Nat.le_refl _)
  skip; exact ⟨.ref s.heap.objs.size, upd H s.heap.objs.size (itemsO s.heap.objs.size a), I.laid (t' := s.toks) (fun b u e => Heap.get?_push_of_some _ e) (Nat.le_refl _) (itemsO_ok (Heap.get?_push_size _ rfl)), rfl, q _ hf⟩
/-- v: a pair whose first is the whole number r v -/
def PairI (h : Heap) (r : Value → Int) (v : Value) : Prop := ∃ (a : Addr) (t : Tok) (b : Value), v = .ref a ∧ IsTup h a #[.int (r v) t, b]
theorem firsts_i {h : Heap} {r : Value → Int} : ∀ {vs : List Value}, (∀ v ∈ vs, PairI h r v) → ∃ fs : List Value, PySem.W.KatTups h vs fs ∧ fs.length = vs.length ∧ ∀ f ∈ fs, ∃ x t, f = Value.int x t
  | [], _ => (⟨[], PySem.W.KatTups.nil, rfl, fun _ hm => by simp at hm⟩)
  | v :: vs, hp => by
    obtain ⟨fs, h1, h2, h3⟩ := firsts_i (vs := vs) fun v' hm => hp v' (List.mem_cons_of_mem _ hm)
    obtain ⟨a, t, b, e, o, ho, hc, n, hd⟩ := hp v (List.mem_cons_self ..)
    refine ⟨.int (r v) t :: fs, by rw [e] at *; exact PySem.W.KatTups.cons ho hc hd rfl h1, by rw [List.length_cons, List.length_cons, h2], fun f hm => ?_⟩
    skip; rcases List.mem_cons.mp hm with rfl | hm
    · exact ⟨_, t, rfl⟩
    · exact h3 f hm
theorem kind_i {prog : Program} {w : World} {A : Around} {E : Value → Shared → Prop} {s : Shared} {vs : List Value} {r : Value → Int} (h2 : 2 ≤ vs.length) (x : ∀ v ∈ vs, PairI s.heap r v) (inj : ∀ v ∈ vs, ∀ u ∈ vs, r v = r u → v = u) (Q : SortKind → Shared → Prop)
    (h : ∀ κ, TS.Cmp prog w A s κ (pairsOf vs) r → Q κ s) : wpAny (model prog w) A (keyKind' vs.toArray) Q E s := by
  obtain ⟨fs, kt, hl, hi⟩ := firsts_i x
  refine PySem.W.kat_kind (T := Value.type "int") kt (by omega) (fun f hf => ?_) (by rfl) (h _ ?_)
  · obtain ⟨y, t, rfl⟩ := hi f hf
    exact PySem.W.Looks.now
  · have hb : (Value.type "int" != Value.type "tuple") = true := by first | decide +kernel | rfl | decide
    rw [hb]
    intro p q hp hq Q' E' hQ
    rw [pairsOf_toList] at hp hq
    skip; have mp := (mem_zip_self hp).2
    skip; have mq := (mem_zip_self hq).2
    have ij := inj _ mp _ mq
    have xp := x _ mp
    have xq := x _ mq
    revert ij xp xq hQ
    generalize p.1 = v
    generalize q.1 = u
    intro hQ ij ⟨a, t, b, e1, o, ho, hc, n, hd⟩ ⟨a', t', b', e2, o', ho', hc', n', hd'⟩
    generalize hx : r v = x0 at *
    generalize hy : r u = y0 at *
    subst e1
    subst e2
    skip; refine PySem.W.kat_lt ho hd ho' hd' ?_
    show PySem.W.KatLex prog w A true (decide (2 < 2)) Q' [(.int x0 t, .int y0 t'), (b, b')] 0 s
    refine PySem.W.kat_cons (SeqAt.EqAt.int_int x0 t y0 t' prog w _ _ ?_)
    skip; refine PySem.W.kat_go (fun e1 => ?_) (fun e1 => ?_)
    · have ex : x0 = y0 := by simpa using e1
      have ev := ij ex
      injection ev with ev
      subst ev
      rw [ho] at ho'
      cases ho'
      rw [hd] at hd'
      injection hd' with hd' _
      have eb : b = b' := by
        have := congrArg (fun z : Array Value => z[1]?) hd'
        simpa using this
      subst eb
      refine PySem.W.kat_yes (PySem.W.kat_cons (SeqAt.EqAt.same b prog w _ _ ?_))
      refine PySem.W.kat_go (fun _ => ?_) (fun e2 => absurd e2 (by simp))
      refine PySem.W.kat_yes (PySem.W.kat_nil ?_)
      rw [ex, show decide (y0 < y0) = false from decide_eq_false (Int.lt_irrefl _)] at hQ
      exact hQ
    · exact PySem.W.kat_no (oneLt_int hQ)

def kI : Key → Int
  | .inl i => i
  | .inr _ => 0
theorem zip_lookA {β : Type} : ∀ {as : List Addr} {ks : List β} {j : Nat} {b : Addr} {e : β}, as.Nodup → as[j]? = some b → ks[j]? = some e → (as.zip ks).lookup b = some e
  | [], _, j, b, e, _, h, _ => by simp at h
  | a :: as, [], j, b, e, _, _, h => by simp at h
  | a :: as, k :: ks, 0, b, e, _, h1, h2 => by
    cases h1
    cases h2
    show ((a, k) :: as.zip ks).lookup a = _
    rw [List.lookup_cons]
    simp
  | a :: as, k :: ks, j + 1, b, e, nd, h1, h2 => by
    skip; obtain ⟨n1, n2⟩ := List.nodup_cons.mp nd
    have h1 : as[j]? = some b := h1
    have ne : b ≠ a := fun z => n1 (by rw [← z]; exact List.mem_of_getElem? h1)
    show ((a, k) :: as.zip ks).lookup b = _
    rw [List.lookup_cons, show (b == a) = false from beq_eq_false_iff_ne.mpr ne]
    exact zip_lookA n2 h1 h2
theorem pairs_at {P : Program} {w : World} : ∀ {es : List DictEntry} {vs : List (Key × Value)} {j : Nat} {en : DictEntry}, Pairs (mixKind P w) es vs → es[j]? = some en → ∃ kv, vs[j]? = some kv ∧ keyIs kv.1 en.key = true ∧ en.val = kv.2
  | _, _, j, en, .nil, h => by simp at h
  | _, _, 0, en, .cons h1 h2 _, h => by cases h; exact ⟨_, rfl, h1, h2⟩
  | _, _, j + 1, en, .cons _ _ t, h => pairs_at (j := j) t h
theorem paired_at {α β : Type} {R : α → β → Prop} : ∀ {xs : List α} {ys : List β} {j : Nat} {y : β}, Paired R xs ys → ys[j]? = some y → ∃ x, xs[j]? = some x ∧ R x y
  | _, _, j, y, .nil, h => by simp at h
  | _, _, 0, y, .cons h1 _, h => by cases h; exact ⟨_, rfl, h1⟩
  | _, _, j + 1, y, .cons _ t, h => paired_at (j := j) t h
def rSI : List V → Hp → VK → Prop := fun vs H Q => ∃ (p a : Addr) (kvs : List (Key × V)), vs = [.ref p] ∧ H p = some (itemsO p a) ∧ H a = some (.dK kvs) ∧ kvs.length < 64 ∧ (∀ e ∈ kvs, ∃ i, e.1 = Sum.inl i) ∧
  ∀ (H' : Hp) (l : Addr) (ps : List (Addr × Key × V)), (∀ b o, H b = some o → H' b = some o) → (ps.map (·.2)).Perm kvs → (ps.map (·.2)).Pairwise (fun e f => kI e.1 ≤ kI f.1) → H l = none → H' l = some (.lst (ps.map fun z => V.ref z.1)) →
    (∀ z ∈ ps, H' z.1 = some (.tup [kV z.2.1, z.2.2])) → Q (.ref l) H'
theorem cr_sortI (hc : X.calm = true) : CallR X (.builtin "sorted") rSI := by
  skip; intro pins s σ H xs us Q I r h
  obtain ⟨p, a, kvs, rfl, hp, ha, h64, hint, q⟩ := h
  obtain rfl := Vals.ref1 r
  skip; have view : s.heap.IsItemsView p a := (show ObjOk X.prog X.w H s.heap p (itemsO p a) from I.hok p _ hp).1
  obtain ⟨z, hd, xs', rel, dd⟩ := dk_of I.hok ha
  obtain ⟨es, ep, raw, hes, hn⟩ := raw_of dd
  have l1 : kvs.length = xs'.length := Paired.length rel
  have l2 : es.size = xs'.length := by rw [← hes.length, Array.length_toList]
  skip; have hh : X.A.handled = none := I.ok.hd hc
  refine DT.sortedI (es := es) (ep := ep) hh view raw (by rw [sizeLine_eq]; omega) fun h' tk as hk hlt hl hG => ?_
  have lak : as.length = kvs.length := by omega
  skip; have nd : as.Nodup := List.Pairwise.imp (fun h => Nat.ne_of_lt h) hG.rise
  have pr : ∀ (j : Nat) (b : Addr), as[j]? = some b → ∃ (e : Key × V) (i : Int) (t : Tok) (u : Value), kvs[j]? = some e ∧ e.1 = Sum.inl i ∧ RelV e.2 u ∧ xs'[j]? = some (Sum.inl i, u) ∧ h'.get? b = some { cls := .type "tuple", data := .seq #[Value.int i t, u] } := by
    intro j b hj
    skip; obtain ⟨en, he, hg⟩ := hG.pairs j b hj
    obtain ⟨kv, e1, e2, e3⟩ := pairs_at (j := j) hes (by rw [Array.getElem?_toList]; exact he)
    obtain ⟨e, f1, f2, f3⟩ := paired_at rel e1
    obtain ⟨i, ei⟩ := hint e (List.mem_of_getElem? f1)
    rw [← f2, ei] at e2
    rcases keyIs_shape e2 with ⟨i', t, ek, ev⟩ | ⟨x', t, ek, ev⟩
    · cases ek
      refine ⟨e, i, t, kv.2, f1, ei, f3, ?_, ?_⟩
      · rw [e1, ← ei, f2]
      · rw [hg, ev, e3]
    · cases ek
  skip; have hob : (h'.push { cls := .type "list", data := .seq (as.map Value.ref).toArray }).get? h'.objs.size = some (seqObj "list" (as.map Value.ref).toArray 0) := Heap.get?_push_size _ rfl
  skip; have kb : ∀ b o, s.heap.get? b = some o → (h'.push { cls := .type "list", data := .seq (as.map Value.ref).toArray }).get? b = some o := fun b o e => Heap.get?_push_of_some _ (hk b o e)
  skip; have ne0 : ∀ b o, h'.get? b = some o → b ≠ h'.objs.size := fun b o e => Nat.ne_of_lt (Heap.lt_size e)
  skip; generalize hh2 : h'.push { cls := .type "list", data := .seq (as.map Value.ref).toArray } = h2 at hob kb ⊢
  skip; have ka : ∀ b o, h'.get? b = some o → h2.get? b = some o := fun b o e => by rw [← hh2]; exact Heap.get?_push_of_some _ e
  obtain ⟨rk, hrk⟩ : ∃ rk : Value → Int, ∀ (j : Nat) (b : Addr) (e : Key × V), as[j]? = some b → kvs[j]? = some e → rk (.ref b) = kI e.1 :=
    ⟨fun v => match v with
      | .ref b => (((as.zip kvs).lookup b).map fun e => kI e.1).getD 0
      | _ => 0, fun j b e h1 h2 => by show (((as.zip kvs).lookup b).map fun e => kI e.1).getD 0 = _; rw [zip_lookA nd h1 h2]; rfl⟩
  have at_ : ∀ v ∈ as.map Value.ref, ∃ (j : Nat) (b : Addr), v = .ref b ∧ as[j]? = some b := by
    intro v hv'
    skip; obtain ⟨b, hb, rfl⟩ := List.mem_map.mp hv'
    skip; obtain ⟨j, hj⟩ := List.mem_iff_getElem?.mp hb
    exact ⟨j, b, rfl, hj⟩
  have knd : (kvs.map (·.1)).Nodup := by rw [rel.keys]; exact hn
  have kinj : ∀ (j j2 : Nat) (e e2 : Key × V), kvs[j]? = some e → kvs[j2]? = some e2 → e.1 = e2.1 → j = j2 := by
    intro j j2 e e2 h1 h2 h3
    have g1 : (kvs.map (·.1))[j]? = some e.1 := by rw [List.getElem?_map, h1]; rfl
    have g2 : (kvs.map (·.1))[j2]? = some e.1 := by rw [List.getElem?_map, h2, h3]; rfl
    exact (List.getElem?_inj (List.getElem?_eq_some_iff.mp g1).1 knd).mp (g1.trans g2.symm)
  skip; refine wpAny_call_entry PyProof.Rows.slot_list_sort ⟨_, hob, rfl⟩ PyProof.Rows.entry_list_sort
    (SK.plain_sort (s := { s with heap := h2, toks := tk }) (r := rk) hob (by rw [List.length_map]; omega) (fun h2' Qk hQk => ?_) fun ps out o1 o2 o3 => ⟨.none, rfl, ?_⟩) (PyProof.Rows.args_list_sort _)
  · refine kind_i (s := { s with heap := TS.midHeap h2 h'.objs.size (as.map Value.ref), toks := tk }) (r := rk) h2' (fun v hv' => ?_) (fun v hv' u hu' er => ?_) Qk hQk
    · obtain ⟨j, b, rfl, hj⟩ := at_ v hv'
      obtain ⟨e, i, t, u, h1, h2, h3, _, h4⟩ := pr j b hj
      refine ⟨b, t, u, rfl, ?_⟩
      rw [hrk j b e hj h1, h2]
      exact ⟨_, TS.midHeap_old (ne0 _ _ h4) (ka _ _ h4), rfl, 0, rfl⟩
    · obtain ⟨j, b, rfl, hj⟩ := at_ v hv'
      obtain ⟨j2, b2, rfl, hj2⟩ := at_ u hu'
      obtain ⟨e, i, t, u, h1, h2, _⟩ := pr j b hj
      obtain ⟨e2, i2, t2, u2, g1, g2, _⟩ := pr j2 b2 hj2
      rw [hrk j b e hj h1, hrk j2 b2 e2 hj2 g1, h2, g2] at er
      have er : i = i2 := er
      have := kinj j j2 e e2 h1 g1 (by rw [h2, g2, er])
      subst this
      rw [hj] at hj2
      cases hj2
      rfl
  · skip; show EP X pins σ Q (.ref h'.objs.size) { s with heap := sortedHeap h2 h'.objs.size (as.map Value.ref) out, toks := tk }
    obtain ⟨zs, pz, ez⟩ := perm_lift (fun z : Addr × Key × V => (Value.ref z.1, Value.ref z.1)) o2 (as.zip kvs) (zip_self Value.ref as kvs lak)
    have idx : ∀ z ∈ zs, ∃ j : Nat, as[j]? = some z.1 ∧ kvs[j]? = some z.2 := by
      intro z' hz'
      skip; obtain ⟨j, hj⟩ := List.mem_iff_getElem?.mp (pz.mem_iff.mp hz')
      skip; exact ⟨j, List.getElem?_zip_eq_some.mp hj⟩
    skip; have hout : out.toList = zs.map fun z => Value.ref z.1 := by
      rw [o1, ← ez, List.map_map]
      all_goals rfl
    have hperm : (zs.map (·.2)).Perm kvs := by
      have e := pz.map (·.2)
      have m2 : (as.zip kvs).map (·.2) = kvs := List.map_snd_zip (by rw [lak]; exact Nat.le_refl _)
      rw [m2] at e
      exact e
    have hsort : (zs.map (·.2)).Pairwise (fun e f => kI e.1 ≤ kI f.1) := by
      skip; rw [← ez, List.pairwise_map] at o3
      rw [List.pairwise_map]
      skip; refine List.Pairwise.imp_of_mem (fun {x y} hx hy h => ?_) o3
      skip; obtain ⟨j, j1, j2⟩ := idx x hx
      skip; obtain ⟨i, i1, i2⟩ := idx y hy
      have h' : rk (.ref x.1) ≤ rk (.ref y.1) := h
      rw [hrk j _ _ j1 j2, hrk i _ _ i1 i2] at h'
      exact h'
    skip; have kF : ∀ b o, b ≠ h'.objs.size → h2.get? b = some o → (sortedHeap h2 h'.objs.size (as.map Value.ref) out).get? b = some o := fun b o hb e => (PyProof.Rows.sortedHeap_old hb (Heap.lt_size e)).trans e
    skip; have kS : ∀ b o, s.heap.get? b = some o → (sortedHeap h2 h'.objs.size (as.map Value.ref) out).get? b = some o := fun b o e => kF b o (ne0 _ _ (hk b o e)) (kb b o e)
    skip; obtain ⟨eF, heF⟩ := PyProof.Rows.sortedHeap_at (vs := as.map Value.ref) (out := out) hob
    skip; have I1 : Inv X pins σ H { s with heap := sortedHeap h2 h'.objs.size (as.map Value.ref) out, toks := tk } := I.kept (t' := tk) kS
    skip; have hn0 : H h'.objs.size = none := I.hok.fresh (Nat.le_of_lt hlt)
    skip; have hlen : (zs.map fun z => V.ref z.1).length ≤ sizeLine := by
      have e := hperm.length_eq
      rw [List.length_map] at e
      skip; rw [List.length_map, sizeLine_eq]
      omega
    skip; have rv : Vals (zs.map fun z => V.ref z.1) out.toList := by
      rw [hout]
      exact vals_maps (fun z : Addr × Key × V => V.ref z.1) (fun z => Value.ref z.1) zs fun _ _ => rfl
    skip; have I2 : Inv X pins σ (upd H h'.objs.size (.lst (zs.map fun z => V.ref z.1))) { s with heap := sortedHeap h2 h'.objs.size (as.map Value.ref) out, toks := tk } :=
      (I1.take (h' := sortedHeap h2 h'.objs.size (as.map Value.ref) out) (t' := tk) (fun b ob _ e => e) (I.fpOk (Nat.le_of_lt hlt) hn0) ⟨hlen, out.toList, eF, rv, heF⟩)
    obtain ⟨H2, I3, g, qt⟩ := takeT (P := fun b vs => ∃ (j : Nat) (e : Key × V), as[j]? = some b ∧ kvs[j]? = some e ∧ vs = [kV e.1, e.2]) I as _ I2 nd fun b hb => by
      skip; obtain ⟨j, hj⟩ := List.mem_iff_getElem?.mp hb
      obtain ⟨e, i, t, u, he, hi, hr, _, hg⟩ := pr j b hj
      skip; have hbl : s.heap.objs.size ≤ b := Nat.le_of_lt (hG.above b hb)
      refine ⟨hbl, ?_, [kV e.1, e.2], ⟨j, e, hj, he, rfl⟩, fun H3 => ⟨(by rw [sizeLine_eq]; show 2 ≤ 16777216; omega), [Value.int i t, u], .cons (by rw [hi]; exact ⟨t, rfl⟩) (.cons hr .nil), ⟨_, kF _ _ (ne0 _ _ hg) (ka _ _ hg), rfl, 0, rfl⟩⟩⟩
      rw [upd_ne (ne0 _ _ hg)]
      exact I.hok.fresh hbl
    skip; have gr : ∀ b o, H b = some o → H2 b = some o := fun b o e => g b o (by rw [upd_ne (ne_of_none e hn0)]; exact e)
    refine ⟨.ref h'.objs.size, H2, I3, rfl, q H2 h'.objs.size zs gr hperm hsort hn0 (g _ _ upd_same) fun z' hz' => ?_⟩
    skip; obtain ⟨i, i1, i2⟩ := idx z' hz'
    obtain ⟨vs, ⟨j, e, j1, j2, ev⟩, hH⟩ := qt z'.1 (List.mem_of_getElem? i1)
    skip; have eij : i = j := (List.getElem?_inj (List.getElem?_eq_some_iff.mp i1).1 nd).mp (i1.trans j1.symm)
    subst eij
    skip; have ee : e = z'.2 := Option.some.inj (j2.symm.trans i2)
    rw [ev, ee] at hH
    exact hH

theorem Le.sub {H' : Hp} (sub : ∀ b o, H b = some o → H' b = some o) : Le ρ H ρ H' :=
  ⟨⟨⟨fun _ _ q => q, fun a xs q => sub _ _ q, fun a xs q => sub _ _ q⟩, fun a x u q => sub _ _ q⟩, fun b x q n => ⟨sub _ _ q, n⟩⟩
theorem Sim.sub {L : Lk} {H' : Hp} (S : Sim L ρ h H) (sub : ∀ b o, H b = some o → H' b = some o) : Sim L ρ h H' :=
  ⟨fun a ob e => let ⟨q, e1, r⟩ := S.ob a ob e; ⟨q, e1, r.keep (Le.sub sub) (by
    obtain ⟨o, ho⟩ := Option.ne_none_iff_exists'.mp (S.tr a q e1).1
    rw [ho, sub _ _ ho])⟩, S.inj, S.lt, fun a q e => by
    have t := S.tr a q e
    obtain ⟨o, ho⟩ := Option.ne_none_iff_exists'.mp t.1
    rw [ho] at t
    rw [sub _ _ ho]
    exact t⟩
/-- an empty dict, its keys from now on plain -/
def tDk (te : TE) : TE := fun σ H Q => te σ H fun x H1 => (∃ p, x = .ref p ∧ H1 p = some (.dT []) ∧ Q x (upd H1 p (.dK []))) ∨ Q x H1
theorem pe_dk {e : Expr} {te : TE} (he : PE X e te) : PE X e (tDk te) := by
  refine ⟨fun pins s σ H Q I hw => thn (he.run pins s σ H _ I hw) fun v s1 ⟨x, H1, I1, rx, q⟩ => ?_⟩
  rcases q with ⟨p, ex, hp, q⟩ | q
  · exact ⟨x, _, Inv.reK I1 hp, rx, q⟩
  · exact ⟨x, _, I1, rx, q⟩
theorem keyS_int {i : Int} {κ : Key} (e : keyS (.int i) = some κ) : kI κ = i := by cases e; rfl
/-- pairs and pairs, one by one -/
theorem kv_zip {l : List (TB.D × TB.D)} {kvs : List (Key × V)} (t : RelKv Z.L ρ H keyS l kvs) : (l.zip kvs).map (·.1) = l ∧ (l.zip kvs).map (·.2) = kvs ∧ ∀ z ∈ l.zip kvs, keyS z.1.1 = some z.2.1 ∧ RelD Z.L ρ H z.1.2 z.2.2 := by
  induction t with
  | nil => exact ⟨rfl, rfl, fun _ h => (nomatch h)⟩
  | cons e1 e2 t ih =>
    obtain ⟨a, b, c⟩ := ih
    refine ⟨congrArg (_ :: ·) a, congrArg (_ :: ·) b, fun z hz => ?_⟩
    skip; rcases List.mem_cons.mp hz with rfl | hz
    · exact ⟨e1, e2⟩
    · exact c z hz
theorem pairs_rel : ∀ {zs : List ((TB.D × TB.D) × (Key × V))} {ps : List (Addr × Key × V)}, zs.map (·.2) = ps.map (·.2) → (∀ z ∈ zs, keyS z.1.1 = some z.2.1 ∧ RelD Z.L ρ H z.1.2 z.2.2) → (∀ z ∈ ps, H z.1 = some (.tup [kV z.2.1, z.2.2])) →
    RelL Z.L ρ H ((zs.map (·.1)).map pairT) (ps.map fun z => V.ref z.1)
  | [], [], _, _, _ => .nil
  | [], _ :: _, e, _, _ => by simp at e
  | _ :: _, [], e, _, _ => by simp at e
  | z :: zs, p :: ps, e, h1, h2 => by
    have e1 : z.2 = p.2 := (List.cons.inj e).1
    have e2 : zs.map (·.2) = ps.map (·.2) := (List.cons.inj e).2
    obtain ⟨k1, k2⟩ := h1 z (List.mem_cons_self ..)
    refine .cons (.tup (vs := [kV p.2.1, p.2.2]) (h2 p (List.mem_cons_self ..)) ?_) (pairs_rel e2 (fun y hy => h1 y (List.mem_cons_of_mem _ hy)) fun y hy => h2 y (List.mem_cons_of_mem _ hy))
    rw [← e1]
    exact .cons (keyS_val k1) (.cons k2 .nil)
theorem its_some {a : Nat} {Q : VK} {Wk : WK} (q : PostD Z.L ρ H (itsR a h) Q Wk) : ∃ l r, h.get a = some (.dct 0 l) ∧ l.length < 64 ∧ sortI l = some r ∧ PostD Z.L ρ H (newL (r.map pairT) h) Q Wk := by
  unfold itsR at q
  split at q
  · rename_i l eg
    cases c : Nat.blt l.length 64 with
    | false => rw [c] at q; exact q.elim
    | true =>
      rw [c] at q
      have q : PostD Z.L ρ H (match sortI l with
        | some r => newL (r.map pairT) h
        | none => .bad) Q Wk := q
      cases er : sortI l with
      | none => rw [er] at q; exact q.elim
      | some r =>
        rw [er] at q
        exact ⟨l, r, eg, Nat.le_of_ble_eq_true c, er, q⟩
  · exact q.elim
theorem re_srtI {o : Expr} {me : ME} {x : Str} {p ap p2 pos : Pos} (hc : X.calm = true) (ho : PE X o (RdE Z me W)) (hb : noSup o = true) (hl : (ap.endLine == p2.line) = true) (hg : Gl X x) (hm : X.mg x = none) (hv : bootBuiltins x = some (.builtin "sorted")) (hn : x ≠ "__name__") (hd : (x == ("__debug__" : Str)) = false) :
    PE X (.Call (.Name x p) [.Call (.Attribute o "items" ap) [] [] p2] [] pos) (RdE Z (mB1 .sorted (iItm me)) W) := by
  refine ⟨fun pins s σ H Q I ⟨ρ, env, h, S, E, q⟩ => ?_⟩
  refine (pe_callB (cr_sortI hc) hg hm hv (pa_cons (pe_bm0 F.plainAttrs_dict F.slot_dict_items F.type_dict_items mt_itemsK (pe_dk ho) (base_plain hb) hl) pa_nil (starEach_cons rfl)) hn hd (starEach_cons rfl) rfl).run pins s σ H Q I ?_
  have q : PostD Z.L ρ H (((me env h).bind fun x h => match x with
    | .ref a => match h.get a with
      | some (.dct _ _) => Res.ok (TB.It.items a) h
      | _ => .bad
    | _ => .bad).bind srtOf) Q (Wat W σ) := q
  rw [res_assoc] at q
  refine RdE.to S E q fun y H1 ρ1 v h1 le S1 E1 r q1 => ?_
  cases r <;> first | exact q1.elim | skip
  rename_i a pa ea
  have q1 : PostD Z.L ρ1 H1 ((match h1.get a with
      | some (.dct _ _) => Res.ok (TB.It.items a) h1
      | _ => .bad).bind srtOf) Q (Wat W σ) := q1
  have q2 : PostD Z.L ρ1 H1 (itsR a h1) Q (Wat W σ) := by
    cases eg : h1.get a with
    | none => rw [eg] at q1; exact q1.elim
    | some ob =>
      rw [eg] at q1
      cases ob <;> first | exact q1.elim | exact q1
  obtain ⟨l, r, eg, h64, er, q3⟩ := its_some q2
  obtain ⟨p1, p2', p3⟩ := sortI_ok er
  obtain ⟨hz, q4⟩ := post_newL q3
  obtain ⟨u, ru, hu0⟩ := S1.at ea eg
  have hu : H1 pa = some u := hu0
  clear hu0
  have main : ∀ (H2 : Hp) (kvs : List (Key × V)), Le ρ1 H1 ρ1 H2 → Sim Z.L ρ1 h1 H2 → H2 pa = some (.dK kvs) → RelKv Z.L ρ1 H2 keyS l kvs →
      tyV X.K "dict" (.ref pa) H2 ∧ rItemsK (.ref pa) [] H2 fun x H3 => L2.tNil σ H3 fun xs H4 => rSI (x :: xs) H4 Q := by
    intro H2 kvs le2 S2 h2 t
    have hlen := t.length
    refine ⟨.inr (.inr (.inl ⟨rfl, .inl ⟨kvs, h2⟩⟩)), pa, kvs, rfl, rfl, h2, fun pv hpv => ?_⟩
    have sub0 : ∀ b o, H2 b = some o → (upd H2 pv (itemsO pv pa)) b = some o := fun b o e => by rw [upd_ne (ne_of_none e hpv)]; exact e
    refine ⟨pv, pa, kvs, rfl, upd_same, sub0 _ _ h2, by omega, fun e he => ?_, fun H' lA ps sub perm pw hl0 hl1 tup => ?_⟩
    · obtain ⟨z1, z2, z3⟩ := kv_zip t
      rw [← z2] at he
      obtain ⟨z, hz, rfl⟩ := List.mem_map.mp he
      obtain ⟨k1, _⟩ := z3 z hz
      have hz1 : z.1 ∈ l := by rw [← z1]; exact List.mem_map_of_mem hz
      obtain ⟨i, ei⟩ := p3 _ hz1
      rw [ei] at k1
      exact ⟨i, (Option.some.inj k1).symm⟩
    · have sub2 : ∀ b o, H2 b = some o → H' b = some o := fun b o e => sub _ _ (sub0 _ _ e)
      have S3 := S2.sub sub2
      have le3 : Le ρ1 H1 ρ1 H' := le2.trans (Le.sub sub2)
      have t3 := t.mono (Le.sub (ρ := ρ1) sub2)
      obtain ⟨z1, z2, z3⟩ := kv_zip t3
      obtain ⟨zs, pz, ez⟩ := perm_lift (fun z : (TB.D × TB.D) × (Key × V) => z.2) perm (l.zip kvs) z2
      have rel : ∀ z ∈ zs, keyS z.1.1 = some z.2.1 ∧ RelD Z.L ρ1 H' z.1.2 z.2.2 := fun z hz => z3 z (pz.mem_iff.mp hz)
      have pl : (zs.map (·.1)).Perm l := by have := pz.map (·.1); rw [z1] at this; exact this
      have pk : (zs.map (·.1)).Pairwise (fun a b => keyI a.1 ≤ keyI b.1) := by
        rw [← ez, List.pairwise_map] at pw
        rw [List.pairwise_map]
        refine List.Pairwise.imp_of_mem (fun {x y} hx hy hxy => ?_) pw
        have key : ∀ z ∈ zs, kI z.2.1 = keyI z.1.1 := fun z hz => by
          obtain ⟨k1, _⟩ := rel z hz
          obtain ⟨i, ei⟩ := p3 _ (pl.mem_iff.mp (List.mem_map_of_mem hz))
          rw [ei] at k1
          rw [keyS_int k1, ei]
          rfl
        rw [key x hx, key y hy] at hxy
        exact hxy
      have er2 : zs.map (·.1) = r := perm_one (fun a : TB.D × TB.D => keyI a.1) (pl.trans p1.symm) pk p2'
      have rl := pairs_rel ez rel tup
      rw [er2] at rl
      have hl1' : H1 lA = none := by
        cases e : H1 lA with
        | none => rfl
        | some o =>
          exfalso
          cases e2 : H2 lA with
          | none =>
            by_cases z : ∃ a, ρ1 a = some lA
            · obtain ⟨a', ea'⟩ := z
              exact (S2.tr a' lA ea').1 e2
            · have := (le2.un lA o e fun a' ea' => z ⟨a', ea'⟩).1
              rw [e2] at this
              cases this
          | some o2 => rw [sub0 _ _ e2] at hl0; cases hl0
      have un : ∀ a', ρ1 a' ≠ some lA := fun a' e => (S1.tr a' lA e).1 hl1'
      exact q4 _ _ _ (le3.adopt S3 hl1') (S3.adopt hl1 trivial un ⟨_, hl1, rl.mono0 ⟨fun b q e => by rw [ext_ne (Nat.ne_of_lt (S3.lt b q e))]; exact e, fun _ _ z => z, fun _ _ z => z⟩⟩) (.ref ext_same)
  cases u <;> first | exact ru.elim | skip
  · rename_i kvs
    exact .inr (main H1 kvs Le.refl S1 hu ru)
  · rename_i kvs
    have el : l = [] := by
      cases l with
      | nil => rfl
      | cons q l =>
        exfalso
        obtain ⟨q1, q2⟩ := q
        obtain ⟨i, ei⟩ := p3 (q1, q2) (List.mem_cons_self ..)
        have ei : q1 = TB.D.int i := ei
        subst ei
        have ru : RelKv Z.L ρ1 H1 keyT ((.int i, q2) :: l) kvs := ru
        cases ru with
        | cons e _ _ => cases e
    subst el
    have ek : kvs = [] := by
      have ru : RelKv Z.L ρ1 H1 keyT [] kvs := ru
      cases ru
      rfl
    subst ek
    have S2 : Sim Z.L ρ1 (h1.put a (.dct 0 [])) (upd H1 pa (.dK [])) := S1.put ea trivial ⟨.dK [], .nil, upd_same⟩
    exact .inl ⟨pa, rfl, hu, main _ [] (S1.le_put ea (by rw [hu]; trivial)) (S2.same_put eg) upd_same .nil⟩
/-- dict(d) -/
theorem bi_dict : BiOk Z X W (.type "dict") (fun vs h => biR .dict vs h) := by
  refine bi_one (one_of (f := dictR) rfl fun _ _ _ => rfl) (fun pins s σ H ρ h a x us Q I S rv r q => ?_)
  cases r <;> first | exact q.elim | skip
  rename_i a p ea
  have q : PostD Z.L ρ H (match h.get a with
    | some (.dct 0 l) => bif l.all (fun p => !isTup p.1) then new (.dct 0 l) h else .bad
    | _ => .bad) Q (Wat W σ) := q
  split at q
  · rename_i l eg
    cases c : l.all (fun p => !isTup p.1) with
    | false => rw [c] at q; exact q.elim
    | true =>
      rw [c] at q
      have q : PostD Z.L ρ H (new (.dct 0 l) h) Q (Wat W σ) := q
      obtain ⟨u, ru, hu0⟩ := S.at ea eg
      have hu : H p = some u := hu0
      clear hu0
      have fin : ∀ (H2 : Hp) (kvs : List (Key × V)), Le ρ H ρ H2 → Sim Z.L ρ h H2 → H2 p = some (.dK kvs) → RelKv Z.L ρ H2 keyS l kvs → ∀ p2, H2 p2 = none → Q (.ref p2) (upd H2 p2 (.dK kvs)) := fun H2 kvs le S2 h2 t p2 hp2 =>
        q (ext ρ h.n p2) _ _ (le.trans (S2.le_ext hp2)) (S2.push hp2 trivial ⟨.dK kvs, t.mono (S2.le_ext hp2), upd_same⟩) (.ref ext_same)
      cases u <;> first | exact ru.elim | skip
      · rename_i kvs
        exact call_dictD pins s σ H _ us Q I rv ⟨p, kvs, rfl, .inl hu, fin H kvs Le.refl S hu ru⟩
      · rename_i kvs
        have el : l = [] := by
          cases l with
          | nil => rfl
          | cons q0 l =>
            exfalso
            obtain ⟨c1, _⟩ := Bool.and_eq_true_iff.mp (show (!isTup q0.1 && l.all (fun p => !isTup p.1)) = true from c)
            have ru : RelKv Z.L ρ H keyT (q0 :: l) kvs := ru
            cases ru with
            | @cons k' _ _ _ _ _ e _ _ =>
              cases k' <;> first | (cases e; done) | (cases c1; done)
        subst el
        have ek : kvs = [] := by
          have ru : RelKv Z.L ρ H keyT [] kvs := ru
          cases ru
          rfl
        subst ek
        have S2 : Sim Z.L ρ (h.put a (.dct 0 [])) (upd H p (.dK [])) := S.put ea trivial ⟨.dK [], .nil, upd_same⟩
        exact call_dictD pins s σ _ _ us Q (Inv.reK I hu) rv ⟨p, [], rfl, .inl upd_same, fin _ [] (S.le_put ea (by rw [hu]; trivial)) (S2.same_put eg) upd_same .nil⟩
  · exact q.elim
end
end TB

/-! TB, the link: does the little program say what the written one does? A look, by the kernel. -/
namespace TB
open L2 PySem PyProof.Rows PySem.Spec

/-- what a module's name stands for -/
inductive Gv where
  | fn (f : Nat) | cl (c : Nat) | cv (d : D) | bf (id : String) | bt (T : String)
  deriving Inhabited
/-- what is known of the text -/
structure Tx where
  gl : List (Str × Gv)
  atts : List Nat
  nm : Nat → Str
  T : Tab
/-- a place in a def: its slots, its scope -/
structure Ck where
  N : List Str
  sc : Scope
  fnc : Str → Bool
/-- .. in the block of a comprehension: a cell of the def is a cell here -/
def blkNames (outer : Scope) (names : List (Str × NameKind)) : List (Str × NameKind) := names.map fun (n, k) => if (k == NameKind.free && outer.kind == .function && outer.names.lookup n == some .cell) then (n, NameKind.cell) else (n, k)
def inCk (C : Ck) (scope : Scope) : Ck := ⟨C.N, { scope with names := blkNames C.sc scope.names }, fun x => scope.names.lookup x == some .cell⟩

def eqStr (a b : Str) : Bool := decide (a = b)
def kindB (C : Ck) (x : Str) (k : NameKind) : Bool := decide (C.sc.names.lookup x = some k)
def visB (C : Ck) (x : Str) : Bool := match C.sc.names.lookup x with
  | some .local => true
  | some .cell => true
  | some .free => true
  | _ => false
def locB (C : Ck) (x : Str) : Bool := match C.sc.names.lookup x with
  | some .local => true
  | some .cell => C.fnc x
  | _ => false
def slotB (C : Ck) (i : Nat) (x : Str) : Bool := decide (C.N[i]? = some x)
def plainN (x : Str) : Bool := !(x == ("__debug__" : Str)) && !(x == ("__classdict__" : Str))
/-- the name x, here a module's, stands for g -/
def isG (G : Tx) (C : Ck) (x : Str) : Option Gv := bif kindB C x .globalImplicit && plainN x then G.gl.lookup x else none
def varB (C : Ck) (i : Nat) (x : Str) : Bool := slotB C i x && visB C x && plainN x
def cstC : D → Const → Bool
  | .non, .none => true
  | .bl a, .bool b => a == b
  | .int a, .int b => decide (a = b)
  | .str a, .str b => decide (toS a = b)
  | _, _ => false
def scal : D → Bool
  | .non => true
  | .bl _ => true
  | .int _ => true
  | .str _ => true
  | _ => false
def eqD : D → D → Bool
  | .non, .non => true
  | .bl a, .bl b => a == b
  | .int a, .int b => decide (a = b)
  | .str a, .str b => decide (a = b)
  | _, _ => false
def cstB (G : Tx) (C : Ck) (v : D) (e : Expr) : Bool := match e with
  | .Constant c _ _ => cstC v c
  | .Name x _ => match isG G C x with
    | some (.cv w) => scal w && eqD v w
    | _ => false
  | _ => false
def opB : Op → Operator → Bool
  | .add, .Add => true
  | .sub, .Sub => true
  | .mul, .Mult => true
  | .fdiv, .FloorDiv => true
  | .mod, .Mod => true
  | .pow, .Pow => true
  | _, _ => false
def callB (G : Tx) (C : Ck) (f : Nat) (x : Str) : Bool := match isG G C x with
  | some (.fn g) => Nat.beq g f
  | _ => false
def clsB (G : Tx) (C : Ck) (c : Nat) (x : Str) : Bool := match isG G C x with
  | some (.cl g) => Nat.beq g c
  | _ => false
def bfB (G : Tx) (C : Ck) (id : String) (x : Str) : Bool := match isG G C x with
  | some (.bf g) => decide (g = id)
  | _ => false
def btB (G : Tx) (C : Ck) (id : String) (x : Str) : Bool := match isG G C x with
  | some (.bt g) => decide (g = id)
  | _ => false
/-- a target -/
def ckTg (C : Ck) : Tg → Expr → Bool
  | .nm i, e => match e with
    | .Name x _ => slotB C i x && locB C x
    | _ => false
  | .tup t, e => match e with
    | .Tuple es _ _ => ckTgs C t es
    | _ => false
  | _, _ => false
where ckTgs (C : Ck) : Tg → List Expr → Bool
  | .nil, es => match es with
    | [] => true
    | _ => false
  | .cons (.nm i) r, es => match es with
    | .Name x _ :: es => slotB C i x && locB C x && ckTgs C r es
    | _ => false
  | .cons (.tup (.cons (.nm i) (.cons (.nm j) .nil))) r, es => match es with
    | .Tuple [.Name x _, .Name y _] _ _ :: es => slotB C i x && locB C x && slotB C j y && locB C y && ckTgs C r es
    | _ => false
  | _, _ => false
/-- own names of a comprehension's block -/
def ownOf (C : Ck) : List Nat → List (Str × Nat)
  | [] => []
  | i :: r => ((C.N[i]?).getD default, i) :: ownOf C r
def plainIxB : Expr → Bool
  | .Slice _ _ _ _ => false
  | _ => true
def notGenB (T : Tab) (f : Nat) : Bool := match T.fn.get f with
  | some F => !F.gen
  | none => true
def hasMs (T : Tab) (k : Nat) : Bool := match T.cl.get k with
  | some cl => !cl.ms.isEmpty
  | none => false
def notCls : Ty → Bool
  | .cls _ => false
  | _ => true
/-- a method's number that a rule stands for -/
def mthOkB (m : Nat) : Bool := !(Nat.beq m nUpdate)
def biN : Bi → Option (Bool × String)
  | .len => some (true, "len")
  | .abs => some (true, "abs")
  | .sorted => some (true, "sorted")
  | .all => some (true, "all")
  | .any => some (true, "any")
  | .sum => some (true, "sum")
  | .min => some (true, "min")
  | .max => some (true, "max")
  | .str => some (false, "str")
  | .int => some (false, "int")
  | .bool => some (false, "bool")
  | .list => some (false, "list")
  | .tuple => some (false, "tuple")
  | .dict => some (false, "dict")
  | _ => none
def biB (G : Tx) (C : Ck) (b : Bi) (x : Str) : Bool := match biN b with
  | some (true, id) => bfB G C id x
  | some (false, T) => btB G C T x
  | none => false
def isSetE : Expr → Bool
  | .Set _ _ _ => true
  | _ => false
def isTupE : Expr → Bool
  | .Tuple _ _ _ => true
  | _ => false
def isNilE : E → Bool
  | .nil => true
  | _ => false
def oneKv : E → Bool
  | .cons (.tup _) (.cons _ .nil) => true
  | _ => false
def isKysE : E → Bool
  | .kys _ => true
  | _ => false
/-- the block of a comprehension -/
def blkB (C : Ck) (scope : Scope) (vs : List Nat) : Bool := blkC C.N C.sc scope (ownOf C vs)
def cmpsB (os : List Cop) (ops : List CmpOp) (ys : List Expr) : Bool := Nat.blt 0 ops.length && (decide (os = ops.map copOf) && Nat.beq ops.length ys.length && !lastMarks ops ys)

mutual
def ckE (G : Tx) : E → Ck → Expr → Bool
  | .var i, C, e => match e with
    | .Name x _ => varB C i x
    | _ => false
  | .cst v, C, e => cstB G C v e
  | .tup es, C, e => match e with
    | .Tuple xs _ _ => ckL G es C xs
    | _ => false
  | .lst es, C, e => match e with
    | .List xs _ => ckL G es C xs
    | _ => false
  | .dsp es, C, e => match e with
    | .Dict [] [] _ => isNilE es
    | .Dict [some kx] [vx] _ => oneKv es && ckL G es C [kx, vx]
    | _ => false
  | .bin o a b, C, e => match e with
    | .BinOp x op y _ => opB o op && ckE G a C x && ckE G b C y
    | _ => false
  | .cmp a os bs, C, e => match e with
    | .Compare x ops ys _ => ckE G a C x && cmpsB os ops ys && ckL G bs C ys
    | _ => false
  | .and a b, C, e => match e with
    | .BoolOp .And (x :: y :: r) p => ckE G a C x && (match r with
      | [] => ckE G b C y
      | z :: r => ckE G b C (.BoolOp .And (y :: z :: r) p))
    | _ => false
  | .or a b, C, e => match e with
    | .BoolOp .Or (x :: y :: r) p => ckE G a C x && (match r with
      | [] => ckE G b C y
      | z :: r => ckE G b C (.BoolOp .Or (y :: z :: r) p))
    | _ => false
  | .not a, C, e => match e with
    | .UnaryOp .Not x _ => ckE G a C x
    | _ => false
  | .neg a, C, e => match e with
    | .UnaryOp .USub x _ => ckE G a C x
    | _ => false
  | .ite c a b, C, e => match e with
    | .IfExp x y z _ => ckE G c C x && ckE G a C y && ckE G b C z
    | _ => false
  | .att a f, C, e => match e with
    | .Attribute x fn _ => ckE G a C x && eqStr fn (G.nm f) && G.atts.contains f && noSup x
    | _ => false
  | .idx a i, C, e => match e with
    | .Subscript x y _ => ckE G a C x && plainIxB y && ckE G i C y
    | _ => false
  | .sli a lo hi, C, e => match e with
    | .Subscript x (.Slice l h none _) _ => ckE G a C x && ckP G lo C l && ckP G hi C h
    | _ => false
  | .rev a, C, e => match e with
    | .Subscript x (.Slice none none (some (.UnaryOp .USub (.Constant (.int 1) _ _) _)) _) _ => ckE G a C x
    | _ => false
  | .call f es, C, e => match e with
    | .Call (.Name x _) xs [] _ => callB G C f x && notGenB G.T f && ckL G es C xs
    | _ => false
  | .mk c es, C, e => match e with
    | .Call (.Name x _) xs [] _ => clsB G C c x && ckL G es C xs
    | _ => false
  | .mkv a es, C, e => match e with
    | .Call (.Name x p) xs [] _ => ckE G a C (.Name x p) && ckL G es C xs
    | _ => false
  | .bi b es, C, e => match e with
    | .Call (.Name x _) xs [] _ => biB G C b x && ckL G es C xs
    | _ => false
  | .b1 b i, C, e => match e with
    | .Call (.Name x _) [.Call (.Attribute o mn ap) [] [] p2] [] _ => (match b with
      | .sorted => (match i with
        | .itm a => bfB G C "sorted" x && eqStr mn "items" && noSup o && ap.endLine == p2.line && ckE G a C o
        | _ => false)
      | _ => false)
    | _ => false
  | .mth a m es, C, e => match e with
    | .Call (.Attribute x mn ap) xs [] p => mthOkB m && eqStr mn (G.nm m) && noSup x && ap.endLine == p.line && Nat.blt xs.length 29 && ckE G a C x && ckL G es C xs
    | _ => false
  | .smt c m es, C, e => match e with
    | .Call (.Attribute (.Name x _) mn ap) xs [] p => clsB G C c x && eqStr mn (G.nm m) && ap.endLine == p.line && Nat.blt xs.length 29 && (match methOf G.T c m with
      | some (.clm, _) => true
      | some (.stat, _) => true
      | _ => false) && ckL G es C xs
    | _ => false
  | .isi a ts, C, e => match e with
    | .Call (.Name f _) [x, .Name ty _] [] _ => bfB G C "isinstance" f && eqStr f "isinstance" && (match ts with
      | [.cls k] => clsB G C k ty && hasMs G.T k
      | [t] => notCls t && btB G C (tN t) ty
      | _ => false) && noStar x && ckE G a C x
    | _ => false
  | .lc g, C, e => match e with
    | .ListComp x [⟨tg, it, fs, 0⟩] scope _ => match g with
      | .gen t i c (.elt m) => (bif isKysE i then ckK G i C it else ckI G i C tg it) && !isSetE it && blkB C scope (tgVars t) && ckTg (inCk C scope) t tg && ckT G c (inCk C scope) fs && ckE G m (inCk C scope) x
      | _ => false
    | .ListComp x [⟨tg, it, fs, 0⟩, ⟨tg1, it1, fs1, 0⟩] scope _ => match g with
      | .gen t i c (.gen t1 i1 c1 (.elt m)) => ckI G i C tg it && !isSetE it && !isSetE it1 && blkB C scope (tgVars t ++ tgVars t1) && ckTg (inCk C scope) t tg && ckT G c (inCk C scope) fs && ckI G i1 (inCk C scope) tg1 it1 && ckTg (inCk C scope) t1 tg1 && ckT G c1 (inCk C scope) fs1 && ckE G m (inCk C scope) x
      | _ => false
    | _ => false
  | .dc g, C, e => match e with
    | .DictComp kx vx [⟨tg, it, fs, 0⟩] scope _ => match g with
      | .gen t i c (.ekv k v) => ckI G i C tg it && !isSetE it && blkB C scope (tgVars t) && ckTg (inCk C scope) t tg && ckT G c (inCk C scope) fs && ckE G k (inCk C scope) kx && ckE G v (inCk C scope) vx
      | _ => false
    | _ => false
  | _, _, _ => false
termination_by structural m => m
def ckP (G : Tx) : E → Ck → Option Expr → Bool
  | .cst .non, C, o => match o with
    | none => true
    | _ => false
  | .prt a, C, o => match o with
    | some x => ckE G a C x
    | none => false
  | _, _, _ => false
termination_by structural m => m
def ckL (G : Tx) : E → Ck → List Expr → Bool
  | .nil, C, es => match es with
    | [] => true
    | _ => false
  | .cons a r, C, es => match es with
    | x :: xs => noStar x && ckE G a C x && ckL G r C xs
    | _ => false
  | _, _, _ => false
termination_by structural m => m
def ckI (G : Tx) : E → Ck → Expr → Expr → Bool
  | .itv a, C, tg, e => ckE G a C e
  | .rng es, C, tg, e => match e with
    | .Call (.Name f _) xs [] _ => btB G C "range" f && eqStr f "range" && (Nat.beq xs.length 1 || Nat.beq xs.length 2) && ckL G es C xs
    | _ => false
  | .zip es, C, tg, e => match e with
    | .Call (.Name f _) xs [] _ => btB G C "zip" f && eqStr f "zip" && isTupE tg && (Nat.beq xs.length 2 || Nat.beq xs.length 3) && ckL G es C xs
    | _ => false
  | .enm a, C, tg, e => match e with
    | .Call (.Name f _) [x] [] _ => btB G C "enumerate" f && eqStr f "enumerate" && isTupE tg && noStar x && ckE G a C x
    | _ => false
  | _, _, _, _ => false
termination_by structural m => m
def ckK (G : Tx) : E → Ck → Expr → Bool
  | .kys a, C, e => ckE G a C e
  | _, _, _ => false
termination_by structural m => m
def ckT (G : Tx) : E → Ck → List Expr → Bool
  | .nil, C, es => match es with
    | [] => true
    | _ => false
  | .cons a .nil, C, es => match es with
    | [x] => ckE G a C x
    | _ => false
  | _, _, _ => false
termination_by structural m => m
end
end TB

/-! TB, the link: what the look finds is so. -/
namespace TB
open L2 PySem PyProof.Rows PySem.Spec
def GvOk (Z : Wl) (x : Str) : Gv → Prop
  | .fn f => Z.mg x = some (.ref (Z.L.fA f)) ∧ PySem.W.keepIn Z.L.K (.ref (Z.L.fA f)) = true
  | .cl c => Z.mg x = some (.ref (Z.L.cA c)) ∧ PySem.W.keepIn Z.L.K (.ref (Z.L.cA c)) = true
  | .cv d => ∃ u v, Z.mg x = some u ∧ RelV v u ∧ ∀ ρ H, RelD Z.L ρ H d v
  | .bf id => Z.mg x = none ∧ bootBuiltins x = some (.builtin id) ∧ x ≠ "__name__"
  | .bt T => Z.mg x = none ∧ bootBuiltins x = some (.type T) ∧ x ≠ "__name__"
structure TxOk (Z : Wl) (G : Tx) : Prop where
  nm : Z.L.nm = G.nm
  T : Z.L.T = G.T
  gl : ∀ x g, G.gl.lookup x = some g → GvOk Z x g
/-- a place where a part of a def runs -/
structure Cxt (Z : Wl) (G : Tx) (k d : Nat) (C : Ck) (X : Cx) (W : WX) : Prop where
  K : Kt Z G.atts k d X W
  nb : Nb Z
  N : X.N = C.N
  sc : X.env.scope = C.sc
  fn : X.fn = C.fnc
section
variable {Z : Wl} {G : Tx} {k d : Nat} {C : Ck} {X : Cx} {W : WX}
theorem and2 {a b : Bool} (h : (a && b) = true) : a = true ∧ b = true := Bool.and_eq_true_iff.mp h
theorem plainN_at {x : Str} (h : plainN x = true) : (x == ("__debug__" : Str)) = false ∧ (x == ("__classdict__" : Str)) = false := by
  obtain ⟨a, b⟩ := and2 h
  exact ⟨by simpa using a, by simpa using b⟩
theorem isG_at (O : TxOk Z G) (c : Cxt Z G k d C X W) {x : Str} {g : Gv} (h : isG G C x = some g) : Gl X x ∧ (x == ("__debug__" : Str)) = false ∧ GvOk Z x g := by
  unfold isG at h
  cases q : kindB C x .globalImplicit && plainN x with
  | false => rw [q] at h; cases h
  | true =>
    rw [q] at h
    obtain ⟨a, b⟩ := and2 q
    refine ⟨?_, (plainN_at b).1, O.gl x g h⟩
    show X.env.scope.names.lookup x = _
    rw [c.sc]
    exact of_decide_eq_true a
theorem vis_at (c : Cxt Z G k d C X W) {x : Str} (h : visB C x = true) : Vis X.env.scope x := by
  unfold visB at h
  rw [← c.sc] at h
  unfold Vis
  split at h
  · exact .inl (by assumption)
  · exact .inr (.inl (by assumption))
  · exact .inr (.inr (by assumption))
  · cases h
theorem loc_at (c : Cxt Z G k d C X W) {x : Str} (h : locB C x = true) : Loc X.env.scope x ∧ (X.fn x = true ∨ X.env.scope.names.lookup x = some .local) := by
  unfold locB at h
  split at h
  · rename_i e; rw [← c.sc] at e; exact ⟨.inl e, .inr e⟩
  · rename_i e
    rw [← c.sc] at e
    exact ⟨.inr e, .inl (by rw [c.fn]; exact h)⟩
  · cases h
theorem slot_at (c : Cxt Z G k d C X W) {i : Nat} {x : Str} (h : slotB C i x = true) : X.N[i]? = some x := by rw [c.N]; exact of_decide_eq_true h
/-- arguments, one by one -/
inductive LsP (Z : Wl) (X : Cx) (W : WX) : List Expr → ML → Prop
  | nil : LsP Z X W [] mNil
  | cons {e : Expr} {es : List Expr} {m : ME} {ms : ML} (he : PE X e (RdE Z m W)) (hn : noStar e = true) (hs : LsP Z X W es ms) : LsP Z X W (e :: es) (mCons m ms)
theorem LsP.as {es : List Expr} {ms : ML} (h : LsP Z X W es ms) : AsOk Z X W es ms := by
  induction h with
  | nil => exact as_nil
  | cons he hn _ ih => exact as_cons he ih hn
theorem bm_no {m : Nat} (h : ∀ n, okM n m = false) : BmOk Z X W m := fun _ _ _ _ _ h' a _ _ _ _ _ _ e => by rw [h] at e; cases e
theorem bm_all (c : Cxt Z G k d C X W) {m : Nat} (h : mthOkB m = true) : BmOk Z X W m := by
  by_cases e : m = nAppend; · rw [e]; exact bm_append c.nb
  by_cases e : m = nPop; · rw [e]; exact bm_pop c.nb
  by_cases e : m = nReverse; · rw [e]; exact bm_reverse c.nb
  by_cases e : m = nClear; · rw [e]; exact bm_clear c.nb
  by_cases e : m = nGet; · rw [e]; exact bm_get c.K c.nb
  by_cases e : m = nSetdefault; · rw [e]; exact bm_setdefault c.K c.nb
  by_cases e : m = nJoin; · rw [e]; exact bm_join c.K c.nb
  by_cases e : m = nSplit; · rw [e]; exact bm_split c.nb
  by_cases e : m = nIndex; · rw [e]; exact bm_index c.nb
  by_cases e : m = nUpper; · rw [e]; exact bm_upper c.nb
  by_cases e : m = nLower; · rw [e]; exact bm_lower c.nb
  by_cases e : m = nStartswith; · rw [e]; exact bm_startswith c.nb
  refine bm_no fun n => ?_
  have hu : Nat.beq m nUpdate = false := by simpa [mthOkB] using h
  have b : ∀ j, m ≠ j → Nat.beq m j = false := fun j z => by
    cases q : Nat.beq m j with
    | false => rfl
    | true => exact absurd (Nat.eq_of_beq_eq_true q) z
  unfold okM
  split <;> simp [*]
theorem op_all (c : Cxt Z G k d C X W) {o : Op} {op : Operator} (h : opB o op = true) : OpOk Z X W (binaryOp op) (binop o) := by
  unfold opB at h
  split at h
  · exact op_add_ok c.K
  · exact op_sub_ok
  · exact op_mul_ok c.K
  · exact op_fdiv_ok
  · exact op_mod_ok
  · exact op_pow_ok
  · cases h
theorem cst_at (O : TxOk Z G) (c : Cxt Z G k d C X W) {v : D} {e : Expr} (h : cstB G C v e = true) : ∃ x, PE X e (tC x) ∧ ∀ ρ H, RelD Z.L ρ H v x := by
  unfold cstB at h
  split at h
  · unfold cstC at h
    split at h
    · exact ⟨.non, pe_non, fun _ _ => .non⟩
    · rename_i a b
      have e : a = b := by simpa using h
      subst e
      exact ⟨.bl a, pe_bl, fun _ _ => .bl a⟩
    · rename_i a b
      have e : a = b := of_decide_eq_true h
      subst e
      exact ⟨.int a, pe_int, fun _ _ => .int a⟩
    · rename_i a b
      have e : toS a = b := of_decide_eq_true h
      subst e
      exact ⟨.str _, pe_str, fun _ _ => .str a⟩
    · cases h
  · rename_i x p
    split at h
    · rename_i w hw
      obtain ⟨g1, g2, u, y, g3, g4, g5⟩ := isG_at O c hw
      obtain ⟨h1, h2⟩ := and2 h
      have e : v = w := by
        unfold eqD at h2
        split at h2 <;> first | rfl | (cases h2; done) | (have z := of_decide_eq_true h2; rw [z]) | (simp only [beq_iff_eq] at h2; rw [h2])
      subst e
      exact ⟨y, pe_glob g1 (by rw [c.K.g.mg]; exact g3) g4 g2, g5⟩
    · cases h
  · cases h
end
end TB

/-! TB, the link: soundness of the look at expressions. -/
namespace TB
open L2 PySem PyProof.Rows PySem.Spec
section
variable {Z : Wl} {G : Tx} {k d : Nat}
theorem hasMs_at {T : Tab} {k : Nat} (h : hasMs T k = true) : ∃ cl, T.cl.get k = some cl ∧ cl.ms ≠ [] := by
  unfold hasMs at h
  split at h
  · exact ⟨_, by assumption, fun w => by rw [w] at h; cases h⟩
  · cases h
theorem plainIx_at {b : Expr} (h : plainIxB b = true) : PlainIx b := by
  intro o i
  cases b <;> first | rfl | (cases h; done)
theorem fold_at {e : Expr} (h : isSetE e = false) : ∀ (env : PySem.Env) x, foldedSetIterable e env x = pure x := by
  intro env x
  cases e <;> first | rfl | (cases h; done)
theorem call_at (O : TxOk Z G) {C : Ck} {X : Cx} {W : WX} (c : Cxt Z G k d C X W) {f : Nat} {x : Str} (h : callB G C f x = true) : Gl X x ∧ (x == ("__debug__" : Str)) = false ∧ X.mg x = some (.ref (Z.L.fA f)) ∧ PySem.W.keepIn Z.L.K (.ref (Z.L.fA f)) = true := by
  unfold callB at h
  split at h
  · rename_i g hg
    obtain ⟨a, b, e⟩ := isG_at O c hg
    skip; have := Nat.eq_of_beq_eq_true h
    subst this
    exact ⟨a, b, by rw [c.K.g.mg]; exact e.1, e.2⟩
  · cases h
theorem cls_at (O : TxOk Z G) {C : Ck} {X : Cx} {W : WX} (c : Cxt Z G k d C X W) {f : Nat} {x : Str} (h : clsB G C f x = true) : Gl X x ∧ (x == ("__debug__" : Str)) = false ∧ X.mg x = some (.ref (Z.L.cA f)) ∧ PySem.W.keepIn Z.L.K (.ref (Z.L.cA f)) = true := by
  unfold clsB at h
  split at h
  · rename_i g hg
    obtain ⟨a, b, e⟩ := isG_at O c hg
    skip; have := Nat.eq_of_beq_eq_true h
    subst this
    exact ⟨a, b, by rw [c.K.g.mg]; exact e.1, e.2⟩
  · cases h
theorem bf_at (O : TxOk Z G) {C : Ck} {X : Cx} {W : WX} (c : Cxt Z G k d C X W) {id : String} {x : Str} (h : bfB G C id x = true) : Gl X x ∧ (x == ("__debug__" : Str)) = false ∧ X.mg x = none ∧ bootBuiltins x = some (.builtin id) ∧ x ≠ "__name__" := by
  unfold bfB at h
  split at h
  · rename_i g hg
    obtain ⟨a, b, e⟩ := isG_at O c hg
    have := of_decide_eq_true h
    subst this
    exact ⟨a, b, by rw [c.K.g.mg]; exact e.1, e.2⟩
  · cases h
theorem bt_at (O : TxOk Z G) {C : Ck} {X : Cx} {W : WX} (c : Cxt Z G k d C X W) {id : String} {x : Str} (h : btB G C id x = true) : Gl X x ∧ (x == ("__debug__" : Str)) = false ∧ X.mg x = none ∧ bootBuiltins x = some (.type id) ∧ x ≠ "__name__" := by
  unfold btB at h
  split at h
  · rename_i g hg
    obtain ⟨a, b, e⟩ := isG_at O c hg
    have := of_decide_eq_true h
    subst this
    exact ⟨a, b, by rw [c.K.g.mg]; exact e.1, e.2⟩
  · cases h
theorem notGen_at (O : TxOk Z G) {f : Nat} (h : notGenB G.T f = true) : notGen Z.L.T f := by
  intro F e
  rw [O.T] at e
  unfold notGenB at h
  rw [e] at h
  simpa using h
/-- the tests that are values -/
def plainT : Expr → Bool
  | .UnaryOp .Not _ _ => false
  | .BoolOp _ _ _ => false
  | .IfExp _ _ _ _ => false
  | .Compare _ _ _ _ => false
  | _ => true
theorem plainT_at {e : Expr} (h : plainT e = true) (env : PySem.Env) : ∀ whole, isTrue e env whole = (do let v ← whole; standAt e.pos; holding [v] (PySem.truthy v)) := by
  intro whole
  cases e <;> first | rfl | (cases h; done) | skip
  rename_i op x p
  cases op <;> first | rfl | (cases h; done)
theorem bi_all' {X : Cx} {W : WX} {C : Ck} (c : Cxt Z G k d C X W) {b : Bi} {x : String} {q : Bool} (h : biN b = some (q, x)) : if q then BiOk Z X W (.builtin x) (fun vs h => biR b vs h) else BiOk Z X W (.type x) (fun vs h => biR b vs h) := by
  have hc := c.K.g.calm
  unfold biN at h
  split at h <;> first | (cases h; done) | (injection h with h; injection h with h1 h2; subst h1; subst h2)
  · exact bi_len
  · exact bi_abs
  · exact bi_sorted c.K hc
  · exact bi_all hc
  · exact bi_any hc
  · exact bi_sum hc
  · exact bi_min hc
  · exact bi_max hc
  · exact bi_str
  · exact bi_int
  · exact bi_bool
  · exact bi_list
  · exact bi_tuple
  · exact bi_dict

/-- a comparison, one or many -/
theorem cmp_val {C : Ck} {X : Cx} {W : WX} (c : Cxt Z G k d C X W) {l : Expr} {ops : List CmpOp} {ys : List Expr} {p : Pos} {ml : ME} {r : MC} (hl : PE X l (RdE Z ml W)) (hr : (∃ op y me r', ops = [op] ∧ ys = [y] ∧ r = cCons me r' ∧ PE X y (RdE Z me W)) ∨ (2 ≤ ops.length ∧ PCh Z X W ops ys r (ops.map copOf))) (hm : lastMarks ops ys = false) (el : ops.length = ys.length) :
    PE X (.Compare l ops ys p) (RdE Z (mCmp ml (ops.map copOf) r) W) := by
  rcases hr with ⟨op, y, me, r', rfl, rfl, rfl, he⟩ | ⟨h2, hc⟩
  · exact re_cmp1 c.K hl he hm
  · exact re_cmpN hl hc h2 el hm
theorem cmp_tst {C : Ck} {X : Cx} {W : WX} (c : Cxt Z G k d C X W) {T : Tab} {call : Call} {l : Expr} {ops : List CmpOp} {ys : List Expr} {p : Pos} {ml : ME} {r : MC} (hl : PE X l (RdE Z ml W)) (hr : (∃ op y me r', ops = [op] ∧ ys = [y] ∧ r = cCons me r' ∧ PE X y (RdE Z me W)) ∨ (2 ≤ ops.length ∧ PCh Z X W ops ys r (ops.map copOf))) (hm : lastMarks ops ys = false) (el : ops.length = ys.length) :
    PT X (.Compare l ops ys p) (RdT Z (mTru T call (mCmp ml (ops.map copOf) r)) W) := by
  rcases hr with ⟨op, y, me, r', rfl, rfl, rfl, he⟩ | ⟨h2, hc⟩
  · exact rt_cmp1 c.K hl he hm
  · exact rt_cmpN hl hc h2 el hm

/-- an expression, as a value and as a test -/
def EB (Z : Wl) (d : Nat) (X : Cx) (W : WX) (e : Expr) (m : E) : Prop := PE X e (RdE Z (evE Z.L.T (cl Z d) m) W) ∧ PT X e (RdT Z (evB Z.L.T (cl Z d) m) W) ∧ ∀ op vs p, e = .BoolOp op vs p → PW X e (RdT Z (evB Z.L.T (cl Z d) m) W)
theorem tru_of {C : Ck} {X : Cx} {W : WX} (c : Cxt Z G k d C X W) {e : Expr} {m : E} (he : PE X e (RdE Z (evE Z.L.T (cl Z d) m) W)) (hp : plainT e = true) (hm : evB Z.L.T (cl Z d) m = mTru Z.L.T (cl Z d) (evE Z.L.T (cl Z d) m) := by rfl) : EB Z d X W e m := by
  refine ⟨he, ?_, fun op vs p z => ?_⟩
  · rw [hm]; exact rt_tru (tru_ok c.K) he (plainT_at hp _)
  · subst z; cases hp

theorem cxt_blk {C : Ck} {X : Cx} {W : WX} (c : Cxt Z G k d C X W) (scope : Scope) (s : Shared) (H : Hp) (Cc : Addr) (cl' : List (Str × Addr)) (fp : List Addr) : Cxt Z G k d (inCk C scope) (Bk X scope s H Cc cl' fp) W0 :=
  ⟨⟨gd_blk c.K.g, c.K.hk, c.K.fo, c.K.cs, c.K.nb⟩, c.nb, c.N, by
    show relabel scope X.env = _
    unfold inCk
    rw [← c.sc]
    rfl, rfl⟩
theorem own_map {C : Ck} : ∀ vs : List Nat, (ownOf C vs).map (·.2) = vs
  | [] => rfl
  | i :: r => congrArg (i :: ·) (own_map r)
theorem name_tg {C : Ck} {X : Cx} {W : WX} (c : Cxt Z G k d C X W) {i : Nat} {x : Str} {p : Pos} (h1 : slotB C i x = true) (h2 : locB C x = true) : PG X (.Name x p) (RdG Z (.nm i)) :=
  rg_name c.K.g.nd (slot_at c h1) (loc_at c h2).1 (loc_at c h2).2
theorem asg_len : ∀ {t : Tg} {C : Ck} {es : List Expr}, ckTg.ckTgs C t es = true → plainArgs es = true ∧ ∀ xs env env', asgT t xs env = some env' → xs.length = es.length
  | .nil, C, es, h => by
    unfold ckTg.ckTgs at h
    split at h
    · refine ⟨rfl, fun xs env env' e => ?_⟩
      cases xs with
      | nil => rfl
      | cons _ _ => cases e
    · cases h
  | .cons (.nm i) r, C, es, h => by
    unfold ckTg.ckTgs at h
    split at h
    · obtain ⟨h, h3⟩ := and2 h
      obtain ⟨p, l⟩ := asg_len h3
      refine ⟨by show (true && _) = true; rw [p]; rfl, fun xs env env' e => ?_⟩
      cases xs with
      | nil => cases e
      | cons x xs =>
        have e : (match asgT (.nm i) [x] env with
          | some σ' => asgT r xs σ'
          | none => none) = some env' := e
        cases q : asgT (.nm i) [x] env with
        | none => (rw [q] at e; cases e)
        | some en => rw [q] at e; exact congrArg (· + 1) (l xs en env' e)
    · cases h
  | .cons (.tup (.cons (.nm i) (.cons (.nm j) .nil))) r, C, es, h => by
    unfold ckTg.ckTgs at h
    split at h
    · obtain ⟨h, h3⟩ := and2 h
      obtain ⟨p, l⟩ := asg_len h3
      refine ⟨by show (true && _) = true; rw [p]; rfl, fun xs env env' e => ?_⟩
      cases xs with
      | nil => cases e
      | cons x xs =>
        have e : (match asgT (.tup (.cons (.nm i) (.cons (.nm j) .nil))) [x] env with
          | some σ' => asgT r xs σ'
          | none => none) = some env' := e
        cases q : asgT (.tup (.cons (.nm i) (.cons (.nm j) .nil))) [x] env with
        | none => (rw [q] at e; cases e)
        | some en => rw [q] at e; exact congrArg (· + 1) (l xs en env' e)
    · cases h
  | .nm _, C, es, h => by unfold ckTg.ckTgs at h; cases h
  | .tup _, C, es, h => by unfold ckTg.ckTgs at h; cases h
  | .cons .nil _, C, es, h => by unfold ckTg.ckTgs at h; cases h
  | .cons (.cons _ _) _, C, es, h => by unfold ckTg.ckTgs at h; cases h
  | .cons (.tup (.nm _)) _, C, es, h => by unfold ckTg.ckTgs at h; cases h
  | .cons (.tup (.tup _)) _, C, es, h => by unfold ckTg.ckTgs at h; cases h
  | .cons (.tup .nil) _, C, es, h => by unfold ckTg.ckTgs at h; cases h
  | .cons (.tup (.cons (.tup _) _)) _, C, es, h => by unfold ckTg.ckTgs at h; cases h
  | .cons (.tup (.cons .nil _)) _, C, es, h => by unfold ckTg.ckTgs at h; cases h
  | .cons (.tup (.cons (.cons _ _) _)) _, C, es, h => by unfold ckTg.ckTgs at h; cases h
  | .cons (.tup (.cons (.nm _) (.nm _))) _, C, es, h => by unfold ckTg.ckTgs at h; cases h
  | .cons (.tup (.cons (.nm _) (.tup _))) _, C, es, h => by unfold ckTg.ckTgs at h; cases h
  | .cons (.tup (.cons (.nm _) .nil)) _, C, es, h => by unfold ckTg.ckTgs at h; cases h
  | .cons (.tup (.cons (.nm _) (.cons (.tup _) _))) _, C, es, h => by unfold ckTg.ckTgs at h; cases h
  | .cons (.tup (.cons (.nm _) (.cons .nil _))) _, C, es, h => by unfold ckTg.ckTgs at h; cases h
  | .cons (.tup (.cons (.nm _) (.cons (.cons _ _) _))) _, C, es, h => by unfold ckTg.ckTgs at h; cases h
  | .cons (.tup (.cons (.nm _) (.cons (.nm _) (.nm _)))) _, C, es, h => by unfold ckTg.ckTgs at h; cases h
  | .cons (.tup (.cons (.nm _) (.cons (.nm _) (.tup _)))) _, C, es, h => by unfold ckTg.ckTgs at h; cases h
  | .cons (.tup (.cons (.nm _) (.cons (.nm _) (.cons _ _)))) _, C, es, h => by unfold ckTg.ckTgs at h; cases h

theorem gvars1 (t : Tg) (i q : E) (m : E) : gVars (.gen t i q (.elt m)) = tgVars t := List.append_nil _
theorem gvars1k (t : Tg) (i q : E) (k v : E) : gVars (.gen t i q (.ekv k v)) = tgVars t := List.append_nil _
theorem gvars2 (t t1 : Tg) (i q i1 q1 : E) (m : E) : gVars (.gen t i q (.gen t1 i1 q1 (.elt m))) = tgVars t ++ tgVars t1 := by
  show tgVars t ++ (tgVars t1 ++ []) = _
  rw [List.append_nil]
theorem lc_cast {C : Ck} {X : Cx} {W : WX} {e : Expr} {g : MG} {vs : List Nat} (h : PE X e (RdE Z (mLc ((ownOf C vs).map (·.2)) g) W)) : PE X e (RdE Z (mLc vs g) W) := by rw [own_map] at h; exact h
theorem dc_cast {C : Ck} {X : Cx} {W : WX} {e : Expr} {g : MG} {vs : List Nat} (h : PE X e (RdE Z (mDc ((ownOf C vs).map (·.2)) g) W)) : PE X e (RdE Z (mDc vs g) W) := by rw [own_map] at h; exact h
theorem blk_at {C : Ck} {X : Cx} {W : WX} (c : Cxt Z G k d C X W) {scope : Scope} {vs : List Nat} (h : blkB C scope vs = true) : BlkOk X.N X.env.scope scope (ownOf C vs) := by
  rw [c.N, c.sc]
  exact blkOk_by h
mutual
theorem tg_at : ∀ {t : Tg} {C : Ck} {X : Cx} {W : WX} {e : Expr}, Cxt Z G k d C X W → ckTg C t e = true → PG X e (RdG Z t)
  | .nm i, C, X, W, e, c, h => by
    have h : (match (generalizing := false) e with
      | .Name x _ => slotB C i x && locB C x
      | _ => false) = true := by unfold ckTg at h; exact h
    split at h
    · obtain ⟨h1, h2⟩ := and2 h
      exact name_tg c h1 h2
    · cases h
  | .tup t, C, X, W, e, c, h => by
    have h : (match (generalizing := false) e with
      | .Tuple es _ _ => ckTg.ckTgs C t es
      | _ => false) = true := by unfold ckTg at h; exact h
    split at h
    · rename_i es x1 p
      have z := asg_len h
      exact rg_tup c.K.g.calm (tgs_at c h) z.1 z.2
    · cases h
  | .nil, C, X, W, e, c, h => by
    have h : false = true := by unfold ckTg at h; exact h
    cases h
  | .cons _ _, C, X, W, e, c, h => by
    have h : false = true := by unfold ckTg at h; exact h
    cases h
theorem tgs_at : ∀ {t : Tg} {C : Ck} {X : Cx} {W : WX} {es : List Expr}, Cxt Z G k d C X W → ckTg.ckTgs C t es = true → PGs X es (RdGs Z t)
  | .nil, C, X, W, es, c, h => by
    unfold ckTg.ckTgs at h
    split at h
    · exact rgs_nil
    · cases h
  | .cons (.nm i) r, C, X, W, es, c, h => by
    unfold ckTg.ckTgs at h
    split at h
    · obtain ⟨h, h3⟩ := and2 h
      obtain ⟨h1, h2⟩ := and2 h
      exact rgs_cons (name_tg c h1 h2) (tgs_at c h3) rfl
    · cases h
  | .cons (.tup (.cons (.nm i) (.cons (.nm j) .nil))) r, C, X, W, es, c, h => by
    unfold ckTg.ckTgs at h
    split at h
    · obtain ⟨h, h5⟩ := and2 h
      obtain ⟨h, h4⟩ := and2 h
      obtain ⟨h, h3⟩ := and2 h
      obtain ⟨h1, h2⟩ := and2 h
      refine rgs_cons (rg_tup c.K.g.calm (rgs_cons (name_tg c h1 h2) (rgs_cons (name_tg c h3 h4) rgs_nil rfl) rfl) rfl ?_) (tgs_at c h5) rfl
      intro xs env env' e
      match xs, e with
      | [], e => cases e
      | [x], e =>
        have e : (match asgT (.nm i) [x] env with
          | some σ' => asgT (.cons (.nm j) .nil) [] σ'
          | none => none) = some env' := e
        cases q : asgT (.nm i) [x] env with
        | none => (rw [q] at e; cases e)
        | some en => rw [q] at e; cases e
      | [x, y], e => rfl
      | x :: y :: z :: xs, e =>
        have e : (match asgT (.nm i) [x] env with
          | some σ' => asgT (.cons (.nm j) .nil) (y :: z :: xs) σ'
          | none => none) = some env' := e
        cases q : asgT (.nm i) [x] env with
        | none => (rw [q] at e; cases e)
        | some en =>
          rw [q] at e
          have e : (match asgT (.nm j) [y] en with
            | some σ' => asgT .nil (z :: xs) σ'
            | none => none) = some env' := e
          cases q2 : asgT (.nm j) [y] en with
          | none => rw [q2] at e; cases e
          | some en2 => rw [q2] at e; cases e
    · cases h
  | .nm _, C, X, W, es, c, h => by unfold ckTg.ckTgs at h; cases h
  | .tup _, C, X, W, es, c, h => by unfold ckTg.ckTgs at h; cases h
  | .cons .nil _, C, X, W, es, c, h => by unfold ckTg.ckTgs at h; cases h
  | .cons (.cons _ _) _, C, X, W, es, c, h => by unfold ckTg.ckTgs at h; cases h
  | .cons (.tup (.nm _)) _, C, X, W, es, c, h => by unfold ckTg.ckTgs at h; cases h
  | .cons (.tup (.tup _)) _, C, X, W, es, c, h => by unfold ckTg.ckTgs at h; cases h
  | .cons (.tup .nil) _, C, X, W, es, c, h => by unfold ckTg.ckTgs at h; cases h
  | .cons (.tup (.cons (.tup _) _)) _, C, X, W, es, c, h => by unfold ckTg.ckTgs at h; cases h
  | .cons (.tup (.cons .nil _)) _, C, X, W, es, c, h => by unfold ckTg.ckTgs at h; cases h
  | .cons (.tup (.cons (.cons _ _) _)) _, C, X, W, es, c, h => by unfold ckTg.ckTgs at h; cases h
  | .cons (.tup (.cons (.nm _) (.nm _))) _, C, X, W, es, c, h => by unfold ckTg.ckTgs at h; cases h
  | .cons (.tup (.cons (.nm _) (.tup _))) _, C, X, W, es, c, h => by unfold ckTg.ckTgs at h; cases h
  | .cons (.tup (.cons (.nm _) .nil)) _, C, X, W, es, c, h => by unfold ckTg.ckTgs at h; cases h
  | .cons (.tup (.cons (.nm _) (.cons (.tup _) _))) _, C, X, W, es, c, h => by unfold ckTg.ckTgs at h; cases h
  | .cons (.tup (.cons (.nm _) (.cons .nil _))) _, C, X, W, es, c, h => by unfold ckTg.ckTgs at h; cases h
  | .cons (.tup (.cons (.nm _) (.cons (.cons _ _) _))) _, C, X, W, es, c, h => by unfold ckTg.ckTgs at h; cases h
  | .cons (.tup (.cons (.nm _) (.cons (.nm _) (.nm _)))) _, C, X, W, es, c, h => by unfold ckTg.ckTgs at h; cases h
  | .cons (.tup (.cons (.nm _) (.cons (.nm _) (.tup _)))) _, C, X, W, es, c, h => by unfold ckTg.ckTgs at h; cases h
  | .cons (.tup (.cons (.nm _) (.cons (.nm _) (.cons _ _)))) _, C, X, W, es, c, h => by unfold ckTg.ckTgs at h; cases h
end

/-- .. by the little program -/
inductive LsE (Z : Wl) (d : Nat) (X : Cx) (W : WX) : List Expr → E → Prop
  | nil : LsE Z d X W [] .nil
  | cons {e : Expr} {es : List Expr} {a r : E} (he : PE X e (RdE Z (evE Z.L.T (cl Z d) a) W)) (hn : noStar e = true) (hs : LsE Z d X W es r) : LsE Z d X W (e :: es) (.cons a r)
theorem LsE.ls {es : List Expr} {m : E} (h : LsE Z d X W es m) : LsP Z X W es (evL Z.L.T (cl Z d) m) := by
  induction h with
  | nil => exact .nil
  | cons he hn _ ih => exact .cons he hn ih
theorem isNil_at {e : E} (h : isNilE e = true) : e = .nil := by cases e <;> first | rfl | cases h
theorem oneKv_at {e : E} (h : oneKv e = true) : ∃ ts v, e = .cons (.tup ts) (.cons v .nil) := by
  unfold oneKv at h
  split at h
  · exact ⟨_, _, rfl⟩
  · cases h
mutual
theorem sE (O : TxOk Z G) : ∀ (m : E) {C : Ck} {e : Expr} {X : Cx} {W : WX}, ckE G m C e = true → Cxt Z G k d C X W → EB Z d X W e m
  | .var i, C, e, X, W, h, c => by
    unfold ckE at h
    split at h
    · obtain ⟨h, h3⟩ := and2 h
      obtain ⟨h1, h2⟩ := and2 h
      obtain ⟨d1, d2⟩ := plainN_at h3
      exact tru_of c (re_var c.K.g (slot_at c h1) (vis_at c h2) d1 d2) rfl
    · cases h
  | .cst v, C, e, X, W, h, c => by
    unfold ckE at h
    obtain ⟨x, p, r⟩ := cst_at O c h
    exact tru_of c (re_cst p r) (by unfold cstB at h; split at h <;> first | rfl | cases h)
  | .tup es, C, e, X, W, h, c => by
    unfold ckE at h
    split at h
    · exact tru_of c (re_tup ((sL O es h c).ls).as.pa) rfl
    · cases h
  | .lst es, C, e, X, W, h, c => by
    unfold ckE at h
    split at h
    · exact tru_of c (re_lst ((sL O es h c).ls).as.pa) rfl
    · cases h
  | .bin o a b, C, e, X, W, h, c => by
    unfold ckE at h
    split at h
    · obtain ⟨h, h3⟩ := and2 h
      obtain ⟨h1, h2⟩ := and2 h
      exact tru_of c (re_bin (op_all c h1) (sE O a h2 c).1 (sE O b h3 c).1) rfl
    · cases h
  | .not a, C, e, X, W, h, c => by
    unfold ckE at h
    split at h
    · exact ⟨re_not (tru_ok c.K) (sE O a h c).1, rt_not (sE O a h c).2.1, fun _ _ _ z => nomatch z⟩
    · cases h
  | .neg a, C, e, X, W, h, c => by
    unfold ckE at h
    split at h
    · exact tru_of c (re_neg (sE O a h c).1) rfl
    · cases h
  | .ite q a b, C, e, X, W, h, c => by
    unfold ckE at h
    split at h
    · obtain ⟨h, h3⟩ := and2 h
      obtain ⟨h1, h2⟩ := and2 h
      exact ⟨re_ite (sE O q h1 c).2.1 (sE O a h2 c).1 (sE O b h3 c).1, rt_ite (sE O q h1 c).2.1 (sE O a h2 c).2.1 (sE O b h3 c).2.1, fun _ _ _ z => nomatch z⟩
    · cases h
  | .idx a i, C, e, X, W, h, c => by
    unfold ckE at h
    split at h
    · obtain ⟨h, h3⟩ := and2 h
      obtain ⟨h1, h2⟩ := and2 h
      exact tru_of c (re_idx (get_ok c.K) (sE O a h1 c).1 (sE O i h3 c).1 (plainIx_at h2)) rfl
    · cases h
  | .cmp a os bs, C, e, X, W, h, c => by
    unfold ckE at h
    split at h
    · rename_i x ops ys p
      obtain ⟨h, h3⟩ := and2 h
      obtain ⟨h1, h2⟩ := and2 h
      have ha := (sE O a h1 c).1
      obtain ⟨h0, h2⟩ := and2 h2
      obtain ⟨h2, h5⟩ := and2 h2
      obtain ⟨h2, h4⟩ := and2 h2
      have eo : os = ops.map copOf := of_decide_eq_true h2
      have el := Nat.eq_of_beq_eq_true h4
      have hm : lastMarks ops ys = false := by simpa using h5
      subst eo
      have hr := (sC O bs h3 c ops el (by simpa using h0)).2
      exact ⟨cmp_val c ha hr hm el, cmp_tst c ha hr hm el, fun _ _ _ z => nomatch z⟩
    · cases h
  | .and a b, C, e, X, W, h, c => by
    unfold ckE at h
    split at h
    · rename_i x y r p
      obtain ⟨h1, h2⟩ := and2 h
      split at h2
      · have w := rw_and (pos := p) (sE O a h1 c).2.1 (rw_one_and (sE O b h2 c).2.1)
        exact ⟨re_and (tru_ok c.K) (sE O a h1 c).1 (re_one (sE O b h2 c).1), w.pt, fun _ _ _ _ => w⟩
      · have w := rw_and (pos := p) (sE O a h1 c).2.1 ((sE O b h2 c).2.2 _ _ _ rfl)
        exact ⟨re_and (tru_ok c.K) (sE O a h1 c).1 (sE O b h2 c).1, w.pt, fun _ _ _ _ => w⟩
    · cases h
  | .or a b, C, e, X, W, h, c => by
    unfold ckE at h
    split at h
    · rename_i x y r p
      obtain ⟨h1, h2⟩ := and2 h
      split at h2
      · have w := rw_or (pos := p) (sE O a h1 c).2.1 (rw_one_or (sE O b h2 c).2.1)
        exact ⟨re_or (tru_ok c.K) (sE O a h1 c).1 (re_one (sE O b h2 c).1), w.pt, fun _ _ _ _ => w⟩
      · have w := rw_or (pos := p) (sE O a h1 c).2.1 ((sE O b h2 c).2.2 _ _ _ rfl)
        exact ⟨re_or (tru_ok c.K) (sE O a h1 c).1 (sE O b h2 c).1, w.pt, fun _ _ _ _ => w⟩
    · cases h
  | .att a f, C, e, X, W, h, c => by
    unfold ckE at h
    split at h
    · obtain ⟨h, h4⟩ := and2 h
      obtain ⟨h, h3⟩ := and2 h
      obtain ⟨h1, h2⟩ := and2 h
      exact tru_of c (re_att c.K (sE O a h1 c).1 (List.contains_iff_mem.mp h3) (by rw [O.nm]; exact of_decide_eq_true h2) h4) rfl
    · cases h
  | .sli a lo hi, C, e, X, W, h, c => by
    unfold ckE at h
    split at h
    · obtain ⟨h, h3⟩ := and2 h
      obtain ⟨h1, h2⟩ := and2 h
      exact tru_of c (re_sli (sE O a h1 c).1 (sP O lo h2 c) (sP O hi h3 c) c.K) rfl
    · cases h
  | .rev a, C, e, X, W, h, c => by
    unfold ckE at h
    split at h
    · exact tru_of c (re_rev (sE O a h c).1) rfl
    · cases h
  | .call f es, C, e, X, W, h, c => by
    unfold ckE at h
    split at h
    · obtain ⟨h, h3⟩ := and2 h
      obtain ⟨h1, h2⟩ := and2 h
      obtain ⟨g, nd, m, kp⟩ := call_at O c h1
      exact tru_of c (re_call c.K ((sL O es h3 c).ls).as g m kp (notGen_at O h2) nd) rfl
    · cases h
  | .mk q es, C, e, X, W, h, c => by
    unfold ckE at h
    split at h
    · obtain ⟨h1, h2⟩ := and2 h
      obtain ⟨g, nd, m, kp⟩ := cls_at O c h1
      exact tru_of c (re_mk c.K ((sL O es h2 c).ls).as g m kp nd) rfl
    · cases h
  | .mkv a es, C, e, X, W, h, c => by
    unfold ckE at h
    split at h
    · obtain ⟨h1, h2⟩ := and2 h
      exact tru_of c (re_mkv c.K (sE O a h1 c).1 ((sL O es h2 c).ls).as) rfl
    · cases h
  | .bi b es, C, e, X, W, h, c => by
    unfold ckE at h
    split at h
    · obtain ⟨h1, h2⟩ := and2 h
      have as := ((sL O es h2 c).ls).as
      unfold biB at h1
      split at h1
      · rename_i id q
        obtain ⟨g, nd, m, v, nn⟩ := bf_at O c h1
        exact tru_of c (re_bib (bi_all' c q) as g m v nn nd) rfl
      · rename_i id q
        obtain ⟨g, nd, m, v, nn⟩ := bt_at O c h1
        exact tru_of c (re_bit (bi_all' c q) as g m v nn nd) rfl
      · cases h1
    · cases h
  | .b1 b (.itm a), C, e, X, W, h, c => by
    unfold ckE at h
    split at h
    · split at h
      · obtain ⟨h, h5⟩ := and2 h
        obtain ⟨h, h4⟩ := and2 h
        obtain ⟨h, h3⟩ := and2 h
        obtain ⟨h1, h2⟩ := and2 h
        obtain ⟨g, nd, m, v, nn⟩ := bf_at O c h1
        have em := of_decide_eq_true h2
        subst em
        exact tru_of c (re_srtI c.K.g.calm (sE O a h5 c).1 h3 h4 g m v nn nd) rfl
      · cases h
    · cases h
  | .b1 b (.var _), C, e, X, W, h, c => by unfold ckE at h; split at h <;> first | (cases h; done) | (split at h <;> cases h)
  | .b1 b (.cst _), C, e, X, W, h, c => by unfold ckE at h; split at h <;> first | (cases h; done) | (split at h <;> cases h)
  | .b1 b (.tup _), C, e, X, W, h, c => by unfold ckE at h; split at h <;> first | (cases h; done) | (split at h <;> cases h)
  | .b1 b (.lst _), C, e, X, W, h, c => by unfold ckE at h; split at h <;> first | (cases h; done) | (split at h <;> cases h)
  | .b1 b (.dsp _), C, e, X, W, h, c => by unfold ckE at h; split at h <;> first | (cases h; done) | (split at h <;> cases h)
  | .b1 b (.bin _ _ _), C, e, X, W, h, c => by unfold ckE at h; split at h <;> first | (cases h; done) | (split at h <;> cases h)
  | .b1 b (.cmp _ _ _), C, e, X, W, h, c => by unfold ckE at h; split at h <;> first | (cases h; done) | (split at h <;> cases h)
  | .b1 b (.and _ _), C, e, X, W, h, c => by unfold ckE at h; split at h <;> first | (cases h; done) | (split at h <;> cases h)
  | .b1 b (.or _ _), C, e, X, W, h, c => by unfold ckE at h; split at h <;> first | (cases h; done) | (split at h <;> cases h)
  | .b1 b (.not _), C, e, X, W, h, c => by unfold ckE at h; split at h <;> first | (cases h; done) | (split at h <;> cases h)
  | .b1 b (.neg _), C, e, X, W, h, c => by unfold ckE at h; split at h <;> first | (cases h; done) | (split at h <;> cases h)
  | .b1 b (.ite _ _ _), C, e, X, W, h, c => by unfold ckE at h; split at h <;> first | (cases h; done) | (split at h <;> cases h)
  | .b1 b (.att _ _), C, e, X, W, h, c => by unfold ckE at h; split at h <;> first | (cases h; done) | (split at h <;> cases h)
  | .b1 b (.idx _ _), C, e, X, W, h, c => by unfold ckE at h; split at h <;> first | (cases h; done) | (split at h <;> cases h)
  | .b1 b (.sli _ _ _), C, e, X, W, h, c => by unfold ckE at h; split at h <;> first | (cases h; done) | (split at h <;> cases h)
  | .b1 b (.prt _), C, e, X, W, h, c => by unfold ckE at h; split at h <;> first | (cases h; done) | (split at h <;> cases h)
  | .b1 b (.rev _), C, e, X, W, h, c => by unfold ckE at h; split at h <;> first | (cases h; done) | (split at h <;> cases h)
  | .b1 b (.call _ _), C, e, X, W, h, c => by unfold ckE at h; split at h <;> first | (cases h; done) | (split at h <;> cases h)
  | .b1 b (.mk _ _), C, e, X, W, h, c => by unfold ckE at h; split at h <;> first | (cases h; done) | (split at h <;> cases h)
  | .b1 b (.bi _ _), C, e, X, W, h, c => by unfold ckE at h; split at h <;> first | (cases h; done) | (split at h <;> cases h)
  | .b1 b (.b1 _ _), C, e, X, W, h, c => by unfold ckE at h; split at h <;> first | (cases h; done) | (split at h <;> cases h)
  | .b1 b (.bmd _ _), C, e, X, W, h, c => by unfold ckE at h; split at h <;> first | (cases h; done) | (split at h <;> cases h)
  | .b1 b (.b0 _), C, e, X, W, h, c => by unfold ckE at h; split at h <;> first | (cases h; done) | (split at h <;> cases h)
  | .b1 b (.mth _ _ _), C, e, X, W, h, c => by unfold ckE at h; split at h <;> first | (cases h; done) | (split at h <;> cases h)
  | .b1 b (.smt _ _ _), C, e, X, W, h, c => by unfold ckE at h; split at h <;> first | (cases h; done) | (split at h <;> cases h)
  | .b1 b (.mkv _ _), C, e, X, W, h, c => by unfold ckE at h; split at h <;> first | (cases h; done) | (split at h <;> cases h)
  | .b1 b (.ivk _ _), C, e, X, W, h, c => by unfold ckE at h; split at h <;> first | (cases h; done) | (split at h <;> cases h)
  | .b1 b (.isi _ _), C, e, X, W, h, c => by unfold ckE at h; split at h <;> first | (cases h; done) | (split at h <;> cases h)
  | .b1 b (.rng _), C, e, X, W, h, c => by unfold ckE at h; split at h <;> first | (cases h; done) | (split at h <;> cases h)
  | .b1 b (.zip _), C, e, X, W, h, c => by unfold ckE at h; split at h <;> first | (cases h; done) | (split at h <;> cases h)
  | .b1 b (.enm _), C, e, X, W, h, c => by unfold ckE at h; split at h <;> first | (cases h; done) | (split at h <;> cases h)
  | .b1 b (.vls _), C, e, X, W, h, c => by unfold ckE at h; split at h <;> first | (cases h; done) | (split at h <;> cases h)
  | .b1 b (.kys _), C, e, X, W, h, c => by unfold ckE at h; split at h <;> first | (cases h; done) | (split at h <;> cases h)
  | .b1 b (.itv _), C, e, X, W, h, c => by unfold ckE at h; split at h <;> first | (cases h; done) | (split at h <;> cases h)
  | .b1 b (.gcl _ _), C, e, X, W, h, c => by unfold ckE at h; split at h <;> first | (cases h; done) | (split at h <;> cases h)
  | .b1 b (.gmt _ _ _), C, e, X, W, h, c => by unfold ckE at h; split at h <;> first | (cases h; done) | (split at h <;> cases h)
  | .b1 b (.lc _), C, e, X, W, h, c => by unfold ckE at h; split at h <;> first | (cases h; done) | (split at h <;> cases h)
  | .b1 b (.dc _), C, e, X, W, h, c => by unfold ckE at h; split at h <;> first | (cases h; done) | (split at h <;> cases h)
  | .b1 b (.sc _), C, e, X, W, h, c => by unfold ckE at h; split at h <;> first | (cases h; done) | (split at h <;> cases h)
  | .b1 b (.elt _), C, e, X, W, h, c => by unfold ckE at h; split at h <;> first | (cases h; done) | (split at h <;> cases h)
  | .b1 b (.ekv _ _), C, e, X, W, h, c => by unfold ckE at h; split at h <;> first | (cases h; done) | (split at h <;> cases h)
  | .b1 b .nil, C, e, X, W, h, c => by unfold ckE at h; split at h <;> first | (cases h; done) | (split at h <;> cases h)
  | .b1 b (.cons _ _), C, e, X, W, h, c => by unfold ckE at h; split at h <;> first | (cases h; done) | (split at h <;> cases h)
  | .b1 b (.gen _ _ _ _), C, e, X, W, h, c => by unfold ckE at h; split at h <;> first | (cases h; done) | (split at h <;> cases h)
  | .mth a m es, C, e, X, W, h, c => by
    unfold ckE at h
    split at h
    · obtain ⟨h, h7⟩ := and2 h
      obtain ⟨h, h6⟩ := and2 h
      obtain ⟨h, h5⟩ := and2 h
      obtain ⟨h, h4⟩ := and2 h
      obtain ⟨h, h3⟩ := and2 h
      obtain ⟨h1, h2⟩ := and2 h
      exact tru_of c (re_mth c.K (sE O a h6 c).1 ((sL O es h7 c).ls).as (by rw [O.nm]; exact of_decide_eq_true h2) h3 h4 (by simpa using h5) (bm_all c h1)) rfl
    · cases h
  | .isi a ts, C, e, X, W, h, c => by
    unfold ckE at h
    split at h
    · obtain ⟨h, h4⟩ := and2 h
      obtain ⟨h, h3⟩ := and2 h
      obtain ⟨h, h2⟩ := and2 h
      obtain ⟨h1, h5⟩ := and2 h
      split at h2
      · obtain ⟨h2, h6⟩ := and2 h2
        obtain ⟨g, nd, m, _⟩ := cls_at O c h2
        obtain ⟨g', nd', m', v', nn'⟩ := bf_at O c h1
        have ef := of_decide_eq_true h5
        subst ef
        obtain ⟨cl', ek, ne⟩ := hasMs_at h6
        exact tru_of c (re_isc c.K (by rw [O.T]; exact ek) ne (sE O a h4 c).1 g' m' g m nd h3) rfl
      · obtain ⟨h6, h2⟩ := and2 h2
        obtain ⟨g, nd, m, v, nn⟩ := bt_at O c h2
        obtain ⟨g', nd', m', v', nn'⟩ := bf_at O c h1
        have ef := of_decide_eq_true h5
        subst ef
        exact tru_of c (re_isi (fun k' w => by rw [w] at h6; cases h6) (sE O a h4 c).1 g' m' g m v nn nd h3) rfl
      · cases h2
    · cases h
  | .smt q m es, C, e, X, W, h, c => by
    unfold ckE at h
    split at h
    · obtain ⟨h, h6⟩ := and2 h
      obtain ⟨h, h5⟩ := and2 h
      obtain ⟨h, h4⟩ := and2 h
      obtain ⟨h, h3⟩ := and2 h
      obtain ⟨h1, h2⟩ := and2 h
      obtain ⟨g, nd, mg, kp⟩ := cls_at O c h1
      split at h5
      · rename_i f ef
        exact tru_of c (re_clm c.K (by rw [O.T]; exact ef) ((sL O es h6 c).ls).as (by rw [O.nm]; exact of_decide_eq_true h2) h3 (by simpa using h4) g mg nd) rfl
      · rename_i f ef
        exact tru_of c (re_sta c.K (by rw [O.T]; exact ef) ((sL O es h6 c).ls).as (by rw [O.nm]; exact of_decide_eq_true h2) h3 (by simpa using h4) g mg nd) rfl
      · cases h5
    · cases h
  | .lc (.gen t i q (.elt m)), C, e, X, W, h, c => by
    refine tru_of c ?_ (by unfold ckE at h; split at h <;> first | rfl | (cases h; done))
    have hg := c.K.g
    unfold ckE at h
    split at h
    · obtain ⟨h, h6⟩ := and2 h
      obtain ⟨h, h5⟩ := and2 h
      obtain ⟨h, h4⟩ := and2 h
      obtain ⟨h, h3⟩ := and2 h
      obtain ⟨h1, h2⟩ := and2 h
      show PE X _ (RdE Z (mLc (gVars (.gen t i q (.elt m))) (gGen t (evI Z.L.T (cl Z d) i) (evT Z.L.T (cl Z d) q) (gElt (evE Z.L.T (cl Z d) m)))) W)
      rw [gvars1]
      cases hk : isKysE i with
      | true =>
        rw [hk] at h1
        have h1 : ckK G i C _ = true := h1
        obtain ⟨a, ea, ha⟩ := sK O i h1 c
        subst ea
        exact lc_cast (re_lcK hg.calm hg.nd ha (blk_at c h3) (fun j hj => by rw [own_map]; exact hj) (fun s H Cc cl' fp => tg_at (cxt_blk c _ s H Cc cl' fp) h4) (fun s H Cc cl' fp => sT O q h5 (cxt_blk c _ s H Cc cl' fp)) (fun s H Cc cl' fp => (sE O m h6 (cxt_blk c _ s H Cc cl' fp)).1) (fold_at (by simpa using h2) _))
      | false =>
      rw [hk] at h1
      have h1 : ckI G i C _ _ = true := h1
      exact lc_cast (re_lc1 hg.calm hg.nd (sI O i h1 c) (blk_at c h3) (fun j hj => by rw [own_map]; exact hj) (fun s H Cc cl' fp => tg_at (cxt_blk c _ s H Cc cl' fp) h4) (fun s H Cc cl' fp => sT O q h5 (cxt_blk c _ s H Cc cl' fp)) (fun s H Cc cl' fp => (sE O m h6 (cxt_blk c _ s H Cc cl' fp)).1) (fold_at (by simpa using h2) _))
    · cases h
    · cases h
  | .lc (.gen t i q (.gen t1 i1 q1 (.elt m))), C, e, X, W, h, c => by
    refine tru_of c ?_ (by unfold ckE at h; split at h <;> first | rfl | (cases h; done))
    have hg := c.K.g
    unfold ckE at h
    split at h
    · cases h
    · obtain ⟨h, h10⟩ := and2 h
      obtain ⟨h, h9⟩ := and2 h
      obtain ⟨h, h8⟩ := and2 h
      obtain ⟨h, h7⟩ := and2 h
      obtain ⟨h, h6⟩ := and2 h
      obtain ⟨h, h5⟩ := and2 h
      obtain ⟨h, h4⟩ := and2 h
      obtain ⟨h, h3⟩ := and2 h
      obtain ⟨h1, h2⟩ := and2 h
      show PE X _ (RdE Z (mLc (gVars (.gen t i q (.gen t1 i1 q1 (.elt m)))) (gGen t (evI Z.L.T (cl Z d) i) (evT Z.L.T (cl Z d) q) (gGen t1 (evI Z.L.T (cl Z d) i1) (evT Z.L.T (cl Z d) q1) (gElt (evE Z.L.T (cl Z d) m))))) W)
      rw [gvars2]
      exact lc_cast (re_lc2 hg.calm hg.nd (sI O i h1 c) (blk_at c h4) (fun j hj => by rw [own_map]; exact List.mem_append_left _ hj) (fun j hj => by rw [own_map]; exact List.mem_append_right _ hj) (fun s H Cc cl' fp => tg_at (cxt_blk c _ s H Cc cl' fp) h5) (fun s H Cc cl' fp => sT O q h6 (cxt_blk c _ s H Cc cl' fp))
          (fun s H Cc cl' fp => sI O i1 h7 (cxt_blk c _ s H Cc cl' fp)) (fun s H Cc cl' fp => tg_at (cxt_blk c _ s H Cc cl' fp) h8) (fun s H Cc cl' fp => sT O q1 h9 (cxt_blk c _ s H Cc cl' fp))
          (fun s H Cc cl' fp => (sE O m h10 (cxt_blk c _ s H Cc cl' fp)).1) (fold_at (by simpa using h2) _) (fun env x => fold_at (by simpa using h3) env x))
    · cases h
  | .dc (.gen t i q (.ekv mk mv)), C, e, X, W, h, c => by
    refine tru_of c ?_ (by unfold ckE at h; split at h <;> first | rfl | (cases h; done))
    have hg := c.K.g
    unfold ckE at h
    split at h
    · obtain ⟨h, h7⟩ := and2 h
      obtain ⟨h, h6⟩ := and2 h
      obtain ⟨h, h5⟩ := and2 h
      obtain ⟨h, h4⟩ := and2 h
      obtain ⟨h, h3⟩ := and2 h
      obtain ⟨h1, h2⟩ := and2 h
      show PE X _ (RdE Z (mDc (gVars (.gen t i q (.ekv mk mv))) (gGen t (evI Z.L.T (cl Z d) i) (evT Z.L.T (cl Z d) q) (gEkv (evE Z.L.T (cl Z d) mk) (evE Z.L.T (cl Z d) mv)))) W)
      rw [gvars1k]
      exact dc_cast (re_dc hg.calm (by have := hg.room.un; omega) hg.nd (sI O i h1 c) (blk_at c h3) (fun j hj => by rw [own_map]; exact hj) (fun s H Cc cl' fp => tg_at (cxt_blk c _ s H Cc cl' fp) h4) (fun s H Cc cl' fp => sT O q h5 (cxt_blk c _ s H Cc cl' fp))
        (fun s H Cc cl' fp => (sE O mk h6 (cxt_blk c _ s H Cc cl' fp)).1) (fun s H Cc cl' fp => (sE O mv h7 (cxt_blk c _ s H Cc cl' fp)).1) (fold_at (by simpa using h2) _))
    · cases h
  | .lc (.var _), C, e, X, W, h, c => by unfold ckE at h; split at h <;> cases h
  | .lc (.cst _), C, e, X, W, h, c => by unfold ckE at h; split at h <;> cases h
  | .lc (.tup _), C, e, X, W, h, c => by unfold ckE at h; split at h <;> cases h
  | .lc (.lst _), C, e, X, W, h, c => by unfold ckE at h; split at h <;> cases h
  | .lc (.dsp _), C, e, X, W, h, c => by unfold ckE at h; split at h <;> cases h
  | .lc (.bin _ _ _), C, e, X, W, h, c => by unfold ckE at h; split at h <;> cases h
  | .lc (.cmp _ _ _), C, e, X, W, h, c => by unfold ckE at h; split at h <;> cases h
  | .lc (.and _ _), C, e, X, W, h, c => by unfold ckE at h; split at h <;> cases h
  | .lc (.or _ _), C, e, X, W, h, c => by unfold ckE at h; split at h <;> cases h
  | .lc (.not _), C, e, X, W, h, c => by unfold ckE at h; split at h <;> cases h
  | .lc (.neg _), C, e, X, W, h, c => by unfold ckE at h; split at h <;> cases h
  | .lc (.ite _ _ _), C, e, X, W, h, c => by unfold ckE at h; split at h <;> cases h
  | .lc (.att _ _), C, e, X, W, h, c => by unfold ckE at h; split at h <;> cases h
  | .lc (.idx _ _), C, e, X, W, h, c => by unfold ckE at h; split at h <;> cases h
  | .lc (.sli _ _ _), C, e, X, W, h, c => by unfold ckE at h; split at h <;> cases h
  | .lc (.prt _), C, e, X, W, h, c => by unfold ckE at h; split at h <;> cases h
  | .lc (.rev _), C, e, X, W, h, c => by unfold ckE at h; split at h <;> cases h
  | .lc (.call _ _), C, e, X, W, h, c => by unfold ckE at h; split at h <;> cases h
  | .lc (.mk _ _), C, e, X, W, h, c => by unfold ckE at h; split at h <;> cases h
  | .lc (.bi _ _), C, e, X, W, h, c => by unfold ckE at h; split at h <;> cases h
  | .lc (.b1 _ _), C, e, X, W, h, c => by unfold ckE at h; split at h <;> cases h
  | .lc (.bmd _ _), C, e, X, W, h, c => by unfold ckE at h; split at h <;> cases h
  | .lc (.b0 _), C, e, X, W, h, c => by unfold ckE at h; split at h <;> cases h
  | .lc (.mth _ _ _), C, e, X, W, h, c => by unfold ckE at h; split at h <;> cases h
  | .lc (.smt _ _ _), C, e, X, W, h, c => by unfold ckE at h; split at h <;> cases h
  | .lc (.mkv _ _), C, e, X, W, h, c => by unfold ckE at h; split at h <;> cases h
  | .lc (.ivk _ _), C, e, X, W, h, c => by unfold ckE at h; split at h <;> cases h
  | .lc (.isi _ _), C, e, X, W, h, c => by unfold ckE at h; split at h <;> cases h
  | .lc (.rng _), C, e, X, W, h, c => by unfold ckE at h; split at h <;> cases h
  | .lc (.zip _), C, e, X, W, h, c => by unfold ckE at h; split at h <;> cases h
  | .lc (.enm _), C, e, X, W, h, c => by unfold ckE at h; split at h <;> cases h
  | .lc (.itm _), C, e, X, W, h, c => by unfold ckE at h; split at h <;> cases h
  | .lc (.vls _), C, e, X, W, h, c => by unfold ckE at h; split at h <;> cases h
  | .lc (.kys _), C, e, X, W, h, c => by unfold ckE at h; split at h <;> cases h
  | .lc (.itv _), C, e, X, W, h, c => by unfold ckE at h; split at h <;> cases h
  | .lc (.gcl _ _), C, e, X, W, h, c => by unfold ckE at h; split at h <;> cases h
  | .lc (.gmt _ _ _), C, e, X, W, h, c => by unfold ckE at h; split at h <;> cases h
  | .lc (.lc _), C, e, X, W, h, c => by unfold ckE at h; split at h <;> cases h
  | .lc (.dc _), C, e, X, W, h, c => by unfold ckE at h; split at h <;> cases h
  | .lc (.sc _), C, e, X, W, h, c => by unfold ckE at h; split at h <;> cases h
  | .lc (.elt _), C, e, X, W, h, c => by unfold ckE at h; split at h <;> cases h
  | .lc (.ekv _ _), C, e, X, W, h, c => by unfold ckE at h; split at h <;> cases h
  | .lc .nil, C, e, X, W, h, c => by unfold ckE at h; split at h <;> cases h
  | .lc (.cons _ _), C, e, X, W, h, c => by unfold ckE at h; split at h <;> cases h
  | .dc (.var _), C, e, X, W, h, c => by unfold ckE at h; split at h <;> cases h
  | .dc (.cst _), C, e, X, W, h, c => by unfold ckE at h; split at h <;> cases h
  | .dc (.tup _), C, e, X, W, h, c => by unfold ckE at h; split at h <;> cases h
  | .dc (.lst _), C, e, X, W, h, c => by unfold ckE at h; split at h <;> cases h
  | .dc (.dsp _), C, e, X, W, h, c => by unfold ckE at h; split at h <;> cases h
  | .dc (.bin _ _ _), C, e, X, W, h, c => by unfold ckE at h; split at h <;> cases h
  | .dc (.cmp _ _ _), C, e, X, W, h, c => by unfold ckE at h; split at h <;> cases h
  | .dc (.and _ _), C, e, X, W, h, c => by unfold ckE at h; split at h <;> cases h
  | .dc (.or _ _), C, e, X, W, h, c => by unfold ckE at h; split at h <;> cases h
  | .dc (.not _), C, e, X, W, h, c => by unfold ckE at h; split at h <;> cases h
  | .dc (.neg _), C, e, X, W, h, c => by unfold ckE at h; split at h <;> cases h
  | .dc (.ite _ _ _), C, e, X, W, h, c => by unfold ckE at h; split at h <;> cases h
  | .dc (.att _ _), C, e, X, W, h, c => by unfold ckE at h; split at h <;> cases h
  | .dc (.idx _ _), C, e, X, W, h, c => by unfold ckE at h; split at h <;> cases h
  | .dc (.sli _ _ _), C, e, X, W, h, c => by unfold ckE at h; split at h <;> cases h
  | .dc (.prt _), C, e, X, W, h, c => by unfold ckE at h; split at h <;> cases h
  | .dc (.rev _), C, e, X, W, h, c => by unfold ckE at h; split at h <;> cases h
  | .dc (.call _ _), C, e, X, W, h, c => by unfold ckE at h; split at h <;> cases h
  | .dc (.mk _ _), C, e, X, W, h, c => by unfold ckE at h; split at h <;> cases h
  | .dc (.bi _ _), C, e, X, W, h, c => by unfold ckE at h; split at h <;> cases h
  | .dc (.b1 _ _), C, e, X, W, h, c => by unfold ckE at h; split at h <;> cases h
  | .dc (.bmd _ _), C, e, X, W, h, c => by unfold ckE at h; split at h <;> cases h
  | .dc (.b0 _), C, e, X, W, h, c => by unfold ckE at h; split at h <;> cases h
  | .dc (.mth _ _ _), C, e, X, W, h, c => by unfold ckE at h; split at h <;> cases h
  | .dc (.smt _ _ _), C, e, X, W, h, c => by unfold ckE at h; split at h <;> cases h
  | .dc (.mkv _ _), C, e, X, W, h, c => by unfold ckE at h; split at h <;> cases h
  | .dc (.ivk _ _), C, e, X, W, h, c => by unfold ckE at h; split at h <;> cases h
  | .dc (.isi _ _), C, e, X, W, h, c => by unfold ckE at h; split at h <;> cases h
  | .dc (.rng _), C, e, X, W, h, c => by unfold ckE at h; split at h <;> cases h
  | .dc (.zip _), C, e, X, W, h, c => by unfold ckE at h; split at h <;> cases h
  | .dc (.enm _), C, e, X, W, h, c => by unfold ckE at h; split at h <;> cases h
  | .dc (.itm _), C, e, X, W, h, c => by unfold ckE at h; split at h <;> cases h
  | .dc (.vls _), C, e, X, W, h, c => by unfold ckE at h; split at h <;> cases h
  | .dc (.kys _), C, e, X, W, h, c => by unfold ckE at h; split at h <;> cases h
  | .dc (.itv _), C, e, X, W, h, c => by unfold ckE at h; split at h <;> cases h
  | .dc (.gcl _ _), C, e, X, W, h, c => by unfold ckE at h; split at h <;> cases h
  | .dc (.gmt _ _ _), C, e, X, W, h, c => by unfold ckE at h; split at h <;> cases h
  | .dc (.lc _), C, e, X, W, h, c => by unfold ckE at h; split at h <;> cases h
  | .dc (.dc _), C, e, X, W, h, c => by unfold ckE at h; split at h <;> cases h
  | .dc (.sc _), C, e, X, W, h, c => by unfold ckE at h; split at h <;> cases h
  | .dc (.elt _), C, e, X, W, h, c => by unfold ckE at h; split at h <;> cases h
  | .dc (.ekv _ _), C, e, X, W, h, c => by unfold ckE at h; split at h <;> cases h
  | .dc .nil, C, e, X, W, h, c => by unfold ckE at h; split at h <;> cases h
  | .dc (.cons _ _), C, e, X, W, h, c => by unfold ckE at h; split at h <;> cases h
  | .lc (.gen _ _ _ (.var _)), C, e, X, W, h, c => by unfold ckE at h; split at h <;> cases h
  | .lc (.gen _ _ _ (.gen _ _ _ (.var _))), C, e, X, W, h, c => by unfold ckE at h; split at h <;> cases h
  | .dc (.gen _ _ _ (.var _)), C, e, X, W, h, c => by unfold ckE at h; split at h <;> cases h
  | .lc (.gen _ _ _ (.cst _)), C, e, X, W, h, c => by unfold ckE at h; split at h <;> cases h
  | .lc (.gen _ _ _ (.gen _ _ _ (.cst _))), C, e, X, W, h, c => by unfold ckE at h; split at h <;> cases h
  | .dc (.gen _ _ _ (.cst _)), C, e, X, W, h, c => by unfold ckE at h; split at h <;> cases h
  | .lc (.gen _ _ _ (.tup _)), C, e, X, W, h, c => by unfold ckE at h; split at h <;> cases h
  | .lc (.gen _ _ _ (.gen _ _ _ (.tup _))), C, e, X, W, h, c => by unfold ckE at h; split at h <;> cases h
  | .dc (.gen _ _ _ (.tup _)), C, e, X, W, h, c => by unfold ckE at h; split at h <;> cases h
  | .lc (.gen _ _ _ (.lst _)), C, e, X, W, h, c => by unfold ckE at h; split at h <;> cases h
  | .lc (.gen _ _ _ (.gen _ _ _ (.lst _))), C, e, X, W, h, c => by unfold ckE at h; split at h <;> cases h
  | .dc (.gen _ _ _ (.lst _)), C, e, X, W, h, c => by unfold ckE at h; split at h <;> cases h
  | .lc (.gen _ _ _ (.dsp _)), C, e, X, W, h, c => by unfold ckE at h; split at h <;> cases h
  | .lc (.gen _ _ _ (.gen _ _ _ (.dsp _))), C, e, X, W, h, c => by unfold ckE at h; split at h <;> cases h
  | .dc (.gen _ _ _ (.dsp _)), C, e, X, W, h, c => by unfold ckE at h; split at h <;> cases h
  | .lc (.gen _ _ _ (.bin _ _ _)), C, e, X, W, h, c => by unfold ckE at h; split at h <;> cases h
  | .lc (.gen _ _ _ (.gen _ _ _ (.bin _ _ _))), C, e, X, W, h, c => by unfold ckE at h; split at h <;> cases h
  | .dc (.gen _ _ _ (.bin _ _ _)), C, e, X, W, h, c => by unfold ckE at h; split at h <;> cases h
  | .lc (.gen _ _ _ (.cmp _ _ _)), C, e, X, W, h, c => by unfold ckE at h; split at h <;> cases h
  | .lc (.gen _ _ _ (.gen _ _ _ (.cmp _ _ _))), C, e, X, W, h, c => by unfold ckE at h; split at h <;> cases h
  | .dc (.gen _ _ _ (.cmp _ _ _)), C, e, X, W, h, c => by unfold ckE at h; split at h <;> cases h
  | .lc (.gen _ _ _ (.and _ _)), C, e, X, W, h, c => by unfold ckE at h; split at h <;> cases h
  | .lc (.gen _ _ _ (.gen _ _ _ (.and _ _))), C, e, X, W, h, c => by unfold ckE at h; split at h <;> cases h
  | .dc (.gen _ _ _ (.and _ _)), C, e, X, W, h, c => by unfold ckE at h; split at h <;> cases h
  | .lc (.gen _ _ _ (.or _ _)), C, e, X, W, h, c => by unfold ckE at h; split at h <;> cases h
  | .lc (.gen _ _ _ (.gen _ _ _ (.or _ _))), C, e, X, W, h, c => by unfold ckE at h; split at h <;> cases h
  | .dc (.gen _ _ _ (.or _ _)), C, e, X, W, h, c => by unfold ckE at h; split at h <;> cases h
  | .lc (.gen _ _ _ (.not _)), C, e, X, W, h, c => by unfold ckE at h; split at h <;> cases h
  | .lc (.gen _ _ _ (.gen _ _ _ (.not _))), C, e, X, W, h, c => by unfold ckE at h; split at h <;> cases h
  | .dc (.gen _ _ _ (.not _)), C, e, X, W, h, c => by unfold ckE at h; split at h <;> cases h
  | .lc (.gen _ _ _ (.neg _)), C, e, X, W, h, c => by unfold ckE at h; split at h <;> cases h
  | .lc (.gen _ _ _ (.gen _ _ _ (.neg _))), C, e, X, W, h, c => by unfold ckE at h; split at h <;> cases h
  | .dc (.gen _ _ _ (.neg _)), C, e, X, W, h, c => by unfold ckE at h; split at h <;> cases h
  | .lc (.gen _ _ _ (.ite _ _ _)), C, e, X, W, h, c => by unfold ckE at h; split at h <;> cases h
  | .lc (.gen _ _ _ (.gen _ _ _ (.ite _ _ _))), C, e, X, W, h, c => by unfold ckE at h; split at h <;> cases h
  | .dc (.gen _ _ _ (.ite _ _ _)), C, e, X, W, h, c => by unfold ckE at h; split at h <;> cases h
  | .lc (.gen _ _ _ (.att _ _)), C, e, X, W, h, c => by unfold ckE at h; split at h <;> cases h
  | .lc (.gen _ _ _ (.gen _ _ _ (.att _ _))), C, e, X, W, h, c => by unfold ckE at h; split at h <;> cases h
  | .dc (.gen _ _ _ (.att _ _)), C, e, X, W, h, c => by unfold ckE at h; split at h <;> cases h
  | .lc (.gen _ _ _ (.idx _ _)), C, e, X, W, h, c => by unfold ckE at h; split at h <;> cases h
  | .lc (.gen _ _ _ (.gen _ _ _ (.idx _ _))), C, e, X, W, h, c => by unfold ckE at h; split at h <;> cases h
  | .dc (.gen _ _ _ (.idx _ _)), C, e, X, W, h, c => by unfold ckE at h; split at h <;> cases h
  | .lc (.gen _ _ _ (.sli _ _ _)), C, e, X, W, h, c => by unfold ckE at h; split at h <;> cases h
  | .lc (.gen _ _ _ (.gen _ _ _ (.sli _ _ _))), C, e, X, W, h, c => by unfold ckE at h; split at h <;> cases h
  | .dc (.gen _ _ _ (.sli _ _ _)), C, e, X, W, h, c => by unfold ckE at h; split at h <;> cases h
  | .lc (.gen _ _ _ (.prt _)), C, e, X, W, h, c => by unfold ckE at h; split at h <;> cases h
  | .lc (.gen _ _ _ (.gen _ _ _ (.prt _))), C, e, X, W, h, c => by unfold ckE at h; split at h <;> cases h
  | .dc (.gen _ _ _ (.prt _)), C, e, X, W, h, c => by unfold ckE at h; split at h <;> cases h
  | .lc (.gen _ _ _ (.rev _)), C, e, X, W, h, c => by unfold ckE at h; split at h <;> cases h
  | .lc (.gen _ _ _ (.gen _ _ _ (.rev _))), C, e, X, W, h, c => by unfold ckE at h; split at h <;> cases h
  | .dc (.gen _ _ _ (.rev _)), C, e, X, W, h, c => by unfold ckE at h; split at h <;> cases h
  | .lc (.gen _ _ _ (.call _ _)), C, e, X, W, h, c => by unfold ckE at h; split at h <;> cases h
  | .lc (.gen _ _ _ (.gen _ _ _ (.call _ _))), C, e, X, W, h, c => by unfold ckE at h; split at h <;> cases h
  | .dc (.gen _ _ _ (.call _ _)), C, e, X, W, h, c => by unfold ckE at h; split at h <;> cases h
  | .lc (.gen _ _ _ (.mk _ _)), C, e, X, W, h, c => by unfold ckE at h; split at h <;> cases h
  | .lc (.gen _ _ _ (.gen _ _ _ (.mk _ _))), C, e, X, W, h, c => by unfold ckE at h; split at h <;> cases h
  | .dc (.gen _ _ _ (.mk _ _)), C, e, X, W, h, c => by unfold ckE at h; split at h <;> cases h
  | .lc (.gen _ _ _ (.bi _ _)), C, e, X, W, h, c => by unfold ckE at h; split at h <;> cases h
  | .lc (.gen _ _ _ (.gen _ _ _ (.bi _ _))), C, e, X, W, h, c => by unfold ckE at h; split at h <;> cases h
  | .dc (.gen _ _ _ (.bi _ _)), C, e, X, W, h, c => by unfold ckE at h; split at h <;> cases h
  | .lc (.gen _ _ _ (.b1 _ _)), C, e, X, W, h, c => by unfold ckE at h; split at h <;> cases h
  | .lc (.gen _ _ _ (.gen _ _ _ (.b1 _ _))), C, e, X, W, h, c => by unfold ckE at h; split at h <;> cases h
  | .dc (.gen _ _ _ (.b1 _ _)), C, e, X, W, h, c => by unfold ckE at h; split at h <;> cases h
  | .lc (.gen _ _ _ (.bmd _ _)), C, e, X, W, h, c => by unfold ckE at h; split at h <;> cases h
  | .lc (.gen _ _ _ (.gen _ _ _ (.bmd _ _))), C, e, X, W, h, c => by unfold ckE at h; split at h <;> cases h
  | .dc (.gen _ _ _ (.bmd _ _)), C, e, X, W, h, c => by unfold ckE at h; split at h <;> cases h
  | .lc (.gen _ _ _ (.b0 _)), C, e, X, W, h, c => by unfold ckE at h; split at h <;> cases h
  | .lc (.gen _ _ _ (.gen _ _ _ (.b0 _))), C, e, X, W, h, c => by unfold ckE at h; split at h <;> cases h
  | .dc (.gen _ _ _ (.b0 _)), C, e, X, W, h, c => by unfold ckE at h; split at h <;> cases h
  | .lc (.gen _ _ _ (.mth _ _ _)), C, e, X, W, h, c => by unfold ckE at h; split at h <;> cases h
  | .lc (.gen _ _ _ (.gen _ _ _ (.mth _ _ _))), C, e, X, W, h, c => by unfold ckE at h; split at h <;> cases h
  | .dc (.gen _ _ _ (.mth _ _ _)), C, e, X, W, h, c => by unfold ckE at h; split at h <;> cases h
  | .lc (.gen _ _ _ (.smt _ _ _)), C, e, X, W, h, c => by unfold ckE at h; split at h <;> cases h
  | .lc (.gen _ _ _ (.gen _ _ _ (.smt _ _ _))), C, e, X, W, h, c => by unfold ckE at h; split at h <;> cases h
  | .dc (.gen _ _ _ (.smt _ _ _)), C, e, X, W, h, c => by unfold ckE at h; split at h <;> cases h
  | .lc (.gen _ _ _ (.mkv _ _)), C, e, X, W, h, c => by unfold ckE at h; split at h <;> cases h
  | .lc (.gen _ _ _ (.gen _ _ _ (.mkv _ _))), C, e, X, W, h, c => by unfold ckE at h; split at h <;> cases h
  | .dc (.gen _ _ _ (.mkv _ _)), C, e, X, W, h, c => by unfold ckE at h; split at h <;> cases h
  | .lc (.gen _ _ _ (.ivk _ _)), C, e, X, W, h, c => by unfold ckE at h; split at h <;> cases h
  | .lc (.gen _ _ _ (.gen _ _ _ (.ivk _ _))), C, e, X, W, h, c => by unfold ckE at h; split at h <;> cases h
  | .dc (.gen _ _ _ (.ivk _ _)), C, e, X, W, h, c => by unfold ckE at h; split at h <;> cases h
  | .lc (.gen _ _ _ (.isi _ _)), C, e, X, W, h, c => by unfold ckE at h; split at h <;> cases h
  | .lc (.gen _ _ _ (.gen _ _ _ (.isi _ _))), C, e, X, W, h, c => by unfold ckE at h; split at h <;> cases h
  | .dc (.gen _ _ _ (.isi _ _)), C, e, X, W, h, c => by unfold ckE at h; split at h <;> cases h
  | .lc (.gen _ _ _ (.rng _)), C, e, X, W, h, c => by unfold ckE at h; split at h <;> cases h
  | .lc (.gen _ _ _ (.gen _ _ _ (.rng _))), C, e, X, W, h, c => by unfold ckE at h; split at h <;> cases h
  | .dc (.gen _ _ _ (.rng _)), C, e, X, W, h, c => by unfold ckE at h; split at h <;> cases h
  | .lc (.gen _ _ _ (.zip _)), C, e, X, W, h, c => by unfold ckE at h; split at h <;> cases h
  | .lc (.gen _ _ _ (.gen _ _ _ (.zip _))), C, e, X, W, h, c => by unfold ckE at h; split at h <;> cases h
  | .dc (.gen _ _ _ (.zip _)), C, e, X, W, h, c => by unfold ckE at h; split at h <;> cases h
  | .lc (.gen _ _ _ (.enm _)), C, e, X, W, h, c => by unfold ckE at h; split at h <;> cases h
  | .lc (.gen _ _ _ (.gen _ _ _ (.enm _))), C, e, X, W, h, c => by unfold ckE at h; split at h <;> cases h
  | .dc (.gen _ _ _ (.enm _)), C, e, X, W, h, c => by unfold ckE at h; split at h <;> cases h
  | .lc (.gen _ _ _ (.itm _)), C, e, X, W, h, c => by unfold ckE at h; split at h <;> cases h
  | .lc (.gen _ _ _ (.gen _ _ _ (.itm _))), C, e, X, W, h, c => by unfold ckE at h; split at h <;> cases h
  | .dc (.gen _ _ _ (.itm _)), C, e, X, W, h, c => by unfold ckE at h; split at h <;> cases h
  | .lc (.gen _ _ _ (.vls _)), C, e, X, W, h, c => by unfold ckE at h; split at h <;> cases h
  | .lc (.gen _ _ _ (.kys _)), C, e, X, W, h, c => by unfold ckE at h; split at h <;> cases h
  | .lc (.gen _ _ _ (.gen _ _ _ (.vls _))), C, e, X, W, h, c => by unfold ckE at h; split at h <;> cases h
  | .lc (.gen _ _ _ (.gen _ _ _ (.kys _))), C, e, X, W, h, c => by unfold ckE at h; split at h <;> cases h
  | .dc (.gen _ _ _ (.vls _)), C, e, X, W, h, c => by unfold ckE at h; split at h <;> cases h
  | .dc (.gen _ _ _ (.kys _)), C, e, X, W, h, c => by unfold ckE at h; split at h <;> cases h
  | .lc (.gen _ _ _ (.itv _)), C, e, X, W, h, c => by unfold ckE at h; split at h <;> cases h
  | .lc (.gen _ _ _ (.gen _ _ _ (.itv _))), C, e, X, W, h, c => by unfold ckE at h; split at h <;> cases h
  | .dc (.gen _ _ _ (.itv _)), C, e, X, W, h, c => by unfold ckE at h; split at h <;> cases h
  | .lc (.gen _ _ _ (.gcl _ _)), C, e, X, W, h, c => by unfold ckE at h; split at h <;> cases h
  | .lc (.gen _ _ _ (.gen _ _ _ (.gcl _ _))), C, e, X, W, h, c => by unfold ckE at h; split at h <;> cases h
  | .dc (.gen _ _ _ (.gcl _ _)), C, e, X, W, h, c => by unfold ckE at h; split at h <;> cases h
  | .lc (.gen _ _ _ (.gmt _ _ _)), C, e, X, W, h, c => by unfold ckE at h; split at h <;> cases h
  | .lc (.gen _ _ _ (.gen _ _ _ (.gmt _ _ _))), C, e, X, W, h, c => by unfold ckE at h; split at h <;> cases h
  | .dc (.gen _ _ _ (.gmt _ _ _)), C, e, X, W, h, c => by unfold ckE at h; split at h <;> cases h
  | .lc (.gen _ _ _ (.lc _)), C, e, X, W, h, c => by unfold ckE at h; split at h <;> cases h
  | .lc (.gen _ _ _ (.gen _ _ _ (.lc _))), C, e, X, W, h, c => by unfold ckE at h; split at h <;> cases h
  | .dc (.gen _ _ _ (.lc _)), C, e, X, W, h, c => by unfold ckE at h; split at h <;> cases h
  | .lc (.gen _ _ _ (.dc _)), C, e, X, W, h, c => by unfold ckE at h; split at h <;> cases h
  | .lc (.gen _ _ _ (.gen _ _ _ (.dc _))), C, e, X, W, h, c => by unfold ckE at h; split at h <;> cases h
  | .dc (.gen _ _ _ (.dc _)), C, e, X, W, h, c => by unfold ckE at h; split at h <;> cases h
  | .lc (.gen _ _ _ (.sc _)), C, e, X, W, h, c => by unfold ckE at h; split at h <;> cases h
  | .lc (.gen _ _ _ (.gen _ _ _ (.sc _))), C, e, X, W, h, c => by unfold ckE at h; split at h <;> cases h
  | .dc (.gen _ _ _ (.sc _)), C, e, X, W, h, c => by unfold ckE at h; split at h <;> cases h
  | .lc (.gen _ _ _ (.gen _ _ _ (.gen _ _ _ _))), C, e, X, W, h, c => by unfold ckE at h; split at h <;> cases h
  | .dc (.gen _ _ _ (.gen _ _ _ _)), C, e, X, W, h, c => by unfold ckE at h; split at h <;> cases h
  | .dc (.gen _ _ _ (.elt _)), C, e, X, W, h, c => by unfold ckE at h; split at h <;> cases h
  | .lc (.gen _ _ _ (.ekv _ _)), C, e, X, W, h, c => by unfold ckE at h; split at h <;> cases h
  | .lc (.gen _ _ _ (.gen _ _ _ (.ekv _ _))), C, e, X, W, h, c => by unfold ckE at h; split at h <;> cases h
  | .lc (.gen _ _ _ .nil), C, e, X, W, h, c => by unfold ckE at h; split at h <;> cases h
  | .lc (.gen _ _ _ (.gen _ _ _ .nil)), C, e, X, W, h, c => by unfold ckE at h; split at h <;> cases h
  | .dc (.gen _ _ _ .nil), C, e, X, W, h, c => by unfold ckE at h; split at h <;> cases h
  | .lc (.gen _ _ _ (.cons _ _)), C, e, X, W, h, c => by unfold ckE at h; split at h <;> cases h
  | .lc (.gen _ _ _ (.gen _ _ _ (.cons _ _))), C, e, X, W, h, c => by unfold ckE at h; split at h <;> cases h
  | .dc (.gen _ _ _ (.cons _ _)), C, e, X, W, h, c => by unfold ckE at h; split at h <;> cases h
  | .nil, C, e, X, W, h, c => by unfold ckE at h; cases h
  | .cons _ _, C, e, X, W, h, c => by unfold ckE at h; cases h
  | .dsp es, C, e, X, W, h, c => by
    refine tru_of c ?_ (by unfold ckE at h; split at h <;> first | rfl | (cases h; done))
    unfold ckE at h
    split at h
    · obtain rfl := isNil_at h
      exact re_dsp0
    · obtain ⟨h1, h2⟩ := and2 h
      have ls := sL O es h2 c
      obtain ⟨ts, v, rfl⟩ := oneKv_at h1
      cases ls with
      | cons hk hn hs =>
        cases hs with
        | cons hv hn2 hs =>
          exact re_dsp1 (by have := c.K.g.room.un; omega) hk hv
    · cases h
  | .prt _, C, e, X, W, h, c => by unfold ckE at h; cases h
  | .bmd _ _, C, e, X, W, h, c => by unfold ckE at h; cases h
  | .b0 _, C, e, X, W, h, c => by unfold ckE at h; cases h
  | .ivk _ _, C, e, X, W, h, c => by unfold ckE at h; cases h
  | .rng _, C, e, X, W, h, c => by unfold ckE at h; cases h
  | .zip _, C, e, X, W, h, c => by unfold ckE at h; cases h
  | .enm _, C, e, X, W, h, c => by unfold ckE at h; cases h
  | .itm _, C, e, X, W, h, c => by unfold ckE at h; cases h
  | .vls _, C, e, X, W, h, c => by unfold ckE at h; cases h
  | .kys _, C, e, X, W, h, c => by unfold ckE at h; cases h
  | .itv _, C, e, X, W, h, c => by unfold ckE at h; cases h
  | .gcl _ _, C, e, X, W, h, c => by unfold ckE at h; cases h
  | .gmt _ _ _, C, e, X, W, h, c => by unfold ckE at h; cases h
  | .sc _, C, e, X, W, h, c => by unfold ckE at h; cases h
  | .gen _ _ _ _, C, e, X, W, h, c => by unfold ckE at h; cases h
  | .elt _, C, e, X, W, h, c => by unfold ckE at h; cases h
  | .ekv _ _, C, e, X, W, h, c => by unfold ckE at h; cases h
termination_by structural m => m
theorem sC (O : TxOk Z G) : ∀ (m : E) {C : Ck} {ys : List Expr} {X : Cx} {W : WX}, ckL G m C ys = true → Cxt Z G k d C X W → ∀ ops : List CmpOp, ops.length = ys.length → 0 < ops.length → PCh Z X W ops ys (evC Z.L.T (cl Z d) m) (ops.map copOf) ∧
    ((∃ op y me r', ops = [op] ∧ ys = [y] ∧ evC Z.L.T (cl Z d) m = cCons me r' ∧ PE X y (RdE Z me W)) ∨ (2 ≤ ops.length ∧ PCh Z X W ops ys (evC Z.L.T (cl Z d) m) (ops.map copOf)))
  | .cons a r, C, ys, X, W, h, c, ops, el, h0 => by
    unfold ckL at h
    split at h
    · rename_i x xs
      obtain ⟨h, h3⟩ := and2 h
      obtain ⟨h1, h2⟩ := and2 h
      have he := (sE O a h2 c).1
      cases ops with
      | nil => simp at h0
      | cons op ops =>
        cases ops with
        | nil =>
          cases xs with
          | nil => exact ⟨ch_one c.K he, .inl ⟨op, x, _, _, rfl, rfl, rfl, he⟩⟩
          | cons _ _ => simp at el
        | cons op2 ops =>
          cases xs with
          | nil => simp at el
          | cons y2 xs =>
            have t := (sC O r h3 c (op2 :: ops) (by simpa using el) (by simp)).1
            have z := ch_cons c.K (op := op) he t
            exact ⟨z, .inr ⟨by simp, z⟩⟩
    · cases h
  | .nil, C, ys, X, W, h, c, ops, el, h0 => by
    unfold ckL at h
    split at h
    · have : ops.length = 0 := el
      omega
    · cases h
  | .var _, C, ys, X, W, h, c, ops, el, h0 => by unfold ckL at h; cases h
  | .cst _, C, ys, X, W, h, c, ops, el, h0 => by unfold ckL at h; cases h
  | .tup _, C, ys, X, W, h, c, ops, el, h0 => by unfold ckL at h; cases h
  | .lst _, C, ys, X, W, h, c, ops, el, h0 => by unfold ckL at h; cases h
  | .dsp _, C, ys, X, W, h, c, ops, el, h0 => by unfold ckL at h; cases h
  | .bin _ _ _, C, ys, X, W, h, c, ops, el, h0 => by unfold ckL at h; cases h
  | .cmp _ _ _, C, ys, X, W, h, c, ops, el, h0 => by unfold ckL at h; cases h
  | .and _ _, C, ys, X, W, h, c, ops, el, h0 => by unfold ckL at h; cases h
  | .or _ _, C, ys, X, W, h, c, ops, el, h0 => by unfold ckL at h; cases h
  | .not _, C, ys, X, W, h, c, ops, el, h0 => by unfold ckL at h; cases h
  | .neg _, C, ys, X, W, h, c, ops, el, h0 => by unfold ckL at h; cases h
  | .ite _ _ _, C, ys, X, W, h, c, ops, el, h0 => by unfold ckL at h; cases h
  | .att _ _, C, ys, X, W, h, c, ops, el, h0 => by unfold ckL at h; cases h
  | .idx _ _, C, ys, X, W, h, c, ops, el, h0 => by unfold ckL at h; cases h
  | .sli _ _ _, C, ys, X, W, h, c, ops, el, h0 => by unfold ckL at h; cases h
  | .prt _, C, ys, X, W, h, c, ops, el, h0 => by unfold ckL at h; cases h
  | .rev _, C, ys, X, W, h, c, ops, el, h0 => by unfold ckL at h; cases h
  | .call _ _, C, ys, X, W, h, c, ops, el, h0 => by unfold ckL at h; cases h
  | .mk _ _, C, ys, X, W, h, c, ops, el, h0 => by unfold ckL at h; cases h
  | .bi _ _, C, ys, X, W, h, c, ops, el, h0 => by unfold ckL at h; cases h
  | .b1 _ _, C, ys, X, W, h, c, ops, el, h0 => by unfold ckL at h; cases h
  | .bmd _ _, C, ys, X, W, h, c, ops, el, h0 => by unfold ckL at h; cases h
  | .b0 _, C, ys, X, W, h, c, ops, el, h0 => by unfold ckL at h; cases h
  | .mth _ _ _, C, ys, X, W, h, c, ops, el, h0 => by unfold ckL at h; cases h
  | .smt _ _ _, C, ys, X, W, h, c, ops, el, h0 => by unfold ckL at h; cases h
  | .mkv _ _, C, ys, X, W, h, c, ops, el, h0 => by unfold ckL at h; cases h
  | .ivk _ _, C, ys, X, W, h, c, ops, el, h0 => by unfold ckL at h; cases h
  | .isi _ _, C, ys, X, W, h, c, ops, el, h0 => by unfold ckL at h; cases h
  | .rng _, C, ys, X, W, h, c, ops, el, h0 => by unfold ckL at h; cases h
  | .zip _, C, ys, X, W, h, c, ops, el, h0 => by unfold ckL at h; cases h
  | .enm _, C, ys, X, W, h, c, ops, el, h0 => by unfold ckL at h; cases h
  | .itm _, C, ys, X, W, h, c, ops, el, h0 => by unfold ckL at h; cases h
  | .vls _, C, ys, X, W, h, c, ops, el, h0 => by unfold ckL at h; cases h
  | .kys _, C, ys, X, W, h, c, ops, el, h0 => by unfold ckL at h; cases h
  | .itv _, C, ys, X, W, h, c, ops, el, h0 => by unfold ckL at h; cases h
  | .gcl _ _, C, ys, X, W, h, c, ops, el, h0 => by unfold ckL at h; cases h
  | .gmt _ _ _, C, ys, X, W, h, c, ops, el, h0 => by unfold ckL at h; cases h
  | .lc _, C, ys, X, W, h, c, ops, el, h0 => by unfold ckL at h; cases h
  | .dc _, C, ys, X, W, h, c, ops, el, h0 => by unfold ckL at h; cases h
  | .sc _, C, ys, X, W, h, c, ops, el, h0 => by unfold ckL at h; cases h
  | .gen _ _ _ _, C, ys, X, W, h, c, ops, el, h0 => by unfold ckL at h; cases h
  | .elt _, C, ys, X, W, h, c, ops, el, h0 => by unfold ckL at h; cases h
  | .ekv _ _, C, ys, X, W, h, c, ops, el, h0 => by unfold ckL at h; cases h
termination_by structural m => m
theorem sP (O : TxOk Z G) : ∀ (m : E) {C : Ck} {o : Option Expr} {X : Cx} {W : WX}, ckP G m C o = true → Cxt Z G k d C X W → PO X o (RdP Z (evE Z.L.T (cl Z d) m) W)
  | .prt a, C, o, X, W, h, c => by
    unfold ckP at h
    split at h
    · exact rp_some (sE O a h c).1
    · cases h
  | .cst .non, C, o, X, W, h, c => by
    unfold ckP at h
    split at h
    · exact rp_none
    · cases h
  | .var _, C, o, X, W, h, c => by unfold ckP at h; cases h
  | .tup _, C, o, X, W, h, c => by unfold ckP at h; cases h
  | .lst _, C, o, X, W, h, c => by unfold ckP at h; cases h
  | .dsp _, C, o, X, W, h, c => by unfold ckP at h; cases h
  | .bin _ _ _, C, o, X, W, h, c => by unfold ckP at h; cases h
  | .cmp _ _ _, C, o, X, W, h, c => by unfold ckP at h; cases h
  | .and _ _, C, o, X, W, h, c => by unfold ckP at h; cases h
  | .or _ _, C, o, X, W, h, c => by unfold ckP at h; cases h
  | .not _, C, o, X, W, h, c => by unfold ckP at h; cases h
  | .neg _, C, o, X, W, h, c => by unfold ckP at h; cases h
  | .ite _ _ _, C, o, X, W, h, c => by unfold ckP at h; cases h
  | .att _ _, C, o, X, W, h, c => by unfold ckP at h; cases h
  | .idx _ _, C, o, X, W, h, c => by unfold ckP at h; cases h
  | .sli _ _ _, C, o, X, W, h, c => by unfold ckP at h; cases h
  | .rev _, C, o, X, W, h, c => by unfold ckP at h; cases h
  | .call _ _, C, o, X, W, h, c => by unfold ckP at h; cases h
  | .mk _ _, C, o, X, W, h, c => by unfold ckP at h; cases h
  | .bi _ _, C, o, X, W, h, c => by unfold ckP at h; cases h
  | .b1 _ _, C, o, X, W, h, c => by unfold ckP at h; cases h
  | .bmd _ _, C, o, X, W, h, c => by unfold ckP at h; cases h
  | .b0 _, C, o, X, W, h, c => by unfold ckP at h; cases h
  | .mth _ _ _, C, o, X, W, h, c => by unfold ckP at h; cases h
  | .smt _ _ _, C, o, X, W, h, c => by unfold ckP at h; cases h
  | .mkv _ _, C, o, X, W, h, c => by unfold ckP at h; cases h
  | .ivk _ _, C, o, X, W, h, c => by unfold ckP at h; cases h
  | .isi _ _, C, o, X, W, h, c => by unfold ckP at h; cases h
  | .rng _, C, o, X, W, h, c => by unfold ckP at h; cases h
  | .zip _, C, o, X, W, h, c => by unfold ckP at h; cases h
  | .enm _, C, o, X, W, h, c => by unfold ckP at h; cases h
  | .itm _, C, o, X, W, h, c => by unfold ckP at h; cases h
  | .vls _, C, o, X, W, h, c => by unfold ckP at h; cases h
  | .kys _, C, o, X, W, h, c => by unfold ckP at h; cases h
  | .itv _, C, o, X, W, h, c => by unfold ckP at h; cases h
  | .gcl _ _, C, o, X, W, h, c => by unfold ckP at h; cases h
  | .gmt _ _ _, C, o, X, W, h, c => by unfold ckP at h; cases h
  | .lc _, C, o, X, W, h, c => by unfold ckP at h; cases h
  | .dc _, C, o, X, W, h, c => by unfold ckP at h; cases h
  | .sc _, C, o, X, W, h, c => by unfold ckP at h; cases h
  | .gen _ _ _ _, C, o, X, W, h, c => by unfold ckP at h; cases h
  | .elt _, C, o, X, W, h, c => by unfold ckP at h; cases h
  | .ekv _ _, C, o, X, W, h, c => by unfold ckP at h; cases h
  | .nil, C, o, X, W, h, c => by unfold ckP at h; cases h
  | .cons _ _, C, o, X, W, h, c => by unfold ckP at h; cases h
  | .cst (.bl _), C, o, X, W, h, c => by unfold ckP at h; cases h
  | .cst (.int _), C, o, X, W, h, c => by unfold ckP at h; cases h
  | .cst (.str _), C, o, X, W, h, c => by unfold ckP at h; cases h
  | .cst (.tup _), C, o, X, W, h, c => by unfold ckP at h; cases h
  | .cst (.ref _), C, o, X, W, h, c => by unfold ckP at h; cases h
  | .cst (.ty _), C, o, X, W, h, c => by unfold ckP at h; cases h
  | .cst (.exv _ _), C, o, X, W, h, c => by unfold ckP at h; cases h
termination_by structural m => m
theorem sL (O : TxOk Z G) : ∀ (m : E) {C : Ck} {es : List Expr} {X : Cx} {W : WX}, ckL G m C es = true → Cxt Z G k d C X W → LsE Z d X W es m
  | .nil, C, es, X, W, h, c => by
    unfold ckL at h
    split at h
    · exact .nil
    · cases h
  | .cons a r, C, es, X, W, h, c => by
    unfold ckL at h
    split at h
    · obtain ⟨h, h3⟩ := and2 h
      obtain ⟨h1, h2⟩ := and2 h
      exact .cons (sE O a h2 c).1 h1 (sL O r h3 c)
    · cases h
  | .var _, C, es, X, W, h, c => by unfold ckL at h; cases h
  | .cst _, C, es, X, W, h, c => by unfold ckL at h; cases h
  | .tup _, C, es, X, W, h, c => by unfold ckL at h; cases h
  | .lst _, C, es, X, W, h, c => by unfold ckL at h; cases h
  | .dsp _, C, es, X, W, h, c => by unfold ckL at h; cases h
  | .bin _ _ _, C, es, X, W, h, c => by unfold ckL at h; cases h
  | .cmp _ _ _, C, es, X, W, h, c => by unfold ckL at h; cases h
  | .and _ _, C, es, X, W, h, c => by unfold ckL at h; cases h
  | .or _ _, C, es, X, W, h, c => by unfold ckL at h; cases h
  | .not _, C, es, X, W, h, c => by unfold ckL at h; cases h
  | .neg _, C, es, X, W, h, c => by unfold ckL at h; cases h
  | .ite _ _ _, C, es, X, W, h, c => by unfold ckL at h; cases h
  | .att _ _, C, es, X, W, h, c => by unfold ckL at h; cases h
  | .idx _ _, C, es, X, W, h, c => by unfold ckL at h; cases h
  | .sli _ _ _, C, es, X, W, h, c => by unfold ckL at h; cases h
  | .prt _, C, es, X, W, h, c => by unfold ckL at h; cases h
  | .rev _, C, es, X, W, h, c => by unfold ckL at h; cases h
  | .call _ _, C, es, X, W, h, c => by unfold ckL at h; cases h
  | .mk _ _, C, es, X, W, h, c => by unfold ckL at h; cases h
  | .bi _ _, C, es, X, W, h, c => by unfold ckL at h; cases h
  | .b1 _ _, C, es, X, W, h, c => by unfold ckL at h; cases h
  | .bmd _ _, C, es, X, W, h, c => by unfold ckL at h; cases h
  | .b0 _, C, es, X, W, h, c => by unfold ckL at h; cases h
  | .mth _ _ _, C, es, X, W, h, c => by unfold ckL at h; cases h
  | .smt _ _ _, C, es, X, W, h, c => by unfold ckL at h; cases h
  | .mkv _ _, C, es, X, W, h, c => by unfold ckL at h; cases h
  | .ivk _ _, C, es, X, W, h, c => by unfold ckL at h; cases h
  | .isi _ _, C, es, X, W, h, c => by unfold ckL at h; cases h
  | .rng _, C, es, X, W, h, c => by unfold ckL at h; cases h
  | .zip _, C, es, X, W, h, c => by unfold ckL at h; cases h
  | .enm _, C, es, X, W, h, c => by unfold ckL at h; cases h
  | .itm _, C, es, X, W, h, c => by unfold ckL at h; cases h
  | .vls _, C, es, X, W, h, c => by unfold ckL at h; cases h
  | .kys _, C, es, X, W, h, c => by unfold ckL at h; cases h
  | .itv _, C, es, X, W, h, c => by unfold ckL at h; cases h
  | .gcl _ _, C, es, X, W, h, c => by unfold ckL at h; cases h
  | .gmt _ _ _, C, es, X, W, h, c => by unfold ckL at h; cases h
  | .lc _, C, es, X, W, h, c => by unfold ckL at h; cases h
  | .dc _, C, es, X, W, h, c => by unfold ckL at h; cases h
  | .sc _, C, es, X, W, h, c => by unfold ckL at h; cases h
  | .gen _ _ _ _, C, es, X, W, h, c => by unfold ckL at h; cases h
  | .elt _, C, es, X, W, h, c => by unfold ckL at h; cases h
  | .ekv _ _, C, es, X, W, h, c => by unfold ckL at h; cases h
termination_by structural m => m
theorem sI (O : TxOk Z G) : ∀ (m : E) {C : Ck} {tg e : Expr} {X : Cx} {W : WX}, ckI G m C tg e = true → Cxt Z G k d C X W → PI X tg e (RdI Z (evI Z.L.T (cl Z d) m) W)
  | .itv a, C, tg, e, X, W, h, c => by
    unfold ckI at h
    exact ri_itv (sE O a h c).1
  | .enm a, C, tg, e, X, W, h, c => by
    unfold ckI at h
    split at h
    · obtain ⟨h, h5⟩ := and2 h
      obtain ⟨h, h4⟩ := and2 h
      obtain ⟨h, h3⟩ := and2 h
      obtain ⟨h1, h2⟩ := and2 h
      obtain ⟨g, nd, m, v, nn⟩ := bt_at O c h1
      have ef := of_decide_eq_true h2
      subst ef
      cases tg <;> first | exact ri_enum (sE O a h5 c).1 g m h4 | (cases h3; done)
    · cases h
  | .rng es, C, tg, e, X, W, h, c => by
    unfold ckI at h
    split at h
    · obtain ⟨h, h4⟩ := and2 h
      obtain ⟨h, h3⟩ := and2 h
      obtain ⟨h1, h2⟩ := and2 h
      obtain ⟨g, nd, m, v, nn⟩ := bt_at O c h1
      have ef := of_decide_eq_true h2
      subst ef
      have ls := (sL O es h4 c).ls
      show PI X tg _ (RdI Z (iRng (evL Z.L.T (cl Z d) es)) W)
      revert ls
      generalize evL Z.L.T (cl Z d) es = ms
      intro ls
      cases ls with
      | nil => simp at h3
      | cons he hn hs =>
        cases hs with
        | nil => exact ri_rng1 he g m hn
        | cons he2 hn2 hs =>
          cases hs with
          | nil => exact ri_rng2 he he2 g m hn hn2
          | cons _ _ _ => simp at h3
    · cases h
  | .zip es, C, tg, e, X, W, h, c => by
    unfold ckI at h
    split at h
    · obtain ⟨h, h4⟩ := and2 h
      obtain ⟨h, h3⟩ := and2 h
      obtain ⟨h, h5⟩ := and2 h
      obtain ⟨h1, h2⟩ := and2 h
      obtain ⟨g, nd, m, v, nn⟩ := bt_at O c h1
      have ef := of_decide_eq_true h2
      subst ef
      have ls := (sL O es h4 c).ls
      show PI X tg _ (RdI Z (iZip (evL Z.L.T (cl Z d) es)) W)
      revert ls
      generalize evL Z.L.T (cl Z d) es = ms
      intro ls
      cases tg <;> first | (cases h5; done) | skip
      cases ls with
      | nil => simp at h3
      | cons he hn hs =>
        cases hs with
        | nil => simp at h3
        | cons he2 hn2 hs =>
          cases hs with
          | nil => exact ri_zip2 he he2 g m hn hn2
          | cons he3 hn3 hs =>
            cases hs with
            | nil => exact ri_zip3 he he2 he3 g m hn hn2 hn3
            | cons _ _ _ => simp at h3
    · cases h
  | .var _, C, tg, e, X, W, h, c => by unfold ckI at h; cases h
  | .cst _, C, tg, e, X, W, h, c => by unfold ckI at h; cases h
  | .tup _, C, tg, e, X, W, h, c => by unfold ckI at h; cases h
  | .lst _, C, tg, e, X, W, h, c => by unfold ckI at h; cases h
  | .dsp _, C, tg, e, X, W, h, c => by unfold ckI at h; cases h
  | .bin _ _ _, C, tg, e, X, W, h, c => by unfold ckI at h; cases h
  | .cmp _ _ _, C, tg, e, X, W, h, c => by unfold ckI at h; cases h
  | .and _ _, C, tg, e, X, W, h, c => by unfold ckI at h; cases h
  | .or _ _, C, tg, e, X, W, h, c => by unfold ckI at h; cases h
  | .not _, C, tg, e, X, W, h, c => by unfold ckI at h; cases h
  | .neg _, C, tg, e, X, W, h, c => by unfold ckI at h; cases h
  | .ite _ _ _, C, tg, e, X, W, h, c => by unfold ckI at h; cases h
  | .att _ _, C, tg, e, X, W, h, c => by unfold ckI at h; cases h
  | .idx _ _, C, tg, e, X, W, h, c => by unfold ckI at h; cases h
  | .sli _ _ _, C, tg, e, X, W, h, c => by unfold ckI at h; cases h
  | .prt _, C, tg, e, X, W, h, c => by unfold ckI at h; cases h
  | .rev _, C, tg, e, X, W, h, c => by unfold ckI at h; cases h
  | .call _ _, C, tg, e, X, W, h, c => by unfold ckI at h; cases h
  | .mk _ _, C, tg, e, X, W, h, c => by unfold ckI at h; cases h
  | .bi _ _, C, tg, e, X, W, h, c => by unfold ckI at h; cases h
  | .b1 _ _, C, tg, e, X, W, h, c => by unfold ckI at h; cases h
  | .bmd _ _, C, tg, e, X, W, h, c => by unfold ckI at h; cases h
  | .b0 _, C, tg, e, X, W, h, c => by unfold ckI at h; cases h
  | .mth _ _ _, C, tg, e, X, W, h, c => by unfold ckI at h; cases h
  | .smt _ _ _, C, tg, e, X, W, h, c => by unfold ckI at h; cases h
  | .mkv _ _, C, tg, e, X, W, h, c => by unfold ckI at h; cases h
  | .ivk _ _, C, tg, e, X, W, h, c => by unfold ckI at h; cases h
  | .isi _ _, C, tg, e, X, W, h, c => by unfold ckI at h; cases h
  | .itm _, C, tg, e, X, W, h, c => by unfold ckI at h; cases h
  | .vls _, C, tg, e, X, W, h, c => by unfold ckI at h; cases h
  | .kys _, C, tg, e, X, W, h, c => by unfold ckI at h; cases h
  | .gcl _ _, C, tg, e, X, W, h, c => by unfold ckI at h; cases h
  | .gmt _ _ _, C, tg, e, X, W, h, c => by unfold ckI at h; cases h
  | .lc _, C, tg, e, X, W, h, c => by unfold ckI at h; cases h
  | .dc _, C, tg, e, X, W, h, c => by unfold ckI at h; cases h
  | .sc _, C, tg, e, X, W, h, c => by unfold ckI at h; cases h
  | .gen _ _ _ _, C, tg, e, X, W, h, c => by unfold ckI at h; cases h
  | .elt _, C, tg, e, X, W, h, c => by unfold ckI at h; cases h
  | .ekv _ _, C, tg, e, X, W, h, c => by unfold ckI at h; cases h
  | .nil, C, tg, e, X, W, h, c => by unfold ckI at h; cases h
  | .cons _ _, C, tg, e, X, W, h, c => by unfold ckI at h; cases h
termination_by structural m => m
theorem sK (O : TxOk Z G) : ∀ (m : E) {C : Ck} {e : Expr} {X : Cx} {W : WX}, ckK G m C e = true → Cxt Z G k d C X W → ∃ a, m = .kys a ∧ PE X e (RdE Z (evE Z.L.T (cl Z d) a) W)
  | .kys a, C, e, X, W, h, c => by
    unfold ckK at h
    exact ⟨a, rfl, (sE O a h c).1⟩
  | .var _, C, e, X, W, h, c => by unfold ckK at h; cases h
  | .cst _, C, e, X, W, h, c => by unfold ckK at h; cases h
  | .tup _, C, e, X, W, h, c => by unfold ckK at h; cases h
  | .lst _, C, e, X, W, h, c => by unfold ckK at h; cases h
  | .dsp _, C, e, X, W, h, c => by unfold ckK at h; cases h
  | .bin _ _ _, C, e, X, W, h, c => by unfold ckK at h; cases h
  | .cmp _ _ _, C, e, X, W, h, c => by unfold ckK at h; cases h
  | .and _ _, C, e, X, W, h, c => by unfold ckK at h; cases h
  | .or _ _, C, e, X, W, h, c => by unfold ckK at h; cases h
  | .not _, C, e, X, W, h, c => by unfold ckK at h; cases h
  | .neg _, C, e, X, W, h, c => by unfold ckK at h; cases h
  | .ite _ _ _, C, e, X, W, h, c => by unfold ckK at h; cases h
  | .att _ _, C, e, X, W, h, c => by unfold ckK at h; cases h
  | .idx _ _, C, e, X, W, h, c => by unfold ckK at h; cases h
  | .sli _ _ _, C, e, X, W, h, c => by unfold ckK at h; cases h
  | .prt _, C, e, X, W, h, c => by unfold ckK at h; cases h
  | .rev _, C, e, X, W, h, c => by unfold ckK at h; cases h
  | .call _ _, C, e, X, W, h, c => by unfold ckK at h; cases h
  | .mk _ _, C, e, X, W, h, c => by unfold ckK at h; cases h
  | .bi _ _, C, e, X, W, h, c => by unfold ckK at h; cases h
  | .b1 _ _, C, e, X, W, h, c => by unfold ckK at h; cases h
  | .bmd _ _, C, e, X, W, h, c => by unfold ckK at h; cases h
  | .b0 _, C, e, X, W, h, c => by unfold ckK at h; cases h
  | .mth _ _ _, C, e, X, W, h, c => by unfold ckK at h; cases h
  | .smt _ _ _, C, e, X, W, h, c => by unfold ckK at h; cases h
  | .mkv _ _, C, e, X, W, h, c => by unfold ckK at h; cases h
  | .ivk _ _, C, e, X, W, h, c => by unfold ckK at h; cases h
  | .isi _ _, C, e, X, W, h, c => by unfold ckK at h; cases h
  | .itm _, C, e, X, W, h, c => by unfold ckK at h; cases h
  | .vls _, C, e, X, W, h, c => by unfold ckK at h; cases h
  | .gcl _ _, C, e, X, W, h, c => by unfold ckK at h; cases h
  | .gmt _ _ _, C, e, X, W, h, c => by unfold ckK at h; cases h
  | .lc _, C, e, X, W, h, c => by unfold ckK at h; cases h
  | .dc _, C, e, X, W, h, c => by unfold ckK at h; cases h
  | .sc _, C, e, X, W, h, c => by unfold ckK at h; cases h
  | .gen _ _ _ _, C, e, X, W, h, c => by unfold ckK at h; cases h
  | .elt _, C, e, X, W, h, c => by unfold ckK at h; cases h
  | .ekv _ _, C, e, X, W, h, c => by unfold ckK at h; cases h
  | .nil, C, e, X, W, h, c => by unfold ckK at h; cases h
  | .cons _ _, C, e, X, W, h, c => by unfold ckK at h; cases h
  | .itv _, C, e, X, W, h, c => by unfold ckK at h; cases h
  | .enm _, C, e, X, W, h, c => by unfold ckK at h; cases h
  | .rng _, C, e, X, W, h, c => by unfold ckK at h; cases h
  | .zip _, C, e, X, W, h, c => by unfold ckK at h; cases h
termination_by structural m => m
theorem sT (O : TxOk Z G) : ∀ (m : E) {C : Ck} {es : List Expr} {X : Cx} {W : WX}, ckT G m C es = true → Cxt Z G k d C X W → PTs X es (RdT Z (evT Z.L.T (cl Z d) m) W)
  | .nil, C, es, X, W, h, c => by
    unfold ckT at h
    split at h
    · exact rts_nil
    · cases h
  | .cons a .nil, C, es, X, W, h, c => by
    unfold ckT at h
    split at h
    · exact rts_one (sE O a h c).2.1
    · cases h
  | .var _, C, es, X, W, h, c => by unfold ckT at h; cases h
  | .cst _, C, es, X, W, h, c => by unfold ckT at h; cases h
  | .tup _, C, es, X, W, h, c => by unfold ckT at h; cases h
  | .lst _, C, es, X, W, h, c => by unfold ckT at h; cases h
  | .dsp _, C, es, X, W, h, c => by unfold ckT at h; cases h
  | .bin _ _ _, C, es, X, W, h, c => by unfold ckT at h; cases h
  | .cmp _ _ _, C, es, X, W, h, c => by unfold ckT at h; cases h
  | .and _ _, C, es, X, W, h, c => by unfold ckT at h; cases h
  | .or _ _, C, es, X, W, h, c => by unfold ckT at h; cases h
  | .not _, C, es, X, W, h, c => by unfold ckT at h; cases h
  | .neg _, C, es, X, W, h, c => by unfold ckT at h; cases h
  | .ite _ _ _, C, es, X, W, h, c => by unfold ckT at h; cases h
  | .att _ _, C, es, X, W, h, c => by unfold ckT at h; cases h
  | .idx _ _, C, es, X, W, h, c => by unfold ckT at h; cases h
  | .sli _ _ _, C, es, X, W, h, c => by unfold ckT at h; cases h
  | .prt _, C, es, X, W, h, c => by unfold ckT at h; cases h
  | .rev _, C, es, X, W, h, c => by unfold ckT at h; cases h
  | .call _ _, C, es, X, W, h, c => by unfold ckT at h; cases h
  | .mk _ _, C, es, X, W, h, c => by unfold ckT at h; cases h
  | .bi _ _, C, es, X, W, h, c => by unfold ckT at h; cases h
  | .b1 _ _, C, es, X, W, h, c => by unfold ckT at h; cases h
  | .bmd _ _, C, es, X, W, h, c => by unfold ckT at h; cases h
  | .b0 _, C, es, X, W, h, c => by unfold ckT at h; cases h
  | .mth _ _ _, C, es, X, W, h, c => by unfold ckT at h; cases h
  | .smt _ _ _, C, es, X, W, h, c => by unfold ckT at h; cases h
  | .mkv _ _, C, es, X, W, h, c => by unfold ckT at h; cases h
  | .ivk _ _, C, es, X, W, h, c => by unfold ckT at h; cases h
  | .isi _ _, C, es, X, W, h, c => by unfold ckT at h; cases h
  | .rng _, C, es, X, W, h, c => by unfold ckT at h; cases h
  | .zip _, C, es, X, W, h, c => by unfold ckT at h; cases h
  | .enm _, C, es, X, W, h, c => by unfold ckT at h; cases h
  | .itm _, C, es, X, W, h, c => by unfold ckT at h; cases h
  | .vls _, C, es, X, W, h, c => by unfold ckT at h; cases h
  | .kys _, C, es, X, W, h, c => by unfold ckT at h; cases h
  | .itv _, C, es, X, W, h, c => by unfold ckT at h; cases h
  | .gcl _ _, C, es, X, W, h, c => by unfold ckT at h; cases h
  | .gmt _ _ _, C, es, X, W, h, c => by unfold ckT at h; cases h
  | .lc _, C, es, X, W, h, c => by unfold ckT at h; cases h
  | .dc _, C, es, X, W, h, c => by unfold ckT at h; cases h
  | .sc _, C, es, X, W, h, c => by unfold ckT at h; cases h
  | .gen _ _ _ _, C, es, X, W, h, c => by unfold ckT at h; cases h
  | .elt _, C, es, X, W, h, c => by unfold ckT at h; cases h
  | .ekv _ _, C, es, X, W, h, c => by unfold ckT at h; cases h
  | .cons _ (.var _), C, es, X, W, h, c => by unfold ckT at h; cases h
  | .cons _ (.cst _), C, es, X, W, h, c => by unfold ckT at h; cases h
  | .cons _ (.tup _), C, es, X, W, h, c => by unfold ckT at h; cases h
  | .cons _ (.lst _), C, es, X, W, h, c => by unfold ckT at h; cases h
  | .cons _ (.dsp _), C, es, X, W, h, c => by unfold ckT at h; cases h
  | .cons _ (.bin _ _ _), C, es, X, W, h, c => by unfold ckT at h; cases h
  | .cons _ (.cmp _ _ _), C, es, X, W, h, c => by unfold ckT at h; cases h
  | .cons _ (.and _ _), C, es, X, W, h, c => by unfold ckT at h; cases h
  | .cons _ (.or _ _), C, es, X, W, h, c => by unfold ckT at h; cases h
  | .cons _ (.not _), C, es, X, W, h, c => by unfold ckT at h; cases h
  | .cons _ (.neg _), C, es, X, W, h, c => by unfold ckT at h; cases h
  | .cons _ (.ite _ _ _), C, es, X, W, h, c => by unfold ckT at h; cases h
  | .cons _ (.att _ _), C, es, X, W, h, c => by unfold ckT at h; cases h
  | .cons _ (.idx _ _), C, es, X, W, h, c => by unfold ckT at h; cases h
  | .cons _ (.sli _ _ _), C, es, X, W, h, c => by unfold ckT at h; cases h
  | .cons _ (.prt _), C, es, X, W, h, c => by unfold ckT at h; cases h
  | .cons _ (.rev _), C, es, X, W, h, c => by unfold ckT at h; cases h
  | .cons _ (.call _ _), C, es, X, W, h, c => by unfold ckT at h; cases h
  | .cons _ (.mk _ _), C, es, X, W, h, c => by unfold ckT at h; cases h
  | .cons _ (.bi _ _), C, es, X, W, h, c => by unfold ckT at h; cases h
  | .cons _ (.b1 _ _), C, es, X, W, h, c => by unfold ckT at h; cases h
  | .cons _ (.bmd _ _), C, es, X, W, h, c => by unfold ckT at h; cases h
  | .cons _ (.b0 _), C, es, X, W, h, c => by unfold ckT at h; cases h
  | .cons _ (.mth _ _ _), C, es, X, W, h, c => by unfold ckT at h; cases h
  | .cons _ (.smt _ _ _), C, es, X, W, h, c => by unfold ckT at h; cases h
  | .cons _ (.mkv _ _), C, es, X, W, h, c => by unfold ckT at h; cases h
  | .cons _ (.ivk _ _), C, es, X, W, h, c => by unfold ckT at h; cases h
  | .cons _ (.isi _ _), C, es, X, W, h, c => by unfold ckT at h; cases h
  | .cons _ (.rng _), C, es, X, W, h, c => by unfold ckT at h; cases h
  | .cons _ (.zip _), C, es, X, W, h, c => by unfold ckT at h; cases h
  | .cons _ (.enm _), C, es, X, W, h, c => by unfold ckT at h; cases h
  | .cons _ (.itm _), C, es, X, W, h, c => by unfold ckT at h; cases h
  | .cons _ (.vls _), C, es, X, W, h, c => by unfold ckT at h; cases h
  | .cons _ (.kys _), C, es, X, W, h, c => by unfold ckT at h; cases h
  | .cons _ (.itv _), C, es, X, W, h, c => by unfold ckT at h; cases h
  | .cons _ (.gcl _ _), C, es, X, W, h, c => by unfold ckT at h; cases h
  | .cons _ (.gmt _ _ _), C, es, X, W, h, c => by unfold ckT at h; cases h
  | .cons _ (.lc _), C, es, X, W, h, c => by unfold ckT at h; cases h
  | .cons _ (.dc _), C, es, X, W, h, c => by unfold ckT at h; cases h
  | .cons _ (.sc _), C, es, X, W, h, c => by unfold ckT at h; cases h
  | .cons _ (.gen _ _ _ _), C, es, X, W, h, c => by unfold ckT at h; cases h
  | .cons _ (.elt _), C, es, X, W, h, c => by unfold ckT at h; cases h
  | .cons _ (.ekv _ _), C, es, X, W, h, c => by unfold ckT at h; cases h
  | .cons _ (.cons _ _), C, es, X, W, h, c => by unfold ckT at h; cases h
termination_by structural m => m
end
end
end TB

/-! TB, the link: the look at statements. -/
namespace TB
open L2 PySem PyProof.Rows PySem.Spec
/-- the scope of a comprehension -/
def compScope : Expr → Option Scope
  | .ListComp _ _ s _ => some s
  | .SetComp _ _ s _ => some s
  | .DictComp _ _ _ s _ => some s
  | _ => none
def kindFn (sc : Scope) : Bool := (if sc.kind.isAnnotationScope then ScopeKind.function else sc.kind) == .function
def swapQ (sc scope : Scope) (v : Expr) (t : Str) (p : Pos) : Bool := kindFn sc && sc.names.lookup t == some .local && p.line == v.pos.line && !(scope.names.any fun (n, k) => n == t && (k == .local || k == .cell))
/-- how a value is stored: straight to a name, or not -/
def swapF (sc : Scope) (v tg : Expr) : Bool := match compScope v with
  | none => false
  | some scope => match tg with
    | .Name t p => swapQ sc scope v t p
    | _ => false
def swpN (sc : Scope) (ts vs : List Expr) : Option (Option (List Str)) :=
  bif !(ts.length == 2 || ts.length == 3) || vs.length != ts.length || !kindFn sc then some none
  else bif vs.any (fun | .Starred .. => true | _ => false) then some none
  else
    let ln0 := (ts.head?.map (·.pos.line)).getD 0
    let names := ts.filterMap fun
      | .Name id pos => if sc.names.lookup id == some .local && pos.line == ln0 then some id else none
      | _ => none
    bif names.length != ts.length || names.eraseDups.length != names.length then some none
    else bif vs.all (foldedForSure 8) then some none
    else bif vs.all (constantsAlone 8) then none
    else some (some names)
def swp (sc : Scope) (tg v : Expr) : Option (Option (List Str)) := match tg with
  | .Tuple ts _ _ => match v with
    | .Tuple vs _ _ => swpN sc ts vs
    | _ => some none
  | .List ts _ => match v with
    | .Tuple vs _ _ => swpN sc ts vs
    | _ => some none
  | _ => some none
def augB : Op → Operator → Bool
  | .add, .Add => true
  | .sub, .Sub => true
  | _, _ => false
def excB (T : Tab) (c : Nat) : Bool := match T.cl.get c with
  | some k => k.exc
  | none => false
def isLc : E → Bool
  | .lc (.gen _ (.kys _) _ _) => false
  | .lc _ => true
  | _ => false
def strDoc : Expr → Bool
  | .Constant (.str _) _ _ => true
  | _ => false
/-- expressions in a suite -/
def ckU (G : Tx) (oi : Option Nat) : E → Ck → Expr → Bool
  | .var j, C, e => match e with
    | .Name x _ => varB C j x && !(oi == some j)
    | _ => false
  | .cst v, C, e => cstB G C v e
  | .att (.var i) f, C, e => match e with
    | .Attribute (.Name n _) fn _ => oi == some i && varB C i n && eqStr fn (G.nm f)
    | _ => false
  | .tup es, C, e => match e with
    | .Tuple xs _ _ => ckUL G oi es C xs
    | _ => false
  | .lst es, C, e => match e with
    | .List xs _ => ckUL G oi es C xs
    | _ => false
  | _, _, _ => false
where ckUL (G : Tx) (oi : Option Nat) : E → Ck → List Expr → Bool
  | .nil, C, es => match es with
    | [] => true
    | _ => false
  | .cons a r, C, es => match es with
    | x :: xs => noStar x && ckU G oi a C x && ckUL G oi r C xs
    | _ => false
  | _, _, _ => false
/-- a suite: one statement -/
def ckHu (G : Tx) (oi : Option Nat) : S → Ck → List Stmt → Bool
  | .ret e, C, sts => match sts with
    | [.Return (some x) _] => ckU G oi e C x
    | _ => false
  | .asg (.nm j) e, C, sts => match sts with
    | [.Assign [.Name x p] v sp] => slotB C j x && locB C x && !(oi == some j) && !swapF C.sc v (.Name x p) && ckU G oi e C v
    | _ => false
  | _, _, _ => false
def nmB (C : Ck) : Option Str → Option Nat → Bool
  | none, none => true
  | some n, some i => slotB C i n && kindB C n .local
  | _, _ => false
mutual
def ckS (G : Tx) : S → Ck → List Stmt → Bool
  | .seq a b, C, sts => match sts with
    | s :: t :: r => ckS G a C [s] && ckS G b C (t :: r)
    | _ => false
  | .nop, C, sts => match sts with
    | [] => true
    | [.Pass _] => true
    | [.Expr e _] => strDoc e
    | _ => false
  | .asg t e, C, sts => match sts with
    | [.Assign [tg] v _] => bif swapF C.sc v tg then (match t with
        | .nm i => (match tg with
          | .Name y _ => slotB C i y && kindB C y .local && isLc e && ckE G e C v
          | _ => false)
        | _ => false)
      else (match swp C.sc tg v with
        | some none => noStar tg && ckTg C t tg && ckE G e C v
        | some (some [x, y]) => (match t with
          | .tup (.cons (.nm i) (.cons (.nm j) .nil)) => (match e with
            | .tup (.cons a (.cons b .nil)) => (match tg with
              | .Tuple [.Name x' _, .Name y' _] _ _ => (match v with
                | .Tuple [va, vb] _ _ => eqStr x x' && eqStr y y' && slotB C i x && slotB C j y && !Nat.beq i j && kindB C x .local && kindB C y .local && noStar va && noStar vb && ckE G a C va && ckE G b C vb
                | _ => false)
              | _ => false)
            | _ => false)
          | _ => false)
        | some (some [x, y, w]) => (match t with
          | .tup (.cons (.nm i) (.cons (.nm j) (.cons (.nm l) .nil))) => (match e with
            | .tup (.cons a (.cons b (.cons c .nil))) => (match tg with
              | .Tuple [.Name x' _, .Name y' _, .Name w' _] _ _ => (match v with
                | .Tuple [va, vb, vc] _ _ => eqStr x x' && eqStr y y' && eqStr w w' && slotB C i x && slotB C j y && slotB C l w && !Nat.beq i j && !Nat.beq i l && !Nat.beq j l && kindB C x .local && kindB C y .local && kindB C w .local && noStar va && noStar vb && noStar vc &&
                    ckE G a C va && ckE G b C vb && ckE G c C vc
                | _ => false)
              | _ => false)
            | _ => false)
          | _ => false)
        | _ => false)
    | _ => false
  | .sat o f e, C, sts => match sts with
    | [.Assign [.Attribute x fn _] v _] => ckE G o C x && ckE G e C v && G.atts.contains f && eqStr fn (G.nm f)
    | _ => false
  | .six o i e, C, sts => match sts with
    | [.Assign [.Subscript x y _] v _] => ckE G o C x && ckE G i C y && ckE G e C v
    | _ => false
  | .aug i o e, C, sts => match sts with
    | [.AugAssign (.Name x _) op v _] => augB o op && slotB C i x && locB C x && ckE G e C v
    | _ => false
  | .augf x f o e, C, sts => match sts with
    | [.AugAssign (.Attribute ob fn _) op v _] => augB o op && ckE G x C ob && ckE G e C v && G.atts.contains f && eqStr fn (G.nm f)
    | _ => false
  | .exp e, C, sts => match sts with
    | [.Expr v _] => (compScope v).isNone && ckE G e C v
    | _ => false
  | .ifs c a b, C, sts => match sts with
    | [.If t x y _] => ckE G c C t && ckS G a C x && ckS G b C y
    | _ => false
  | .fr t it b, C, sts => match sts with
    | [.For tg iter body [] _] => ckI G it C tg iter && !isSetE iter && ckTg C t tg && ckS G b C body
    | _ => false
  | .whl c b, C, sts => match sts with
    | [.While t body [] _] => ckE G c C t && ckS G b C body
    | _ => false
  | .ret e, C, sts => match sts with
    | [.Return (some v) _] => ckE G e C v
    | _ => false
  | .retN, C, sts => match sts with
    | [.Return none _] => true
    | _ => false
  | .rse c es, C, sts => match sts with
    | [.Raise (some (.Call (.Name x _) xs [] _)) none _] => clsB G C c x && excB G.T c && ckL G es C xs
    | _ => false
  | .brk, C, sts => match sts with
    | [.Break _] => true
    | _ => false
  | .cnt, C, sts => match sts with
    | [.Continue _] => true
    | _ => false
  | .tr b hs, C, sts => match sts with
    | [.Try body (h :: hds) [] [] _] => ckS G b C body && ckH G hs C (h :: hds)
    | _ => false
  | _, _, _ => false
termination_by structural m => m
def ckH (G : Tx) : S → Ck → List ExceptHandler → Bool
  | .hnil, C, hds => match hds with
    | [] => true
    | _ => false
  | .hcons c oi b r, C, hds => match hds with
    | .ExceptHandler (some (.Name x _)) on (b₀ :: suite) _ :: hds => clsB G C c x && excB G.T c && nmB C on oi && ckHu G oi b C (b₀ :: suite) && ckH G r C hds
    | _ => false
  | _, _, _ => false
termination_by structural m => m
end
end TB

/-! TB, the link: soundness of the look at statements. -/
namespace TB
open L2 PySem PyProof.Rows PySem.Spec
section
variable {Z : Wl} {G : Tx} {k d : Nat}
theorem swapF_at {v tg : Expr} {line : Nat} {env : PySem.Env} {b : Bool} (h : swapF env.scope v tg = b) : swapsWith v (some tg) line env = pure b := by
  subst h
  unfold swapF swapsWith
  cases v <;> first | rfl | (cases tg <;> rfl)
theorem sole_at {v tg : Expr} {line : Nat} {env : PySem.Env} (h : swapF env.scope v tg = false) : swapsWithSole [tg] v line env = pure false := by
  unfold swapsWithSole
  exact swapF_at h
theorem swapF_no {v : Expr} {line : Nat} {env : PySem.Env} (h : (compScope v).isNone = true) : swapsWith v none line env = pure false := by
  unfold swapsWith
  cases v <;> first | rfl | (cases h; done)
theorem swapF_att {v tg : Expr} {line : Nat} {env : PySem.Env} (h : ∀ t p, tg ≠ .Name t p) : swapsWith v (some tg) line env = pure false := by
  refine swapF_at ?_
  unfold swapF
  cases compScope v with
  | none => rfl
  | some s => cases tg <;> first | rfl | exact absurd rfl (h _ _)
theorem swp_aux {o : Option (List Str)} {msg : String} (b1 b2 b3 b4 b5 : Bool) (names : List Str) (h : (bif b1 then some none else bif b2 then some none else bif b3 then some none else bif b4 then some none else bif b5 then none else some (some names)) = some o) :
    (if b1 = true then pure none else if b2 = true then pure none else if b3 = true then pure none else if b4 = true then pure none else (let jp : Unit → Sem (Option (List Str)) := fun _ => pure (some names); if b5 = true then (do let r ← unsupported msg; jp r) else jp ()) : Sem (Option (List Str))) = pure o := by
  cases b1 <;> cases b2 <;> cases b3 <;> cases b4 <;> cases b5 <;> first | (cases h; rfl) | (cases h; done)
theorem swpN_at {ts vs : List Expr} {env : PySem.Env} {o : Option (List Str)} (h : swpN env.scope ts vs = some o) {tg v : Expr} (e : (∃ a b c d, tg = .Tuple ts a b ∧ v = .Tuple vs c d) ∨ (∃ a c d, tg = .List ts a ∧ v = .Tuple vs c d)) : swappedStores [tg] v env = pure o := by
  rcases e with ⟨a, b, c, d, rfl, rfl⟩ | ⟨a, c, d, rfl, rfl⟩
  · unfold swappedStores
    exact swp_aux _ _ _ _ _ _ h
  · unfold swappedStores
    exact swp_aux _ _ _ _ _ _ h
theorem swp_at {tg v : Expr} {env : PySem.Env} {o : Option (List Str)} (h : swp env.scope tg v = some o) : swappedStores [tg] v env = pure o := by
  cases tg <;> cases v <;> first | exact swpN_at h (.inl ⟨_, _, _, _, rfl, rfl⟩) | exact swpN_at h (.inr ⟨_, _, _, rfl, rfl⟩) | (cases h; rfl)
/-- a place where statements run -/
structure Sxt (Z : Wl) (G : Tx) (k d : Nat) (C : Ck) (X : Cx) (W : WX) : Prop where
  c : Cxt Z G k d C X W
  xo : ExOk Z
  st : X.stack = X.env :: X.outer
  fr : X.env.frame = some X.env.locals
  ps : PassesOwn (model X.prog X.w) X.A X.env X.xe
theorem Sxt.tr {C : Ck} {X : Cx} {W W' : WX} (s : Sxt Z G k d C X W) {pn : List (Addr × Obj)} {xe : Value → Shared → Prop} (tk : Takes (X.tr pn xe) W') (hp : PassesOwn (model X.prog X.w) X.A X.env xe) : Sxt Z G k d C (X.tr pn xe) W' :=
  let g := s.c.K.g
  ⟨⟨⟨⟨g.prog, g.w, g.K, g.mg, g.base, g.calm, g.nd, tk, g.room⟩, s.c.K.hk, s.c.K.fo, s.c.K.cs, s.c.K.nb⟩, s.c.nb, s.c.N, s.c.sc, s.c.fn⟩, s.xo, s.st, s.fr, hp⟩
theorem kind_at {C : Ck} {X : Cx} {W : WX} (c : Cxt Z G k d C X W) {x : Str} {n : NameKind} (h : kindB C x n = true) : X.env.scope.names.lookup x = some n := by
  rw [c.sc]; exact of_decide_eq_true h
theorem aug_at {o : Op} {op : Operator} (h : augB o op = true) : (o = .add ∧ op = .Add) ∨ (o = .sub ∧ op = .Sub) := by
  unfold augB at h
  split at h
  · exact .inl ⟨rfl, rfl⟩
  · exact .inr ⟨rfl, rfl⟩
  · cases h
theorem exc_at (O : TxOk Z G) {c : Nat} (h : excB G.T c = true) : ∃ cl, Z.L.T.cl.get c = some cl ∧ cl.exc = true := by
  unfold excB at h
  rw [O.T]
  split at h
  · exact ⟨_, by assumption, h⟩
  · cases h
/-- a list comprehension, straight to a name -/
theorem setLc_at (O : TxOk Z G) {C : Ck} {X : Cx} {W : WX} (c : Cxt Z G k d C X W) {g : E} {v : Expr} {i : Nat} {y : Str} {py spos : Pos} (h : ckE G (.lc g) C v = true) (hz : isLc (.lc g) = true) (hy : slotB C i y = true) (hk : kindB C y .local = true) (hs : swapsWith v (some (.Name y py)) spos.line X.env = pure true) :
    PS X (.Assign [.Name y py] v spos) (RdS Z (sAsg (.nm i) (evE Z.L.T (cl Z d) (.lc g))) W) := by
  have hg := c.K.g
  unfold ckE at h
  split at h
  · split at h
    · rename_i t i' q m
      obtain ⟨h, h6⟩ := and2 h
      obtain ⟨h, h5⟩ := and2 h
      obtain ⟨h, h4⟩ := and2 h
      obtain ⟨h, h3⟩ := and2 h
      obtain ⟨h1, h2⟩ := and2 h
      have hk2 : isKysE i' = false := by cases i' <;> first | rfl | (exact (nomatch hz))
      rw [hk2] at h1
      have h1 : ckI G i' C _ _ = true := h1
      have z := rs_setLc1 (pos := _) hg.calm hg.nd (slot_at c hy) (kind_at c hk) hs (sI O i' h1 c) (blk_at c h3) (fun j hj => by rw [own_map]; exact hj) (fun s H Cc cl' fp => tg_at (cxt_blk c _ s H Cc cl' fp) h4) (fun s H Cc cl' fp => sT O q h5 (cxt_blk c _ s H Cc cl' fp)) (fun s H Cc cl' fp => (sE O m h6 (cxt_blk c _ s H Cc cl' fp)).1) (fold_at (by simpa using h2) _)
      rw [own_map] at z
      show PS X _ (RdS Z (sAsg (.nm i) (mLc (gVars (.gen t i' q (.elt m))) (gGen t (evI Z.L.T (cl Z d) i') (evT Z.L.T (cl Z d) q) (gElt (evE Z.L.T (cl Z d) m))))) W)
      rw [gvars1]
      exact z
    · cases h
  · split at h
    · rename_i t i' q t1 i1 q1 m
      obtain ⟨h, h10⟩ := and2 h
      obtain ⟨h, h9⟩ := and2 h
      obtain ⟨h, h8⟩ := and2 h
      obtain ⟨h, h7⟩ := and2 h
      obtain ⟨h, h6⟩ := and2 h
      obtain ⟨h, h5⟩ := and2 h
      obtain ⟨h, h4⟩ := and2 h
      obtain ⟨h, h3⟩ := and2 h
      obtain ⟨h1, h2⟩ := and2 h
      have z := rs_setLc2 (pos := _) hg.calm hg.nd (slot_at c hy) (kind_at c hk) hs (sI O i' h1 c) (blk_at c h4) (fun j hj => by rw [own_map]; exact List.mem_append_left _ hj) (fun j hj => by rw [own_map]; exact List.mem_append_right _ hj) (fun s H Cc cl' fp => tg_at (cxt_blk c _ s H Cc cl' fp) h5) (fun s H Cc cl' fp => sT O q h6 (cxt_blk c _ s H Cc cl' fp))
          (fun s H Cc cl' fp => sI O i1 h7 (cxt_blk c _ s H Cc cl' fp)) (fun s H Cc cl' fp => tg_at (cxt_blk c _ s H Cc cl' fp) h8) (fun s H Cc cl' fp => sT O q1 h9 (cxt_blk c _ s H Cc cl' fp))
          (fun s H Cc cl' fp => (sE O m h10 (cxt_blk c _ s H Cc cl' fp)).1) (fold_at (by simpa using h2) _) (fun env x => fold_at (by simpa using h3) env x)
      rw [own_map] at z
      show PS X _ (RdS Z (sAsg (.nm i) (mLc (gVars (.gen t i' q (.gen t1 i1 q1 (.elt m)))) (gGen t (evI Z.L.T (cl Z d) i') (evT Z.L.T (cl Z d) q) (gGen t1 (evI Z.L.T (cl Z d) i1) (evT Z.L.T (cl Z d) q1) (gElt (evE Z.L.T (cl Z d) m)))))) W)
      rw [gvars2]
      exact z
    · cases h
  · cases h
/-! suites -/
theorem cst_at1 (O : TxOk Z G) {C : Ck} {X : Cx} (hm : X.mg = Z.mg) (hsc : X.env.scope = C.sc) {v : D} {e : Expr} (h : cstB G C v e = true) : ∃ x, PE X e (tC x) ∧ ∀ ρ H, RelD Z.L ρ H v x := by
  unfold cstB at h
  split at h
  · unfold cstC at h
    split at h
    · exact ⟨.non, pe_non, fun _ _ => .non⟩
    · rename_i a b
      have e : a = b := by simpa using h
      subst e
      exact ⟨.bl a, pe_bl, fun _ _ => .bl a⟩
    · rename_i a b
      have e : a = b := of_decide_eq_true h
      subst e
      exact ⟨.int a, pe_int, fun _ _ => .int a⟩
    · rename_i a b
      have e : toS a = b := of_decide_eq_true h
      subst e
      exact ⟨.str _, pe_str, fun _ _ => .str a⟩
    · cases h
  · rename_i x p
    split at h
    · rename_i w hw
      have hw' := hw
      unfold isG at hw
      cases q : kindB C x .globalImplicit && plainN x with
      | false => rw [q] at hw; cases hw
      | true =>
        rw [q] at hw
        obtain ⟨a, b⟩ := and2 q
        obtain ⟨u, y, g3, g4, g5⟩ := O.gl x _ hw
        have g1 : Gl X x := by
          show X.env.scope.names.lookup x = _
          rw [hsc]
          exact of_decide_eq_true a
        obtain ⟨h1, h2⟩ := and2 h
        have e : v = w := by
          unfold eqD at h2
          split at h2 <;> first | rfl | (cases h2; done) | (have z := of_decide_eq_true h2; rw [z]) | (simp only [beq_iff_eq] at h2; rw [h2])
        subst e
        exact ⟨y, pe_glob g1 (by rw [hm]; exact g3) g4 (plainN_at b).1, g5⟩
    · cases h
  · cases h
section
variable {C : Ck} {X : Cx} {W : WX} {oi : Option Nat} {a : Addr} {cls : Value} {dd : Option Addr} {oe : Obj} {pn : List (Addr × Obj)}
theorem var_at (c : Cxt Z G k d C X W) {j : Nat} {x : Str} (h : varB C j x = true) : X.N[j]? = some x ∧ Vis X.env.scope x ∧ (x == ("__debug__" : Str)) = false ∧ (x == ("__classdict__" : Str)) = false := by
  obtain ⟨h, h3⟩ := and2 h
  obtain ⟨h1, h2⟩ := and2 h
  obtain ⟨d1, d2⟩ := plainN_at h3
  exact ⟨slot_at c h1, vis_at c h2, d1, d2⟩
mutual
theorem sU (O : TxOk Z G) (c : Cxt Z G k d C X W) (xo : ExOk Z) (hz : Zc cls dd oe) (hvs : ∃ vs, oe.data = .fields vs) : ∀ (m : E) {e : Expr}, ckU G oi m C e = true → PE (X.suite a ((a, oe) :: pn)) e (RdHE Z oi (evE Z.L.T (cl Z d) m) a cls dd)
  | .var j, e, h => by
    unfold ckU at h
    split at h
    · obtain ⟨h1, h2⟩ := and2 h
      obtain ⟨a1, a2, a3, a4⟩ := var_at c h1
      exact hu_var (by intro z; rw [z] at h2; simp at h2) a1 a2 a3 a4
    · cases h
  | .cst v, e, h => by
    unfold ckU at h
    obtain ⟨x, p, r⟩ := cst_at1 O (X := X.suite a ((a, oe) :: pn)) c.K.g.mg c.sc h
    exact hu_cst p r
  | .att (.var i) f, e, h => by
    unfold ckU at h
    split at h
    · obtain ⟨h, h3⟩ := and2 h
      obtain ⟨h1, h2⟩ := and2 h
      obtain ⟨a1, a2, a3, a4⟩ := var_at c h2
      have ei : oi = some i := by simpa using h1
      subst ei
      exact hu_fld xo c.K.g.K a1 a2 a3 a4 (by rw [O.nm]; exact of_decide_eq_true h3) hz hvs
    · cases h
  | .tup es, e, h => by
    unfold ckU at h
    split at h
    · exact hu_tup (sUL O c xo hz hvs es h)
    · cases h
  | .lst es, e, h => by
    unfold ckU at h
    split at h
    · exact hu_lst (sUL O c xo hz hvs es h)
    · cases h
  | .att (.cst _) _, e, h => by unfold ckU at h; cases h
  | .att (.tup _) _, e, h => by unfold ckU at h; cases h
  | .att (.lst _) _, e, h => by unfold ckU at h; cases h
  | .dsp _, e, h => by unfold ckU at h; cases h
  | .att (.dsp _) _, e, h => by unfold ckU at h; cases h
  | .bin _ _ _, e, h => by unfold ckU at h; cases h
  | .att (.bin _ _ _) _, e, h => by unfold ckU at h; cases h
  | .cmp _ _ _, e, h => by unfold ckU at h; cases h
  | .att (.cmp _ _ _) _, e, h => by unfold ckU at h; cases h
  | .and _ _, e, h => by unfold ckU at h; cases h
  | .att (.and _ _) _, e, h => by unfold ckU at h; cases h
  | .or _ _, e, h => by unfold ckU at h; cases h
  | .att (.or _ _) _, e, h => by unfold ckU at h; cases h
  | .not _, e, h => by unfold ckU at h; cases h
  | .att (.not _) _, e, h => by unfold ckU at h; cases h
  | .neg _, e, h => by unfold ckU at h; cases h
  | .att (.neg _) _, e, h => by unfold ckU at h; cases h
  | .ite _ _ _, e, h => by unfold ckU at h; cases h
  | .att (.ite _ _ _) _, e, h => by unfold ckU at h; cases h
  | .att (.att _ _) _, e, h => by unfold ckU at h; cases h
  | .idx _ _, e, h => by unfold ckU at h; cases h
  | .att (.idx _ _) _, e, h => by unfold ckU at h; cases h
  | .sli _ _ _, e, h => by unfold ckU at h; cases h
  | .att (.sli _ _ _) _, e, h => by unfold ckU at h; cases h
  | .prt _, e, h => by unfold ckU at h; cases h
  | .att (.prt _) _, e, h => by unfold ckU at h; cases h
  | .rev _, e, h => by unfold ckU at h; cases h
  | .att (.rev _) _, e, h => by unfold ckU at h; cases h
  | .call _ _, e, h => by unfold ckU at h; cases h
  | .att (.call _ _) _, e, h => by unfold ckU at h; cases h
  | .mk _ _, e, h => by unfold ckU at h; cases h
  | .att (.mk _ _) _, e, h => by unfold ckU at h; cases h
  | .bi _ _, e, h => by unfold ckU at h; cases h
  | .att (.bi _ _) _, e, h => by unfold ckU at h; cases h
  | .b1 _ _, e, h => by unfold ckU at h; cases h
  | .att (.b1 _ _) _, e, h => by unfold ckU at h; cases h
  | .bmd _ _, e, h => by unfold ckU at h; cases h
  | .att (.bmd _ _) _, e, h => by unfold ckU at h; cases h
  | .b0 _, e, h => by unfold ckU at h; cases h
  | .att (.b0 _) _, e, h => by unfold ckU at h; cases h
  | .mth _ _ _, e, h => by unfold ckU at h; cases h
  | .att (.mth _ _ _) _, e, h => by unfold ckU at h; cases h
  | .smt _ _ _, e, h => by unfold ckU at h; cases h
  | .att (.smt _ _ _) _, e, h => by unfold ckU at h; cases h
  | .mkv _ _, e, h => by unfold ckU at h; cases h
  | .att (.mkv _ _) _, e, h => by unfold ckU at h; cases h
  | .ivk _ _, e, h => by unfold ckU at h; cases h
  | .att (.ivk _ _) _, e, h => by unfold ckU at h; cases h
  | .isi _ _, e, h => by unfold ckU at h; cases h
  | .att (.isi _ _) _, e, h => by unfold ckU at h; cases h
  | .rng _, e, h => by unfold ckU at h; cases h
  | .att (.rng _) _, e, h => by unfold ckU at h; cases h
  | .zip _, e, h => by unfold ckU at h; cases h
  | .att (.zip _) _, e, h => by unfold ckU at h; cases h
  | .enm _, e, h => by unfold ckU at h; cases h
  | .att (.enm _) _, e, h => by unfold ckU at h; cases h
  | .itm _, e, h => by unfold ckU at h; cases h
  | .att (.itm _) _, e, h => by unfold ckU at h; cases h
  | .vls _, e, h => by unfold ckU at h; cases h
  | .kys _, e, h => by unfold ckU at h; cases h
  | .att (.vls _) _, e, h => by unfold ckU at h; cases h
  | .att (.kys _) _, e, h => by unfold ckU at h; cases h
  | .itv _, e, h => by unfold ckU at h; cases h
  | .att (.itv _) _, e, h => by unfold ckU at h; cases h
  | .gcl _ _, e, h => by unfold ckU at h; cases h
  | .att (.gcl _ _) _, e, h => by unfold ckU at h; cases h
  | .gmt _ _ _, e, h => by unfold ckU at h; cases h
  | .att (.gmt _ _ _) _, e, h => by unfold ckU at h; cases h
  | .lc _, e, h => by unfold ckU at h; cases h
  | .att (.lc _) _, e, h => by unfold ckU at h; cases h
  | .dc _, e, h => by unfold ckU at h; cases h
  | .att (.dc _) _, e, h => by unfold ckU at h; cases h
  | .sc _, e, h => by unfold ckU at h; cases h
  | .att (.sc _) _, e, h => by unfold ckU at h; cases h
  | .gen _ _ _ _, e, h => by unfold ckU at h; cases h
  | .att (.gen _ _ _ _) _, e, h => by unfold ckU at h; cases h
  | .elt _, e, h => by unfold ckU at h; cases h
  | .att (.elt _) _, e, h => by unfold ckU at h; cases h
  | .ekv _ _, e, h => by unfold ckU at h; cases h
  | .att (.ekv _ _) _, e, h => by unfold ckU at h; cases h
  | .nil, e, h => by unfold ckU at h; cases h
  | .att .nil _, e, h => by unfold ckU at h; cases h
  | .cons _ _, e, h => by unfold ckU at h; cases h
  | .att (.cons _ _) _, e, h => by unfold ckU at h; cases h
termination_by structural m => m
theorem sUL (O : TxOk Z G) (c : Cxt Z G k d C X W) (xo : ExOk Z) (hz : Zc cls dd oe) (hvs : ∃ vs, oe.data = .fields vs) : ∀ (m : E) {es : List Expr}, ckU.ckUL G oi m C es = true → PA (X.suite a ((a, oe) :: pn)) es (RdHL Z oi (evL Z.L.T (cl Z d) m) a cls dd)
  | .nil, es, h => by
    unfold ckU.ckUL at h
    split at h
    · exact hu_nil
    · cases h
  | .cons b r, es, h => by
    unfold ckU.ckUL at h
    split at h
    · obtain ⟨h, h3⟩ := and2 h
      obtain ⟨h1, h2⟩ := and2 h
      exact hu_cons (sU O c xo hz hvs b h2) (sUL O c xo hz hvs r h3) h1
    · cases h
  | .var _, es, h => by unfold ckU.ckUL at h; cases h
  | .cst _, es, h => by unfold ckU.ckUL at h; cases h
  | .tup _, es, h => by unfold ckU.ckUL at h; cases h
  | .lst _, es, h => by unfold ckU.ckUL at h; cases h
  | .dsp _, es, h => by unfold ckU.ckUL at h; cases h
  | .bin _ _ _, es, h => by unfold ckU.ckUL at h; cases h
  | .cmp _ _ _, es, h => by unfold ckU.ckUL at h; cases h
  | .and _ _, es, h => by unfold ckU.ckUL at h; cases h
  | .or _ _, es, h => by unfold ckU.ckUL at h; cases h
  | .not _, es, h => by unfold ckU.ckUL at h; cases h
  | .neg _, es, h => by unfold ckU.ckUL at h; cases h
  | .ite _ _ _, es, h => by unfold ckU.ckUL at h; cases h
  | .att _ _, es, h => by unfold ckU.ckUL at h; cases h
  | .idx _ _, es, h => by unfold ckU.ckUL at h; cases h
  | .sli _ _ _, es, h => by unfold ckU.ckUL at h; cases h
  | .prt _, es, h => by unfold ckU.ckUL at h; cases h
  | .rev _, es, h => by unfold ckU.ckUL at h; cases h
  | .call _ _, es, h => by unfold ckU.ckUL at h; cases h
  | .mk _ _, es, h => by unfold ckU.ckUL at h; cases h
  | .bi _ _, es, h => by unfold ckU.ckUL at h; cases h
  | .b1 _ _, es, h => by unfold ckU.ckUL at h; cases h
  | .bmd _ _, es, h => by unfold ckU.ckUL at h; cases h
  | .b0 _, es, h => by unfold ckU.ckUL at h; cases h
  | .mth _ _ _, es, h => by unfold ckU.ckUL at h; cases h
  | .smt _ _ _, es, h => by unfold ckU.ckUL at h; cases h
  | .mkv _ _, es, h => by unfold ckU.ckUL at h; cases h
  | .ivk _ _, es, h => by unfold ckU.ckUL at h; cases h
  | .isi _ _, es, h => by unfold ckU.ckUL at h; cases h
  | .rng _, es, h => by unfold ckU.ckUL at h; cases h
  | .zip _, es, h => by unfold ckU.ckUL at h; cases h
  | .enm _, es, h => by unfold ckU.ckUL at h; cases h
  | .itm _, es, h => by unfold ckU.ckUL at h; cases h
  | .vls _, es, h => by unfold ckU.ckUL at h; cases h
  | .kys _, es, h => by unfold ckU.ckUL at h; cases h
  | .itv _, es, h => by unfold ckU.ckUL at h; cases h
  | .gcl _ _, es, h => by unfold ckU.ckUL at h; cases h
  | .gmt _ _ _, es, h => by unfold ckU.ckUL at h; cases h
  | .lc _, es, h => by unfold ckU.ckUL at h; cases h
  | .dc _, es, h => by unfold ckU.ckUL at h; cases h
  | .sc _, es, h => by unfold ckU.ckUL at h; cases h
  | .gen _ _ _ _, es, h => by unfold ckU.ckUL at h; cases h
  | .elt _, es, h => by unfold ckU.ckUL at h; cases h
  | .ekv _ _, es, h => by unfold ckU.ckUL at h; cases h
termination_by structural m => m
end
theorem sHu (O : TxOk Z G) (s : Sxt Z G k d C X W) {m : S} {sts : List Stmt} (h : ckHu G oi m C sts = true) (hz : Zc cls dd oe) (hvs : ∃ vs, oe.data = .fields vs) : PSs (X.suite a ((a, oe) :: pn)) sts (RdH Z oi (evS Z.L.T (cl Z d) m) a cls dd) := by
  unfold ckHu at h
  split at h
  · split at h
    · exact pss_one (hs_ret (sU O s.c s.xo hz hvs _ h))
    · cases h
  · split at h
    · obtain ⟨h, h5⟩ := and2 h
      obtain ⟨h, h4⟩ := and2 h
      obtain ⟨h, h3⟩ := and2 h
      obtain ⟨h1, h2⟩ := and2 h
      have l := loc_at s.c h2
      exact pss_one (hs_asg (by intro z; rw [z] at h3; simp at h3) s.c.K.g.nd (slot_at s.c h1) l.1 l.2 (sU O s.c s.xo hz hvs _ h5) (sole_at (by rw [← s.c.sc] at h4; simpa using h4)) (swp_at (by rfl)))
    · cases h
  · cases h
end
theorem one_st {X : Cx} {st : Stmt} {t : TS} (h : PS X st t) : PSs X [st] t ∧ ∀ st', [st] = [st'] → PS X st' t := ⟨pss_one h, fun st' e => by cases e; exact h⟩
theorem nm_at {C : Ck} {X : Cx} {W : WX} (c : Cxt Z G k d C X W) {on : Option Str} {oi : Option Nat} (h : nmB C on oi = true) : NmOk X on oi := by
  unfold nmB at h
  split at h
  · trivial
  · obtain ⟨h1, h2⟩ := and2 h
    exact ⟨slot_at c h1, kind_at c h2⟩
  · cases h
mutual
theorem sS (O : TxOk Z G) (hk : 2 ≤ k) : ∀ (m : S) {C : Ck} {sts : List Stmt} {X : Cx} {W : WX}, ckS G m C sts = true → Sxt Z G k d C X W → PSs X sts (RdS Z (evS Z.L.T (cl Z d) m) W) ∧ ∀ st, sts = [st] → PS X st (RdS Z (evS Z.L.T (cl Z d) m) W)
  | .seq a b, C, sts, X, W, h, s => by
    unfold ckS at h
    split at h
    · obtain ⟨h1, h2⟩ := and2 h
      exact ⟨rs_cons ((sS O hk a h1 s).2 _ rfl) (sS O hk b h2 s).1, fun st e => nomatch e⟩
    · cases h
  | .nop, C, sts, X, W, h, s => by
    unfold ckS at h
    split at h
    · exact ⟨rs_nil, fun st e => nomatch e⟩
    · exact one_st rs_pass
    · unfold strDoc at h
      split at h
      · exact one_st rs_doc
      · cases h
    · cases h
  | .asg t e, C, sts, X, W, h, s => by
    unfold ckS at h
    split at h
    · rename_i tg v sp
      cases q : swapF C.sc v tg with
      | true =>
        rw [q] at h
        have h : (match (generalizing := false) t with
          | .nm i => (match (generalizing := false) tg with
            | .Name y _ => slotB C i y && kindB C y .local && isLc e && ckE G e C v
            | _ => false)
          | _ => false) = true := h
        split at h
        · split at h
          · obtain ⟨h, h4⟩ := and2 h
            obtain ⟨h, h3⟩ := and2 h
            obtain ⟨h1, h2⟩ := and2 h
            cases e <;> first | (cases h3; done) | skip
            exact one_st (setLc_at O s.c h4 h3 h1 h2 (swapF_at (by rw [s.c.sc]; exact q)))
          · cases h
        · cases h
      | false =>
        rw [q] at h
        have hs : swapsWith v (some tg) sp.line X.env = pure false := swapF_at (by rw [s.c.sc]; exact q)
        have h : (match (generalizing := false) swp C.sc tg v with
          | some none => noStar tg && ckTg C t tg && ckE G e C v
          | some (some [x, y]) => (match (generalizing := false) t with
            | .tup (.cons (.nm i) (.cons (.nm j) .nil)) => (match (generalizing := false) e with
              | .tup (.cons a (.cons b .nil)) => (match (generalizing := false) tg with
                | .Tuple [.Name x' _, .Name y' _] _ _ => (match (generalizing := false) v with
                  | .Tuple [va, vb] _ _ => eqStr x x' && eqStr y y' && slotB C i x && slotB C j y && !Nat.beq i j && kindB C x .local && kindB C y .local && noStar va && noStar vb && ckE G a C va && ckE G b C vb
                  | _ => false)
                | _ => false)
              | _ => false)
            | _ => false)
          | some (some [x, y, w]) => (match (generalizing := false) t with
            | .tup (.cons (.nm i) (.cons (.nm j) (.cons (.nm l) .nil))) => (match (generalizing := false) e with
              | .tup (.cons a (.cons b (.cons c .nil))) => (match (generalizing := false) tg with
                | .Tuple [.Name x' _, .Name y' _, .Name w' _] _ _ => (match (generalizing := false) v with
                  | .Tuple [va, vb, vc] _ _ => eqStr x x' && eqStr y y' && eqStr w w' && slotB C i x && slotB C j y && slotB C l w && !Nat.beq i j && !Nat.beq i l && !Nat.beq j l && kindB C x .local && kindB C y .local && kindB C w .local && noStar va && noStar vb && noStar vc &&
                      ckE G a C va && ckE G b C vb && ckE G c C vc
                  | _ => false)
                | _ => false)
              | _ => false)
            | _ => false)
          | _ => false) = true := h
        split at h
        · rename_i hw
          obtain ⟨h, h3⟩ := and2 h
          obtain ⟨h1, h2⟩ := and2 h
          refine one_st (rs_asg (sE O e h3 s.c).1 (tg_at s.c h2) hs (swp_at (by rw [s.c.sc]; exact hw)) ?_)
          rw [assign_cons h1]
          rfl
        · rename_i x y hw
          split at h
          · split at h
            · split at h
              · split at h
                · obtain ⟨h, h11⟩ := and2 h
                  obtain ⟨h, h10⟩ := and2 h
                  obtain ⟨h, h9⟩ := and2 h
                  obtain ⟨h, h8⟩ := and2 h
                  obtain ⟨h, h7⟩ := and2 h
                  obtain ⟨h, h6⟩ := and2 h
                  obtain ⟨h, h5⟩ := and2 h
                  obtain ⟨h, h4⟩ := and2 h
                  obtain ⟨h, h3⟩ := and2 h
                  obtain ⟨h1, h2⟩ := and2 h
                  have e1 := of_decide_eq_true h1
                  have e2 := of_decide_eq_true h2
                  subst e1
                  subst e2
                  exact one_st (rs_par s.c.K.g.calm s.c.K.g.nd (slot_at s.c h3) (slot_at s.c h4) (fun z => by rw [z] at h5; simp at h5) (kind_at s.c h6) (kind_at s.c h7) (sE O _ h10 s.c).1 (sE O _ h11 s.c).1 h8 h9 (swp_at (by rw [s.c.sc]; exact hw)))
                · cases h
              · cases h
            · cases h
          · cases h
        · rename_i x y w hw
          split at h
          · split at h
            · split at h
              · split at h
                · obtain ⟨h, a18⟩ := and2 h
                  obtain ⟨h, a17⟩ := and2 h
                  obtain ⟨h, a16⟩ := and2 h
                  obtain ⟨h, a15⟩ := and2 h
                  obtain ⟨h, a14⟩ := and2 h
                  obtain ⟨h, a13⟩ := and2 h
                  obtain ⟨h, a12⟩ := and2 h
                  obtain ⟨h, a11⟩ := and2 h
                  obtain ⟨h, a10⟩ := and2 h
                  obtain ⟨h, a9⟩ := and2 h
                  obtain ⟨h, a8⟩ := and2 h
                  obtain ⟨h, a7⟩ := and2 h
                  obtain ⟨h, a6⟩ := and2 h
                  obtain ⟨h, a5⟩ := and2 h
                  obtain ⟨h, a4⟩ := and2 h
                  obtain ⟨h, a3⟩ := and2 h
                  obtain ⟨a1, a2⟩ := and2 h
                  have e1 := of_decide_eq_true a1
                  have e2 := of_decide_eq_true a2
                  have e3 := of_decide_eq_true a3
                  subst e1
                  subst e2
                  subst e3
                  exact one_st (rs_par3 s.c.K.g.calm s.c.K.g.nd (slot_at s.c a4) (slot_at s.c a5) (slot_at s.c a6) (fun z => by rw [z] at a7; simp at a7) (fun z => by rw [z] at a8; simp at a8) (fun z => by rw [z] at a9; simp at a9) (kind_at s.c a10) (kind_at s.c a11) (kind_at s.c a12)
                    (sE O _ a16 s.c).1 (sE O _ a17 s.c).1 (sE O _ a18 s.c).1 a13 a14 a15 (swp_at (by rw [s.c.sc]; exact hw)))
                · cases h
              · cases h
            · cases h
          · cases h
        · cases h
    · cases h
  | .sat o f e, C, sts, X, W, h, s => by
    unfold ckS at h
    split at h
    · obtain ⟨h, h4⟩ := and2 h
      obtain ⟨h, h3⟩ := and2 h
      obtain ⟨h1, h2⟩ := and2 h
      exact one_st (rs_sat s.c.K (sE O o h1 s.c).1 (sE O e h2 s.c).1 (List.contains_iff_mem.mp h3) (by rw [O.nm]; exact of_decide_eq_true h4) (swapF_att (by intro t p z; cases z)))
    · cases h
  | .six o i e, C, sts, X, W, h, s => by
    unfold ckS at h
    split at h
    · obtain ⟨h, h3⟩ := and2 h
      obtain ⟨h1, h2⟩ := and2 h
      exact one_st (rs_six s.c.K (sE O o h1 s.c).1 (sE O i h2 s.c).1 (sE O e h3 s.c).1 (swapF_att (by intro t p z; cases z)))
    · cases h
  | .aug i o e, C, sts, X, W, h, s => by
    unfold ckS at h
    split at h
    · obtain ⟨h, h4⟩ := and2 h
      obtain ⟨h, h3⟩ := and2 h
      obtain ⟨h1, h2⟩ := and2 h
      have l := loc_at s.c h3
      exact one_st (rs_aug (aug_at h1) s.c.K.g.nd (slot_at s.c h2) l.1 l.2 (sE O e h4 s.c).1)
    · cases h
  | .augf x f o e, C, sts, X, W, h, s => by
    unfold ckS at h
    split at h
    · obtain ⟨h, h5⟩ := and2 h
      obtain ⟨h, h4⟩ := and2 h
      obtain ⟨h, h3⟩ := and2 h
      obtain ⟨h1, h2⟩ := and2 h
      exact one_st (rs_augf s.c.K (aug_at h1) (sE O x h2 s.c).1 (sE O e h3 s.c).1 (List.contains_iff_mem.mp h4) (by rw [O.nm]; exact of_decide_eq_true h5))
    · cases h
  | .exp e, C, sts, X, W, h, s => by
    unfold ckS at h
    split at h
    · obtain ⟨h1, h2⟩ := and2 h
      exact one_st (rs_exp (sE O e h2 s.c).1 (swapF_no h1))
    · cases h
  | .ifs c a b, C, sts, X, W, h, s => by
    unfold ckS at h
    split at h
    · obtain ⟨h, h3⟩ := and2 h
      obtain ⟨h1, h2⟩ := and2 h
      exact one_st (rs_if (sE O c h1 s.c).2.1 (sS O hk a h2 s).1 (sS O hk b h3 s).1)
    · cases h
  | .fr t it b, C, sts, X, W, h, s => by
    unfold ckS at h
    split at h
    · obtain ⟨h, h4⟩ := and2 h
      obtain ⟨h, h3⟩ := and2 h
      obtain ⟨h1, h2⟩ := and2 h
      exact one_st (rs_for s.ps s.c.K.g.calm (sI O it h1 s.c) (tg_at s.c h3) (sS O hk b h4 s).1 (fold_at (by simpa using h2) _))
    · cases h
  | .whl c b, C, sts, X, W, h, s => by
    unfold ckS at h
    split at h
    · obtain ⟨h1, h2⟩ := and2 h
      exact one_st (rs_whl s.ps (sE O c h1 s.c).2.1 (sS O hk b h2 s).1)
    · cases h
  | .ret e, C, sts, X, W, h, s => by
    unfold ckS at h
    split at h
    · exact one_st (rs_ret (sE O e h s.c).1)
    · cases h
  | .retN, C, sts, X, W, h, s => by
    unfold ckS at h
    split at h
    · exact one_st rs_retN
    · cases h
  | .rse c es, C, sts, X, W, h, s => by
    unfold ckS at h
    split at h
    · obtain ⟨h, h3⟩ := and2 h
      obtain ⟨h1, h2⟩ := and2 h
      obtain ⟨g, nd, m, kp⟩ := cls_at O s.c h1
      obtain ⟨cl', e1, e2⟩ := exc_at O h2
      exact one_st (rs_rse s.c.K.g s.xo hk (sL O es h3 s.c).ls.as g m nd e1 e2)
    · cases h
  | .brk, C, sts, X, W, h, s => by
    unfold ckS at h
    split at h
    · exact one_st rs_brk
    · cases h
  | .cnt, C, sts, X, W, h, s => by
    unfold ckS at h
    split at h
    · exact one_st rs_cnt
    · cases h
  | .tr b hs, C, sts, X, W, h, s => by
    unfold ckS at h
    split at h
    · obtain ⟨h1, h2⟩ := and2 h
      exact one_st (rs_tr s.c.K.g s.xo s.st s.fr (fun W' pn xe tk hp => (sS O hk b h1 (s.tr tk hp)).1) (sH O hk hs h2 s))
    · cases h
  | .augi _ _ _ _, C, sts, X, W, h, s => by unfold ckS at h; cases h
  | .hnil, C, sts, X, W, h, s => by unfold ckS at h; cases h
  | .hcons _ _ _ _, C, sts, X, W, h, s => by unfold ckS at h; cases h
  | .yld _ _, C, sts, X, W, h, s => by unfold ckS at h; cases h
  | .yfr _ _, C, sts, X, W, h, s => by unfold ckS at h; cases h
termination_by structural m => m
theorem sH (O : TxOk Z G) (hk : 2 ≤ k) : ∀ (m : S) {C : Ck} {hds : List ExceptHandler} {X : Cx} {W : WX}, ckH G m C hds = true → Sxt Z G k d C X W → HsOk Z X hds (evH Z.L.T (cl Z d) m)
  | .hnil, C, hds, X, W, h, s => by
    unfold ckH at h
    split at h
    · exact .nil
    · cases h
  | .hcons c oi b r, C, hds, X, W, h, s => by
    unfold ckH at h
    split at h
    · obtain ⟨h, h5⟩ := and2 h
      obtain ⟨h, h4⟩ := and2 h
      obtain ⟨h, h3⟩ := and2 h
      obtain ⟨h1, h2⟩ := and2 h
      obtain ⟨g, nd, m, kp⟩ := cls_at O s.c h1
      obtain ⟨cl', e1, e2⟩ := exc_at O h2
      exact .cons ⟨g, nd, .inl m⟩ e1 e2 (nm_at s.c h3) (fun a oe cls dd pn hz hvs => sHu O s h4 hz hvs) (sH O hk r h5 s)
    · cases h
  | .seq _ _, C, hds, X, W, h, s => by unfold ckH at h; cases h
  | .nop, C, hds, X, W, h, s => by unfold ckH at h; cases h
  | .asg _ _, C, hds, X, W, h, s => by unfold ckH at h; cases h
  | .sat _ _ _, C, hds, X, W, h, s => by unfold ckH at h; cases h
  | .six _ _ _, C, hds, X, W, h, s => by unfold ckH at h; cases h
  | .aug _ _ _, C, hds, X, W, h, s => by unfold ckH at h; cases h
  | .augf _ _ _ _, C, hds, X, W, h, s => by unfold ckH at h; cases h
  | .augi _ _ _ _, C, hds, X, W, h, s => by unfold ckH at h; cases h
  | .exp _, C, hds, X, W, h, s => by unfold ckH at h; cases h
  | .ifs _ _ _, C, hds, X, W, h, s => by unfold ckH at h; cases h
  | .fr _ _ _, C, hds, X, W, h, s => by unfold ckH at h; cases h
  | .whl _ _, C, hds, X, W, h, s => by unfold ckH at h; cases h
  | .ret _, C, hds, X, W, h, s => by unfold ckH at h; cases h
  | .retN, C, hds, X, W, h, s => by unfold ckH at h; cases h
  | .rse _ _, C, hds, X, W, h, s => by unfold ckH at h; cases h
  | .brk, C, hds, X, W, h, s => by unfold ckH at h; cases h
  | .cnt, C, hds, X, W, h, s => by unfold ckH at h; cases h
  | .tr _ _, C, hds, X, W, h, s => by unfold ckH at h; cases h
  | .yld _ _, C, hds, X, W, h, s => by unfold ckH at h; cases h
  | .yfr _ _, C, hds, X, W, h, s => by unfold ckH at h; cases h
termination_by structural m => m
end
end
end TB

/-! TB, the link: all defs keep their promises. -/
namespace TB
open L2 PySem PyProof.Rows PySem.Spec
def fnCkB (G : Tx) (F : Fn) (N ps : List Str) (body : List Stmt) (sc : Scope) : Bool := C8.scC N ps sc && Nat.beq F.ns N.length && Nat.beq F.np ps.length && ckS G F.body ⟨N, sc, fun _ => true⟩ body
/-- a def as it stands, looked at -/
def FnTx (Z : Wl) (G : Tx) (f : Nat) (F : Fn) : Prop := ∃ (oc : Value) (od : Option Addr) (name qual : Str) (params : Arguments) (body : List Stmt) (scope : Scope) (dV kV doc pm : Value) (an : Option Addr) (cdv ct : Value) (osl : Array (Option Value)) (N ps : List Str),
  Z.L.K.lookup (Z.L.fA f) = some ⟨oc, od, .func (PySem.W.fnOf name qual params body scope dV kV doc pm an cdv ct), osl⟩ ∧ PySem.W.codeIn Z.L.K cdv qual = true ∧ fnCkB G F N ps body scope = true ∧ FnLk Z f F (PySem.W.fnOf name qual params body scope dV kV doc pm an cdv ct) ps
section
variable {Z : Wl} {G : Tx}
theorem start_rel {L : Lk} {ρ : Rho} {H : Hp} {ds : List D} {vs : List V} {N : List Str} {n : Nat} (r : RelL L ρ H ds vs) : RelE L ρ H (ds.map some ++ List.replicate n none) (L2.start N vs) := by
  intro i dd e
  by_cases hi : i < ds.length
  · rw [List.getElem?_append_left (by simpa using hi), List.getElem?_map] at e
    cases q : ds[i]? with
    | none => (rw [q] at e; cases e)
    | some x =>
      rw [q] at e
      cases e
      obtain ⟨v, e1, e2⟩ := r.get q
      refine ⟨v, ?_, e2⟩
      unfold L2.start
      have hl : i < vs.length := (List.getElem?_eq_some_iff.mp e1).1
      rw [List.getElem?_append_left (by simpa using hl), List.getElem?_map, e1]
      rfl
  · rw [List.getElem?_append_right (by simpa using hi), List.getElem?_replicate] at e
    split at e <;> cases e
theorem fn_step (O : TxOk Z G) (cs : ClsOk Z G.atts) (nb1 : Z.L.nm nBool = Str.ofString "__bool__") (nb : Nb Z) (xo : ExOk Z) {d : Nat} (fo : FnsOk Z d) {f : Nat} {F : Fn} (e : Z.L.T.fn.get f = some F) (g : F.gen = false)
    {oc : Value} {od : Option Addr} {name qual : Str} {params : Arguments} {body : List Stmt} {scope : Scope} {dV kV doc pm : Value} {an : Option Addr} {cdv ct : Value} {osl : Array (Option Value)} {N ps : List Str}
    (lk : Z.L.K.lookup (Z.L.fA f) = some ⟨oc, od, .func (PySem.W.fnOf name qual params body scope dV kV doc pm an cdv ct), osl⟩) (hc : PySem.W.codeIn Z.L.K cdv qual = true) (ck : fnCkB G F N ps body scope = true) (np : ps.length = F.np) :
    FnOk Z.P Z.w Z.L.K Z.mg Z.base (L2.CX Z.P Z.w) (2 * (d + 1) + 1) (Z.L.fA f) (PySem.W.fnOf name qual params body scope dV kV doc pm an cdv ct) ps (spF Z.L (d + 1) f F.np) := by
    obtain ⟨ck, c4⟩ := and2 ck
    obtain ⟨ck, c3⟩ := and2 ck
    obtain ⟨c1, c2⟩ := and2 ck
    refine fn_of (k := 2 * d + 2) lk hc (C8.fnScope_by c1) (fun vs H Q E h => by rw [h.1, np]) fun A outer s H vs Q E hr ⟨hl, ρ, ds, h, Si, rl, q⟩ => ?_
    have Sx : Sxt Z G (2 * d + 2) d ⟨N, scope, fun _ => true⟩ (cxOf (L2.CX Z.P Z.w) Z.P Z.w Z.L.K Z.mg Z.base N qual scope (Z.L.fA f) cdv A outer s H E) (fun cls dd _ H => E cls dd H) :=
      ⟨⟨⟨⟨rfl, rfl, rfl, rfl, rfl, rfl, (C8.fnScope_by c1).nd, takes_of rfl rfl rfl rfl, hr⟩, Nat.le_refl _, fo, cs, nb1⟩, nb, rfl, rfl, rfl⟩, xo, rfl, rfl, passes_of rfl⟩
    refine ⟨_, (sS O (by omega) F.body c4 Sx).1, ρ, ds.map some ++ List.replicate (F.ns - F.np) none, h, Si, start_rel rl, ?_⟩
    have hd : ds.length = F.np := by rw [← rl.length]; exact hl
    have q : PostD Z.L ρ H (match Z.L.T.fn.get f with
      | some F => runF F (evS Z.L.T (callF Z.L.T d) F.body) ds h
      | none => .bad) Q (fun c dd H' => E c dd H') := q
    rw [e] at q
    have q : PostD Z.L ρ H (runF F (evS Z.L.T (callF Z.L.T d) F.body) ds h) Q (fun c dd H' => E c dd H') := q
    unfold runF at q
    rw [← hd, fill_self, g] at q
    have q : PostD Z.L ρ H (match evS Z.L.T (callF Z.L.T d) F.body (ds.map some ++ List.replicate (F.ns - ds.length) none) h with
      | .nx _ h => .ok .non h
      | .ret v h => .ok v h
      | .exc c fs _ h => .exc c fs h
      | _ => .bad) Q (fun c dd H' => E c dd H') := q
    rw [← hd]
    show PostS Z.L ρ H (evS Z.L.T (callF Z.L.T d) F.body (ds.map some ++ List.replicate (F.ns - ds.length) none) h) _ _
    cases er : evS Z.L.T (callF Z.L.T d) F.body (ds.map some ++ List.replicate (F.ns - ds.length) none) h with
    | nx env' h' => rw [er] at q; exact fun ρ' σ' H' le S' E' => q ρ' .non H' le S' .non
    | ret x h' => rw [er] at q; exact q
    | brk x h' => rw [er] at q; exact q.elim
    | cnt x h' => rw [er] at q; exact q.elim
    | exc c vs' x h' => rw [er] at q; exact fun ρ' dd σ' H' le S' E' r => q ρ' dd H' le S' r
    | bad => rw [er] at q; exact q.elim
theorem fns_ok (O : TxOk Z G) (cs : ClsOk Z G.atts) (nb1 : Z.L.nm nBool = Str.ofString "__bool__") (nb : Nb Z) (xo : ExOk Z) (hf : ∀ f F, Z.L.T.fn.get f = some F → F.gen = false → FnTx Z G f F) : ∀ d, FnsOk Z d
  | 0 => fun f F e g => by
    obtain ⟨oc, od, name, qual, params, body, scope, dV, kV, doc, pm, an, cdv, ct, osl, N, ps, lk, hc, ck, LK⟩ := hf f F e g
    exact ⟨_, ps, LK, ⟨fun vs H Q E h => by rw [h.1, LK.np], fun A outer s H args us vs Q E _ _ _ _ ⟨_, ρ, ds, h, S, r, q⟩ => q.elim⟩⟩
  | d + 1 => fun f F e g => by
    obtain ⟨oc, od, name, qual, params, body, scope, dV, kV, doc, pm, an, cdv, ct, osl, N, ps, lk, hc, ck, LK⟩ := hf f F e g
    exact ⟨_, ps, LK, fn_step O cs nb1 nb xo (fns_ok O cs nb1 nb xo hf d) e g lk hc ck LK.np⟩
end
end TB

/-! TB, the link: arguments bound, all of them given. -/
namespace TB
open L2 PySem PyProof.Rows PySem.Spec
theorem zip_look {n : Str} : ∀ {P : List Str} {us : List Value}, us.length = P.length → n ∈ P → ((P.zip us).lookup n).isNone = false
  | [], _, _, h => nomatch h
  | p :: P, [], e, _ => nomatch e
  | p :: P, u :: us, e, h => by
    show (((p, u) :: P.zip us).lookup n).isNone = false
    rw [List.lookup_cons]
    cases q : (n == p) with
    | true => rfl
    | false =>
      refine zip_look (by simpa using e) ?_
      skip; rcases List.mem_cons.mp h with z | z
      · rw [z] at q; simp at q
      · exact z
theorem zip_map : ∀ {P : List Str} {us : List Value} (L : List (Str × Value)), us.length = P.length → P.Nodup → (∀ p ∈ P.zip us, L.lookup p.1 = some p.2) → P.filterMap (fun n => (L.lookup n).map (n, ·)) = P.zip us
  | [], us, L, e, _, _ => by cases us <;> rfl
  | p :: P, [], L, e, _, _ => nomatch e
  | p :: P, u :: us, L, e, nd, h => by
    rw [List.filterMap_cons, h (p, u) (by simp)]
    show (p, u) :: _ = (p, u) :: P.zip us
    rw [zip_map L (by simpa using e) (List.nodup_cons.mp nd).2 fun q hq => h q (by simp [hq])]
theorem zip_own : ∀ {P : List Str} {us : List Value}, us.length = P.length → P.Nodup → ∀ p ∈ P.zip us, (P.zip us).lookup p.1 = some p.2
  | [], us, _, _, p, h => by cases us <;> cases h
  | p :: P, [], e, _, _, _ => nomatch e
  | p :: P, u :: us, e, nd, q, h => by
    have h : q ∈ (p, u) :: P.zip us := h
    show ((p, u) :: P.zip us).lookup q.1 = _
    rw [List.lookup_cons]
    skip; obtain ⟨n1, n2⟩ := List.nodup_cons.mp nd
    skip; rcases List.mem_cons.mp h with z | z
    · rw [z]; simp
    · have ne : q.1 ≠ p := fun w => n1 (by rw [← w]; exact (List.of_mem_zip (a := q.1) (b := q.2) z).1)
      rw [show (q.1 == p) = false from beq_eq_false_iff_ne.mpr ne]
      exact zip_own (by simpa using e) n2 q z
theorem forIn_stay {α β : Type} {f : α → β → Sem (ForInStep β)} {b : β} : ∀ {l : List α}, (∀ x ∈ l, f x b = pure (.yield b)) → forIn l b f = pure b
  | [], _ => rfl
  | x :: l, h => by
    rw [List.forIn_cons, h x (by simp)]
    show (pure (ForInStep.yield b) >>= _ : Sem β) = _
    rw [pure_bind]
    exact forIn_stay fun y hy => h y (by simp [hy])
theorem bindK {name qual : Str} {as : List Arg} {dk : List (Option Expr)} {df : List Expr} {body : List Stmt} {scope : Scope} {dV kV doc pm : Value} {an : Option Addr} {cdv ct : Value} (us : List Value) (hl : us.length = (as.map (·.arg)).length) (nd : (as.map (·.arg)).Nodup) :
    ∃ k, bindArgs (PySem.W.fnOf name qual ⟨[], as, none, [], dk, none, df⟩ body scope dV kV doc pm an cdv ct) ⟨us, []⟩ = seqItems? dV >>= k ∧ ∀ o, k o = pure ((as.map (·.arg)).zip us) := by
  refine ⟨_, rfl, fun o => ?_⟩
  dsimp only [PySem.W.fnOf]
  have e0 : (List.map (fun x : Arg => x.arg) []) = ([] : List Str) := rfl
  simp only [e0, List.nil_append, List.append_nil]
  generalize hP : as.map (fun x => x.arg) = P at hl nd ⊢
  have e1 : (decide (us.length > P.length) && Option.isNone (none : Option Arg)) = false := by
    rw [hl]; simp
  rw [e1]
  skip; simp only [Bool.false_eq_true, if_false]
  have e2 : ∀ j, (List.filter (fun n => (List.lookup n (P.zip us)).isNone) (List.take j P)) = [] := fun j => by
    rw [List.filter_eq_nil_iff]
    intro x hx
    rw [zip_look hl (List.mem_of_mem_take hx)]
    simp
  simp only [e2]
  rw [if_neg (by simp)]
  rw [forIn_stay (b := P.zip us) (fun x hx => by
    have hx1 : x.1 ∈ P := List.mem_of_mem_drop (List.of_mem_zip (a := x.1) (b := x.2) hx).1
    rw [zip_look hl hx1]
    rfl)]
  show (pure (List.filterMap (fun n => Option.map (fun x => (n, x)) (List.lookup n (P.zip us))) P) : Sem _) = _
  rw [zip_map (P.zip us) hl nd (zip_own hl nd)]
/-- defaults stand, or none -/
def DflA (K : PySem.W.Frag) (dV : Value) : Prop := dV = .none ∨ ∃ (T : Addr) (o : Obj) (its : Array Value) (n : Nat), dV = .ref T ∧ K.lookup T = some o ∧ o.data = .seq its n
theorem binds_all {K : PySem.W.Frag} {name qual : Str} {as : List Arg} {dk : List (Option Expr)} {df : List Expr} {body : List Stmt} {scope : Scope} {dV kV doc pm : Value} {an : Option Addr} {cdv ct : Value} (hd : DflA K dV) (nd : (as.map (·.arg)).Nodup) :
    Binds K (PySem.W.fnOf name qual ⟨[], as, none, [], dk, none, df⟩ body scope dV kV doc pm an cdv ct) (as.map (·.arg)) [] := by
  intro s us X hl
  rw [List.append_nil] at hl ⊢
  obtain ⟨k, e1, e2⟩ := bindK (name := name) (qual := qual) (as := as) (dk := dk) (df := df) (body := body) (scope := scope) (dV := dV) (kV := kV) (doc := doc) (pm := pm) (an := an) (cdv := cdv) (ct := ct) us hl nd
  rcases hd with rfl | ⟨T, o, its, n, rfl, lT, oT⟩
  · refine .of_eq ?_
    rw [e1]
    exact (e2 none)
  · refine BindsTo.of_looks fun M => ?_
    rw [e1]
    exact looks_items X lT oT (PySem.W.Looks.of_pure (e2 _))
end TB

/-! TB, the link: what stands behind the top. -/
namespace TB
open L2 PySem PyProof.Rows PySem.Spec
inductive Wh where
  | glo (x : Str) | met (C m : Str) | prp (C m : Str) | clm (C m : Str) | sta (C m : Str)
  deriving Inhabited
structure FnI where
  id : Nat
  at_ : Wh
  name : Str
  qual : Str
  N : List Str
  st : Stmt
/-- what a claim says of its text -/
structure Hd where
  fns : List (Nat × Fn)
  cls : List (Nat × Cl)
  gl : List (Str × Gv)
  atts : List Nat
  names : List (Nat × Str)
  fnL : List FnI
  clL : List (Nat × Str)
  exL : List (Nat × Nat)
def nmLook (l : List (Nat × Str)) (n : Nat) : Option Str := match l with
  | [] => none
  | p :: r => bif Nat.beq p.1 n then some p.2 else nmLook r n
def nmOf (l : List (Nat × Str)) (n : Nat) : Str := match nmLook l n with
  | some s => s
  | none => ⟨#[2000000 + n]⟩
def psOf (st : Stmt) : List Str := (C8.fnArgs st).args.map (·.arg)
def Hd.T (D : Hd) : Tab := ⟨Tr.ofList D.fns, Tr.ofList D.cls⟩
def Hd.G (D : Hd) : Tx := ⟨D.gl, D.atts, nmOf D.names, D.T⟩
def parB (st : Stmt) : Bool := match C8.fnArgs st with
  | ⟨[], _, none, [], _, none, _⟩ => true
  | _ => false
def fnIB (G : Tx) (i : FnI) : Bool := parB i.st && match G.T.fn.get i.id with
  | some F => F.dfl.isEmpty && fnCkB G F i.N (psOf i.st) (C8.fnBody i.st) (C8.fnScope i.st)
  | none => false
/-! ### addresses -/
def prpAdr (K : PySem.W.Frag) (C : Addr) (m : Str) : Addr := match PySem.W.recIn K (He.ma K C m) "property" with
  | some (.ref g :: _) => g
  | _ => 0
def clmRec (K : PySem.W.Frag) (C : Addr) (m : Str) : Addr := match PySem.W.findCls K (.ref C) (.type "type") m with
  | some (.get _ (.ref p) _ _) => p
  | _ => 0
def clmAdr (K : PySem.W.Frag) (C : Addr) (m : Str) : Addr := match PySem.W.recIn K (clmRec K C m) "classmethod" with
  | some (.ref g :: _) => g
  | _ => 0
def staRec (K : PySem.W.Frag) (C : Addr) (m : Str) : Addr := match PySem.W.findCls K (.ref C) (.type "type") m with
  | some (.get _ (.ref p) _ _) => p
  | _ => 0
def staAdr (K : PySem.W.Frag) (C : Addr) (m : Str) : Addr := match PySem.W.recIn K (staRec K C m) "staticmethod" with
  | some (.ref g :: _) => g
  | _ => 0
def whAdr (K : PySem.W.Frag) : Wh → Addr
  | .glo x => He.ga K x
  | .met C m => He.ma K (He.ga K C) m
  | .prp C m => prpAdr K (He.ga K C) m
  | .clm C m => clmAdr K (He.ga K C) m
  | .sta C m => staAdr K (He.ga K C) m
def fnAt (f : Nat) : List FnI → Option FnI
  | [] => none
  | i :: r => bif Nat.beq i.id f then some i else fnAt f r
def Hd.lk (D : Hd) (K : PySem.W.Frag) : Lk where
  K := K
  cA := fun c => match lookN c D.clL with
    | some x => He.ga K x
    | none => 0
  fA := fun f => match fnAt f D.fnL with
    | some i => whAdr K i.at_
    | none => 0
  nm := nmOf D.names
  T := D.T
/-! ### looks at K -/
section
variable (K : PySem.W.Frag) (D : Hd)
def fnV (i : FnI) : He.FnW := match K.lookup (whAdr K i.at_) with
  | some (⟨_, _, .func fd, _⟩) => some (fd.name, fd.qualname, fd.params, fd.body, fd.scope, fd.globals, fd.closure, fd.builtins)
  | _ => none
def FnI.val (i : FnI) : He.FnW := some (i.name, i.qual, C8.fnArgs i.st, .stmts (C8.fnBody i.st), C8.fnScope i.st, mainGlobals, [], builtinsNs)
def dflAny (dV : Value) : Bool := match dV with
  | .none => true
  | (.ref T) => (match K.lookup T with
    | some ⟨_, _, .seq _ _, _⟩ => true
    | _ => false)
  | _ => false
def fnK (i : FnI) : Bool := PySem.W.keepIn K (.ref (whAdr K i.at_)) && (match K.lookup (whAdr K i.at_) with
  | some ⟨_, _, .func fd, _⟩ => PySem.W.codeIn K fd.code i.qual && dflAny K fd.defaults
  | _ => false)
def dV : TB.D → V
  | .bl b => .bl b
  | .int i => .int i
  | .str s => .str (toS s)
  | _ => .non
def glK (L : Lk) (p : Str × Gv) : Bool := match p.2 with
  | .fn f => He.eqO (PySem.W.nsIn K mainGlobals p.1) (some (some (.ref (L.fA f)))) && PySem.W.keepIn K (.ref (L.fA f))
  | .cl c => He.eqO (PySem.W.nsIn K mainGlobals p.1) (some (some (.ref (L.cA c)))) && PySem.W.keepIn K (.ref (L.cA c))
  | .cv d => scal d && (match PySem.W.nsIn K mainGlobals p.1 with
    | some (some u) => He.relB (dV d) u
    | _ => false)
  | .bf id => He.eqO (PySem.W.nsIn K mainGlobals p.1) (some none) && decide (bootBuiltins p.1 = some (.builtin id)) && !(p.1 == ("__name__" : Str))
  | .bt T => He.eqO (PySem.W.nsIn K mainGlobals p.1) (some none) && decide (bootBuiltins p.1 = some (.type T)) && !(p.1 == ("__name__" : Str))
def msK (L : Lk) (T : Tab) (C : Addr) (p : Nat × MK × Nat) : Bool := match p.2.1 with
  | .inst => He.eqO (PySem.W.findIn K (.ref C) (L.nm p.1)) (some (some (.ref (L.fA p.2.2)))) && PySem.W.isFn K (.ref (L.fA p.2.2)) && PySem.W.keepIn K (.ref (L.fA p.2.2)) && notGenB T p.2.2
  | .prop => He.eqO (PySem.W.findIn K (.ref C) (L.nm p.1)) (some (some (.ref (He.ma K C (L.nm p.1))))) && He.eqO (PySem.W.specialIn K (.ref (He.ma K C (L.nm p.1))) "__get__") (some (some (.builtin "property.__get__"))) && decide (PySem.W.takesIn K (.ref (He.ma K C (L.nm p.1))) = some true) &&
      (match PySem.W.recIn K (He.ma K C (L.nm p.1)) "property" with
      | some (.ref g :: _) => Nat.beq g (L.fA p.2.2)
      | _ => false) && notGenB T p.2.2
  | .clm => PySem.W.readsIn K C (.type "type") && He.eqO (PySem.W.specialIn K (.ref C) "__getattribute__") (some (some (.builtin "type.__getattribute__"))) &&
      (match PySem.W.findCls K (.ref C) (.type "type") (L.nm p.1) with
      | some (.get (.builtin b) (.ref q) .none (.ref C')) => decide (b = "classmethod.__get__") && Nat.beq C' C && (match PySem.W.recIn K q "classmethod" with
        | some (.ref g :: _) => Nat.beq g (L.fA p.2.2)
        | _ => false)
      | _ => false) && PySem.W.fnIn K (L.fA p.2.2) && notGenB T p.2.2
  | .stat => PySem.W.readsIn K C (.type "type") && He.eqO (PySem.W.specialIn K (.ref C) "__getattribute__") (some (some (.builtin "type.__getattribute__"))) &&
      (match PySem.W.findCls K (.ref C) (.type "type") (L.nm p.1) with
      | some (.get (.builtin b) (.ref q) .none (.ref C')) => decide (b = "staticmethod.__get__") && Nat.beq C' C && (match PySem.W.recIn K q "staticmethod" with
        | some (.ref g :: _) => Nat.beq g (L.fA p.2.2)
        | _ => false)
      | _ => false) && PySem.W.keepIn K (.ref (L.fA p.2.2)) && notGenB T p.2.2
def clK (L : Lk) (p : Nat × Cl) : Bool := p.2.ms.isEmpty || (PySem.W.plainGet K (L.cA p.1) Str.empty && PySem.W.hasDictIn K (L.cA p.1) && PySem.W.plainOver K (L.cA p.1) && He.eqO (PySem.W.findIn K (.ref (L.cA p.1)) "__setattr__") (some (some (.builtin "object.__setattr__"))) && PySem.W.keepIn K (.ref (L.cA p.1)) &&
    p.2.ms.all (msK K L D.T (L.cA p.1)) && D.atts.all (fun m => (lookN m p.2.ms).isSome || He.eqO (PySem.W.findIn K (.ref (L.cA p.1)) (L.nm m)) (some none)) &&
    (match lookN nInit p.2.ms with
    | some (.inst, f) => PySem.W.makesIn K (L.cA p.1) && He.eqO (PySem.W.findIn K (.ref (L.cA p.1)) "__init__") (some (some (.ref (L.fA f)))) && PySem.W.isFn K (.ref (L.fA f))
    | _ => true) && He.eqO (PySem.W.findIn K (.ref (L.cA p.1)) "__class__") (some (some (.builtin "object.__class__"))) && He.eqO (PySem.W.specialIn K (.builtin "object.__class__") "__get__") (some (some (.builtin "getset_descriptor.__get__"))) &&
    decide (PySem.W.takesIn K (.builtin "object.__class__") = some true) && decide (PySem.W.mroIn K (L.cA p.1) (.type "object") = some true) && (List.range 7).all (fun n => decide (PySem.W.kitOne K (.type (kN n)) (.ref (L.cA p.1)) = some false)) &&
    D.cls.all (fun q => q.2.ms.isEmpty || decide (PySem.W.kitOne K (.ref (L.cA q.1)) (.ref (L.cA p.1)) = some (Nat.beq q.1 p.1))))
end
section
variable {K : PySem.W.Frag} {D : Hd} {Z : Wl}
theorem tr_mem {α : Type} : ∀ (l : List (Nat × α)) (t : Tr α) {a : Nat} {o : α}, (l.foldl (fun t p => t.set p.1 p.2) t).get a = some o → (a, o) ∈ l ∨ t.get a = some o
  | [], t, a, o, h => .inr h
  | p :: r, t, a, o, h => by
    rcases tr_mem r _ h with z | z
    · exact .inl (List.mem_cons_of_mem _ z)
    · rw [Tr.get_set] at z
      by_cases q : a = p.1
      · rw [if_pos q] at z
        cases z
        subst q
        exact .inl List.mem_cons_self
      · rw [if_neg q] at z
        exact .inr z
theorem ofList_mem {α : Type} {l : List (Nat × α)} {a : Nat} {o : α} (h : (Tr.ofList l).get a = some o) : (a, o) ∈ l := by
  rcases tr_mem l _ h with z | z
  · exact z
  · rw [Tr.get_nil] at z; cases z
theorem look_mem {α : Type} {m : Nat} {v : α} : ∀ {l : List (Nat × α)}, lookN m l = some v → (m, v) ∈ l
  | [], h => nomatch h
  | p :: r, h => by
    have h : (bif Nat.beq p.1 m then some p.2 else lookN m r) = some v := h
    cases q : Nat.beq p.1 m with
    | true =>
      rw [q] at h; cases h
      rw [← Nat.eq_of_beq_eq_true q]
      exact List.mem_cons_self
    | false => rw [q] at h; exact List.mem_cons_of_mem _ (look_mem h)
theorem glook_mem {α : Type} {x : Str} {v : α} : ∀ {l : List (Str × α)}, l.lookup x = some v → (x, v) ∈ l
  | [], h => nomatch h
  | p :: r, h => by
    rw [List.lookup_cons] at h
    cases q : (x == p.1) with
    | true =>
      rw [q] at h; cases h
      rw [eq_of_beq q]
      exact List.mem_cons_self
    | false => rw [q] at h; exact List.mem_cons_of_mem _ (glook_mem h)
theorem fnAt_mem {f : Nat} {i : FnI} : ∀ {l : List FnI}, fnAt f l = some i → i ∈ l ∧ i.id = f
  | [], h => nomatch h
  | j :: r, h => by
    have h : (bif Nat.beq j.id f then some j else fnAt f r) = some i := h
    cases q : Nat.beq j.id f with
    | true => rw [q] at h; cases h; exact ⟨List.mem_cons_self, Nat.eq_of_beq_eq_true q⟩
    | false => rw [q] at h; obtain ⟨a, b⟩ := fnAt_mem h; exact ⟨List.mem_cons_of_mem _ a, b⟩
theorem rel_dV {d : TB.D} (h : scal d = true) (L : Lk) (ρ : Rho) (H : Hp) : RelD L ρ H d (dV d) := by
  cases d <;> first | exact .non | exact .bl _ | exact .int _ | exact .str _ | (cases h; done)
theorem gl_ok {h : Heap} {mg : Str → Option Value} (X : K.In h) (G : h.Ns mainGlobals mg) (hK : Z.L.K = K) (hm : Z.mg = mg) {p : Str × Gv} (c : glK K Z.L p = true) : GvOk Z p.1 p.2 := by
  subst hK hm
  obtain ⟨x, g⟩ := p
  cases g with
  | fn f =>
    obtain ⟨h1, h2⟩ := and2 c
    exact ⟨PySem.W.mg_of X G (He.eqO_ok h1), h2⟩
  | cl f =>
    obtain ⟨h1, h2⟩ := and2 c
    exact ⟨PySem.W.mg_of X G (He.eqO_ok h1), h2⟩
  | cv d =>
    obtain ⟨h1, h2⟩ := and2 c
    cases e : PySem.W.nsIn Z.L.K mainGlobals x with
    | none => simp only [e] at h2; cases h2
    | some o =>
      cases o with
      | none => simp only [e] at h2; cases h2
      | some u =>
        simp only [e] at h2
        exact ⟨u, dV d, PySem.W.mg_of X G e, He.relB_ok h2, fun ρ H => rel_dV h1 _ _ _⟩
  | bf id =>
    obtain ⟨c, h3⟩ := and2 c
    obtain ⟨h1, h2⟩ := and2 c
    exact ⟨PySem.W.mg_none_of X G (He.eqO_ok h1), of_decide_eq_true h2, by intro z; have z : x = ("__name__" : Str) := z; subst z; simp at h3⟩
  | bt T =>
    obtain ⟨c, h3⟩ := and2 c
    obtain ⟨h1, h2⟩ := and2 c
    exact ⟨PySem.W.mg_none_of X G (He.eqO_ok h1), of_decide_eq_true h2, by intro z; have z : x = ("__name__" : Str) := z; subst z; simp at h3⟩
theorem nameB_of {x : Str} : True := trivial
theorem ms_all {α : Type} {p : α → Bool} {l : List α} (h : l.all p = true) {x : α} (hx : x ∈ l) : p x = true := List.all_eq_true.mp h x hx
theorem notGenB_at {T : Tab} {f : Nat} (h : notGenB T f = true) : notGen T f := by
  intro F e
  unfold notGenB at h
  rw [e] at h
  simpa using h
theorem cl_ok (hL : Z.L = D.lk K) {p : Nat × Cl} (c : clK K D Z.L p = true) (ne : p.2.ms ≠ []) : ClLk Z D.atts p.1 p.2 := by
  have hK : Z.L.K = K := by rw [hL]; rfl
  have hT : Z.L.T = D.T := by rw [hL]; rfl
  have c := (Bool.or_eq_true_iff.mp c).resolve_left (by intro z; exact ne (List.isEmpty_iff.mp z))
  obtain ⟨c, c14⟩ := and2 c
  obtain ⟨c, c13⟩ := and2 c
  obtain ⟨c, c12⟩ := and2 c
  obtain ⟨c, c11⟩ := and2 c
  obtain ⟨c, c10⟩ := and2 c
  obtain ⟨c, c9⟩ := and2 c
  obtain ⟨c, c8⟩ := and2 c
  obtain ⟨c, c7⟩ := and2 c
  obtain ⟨c, c6⟩ := and2 c
  obtain ⟨c, c5⟩ := and2 c
  obtain ⟨c, c4⟩ := and2 c
  obtain ⟨c, c3⟩ := and2 c
  obtain ⟨c1, c2⟩ := and2 c
  rw [← hK] at c1 c2 c3 c4 c5 c6 c7 c8 c9 c10 c11 c12 c13 c14
  rw [← hT] at c6
  refine ⟨⟨c1, c2, c3, He.eqO_ok c4⟩, c5, fun m f e => ?_, fun m f e => ?_, fun m hm e => ?_, fun m f e => ?_, fun m f e => ?_, fun f e => ?_, ⟨He.eqO_ok c9, He.eqO_ok c10, of_decide_eq_true c11, of_decide_eq_true c12⟩, ⟨fun n hn => of_decide_eq_true (List.all_eq_true.mp c13 n (List.mem_range.mpr hn)), fun c' cl' e ne' => ?_⟩⟩
  · have z := ms_all c6 (look_mem e)
    obtain ⟨z, z4⟩ := and2 z
    obtain ⟨z, z3⟩ := and2 z
    obtain ⟨z1, z2⟩ := and2 z
    exact ⟨⟨He.eqO_ok z1, z2, z3⟩, notGenB_at z4⟩
  · have z := ms_all c6 (look_mem e)
    obtain ⟨z, z5⟩ := and2 z
    obtain ⟨z, z4⟩ := and2 z
    obtain ⟨z, z3⟩ := and2 z
    obtain ⟨z1, z2⟩ := and2 z
    refine ⟨⟨_, He.eqO_ok z1, He.eqO_ok z2, of_decide_eq_true z3, ?_⟩, notGenB_at z5⟩
    split at z4
    · rename_i g rest eg
      rw [Nat.eq_of_beq_eq_true z4] at eg
      exact ⟨_, eg⟩
    · cases z4
  · rcases Bool.or_eq_true_iff.mp (ms_all c7 hm) with z | z
    · rw [e] at z; cases z
    · exact He.eqO_ok z
  · have z := ms_all c6 (look_mem e)
    obtain ⟨z, z5⟩ := and2 z
    obtain ⟨z, z4⟩ := and2 z
    obtain ⟨z, z3⟩ := and2 z
    obtain ⟨z1, z2⟩ := and2 z
    refine ⟨?_, notGenB_at z5⟩
    split at z3
    · rename_i b q C' ef
      obtain ⟨z3, y3⟩ := and2 z3
      obtain ⟨y1, y2⟩ := and2 z3
      have e1 := of_decide_eq_true y1
      have e2 := Nat.eq_of_beq_eq_true y2
      subst e1
      subst e2
      split at y3
      · rename_i g rest eg
        have e3 := Nat.eq_of_beq_eq_true y3
        subst e3
        exact ⟨_, q, ⟨z1, He.eqO_ok z2⟩, ef, ⟨rest, eg⟩, z4⟩
      · cases y3
    · cases z3
  · have z := ms_all c6 (look_mem e)
    obtain ⟨z, z5⟩ := and2 z
    obtain ⟨z, z4⟩ := and2 z
    obtain ⟨z, z3⟩ := and2 z
    obtain ⟨z1, z2⟩ := and2 z
    refine ⟨?_, notGenB_at z5⟩
    split at z3
    · rename_i b q C' ef
      obtain ⟨z3, y3⟩ := and2 z3
      obtain ⟨y1, y2⟩ := and2 z3
      have e1 := of_decide_eq_true y1
      have e2 := Nat.eq_of_beq_eq_true y2
      subst e1
      subst e2
      split at y3
      · rename_i g rest eg
        have e3 := Nat.eq_of_beq_eq_true y3
        subst e3
        exact ⟨_, q, rest, ⟨z1, He.eqO_ok z2⟩, ef, eg, z4⟩
      · cases y3
    · cases z3
  · rw [e] at c8
    obtain ⟨c8, y3⟩ := and2 c8
    obtain ⟨y1, y2⟩ := and2 c8
    exact ⟨y1, He.eqO_ok y2, y3, c5⟩
  · rw [hT] at e
    have z := ms_all c14 (ofList_mem e)
    exact of_decide_eq_true ((Bool.or_eq_true_iff.mp z).resolve_left (by intro w; exact ne' (List.isEmpty_iff.mp w)))
end
end TB

/-! TB, the link: what stands behind the top, defs, exceptions. -/
namespace TB
open L2 PySem PyProof.Rows PySem.Spec
/-! ### defs -/
section
variable {K : PySem.W.Frag}
theorem fn_at {i : FnI} (e : fnV K i = i.val) (c : fnK K i = true) : PySem.W.keepIn K (.ref (whAdr K i.at_)) = true ∧ ∃ oc od dV kV doc pm an cdv ct osl,
    K.lookup (whAdr K i.at_) = some ⟨oc, od, .func (PySem.W.fnOf i.name i.qual (C8.fnArgs i.st) (C8.fnBody i.st) (C8.fnScope i.st) dV kV doc pm an cdv ct), osl⟩ ∧ PySem.W.codeIn K cdv i.qual = true ∧ DflA K dV := by
  obtain ⟨kp, c2⟩ := and2 c
  refine ⟨kp, ?_⟩
  unfold fnV at e
  cases q : K.lookup (whAdr K i.at_) with
  | none => rw [q] at c2; cases c2
  | some o =>
    obtain ⟨oc, od, dt, osl⟩ := o
    rw [q] at c2 e
    cases dt with
    | func fd =>
      skip; obtain ⟨n1, n2, n3, n4, n5, n6, n7, n8, n9, n10, n11, n12, n13, n14, n15⟩ := fd
      have e2 : (some (n1, n2, n3, n4, n5, n6, n7, n15) : He.FnW) = some (i.name, i.qual, C8.fnArgs i.st, .stmts (C8.fnBody i.st), C8.fnScope i.st, mainGlobals, [], builtinsNs) := e
      skip; simp only [Option.some.injEq, Prod.mk.injEq] at e2
      skip; obtain ⟨h1, h2, h3, h4, h5, h6, h7, h8⟩ := e2
      subst h1 h2 h3 h4 h5 h6 h7 h8
      obtain ⟨k1, k2⟩ := and2 c2
      refine ⟨oc, od, n8, n9, n10, n11, n12, n13, n14, osl, rfl, k1, ?_⟩
      have k2 : dflAny K n8 = true := k2
      unfold dflAny at k2
      split at k2
      · exact .inl rfl
      · split at k2
        · exact .inr ⟨_, _, _, _, rfl, by assumption, rfl⟩
        · cases k2
      · cases k2
    | _ => cases c2
theorem par_at {st : Stmt} (h : parB st = true) : ∃ dk df, C8.fnArgs st = ⟨[], (C8.fnArgs st).args, none, [], dk, none, df⟩ := by
  unfold parB at h
  split at h
  · rename_i e; rw [e]; exact ⟨_, _, rfl⟩
  · cases h
theorem fn_binds {i : FnI} {N : List Str} {dV kV doc pm : Value} {an : Option Addr} {cdv ct : Value} (hp : parB i.st = true) (hs : C8.scC N (psOf i.st) (C8.fnScope i.st) = true) (hd : DflA K dV) :
    Binds K (PySem.W.fnOf i.name i.qual (C8.fnArgs i.st) (C8.fnBody i.st) (C8.fnScope i.st) dV kV doc pm an cdv ct) (psOf i.st) [] := by
  obtain ⟨dk, df, e⟩ := par_at hp
  have S := C8.fnScope_by hs
  have nd : (psOf i.st).Nodup := by rw [← S.pre]; exact S.nd.sublist (List.take_sublist _ _)
  rw [e]
  exact binds_all hd nd
end
/-! ### exceptions with fields -/
def oexB (K : PySem.W.Frag) (C : Addr) : Bool := (match K.lookup C with
  | some (⟨.type "type", _, .cls cd, sl⟩) => (match cd.mro, sl.toList with
    | .ref C' :: bm, [_, _, _, _, some (.builtin n), _] => C' == C && n == "ValueError.__new__" && !cd.hasDel && cd.hasDict && PySem.HandSPX.refsVE bm
    | _, _ => false)
  | _ => false) && decide (PySem.W.findIn K (.ref C) "__setattr__" = some (some (.builtin "object.__setattr__"))) && decide (PySem.W.subIn K (.ref C) (.type "BaseException") = some true) && decide (PySem.W.typeIn K (.ref C) = some (.type "type")) && PySem.W.keepIn K (.ref C)
theorem oexB_ok {K : PySem.W.Frag} {C : Addr} (h : oexB K C = true) : OexC K C := by
  obtain ⟨h, h5⟩ := and2 h
  obtain ⟨h, h4⟩ := and2 h
  obtain ⟨h, h3⟩ := and2 h
  obtain ⟨q, h2⟩ := and2 h
  refine ⟨?_, of_decide_eq_true h2, of_decide_eq_true h3, of_decide_eq_true h4, h5⟩
  split at q
  · rename_i dd cd sl ho
    split at q
    · skip; rename_i C' bm k0 k1 k2 k3 n k5 hm hs
      skip; simp only [Bool.and_eq_true, beq_iff_eq, Bool.not_eq_true'] at q
      obtain ⟨⟨⟨⟨rfl, rfl⟩, hdel⟩, hdc⟩, hr⟩ := q
      skip; obtain ⟨nm, bs, mro, ns, qn, hd, sn, sub, ab, col, del⟩ := cd
      dsimp only at hm hdel hdc
      subst hm hdel hdc
      have hsl : sl = #[k0, k1, k2, k3, some (.builtin "ValueError.__new__"), k5] := by
        obtain ⟨l⟩ := sl
        simp only at hs
        rw [hs]
      subst hsl
      exact ⟨nm, qn, ns, bs, bm, sn, sub, ab, col, dd, k0, k1, k2, k3, k5, ho, hr⟩
    · cases q
  · cases q
def exSts (nm : Nat → Str) (self : Str) : List (Nat × Str) → List Stmt → Bool
  | [], sts => sts.isEmpty
  | p :: r, sts => match sts with
    | .Assign [.Attribute (.Name s _) fn _] (.Name x _) _ :: sts => eqStr s self && eqStr x p.2 && eqStr fn (nm p.1) && plainN s && plainN x && exSts nm self r sts
    | _ => false
def exIn (nm : Nat → Str) (fl : List Nat) (st : Stmt) : Bool := match psOf st with
  | self :: ps => parB st && C8.scC (self :: ps) (self :: ps) (C8.fnScope st) && Nat.beq fl.length ps.length && decide (fl.map nm).Nodup && exSts nm self (fl.zip ps) (C8.fnBody st)
  | [] => false
def tX (K : PySem.W.Frag) : List (Str × Nat) → TS
  | [] => tNext
  | p :: r => tSeq (tOst K p.1 (tVar 0) (tVar p.2)) (tX K r)
def mkS (nm : Nat → Str) : Nat → List Nat → List (Str × Nat)
  | _, [] => []
  | j, f :: fl => (nm f, j) :: mkS nm (j + 1) fl
def mkL (nm : Nat → Str) : Nat → List Nat → List V → List (Str × Nat × V)
  | j, f :: fl, x :: xs => (nm f, j, x) :: mkL nm (j + 1) fl xs
  | _, _, _ => []
theorem mkL_map (nm : Nat → Str) : ∀ (j : Nat) (fl : List Nat) (xs : List V), xs.length = fl.length → (mkL nm j fl xs).map (fun q => (q.1, q.2.1)) = mkS nm j fl
  | _, [], [], _ => rfl
  | j, f :: fl, x :: xs, h => by
    show _ :: _ = _ :: _
    rw [mkL_map nm (j + 1) fl xs (by simpa using h)]
  | _, [], _ :: _, h => nomatch h
  | _, _ :: _, [], h => nomatch h
theorem mkL_len (nm : Nat → Str) : ∀ (j : Nat) (fl : List Nat) (xs : List V), xs.length = fl.length → (mkL nm j fl xs).length = fl.length
  | _, [], [], _ => rfl
  | j, f :: fl, x :: xs, h => congrArg (· + 1) (mkL_len nm (j + 1) fl xs (by simpa using h))
  | _, [], _ :: _, h => nomatch h
  | _, _ :: _, [], h => nomatch h
theorem mkL_at (nm : Nat → Str) : ∀ (j : Nat) (fl : List Nat) (xs : List V) (i f : Nat) (x : V), fl[i]? = some f → xs[i]? = some x → (nm f, j + i, x) ∈ mkL nm j fl xs
  | j, f' :: fl, x' :: xs, 0, f, x, h1, h2 => by cases h1; cases h2; exact List.mem_cons_self
  | j, f' :: fl, x' :: xs, i + 1, f, x, h1, h2 => by
    have z := mkL_at nm (j + 1) fl xs i f x h1 h2
    rw [show j + 1 + i = j + (i + 1) by omega] at z
    exact List.mem_cons_of_mem _ z
  | _, [], _, _, _, _, h, _ => by simp at h
  | _, _ :: _, [], _, _, _, _, h => by simp at h
theorem mkL_of (nm : Nat → Str) : ∀ (j : Nat) (fl : List Nat) (xs : List V) (q : Str × Nat × V), q ∈ mkL nm j fl xs → ∃ i f, fl[i]? = some f ∧ xs[i]? = some q.2.2 ∧ q.1 = nm f ∧ q.2.1 = j + i
  | j, f :: fl, x :: xs, q, h => by
    skip; rcases List.mem_cons.mp h with z | z
    · subst z; exact ⟨0, f, rfl, rfl, rfl, rfl⟩
    · obtain ⟨i, f', a, b, c, d⟩ := mkL_of nm (j + 1) fl xs q z
      exact ⟨i + 1, f', a, b, c, by omega⟩
  | _, [], _, _, h => by cases h
  | _, _ :: _, [], _, h => by cases h
theorem mkL_fst (nm : Nat → Str) : ∀ (j : Nat) (fl : List Nat) (xs : List V), xs.length = fl.length → (mkL nm j fl xs).map (·.1) = fl.map nm
  | _, [], [], _ => rfl
  | j, f :: fl, x :: xs, h => by
    show _ :: _ = _ :: _
    rw [mkL_fst nm (j + 1) fl xs (by simpa using h)]
  | _, [], _ :: _, h => nomatch h
  | _, _ :: _, [], h => nomatch h
theorem look_nd {v : V} {x : Str} : ∀ {l : List (Str × V)}, (l.map (·.1)).Nodup → (x, v) ∈ l → l.lookup x = some v
  | [], _, h => nomatch h
  | p :: r, nd, h => by
    skip; obtain ⟨n1, n2⟩ := List.nodup_cons.mp nd
    rw [List.lookup_cons]
    skip; rcases List.mem_cons.mp h with z | z
    · rw [← z]; simp
    · have ne : x ≠ p.1 := fun w => n1 (by show p.1 ∈ _; rw [← w]; exact List.mem_map_of_mem (f := (·.1)) z)
      rw [show (x == p.1) = false from beq_eq_false_iff_ne.mpr ne]
      exact look_nd n2 z
theorem tX_later {K : PySem.W.Frag} {C a dx : Addr} (T : OexC K C) (ne : dx ≠ a) {D : Ends} {σ : St} (h0 : σ[0]? = some (some (.ref a))) : ∀ (l : List (Str × Nat × V)) (fs : List (Str × V)) (H2 : Hp),
    H2 a = some (exo a C (some dx)) → H2 dx = some (exd dx fs) → fs.length + l.length ≤ 900 → (∀ q ∈ l, σ[q.2.1]? = some (some q.2.2) ∧ PySem.W.findIn K (.ref C) q.1 = some none) →
    (∀ H3, H3 a = some (exo a C (some dx)) → H3 dx = some (exd dx ((l.map fun q => (q.1, q.2.2)).reverse ++ fs)) → (∀ b, b ≠ a → b ≠ dx → H3 b = H2 b) → D.nx σ H3) → tX K (l.map fun q => (q.1, q.2.1)) D σ H2
  | [], fs, H2, e1, e2, _, _, fin => fin H2 e1 e2 fun _ _ _ => rfl
  | q :: r, fs, H2, e1, e2, hl, hσ, fin => by
    have hl : fs.length + (r.length + 1) ≤ 900 := hl
    obtain ⟨s1, s2⟩ := hσ q List.mem_cons_self
    refine ⟨q.2.2, s1, .ref a, h0, a, C, rfl, T, s2, .inr ⟨dx, fs, e1, e2, by omega, ?_⟩⟩
    refine tX_later T ne h0 r ((q.1, q.2.2) :: fs) _ (by rw [upd_ne (Ne.symm ne)]; exact e1) upd_same (by show fs.length + 1 + r.length ≤ 900; omega) (fun p hp => hσ p (List.mem_cons_of_mem _ hp)) fun H3 a1 a2 a3 => fin H3 a1 ?_ fun b b1 b2 => ?_
    · rw [a2]; simp
    · rw [a3 b b1 b2, upd_ne b2]
section
variable {Z : Wl}
theorem psX {X : Cx} {nm : Nat → Str} {self : Str} (h0 : X.N[0]? = some self) (hv : ∀ x ∈ X.N, Vis X.env.scope x) : ∀ (l : List (Nat × Str)) (j : Nat) (sts : List Stmt), exSts nm self l sts = true → (∀ i (p : Nat × Str), l[i]? = some p → X.N[j + i]? = some p.2) → PSs X sts (tX X.K (mkS nm j (l.map (·.1))))
  | [], j, sts, h, _ => by
    have e : sts = [] := List.isEmpty_iff.mp h
    subst e
    exact pss_nil
  | p :: r, j, sts, h, hN => by
    unfold exSts at h
    split at h
    · obtain ⟨h, h6⟩ := and2 h
      obtain ⟨h, h5⟩ := and2 h
      obtain ⟨h, h4⟩ := and2 h
      obtain ⟨h, h3⟩ := and2 h
      obtain ⟨h1, h2⟩ := and2 h
      have e1 := of_decide_eq_true h1
      have e2 := of_decide_eq_true h2
      have e3 := of_decide_eq_true h3
      subst e1 e2 e3
      have hp : X.N[j]? = some p.2 := hN 0 p rfl
      obtain ⟨d1, d2⟩ := plainN_at h4
      obtain ⟨d3, d4⟩ := plainN_at h5
      exact pss_cons (ps_ost (pe_var h0 (hv _ (List.mem_of_getElem? h0)) d1 d2) (pe_var hp (hv _ (List.mem_of_getElem? hp)) d3 d4)) (psX h0 hv r (j + 1) _ h6 fun i q e => by
        have z := hN (i + 1) q e
        rw [show j + 1 + i = j + (i + 1) by omega]; exact z)
    · cases h
theorem fnX {K : PySem.W.Frag} (hK : Z.L.K = K) {i : FnI} {c : Nat} {fl : List Nat} (T : OexC K (Z.L.cA c)) (nf : fl ≠ []) (h9 : fl.length ≤ 900) (hno : ∀ f ∈ fl, PySem.W.findIn K (.ref (Z.L.cA c)) (Z.L.nm f) = some none) (e : fnV K i = i.val) (ck : fnK K i = true) (hx : exIn Z.L.nm fl i.st = true) :
    ∃ fd ps, Binds K fd ps [] ∧ FnOk Z.P Z.w K Z.mg Z.base (L2.CX Z.P Z.w) 1 (whAdr K i.at_) fd ps (spX Z.L c fl) := by
  obtain ⟨kp, oc, od, dV, kV, doc, pm, an, cdv, ct, osl, lk, hc, hd⟩ := fn_at e ck
  unfold exIn at hx
  cases ep : psOf i.st with
  | nil => rw [ep] at hx; cases hx
  | cons self ps =>
    rw [ep] at hx
    obtain ⟨hx, h5⟩ := and2 hx
    obtain ⟨hx, h4⟩ := and2 hx
    obtain ⟨hx, h3⟩ := and2 hx
    obtain ⟨h1, h2⟩ := and2 hx
    have hn : fl.length = ps.length := Nat.eq_of_beq_eq_true h3
    have nd : (fl.map Z.L.nm).Nodup := of_decide_eq_true h4
    have S := C8.fnScope_by h2
    refine ⟨_, self :: ps, by rw [← ep] at h2 ⊢; exact fn_binds h1 h2 hd, fn_of (k := 0) lk hc S ?_ fun A outer s H vs Q E hr ⟨a, xs, ev, hl, ea, q⟩ => ?_⟩
    · rintro vs H Q E ⟨a, xs, rfl, hl, _⟩
      show xs.length + 1 = ps.length + 1
      omega
    · subst ev
      refine ⟨_, psX (X := cxOf (L2.CX Z.P Z.w) Z.P Z.w K Z.mg Z.base (self :: ps) i.qual (C8.fnScope i.st) (whAdr K i.at_) cdv A outer s H E) (nm := Z.L.nm) (self := self) rfl (fun x hx => ?_) (fl.zip ps) 1 _ h5 (fun j p ep2 => ?_), ?_⟩
      · rcases S.par x hx with z | z
        · exact .inl z
        · exact .inr (.inl z)
      · rw [List.getElem?_zip_eq_some] at ep2
        show (self :: ps)[1 + j]? = _
        rw [show 1 + j = j + 1 by omega, List.getElem?_cons_succ]
        exact ep2.2
      · rw [show (fl.zip ps).map (·.1) = fl from List.map_fst_zip (by omega), ← mkL_map Z.L.nm 1 fl xs hl]
        cases efl : fl with
        | nil => exact absurd efl nf
        | cons f0 fl0 =>
          cases exs : xs with
          | nil => rw [efl, exs] at hl; cases hl
          | cons x0 xs0 =>
            subst efl exs
            have hst : ∀ j (x : V), (V.ref a :: x0 :: xs0)[j]? = some x → (L2.start (self :: ps) (.ref a :: x0 :: xs0))[j]? = some (some x) := fun j x hj => by
              unfold L2.start
              have hj' : j < (V.ref a :: x0 :: xs0).length := (List.getElem?_eq_some_iff.mp hj).1
              rw [List.getElem?_append_left (by simpa using hj'), List.getElem?_map, hj]
              rfl
            have hall : ∀ p ∈ mkL Z.L.nm 1 (f0 :: fl0) (x0 :: xs0), (L2.start (self :: ps) (.ref a :: x0 :: xs0))[p.2.1]? = some (some p.2.2) ∧ PySem.W.findIn K (.ref (Z.L.cA c)) p.1 = some none := fun p hp => by
              obtain ⟨j, f, j1, j2, j3, j4⟩ := mkL_of _ _ _ _ _ hp
              refine ⟨hst _ _ ?_, ?_⟩
              · rw [j4, show 1 + j = j + 1 by omega, List.getElem?_cons_succ]; exact j2
              · rw [j3]; exact hno f (List.mem_of_getElem? j1)
            have hlen := mkL_len Z.L.nm 1 (f0 :: fl0) (x0 :: xs0) hl
            have hlook : ∀ (j f : Nat) (x : V), (f0 :: fl0)[j]? = some f → (x0 :: xs0)[j]? = some x → (((mkL Z.L.nm 1 (f0 :: fl0) (x0 :: xs0)).map fun q => (q.1, q.2.2)).reverse).lookup (Z.L.nm f) = some x := fun j f x j1 j2 => by
              refine look_nd ?_ ?_
              · rw [List.map_reverse, List.map_map]
                have : ((fun q : Str × V => q.1) ∘ fun q : Str × Nat × V => (q.1, q.2.2)) = (·.1) := rfl
                rw [this, mkL_fst Z.L.nm 1 (f0 :: fl0) (x0 :: xs0) hl]
                exact List.pairwise_reverse.mpr (List.Pairwise.imp Ne.symm nd)
              · rw [List.mem_reverse]
                exact List.mem_map_of_mem (f := fun q : Str × Nat × V => (q.1, q.2.2)) (mkL_at Z.L.nm 1 (f0 :: fl0) (x0 :: xs0) j f x j1 j2)
            have hall0 := hall _ List.mem_cons_self
            refine ⟨x0, hall0.1, .ref a, hst 0 _ rfl, a, Z.L.cA c, rfl, T, hall0.2, .inl ⟨ea, fun dx hdx ne => ?_⟩⟩
            refine tX_later T ne (hst 0 _ rfl) (mkL Z.L.nm 2 fl0 xs0) [(Z.L.nm f0, x0)] _ upd_same (by rw [upd_ne ne, upd_same]) ?_ (fun p hp => hall p (List.mem_cons_of_mem _ hp)) fun H3 a1 a2 a3 => ?_
            · have : (mkL Z.L.nm 2 fl0 xs0).length + 1 = fl0.length + 1 := hlen
              have h9 : fl0.length + 1 ≤ 900 := h9
              show 1 + _ ≤ 900
              omega
            · refine q dx _ H3 hdx ne a1 a2 (fun b b1 b2 => by rw [a3 b b1 b2, upd_ne b1, upd_ne b2]) fun j f x j1 j2 => ?_
              have z := hlook j f x j1 j2
              have z : ((((Z.L.nm f0, x0) :: (mkL Z.L.nm 2 fl0 xs0).map fun q => (q.1, q.2.2))).reverse).lookup (Z.L.nm f) = some x := z
              rw [List.reverse_cons] at z
              exact z
end
end TB

/-! TB, the link: the end. -/
namespace TB
open L2 PySem PyProof.Rows PySem.Spec
/-! ### the part of the heap that is known: no lists in it -/
def isLst (o : Obj) : Bool := match o.cls with
  | .type c => decide (c = "list")
  | _ => false
def frL (g : Addr → Option Obj) (as : List Addr) : PySem.W.Frag := (He.frG g as).filter fun q => !isLst q.2
theorem frL_mem {g : Addr → Option Obj} {as : List Addr} {a : Addr} {o : Obj} (h : (frL g as).lookup a = some o) : g a = some o ∧ isLst o = false := by
  obtain ⟨h1, h2⟩ := List.mem_filter.mp (He.lookup_mem h)
  exact ⟨He.frG_mem h1, by simpa using h2⟩
theorem frL_in {as : List Addr} {h : Heap} : (frL h.get? as).In h := fun _ _ e => (frL_mem e).1
/-! ### static -/
def namesB (l : List (Nat × Str)) : Bool := decide (l.map (·.2)).Nodup && l.all fun p => match p.2.cps[0]? with
  | some c => Nat.blt c 2000000
  | none => true
def nbB (nm : Nat → Str) : Bool := eqStr (nm nAppend) "append" && eqStr (nm nPop) "pop" && eqStr (nm nGet) "get" && eqStr (nm nSetdefault) "setdefault" && eqStr (nm nUpdate) "update" && eqStr (nm nJoin) "join" && eqStr (nm nSplit) "split" && eqStr (nm nIndex) "index" && eqStr (nm nUpper) "upper" && eqStr (nm nLower) "lower" &&
  eqStr (nm nStartswith) "startswith" && eqStr (nm nReverse) "reverse" && eqStr (nm nClear) "clear" && eqStr (nm nBool) "__bool__"
def fnsB (D : Hd) : Bool := D.fns.all fun p => match fnAt p.1 D.fnL with
  | some i => fnIB D.G i
  | none => false
def excsB (D : Hd) : Bool := D.cls.all fun p => !p.2.exc || (p.2.flds.isEmpty || match lookN p.1 D.exL with
  | some f => (match fnAt f D.fnL with
    | some i => exIn (nmOf D.names) p.2.flds i.st && Nat.ble p.2.flds.length 900
    | none => false)
  | none => false)
def statB (D : Hd) : Bool := fnsB D && excsB D && namesB D.names && nbB (nmOf D.names)
/-! ### looks at K -/
def xcK (K : PySem.W.Frag) (D : Hd) (L : Lk) (p : Nat × Cl) : Bool := !p.2.exc || (PySem.W.keepIn K (.ref (L.cA p.1)) && decide (PySem.W.subIn K (.ref (L.cA p.1)) (.type "BaseException") = some true) && decide (PySem.W.typeIn K (.ref (L.cA p.1)) = some (.type "type")) &&
  (bif p.2.flds.isEmpty then PySem.W.excIn K (L.cA p.1) bmVE "ValueError.__new__" else oexB K (L.cA p.1) && xfB K (L.cA p.1) && p.2.flds.all (fun f => He.eqO (PySem.W.findIn K (.ref (L.cA p.1)) (L.nm f)) (some none)) && (match lookN p.1 D.exL with
    | some f => He.eqO (PySem.W.findIn K (.ref (L.cA p.1)) "__init__") (some (some (.ref (L.fA f)))) && decide (PySem.W.typeIn K (.ref (L.fA f)) = some (.type "function"))
    | none => false)) &&
  D.cls.all (fun q => !q.2.exc || decide (PySem.W.exmOne K (.ref (L.cA p.1)) (.ref (L.cA q.1)) = some (subCl L.T 5 p.1 q.1))))
def lawK (K : PySem.W.Frag) (D : Hd) (f : Nat) : Bool := match K.lookup ((D.lk K).fA f) with
  | some (⟨_, _, .func fd, _⟩) => (match fd.defaults with
    | .none => true
    | _ => false)
  | _ => false
def exB (K : PySem.W.Frag) (D : Hd) (law : Nat) : Bool := D.fnL.all (fnK K) && D.gl.all (glK K (D.lk K)) && D.cls.all (clK K D (D.lk K)) && D.cls.all (xcK K D (D.lk K)) && lawK K D law
/-! ### the Hook -/
abbrev AlW : Type := Bool × List He.FnW
def obsK (D : Hd) (law : Nat) (K : PySem.W.Frag) : AlW := (exB K D law, D.fnL.map (fnV K))
def obsW (n : Nat) (D : Hd) (law : Nat) (g : Addr → Option Obj) : AlW := obsK D law (frL g (cStatics :: He.asD g n))
def valW (D : Hd) : AlW := (true, D.fnL.map FnI.val)
structure SaysW (D : Hd) (law : Nat) (h : Heap) (K : PySem.W.Frag) : Prop where
  kin : K.In h
  nol : ∀ a o, K.lookup a = some o → isLst o = false
  obs : obsK D law K = valW D
def hookW (n : Nat) (D : Hd) (law : Nat) : PySem.W.Hook where
  α := AlW
  obs := fun s => obsW n D law s.heap.get?
  val := fun _ => valW D
  says := fun _ h => ∃ K : PySem.W.Frag, SaysW D law h K
  of := fun _ _ e => ⟨_, frL_in, fun _ _ q => (frL_mem q).2, e⟩
  keeps := fun _ _ _ ⟨K, c⟩ k => ⟨K, PySem.W.Frag.In.keeps c.kin k, c.nol, c.obs⟩
theorem obsW_eq {n : Nat} {D : Hd} {law : Nat} {g : Addr → Option Obj} {s : Shared} (h : ∀ a, g a = s.heap.get? a) : obsW n D law g = (hookW n D law).obs s := by
  skip; have e : g = s.heap.get? := funext h
  rw [e] <;> rfl
section
variable {D : Hd} {K : PySem.W.Frag} {P : Program} {w : World} {mg : Str → Option Value} {base : Heap} {law : Nat}
theorem nmLook_mem {n : Nat} {s : Str} : ∀ {l : List (Nat × Str)}, nmLook l n = some s → (n, s) ∈ l
  | [], h => nomatch h
  | p :: r, h => by
    have h : (bif Nat.beq p.1 n then some p.2 else nmLook r n) = some s := h
    cases q : Nat.beq p.1 n with
    | true => rw [q] at h; cases h; rw [← Nat.eq_of_beq_eq_true q]; exact List.mem_cons_self
    | false => rw [q] at h; exact List.mem_cons_of_mem _ (nmLook_mem h)
theorem snd_inj {a b : Nat} {s : Str} : ∀ {l : List (Nat × Str)}, (l.map (·.2)).Nodup → (a, s) ∈ l → (b, s) ∈ l → a = b
  | [], _, h, _ => nomatch h
  | p :: r, nd, h1, h2 => by
    skip; obtain ⟨n1, n2⟩ := List.nodup_cons.mp nd
    rcases List.mem_cons.mp h1 with z1 | z1 <;> rcases List.mem_cons.mp h2 with z2 | z2
    · rw [← z2] at z1; exact (Prod.mk.inj z1).1
    · exact absurd (by rw [← z1]; exact List.mem_map_of_mem (f := (·.2)) z2) n1
    · exact absurd (by rw [← z2]; exact List.mem_map_of_mem (f := (·.2)) z1) n1
    · exact snd_inj n2 z1 z2
theorem nm_inj {l : List (Nat × Str)} (h : namesB l = true) (a b : Nat) (e : nmOf l a = nmOf l b) : a = b := by
  obtain ⟨h1, h2⟩ := and2 h
  have big : ∀ n s m, (n, s) ∈ l → s ≠ (⟨#[2000000 + m]⟩ : Str) := fun n s m hm z => by
    have q := List.all_eq_true.mp h2 _ hm
    subst z
    have q : Nat.blt (2000000 + m) 2000000 = true := q
    have := Nat.le_of_ble_eq_true q
    omega
  unfold nmOf at e
  cases ea : nmLook l a with
  | none =>
    cases eb : nmLook l b with
    | none =>
      rw [ea, eb] at e
      have e : (⟨#[2000000 + a]⟩ : Str) = ⟨#[2000000 + b]⟩ := e
      injection e with e
      have e : [2000000 + a] = [2000000 + b] := congrArg Array.toList e
      injection e with e
      omega
    | some s => rw [ea, eb] at e; exact absurd e.symm (big _ _ _ (nmLook_mem eb))
  | some s =>
    cases eb : nmLook l b with
    | none => rw [ea, eb] at e; exact absurd e (big _ _ _ (nmLook_mem ea))
    | some s2 =>
      rw [ea, eb] at e
      have e : s = s2 := e
      subst e
      exact snd_inj (of_decide_eq_true h1) (nmLook_mem ea) (nmLook_mem eb)
/-- the world -/
abbrev Hd.Z (D : Hd) (K : PySem.W.Frag) (P : Program) (w : World) (mg : Str → Option Value) (base : Heap) : Wl := ⟨P, w, mg, base, D.lk K⟩
theorem nb_of {nm : Nat → Str} {Z : Wl} (h : nbB nm = true) (e : Z.L.nm = nm) : Nb Z ∧ Z.L.nm nBool = Str.ofString "__bool__" := by
  subst e
  obtain ⟨h, a14⟩ := and2 h
  obtain ⟨h, a13⟩ := and2 h
  obtain ⟨h, a12⟩ := and2 h
  obtain ⟨h, a11⟩ := and2 h
  obtain ⟨h, a10⟩ := and2 h
  obtain ⟨h, a9⟩ := and2 h
  obtain ⟨h, a8⟩ := and2 h
  obtain ⟨h, a7⟩ := and2 h
  obtain ⟨h, a6⟩ := and2 h
  obtain ⟨h, a5⟩ := and2 h
  obtain ⟨h, a4⟩ := and2 h
  obtain ⟨h, a3⟩ := and2 h
  obtain ⟨a1, a2⟩ := and2 h
  exact ⟨⟨of_decide_eq_true a1, of_decide_eq_true a2, of_decide_eq_true a3, of_decide_eq_true a4, of_decide_eq_true a5, of_decide_eq_true a6, of_decide_eq_true a7, of_decide_eq_true a8, of_decide_eq_true a9, of_decide_eq_true a10, of_decide_eq_true a11, of_decide_eq_true a12, of_decide_eq_true a13⟩, of_decide_eq_true a14⟩
theorem map_at {α β : Type} {f g : α → β} : ∀ {l : List α}, l.map f = l.map g → ∀ x ∈ l, f x = g x
  | [], _, x, h => nomatch h
  | y :: r, e, x, h => by
    have e : f y :: r.map f = g y :: r.map g := e
    injection e with e1 e2
    skip; rcases List.mem_cons.mp h with z | z
    · rw [z]; exact e1
    · exact map_at e2 x z
structure Facts (D : Hd) (K : PySem.W.Frag) (Z : Wl) : Prop where
  O : TxOk Z D.G
  cs : ClsOk Z D.atts
  nb1 : Z.L.nm nBool = Str.ofString "__bool__"
  nb : Nb Z
  xo : ExOk Z
  hf : ∀ f F, Z.L.T.fn.get f = some F → F.gen = false → FnTx Z D.G f F
theorem fn_facts {h : Heap} (c : SaysW D law h K) (hs : statB D = true) {f : Nat} {F : Fn} (e : D.T.fn.get f = some F) : ∃ i, fnAt f D.fnL = some i ∧ (D.lk K).fA f = whAdr K i.at_ ∧ fnV K i = i.val ∧ fnK K i = true ∧ parB i.st = true ∧ F.dfl = [] ∧ fnCkB D.G F i.N (psOf i.st) (C8.fnBody i.st) (C8.fnScope i.st) = true := by
  obtain ⟨hs, s4⟩ := and2 hs
  obtain ⟨hs, s3⟩ := and2 hs
  obtain ⟨s1, s2⟩ := and2 hs
  have z := List.all_eq_true.mp s1 _ (ofList_mem e)
  have ex : exB K D law = true := congrArg (fun z : AlW => z.1) c.obs
  have ev : D.fnL.map (fnV K) = D.fnL.map FnI.val := congrArg (fun z : AlW => z.2) c.obs
  obtain ⟨ex, x5⟩ := and2 ex
  obtain ⟨ex, x4⟩ := and2 ex
  obtain ⟨ex, x3⟩ := and2 ex
  obtain ⟨x1, x2⟩ := and2 ex
  have z : (match fnAt f D.fnL with
    | some i => fnIB D.G i
    | none => false) = true := z
  cases q : fnAt f D.fnL with
  | none => rw [q] at z; cases z
  | some i =>
    rw [q] at z
    obtain ⟨z1, z2⟩ := and2 z
    obtain ⟨m1, m2⟩ := fnAt_mem q
    have z2 : (match D.T.fn.get i.id with
      | some F => F.dfl.isEmpty && fnCkB D.G F i.N (psOf i.st) (C8.fnBody i.st) (C8.fnScope i.st)
      | none => false) = true := z2
    rw [m2, e] at z2
    obtain ⟨z3, z4⟩ := and2 z2
    refine ⟨i, rfl, ?_, map_at ev i m1, List.all_eq_true.mp x1 i m1, z1, List.isEmpty_iff.mp z3, z4⟩
    show (match fnAt f D.fnL with
      | some i => whAdr K i.at_
      | none => 0) = _
    rw [q]
theorem fnIn_of {K : PySem.W.Frag} {a : Addr} {oc od fd osl} (h : K.lookup a = some ⟨oc, od, .func fd, osl⟩) : PySem.W.fnIn K a = true := by
  unfold PySem.W.fnIn
  rw [h]
theorem facts {h : Heap} (c : SaysW D law h K) (hs : statB D = true) (G : h.Ns mainGlobals mg) : Facts D K (D.Z K P w mg base) := by
  have hs0 := hs
  obtain ⟨hs, s4⟩ := and2 hs
  obtain ⟨hs, s3⟩ := and2 hs
  obtain ⟨s1, s2⟩ := and2 hs
  have ex : exB K D law = true := congrArg (fun z : AlW => z.1) c.obs
  obtain ⟨ex, x5⟩ := and2 ex
  obtain ⟨ex, x4⟩ := and2 ex
  obtain ⟨ex, x3⟩ := and2 ex
  obtain ⟨x1, x2⟩ := and2 ex
  obtain ⟨nb, nb1⟩ := nb_of (Z := D.Z K P w mg base) s4 rfl
  refine ⟨⟨rfl, rfl, fun x g e => ?_⟩, ⟨fun q cl e ne => ?_, nm_inj s3⟩, nb1, nb, fun q k e ee => ?_, fun f F e g => ?_⟩
  · exact gl_ok (Z := D.Z K P w mg base) (p := (x, g)) c.kin G rfl rfl (List.all_eq_true.mp x2 _ (glook_mem e))
  · exact cl_ok (Z := D.Z K P w mg base) (D := D) (p := (q, cl)) rfl (List.all_eq_true.mp x3 _ (ofList_mem e)) ne
  · have z := List.all_eq_true.mp x4 _ (ofList_mem e)
    have z := (Bool.or_eq_true_iff.mp z).resolve_left (by rw [ee]; decide)
    obtain ⟨z, z5⟩ := and2 z
    obtain ⟨z, z4⟩ := and2 z
    obtain ⟨z, z3⟩ := and2 z
    obtain ⟨z1, z2⟩ := and2 z
    have st := List.all_eq_true.mp s2 _ (ofList_mem e)
    have st := (Bool.or_eq_true_iff.mp st).resolve_left (by rw [ee]; decide)
    have hfl : k.flds ≠ [] → ∃ f i, lookN q D.exL = some f ∧ fnAt f D.fnL = some i ∧ exIn (nmOf D.names) k.flds i.st = true ∧ k.flds.length ≤ 900 := fun nf => by
      have st := (Bool.or_eq_true_iff.mp st).resolve_left (by intro y; exact nf (List.isEmpty_iff.mp y))
      have st : (match lookN q D.exL with
        | some f => (match fnAt f D.fnL with
          | some i => exIn (nmOf D.names) k.flds i.st && Nat.ble k.flds.length 900
          | none => false)
        | none => false) = true := st
      cases q1 : lookN q D.exL with
      | none => rw [q1] at st; cases st
      | some f =>
        rw [q1] at st
        have st : (match fnAt f D.fnL with
          | some i => exIn (nmOf D.names) k.flds i.st && Nat.ble k.flds.length 900
          | none => false) = true := st
        cases q2 : fnAt f D.fnL with
        | none => rw [q2] at st; cases st
        | some i =>
          rw [q2] at st
          obtain ⟨a1, a2⟩ := and2 st
          exact ⟨f, i, rfl, q2, a1, Nat.le_of_ble_eq_true a2⟩
    refine ⟨z1, of_decide_eq_true z2, of_decide_eq_true z3, ?_, fun nf => ?_, fun c' k' e' ee' => ?_⟩
    · by_cases nf : k.flds = []
      · rw [show (k.flds.isEmpty) = true from List.isEmpty_iff.mpr nf] at z4
        exact .inl ⟨nf, z4⟩
      · rw [show (k.flds.isEmpty) = false from by cases y : k.flds with | nil => exact absurd y nf | cons _ _ => rfl] at z4
        obtain ⟨z4, y4⟩ := and2 z4
        obtain ⟨z4, y3⟩ := and2 z4
        obtain ⟨y1, y2⟩ := and2 z4
        obtain ⟨f, i, e1, e2, e3, e4⟩ := hfl nf
        have y4 : (match lookN q D.exL with
          | some f => He.eqO (PySem.W.findIn K (.ref ((D.lk K).cA q)) "__init__") (some (some (.ref ((D.lk K).fA f)))) && decide (PySem.W.typeIn K (.ref ((D.lk K).fA f)) = some (.type "function"))
          | none => false) = true := y4
        rw [e1] at y4
        obtain ⟨b1, b2⟩ := and2 y4
        have ev : D.fnL.map (fnV K) = D.fnL.map FnI.val := congrArg (fun z : AlW => z.2) c.obs
        obtain ⟨m1, m2⟩ := fnAt_mem e2
        have hA : (D.lk K).fA f = whAdr K i.at_ := by
          show (match fnAt f D.fnL with
            | some i => whAdr K i.at_
            | none => 0) = _
          rw [e2]
        obtain ⟨fd, ps, hb, ok⟩ := fnX (Z := D.Z K P w mg base) (c := q) rfl (oexB_ok y1) nf e4 (fun f' hf' => He.eqO_ok (List.all_eq_true.mp y3 f' hf')) (map_at ev i m1) (List.all_eq_true.mp x1 i m1) e3
        exact .inr ⟨nf, e4, oexB_ok y1, whAdr K i.at_, fd, ps, by rw [← hA]; exact He.eqO_ok b1, by rw [← hA]; exact of_decide_eq_true b2, hb, ok⟩
    · rw [show (k.flds.isEmpty) = false from by cases y : k.flds with | nil => exact absurd y nf | cons _ _ => rfl] at z4
      obtain ⟨z4, y4⟩ := and2 z4
      obtain ⟨z4, y3⟩ := and2 z4
      obtain ⟨y1, y2⟩ := and2 z4
      exact ⟨xfB_ok y2, fun f' hf' => He.eqO_ok (List.all_eq_true.mp y3 f' hf')⟩
    · have y := List.all_eq_true.mp z5 _ (ofList_mem e')
      have y := (Bool.or_eq_true_iff.mp y).resolve_left (by rw [ee']; decide)
      exact of_decide_eq_true y
  · obtain ⟨i, e1, e2, e3, e4, e5, e6, e7⟩ := fn_facts c hs0 e
    obtain ⟨kp, oc, od, dV, kV, doc, pm, an, cdv, ct, osl, lk, hc, hd⟩ := fn_at e3 e4
    have e7' := e7
    obtain ⟨ck, c4⟩ := and2 e7'
    obtain ⟨ck, c3⟩ := and2 ck
    obtain ⟨c1, c2⟩ := and2 ck
    have np : (psOf i.st).length = F.np := (Nat.eq_of_beq_eq_true c3).symm
    refine ⟨oc, od, i.name, i.qual, C8.fnArgs i.st, C8.fnBody i.st, C8.fnScope i.st, dV, kV, doc, pm, an, cdv, ct, osl, i.N, psOf i.st, ?_, hc, e7, np, ?_, ?_, fun n ws hn hw => ?_⟩
    · show K.lookup ((D.lk K).fA f) = _; rw [e2]; exact lk
    · show PySem.W.keepIn K (.ref ((D.lk K).fA f)) = true; rw [e2]; exact kp
    · show PySem.W.fnIn K ((D.lk K).fA f) = true; rw [e2]; exact fnIn_of lk
    · rw [e6] at hw
      cases q : F.np - n with
      | zero =>
        rw [q] at hw
        have : ws = [] := by
          cases n <;> (simp only [List.drop_nil] at hw; cases hw; rfl)
        subst this
        exact ⟨[], [], fn_binds e5 c1 hd, .nil, fun _ _ => .nil⟩
      | succ m =>
        rw [q] at hw
        simp only [List.drop_nil] at hw
        cases hw
end
end TB

/-! TB, the link: the law. -/
namespace TB
open L2 PySem PyProof.Rows PySem.Spec
/-- the script as the evaluator holds it -/
def scr (ns : List Int) : Hv := { n := 1, t := (Tr.nil).set 0 (.fro (ns.map .int)) }
theorem rel_ints {L : Lk} {ρ : Rho} {H : Hp} : ∀ ns : List Int, RelL L ρ H (ns.map .int) (ns.map V.int)
  | [] => .nil
  | n :: r => .cons (.int n) (rel_ints r)
theorem sim_scr {L : Lk} {H : Hp} {a : Addr} {ns : List Int} (h : Rd H a (.lst (ns.map V.int))) : Sim L (fun b => if b = 0 then some a else none) (scr ns) H := by
  refine ⟨fun b o e => ?_, fun b c p e1 e2 => ?_, fun b p e => ?_, fun b p e => ?_⟩
  · have e : ((Tr.nil).set 0 (Ob.fro (ns.map .int))).get b = some o := e
    rw [Tr.get_set] at e
    by_cases q : b = 0
    · rw [if_pos q] at e
      cases e
      exact ⟨a, by rw [if_pos q], _, h, rel_ints ns⟩
    · rw [if_neg q, Tr.get_nil] at e
      cases e
  · by_cases q1 : b = 0
    · by_cases q2 : c = 0
      · rw [q1, q2]
      · rw [if_neg q2] at e2; cases e2
    · rw [if_neg q1] at e1; cases e1
  · by_cases q : b = 0
    · rw [q]; exact Nat.zero_lt_one
    · rw [if_neg q] at e; cases e
  · by_cases q : b = 0
    · rw [if_pos q] at e
      cases e
      rcases h with h | ⟨o, h⟩ <;> rw [h] <;> exact ⟨by simp, by simp, by simp, by simp⟩
    · rw [if_neg q] at e; cases e
def isTrueR (r : Res D) : Bool := match r with
  | .ok (.bl true) _ => true
  | _ => false
theorem isTrueR_at {r : Res D} (h : isTrueR r = true) : ∃ h', r = .ok (.bl true) h' := by
  unfold isTrueR at h
  split at h
  · exact ⟨_, rfl⟩
  · cases h
theorem law_tb {l : PySem.W.OpenLaw} {D : Hd} {law d : Nat} {q : Program} {loose : List Str} {XP : (Str → Option Value) → Heap → Prop} {dr : DefRec} {x : Str} {n F0 : Nat} {F : Fn}
    (hn : l.most = some n) (hn2 : n ≤ sizeLine) (hdf : dr.params.defaults = []) (hr : Room (2 * (d + 1) + 1) callerA) (hs : statB D = true) (hgl : D.gl.lookup dr.name = some (.fn law)) (eF : D.T.fn.get law = some F) (gF : F.gen = false) (nF : F.np = 1)
    (hps : (match fnAt law D.fnL with
      | some i => decide (psOf i.st = [x])
      | none => false) = true) (run : ∀ ns : List Int, ns.length ≤ n → isTrueR (callF D.T (d + 1) law [.ref 0] (scr ns)) = true) :
    PySem.W.WalkO q loose XP (hookW F0 D law).says l.row.toRowW dr [] (fun f vs => PySem.call f vs) := by
  refine LamX.walk_ofTsE (l := l) (n := n) (k := 2 * (d + 1) + 1) (x := x) (CX := fun w => L2.CX l.prog w) hn hn2 hdf hr (fun w mg fa h Y G hmg => ?_) (fun w H s e s' ⟨_, _, _, _, _, _, _, _, _, _, _, _, z⟩ => z)
  obtain ⟨K, c⟩ := Y
  obtain ⟨i, e1, e2, e3, e4, e5, e6, e7⟩ := fn_facts c hs eF
  rw [e1] at hps
  have ps1 : psOf i.st = [x] := of_decide_eq_true hps
  obtain ⟨kp, oc, od, dV, kV, doc, pm, an, cdv, ct, osl, lk, hc, hd⟩ := fn_at e3 e4
  have FC := facts (P := l.prog) (w := w) (base := h) c hs G
  have ha : fa = (D.lk K).fA law := by
    have z := (FC.O.gl _ _ hgl).1
    have z : mg dr.name = some (.ref ((D.lk K).fA law)) := z
    rw [hmg] at z
    cases z
    rfl
  have lk' : K.lookup ((D.lk K).fA law) = some ⟨oc, od, .func (PySem.W.fnOf i.name i.qual (C8.fnArgs i.st) (C8.fnBody i.st) (C8.fnScope i.st) dV kV doc pm an cdv ct), osl⟩ := by rw [e2]; exact lk
  have hdV : dV = .none := by
    have ex : exB K D law = true := congrArg (fun z : AlW => z.1) c.obs
    have z := (and2 ex).2
    unfold lawK at z
    rw [lk'] at z
    cases dV <;> first | rfl | (cases z; done)
  have e7' := e7
  obtain ⟨ck, c4⟩ := and2 e7'
  obtain ⟨ck, c3⟩ := and2 ck
  obtain ⟨c1, c2⟩ := and2 ck
  have np : (psOf i.st).length = F.np := (Nat.eq_of_beq_eq_true c3).symm
  refine ⟨K, c.kin, PySem.W.fnOf i.name i.qual (C8.fnArgs i.st) (C8.fnBody i.st) (C8.fnScope i.st) dV kV doc pm an cdv ct, [], spF (D.lk K) (d + 1) law F.np, fun p h => (nomatch h), fun p h => (nomatch h), fun p h => (nomatch h), fun s u => ?_, fun H a ns hl _ _ hS => ?_, fun base hb hg _ => ?_⟩
  · subst hdV
    obtain ⟨dk, df, ea⟩ := par_at e5
    have S := C8.fnScope_by c1
    have nd : (psOf i.st).Nodup := by rw [← S.pre]; exact S.nd.sublist (List.take_sublist _ _)
    obtain ⟨k, b1, b2⟩ := bindK (name := i.name) (qual := i.qual) (as := (C8.fnArgs i.st).args) (dk := dk) (df := df) (body := C8.fnBody i.st) (scope := C8.fnScope i.st) (dV := .none) (kV := kV) (doc := doc) (pm := pm) (an := an) (cdv := cdv) (ct := ct) [u] (by show _ = (psOf i.st).length; rw [ps1]; rfl) nd
    refine .of_eq ?_
    rw [ea, b1]
    have z := b2 none
    rw [show ((C8.fnArgs i.st).args.map (·.arg)) = [x] from ps1] at z
    exact z
  · have hR : Rd H a (.lst (ns.map V.int)) := by
      rcases hS with z | ⟨o, its, m, z1, z2, _⟩
      · exact z
      · have := c.nol _ _ z1
        unfold isLst at this
        rw [z2] at this
        simp at this
    refine ⟨by rw [nF]; rfl, _, [.ref 0], scr ns, sim_scr hR, .cons (.ref (by rw [if_pos rfl])) .nil, ?_⟩
    obtain ⟨h', er⟩ := isTrueR_at (run ns hl)
    have er : callF (D.lk K).T (d + 1) law [.ref 0] (scr ns) = .ok (.bl true) h' := er
    rw [er]
    intro ρ' v H' _ _ r
    cases r
    rfl
  · have FC := facts (P := l.prog) (w := w) (base := base) (SaysW.mk hb c.nol c.obs) hs hg
    have z := fn_step FC.O FC.cs FC.nb1 FC.nb FC.xo (fns_ok FC.O FC.cs FC.nb1 FC.nb FC.xo FC.hf d) (f := law) eF gF lk' hc e7 np
    rw [ha, ← ps1]
    exact z
end TB

namespace TB.P
open TB PySem
def f_all_steps : Fn := { np := 2, ns := 5, dfl := [], gen := false, body :=
    (.seq (.asg (.nm 2) (.lc (.gen (.nm 3) (.rng (.cons (.var 0) .nil)) .nil (.gen (.nm 4) (.rng (.cons (.bin .add (.var 1) (.cst (.int 1))) .nil)) .nil (.elt (.tup (.cons (.cst (.str [65])) (.cons (.var 3) (.cons (.var 4) .nil)))))))))
    (.ret (.bin .add (.var 2) (.lc (.gen (.nm 3) (.rng (.cons (.bin .add (.var 0) (.cst (.int 1))) .nil)) .nil (.gen (.nm 4) (.rng (.cons (.var 1) .nil)) .nil (.elt (.tup (.cons (.cst (.str [66])) (.cons (.var 3) (.cons (.var 4) .nil))))))))))) }
def f_is_text : Fn := { np := 1, ns := 3, dfl := [], gen := false, body :=
    (.seq (.ifs (.or (.not (.isi (.var 0) [.str])) (.not (.bi .all (.cons (.lc (.gen (.nm 2) (.itv (.var 0)) .nil (.elt (.cmp (.var 2) [.mem] (.cons (.cst (.str [65, 66])) .nil))))) .nil))))
    (.ret (.cst (.bl false)))
    .nop)
    (.seq (.asg (.nm 1) (.bi .len (.cons (.lc (.gen (.nm 2) (.itv (.var 0)) (.cons (.cmp (.var 2) [.eq] (.cons (.cst (.str [65])) .nil)) .nil) (.elt (.var 2)))) .nil)))
    (.ret (.and (.cmp (.var 1) [.le] (.cons (.cst (.int 12)) .nil)) (.cmp (.bin .sub (.bi .len (.cons (.var 0) .nil)) (.var 1)) [.le] (.cons (.cst (.int 12)) .nil)))))) }
def f_profile_of : Fn := { np := 1, ns := 3, dfl := [], gen := false, body :=
    (.seq (.asg (.nm 1) (.lst (.cons (.cst (.int 0)) .nil)))
    (.seq (.fr (.nm 2) (.itv (.var 0))
    (.exp (.mth (.var 1) 1 (.cons (.bin .add (.idx (.var 1) (.neg (.cst (.int 1)))) (.ite (.cmp (.var 2) [.eq] (.cons (.cst (.str [65])) .nil)) (.cst (.int 1)) (.cst (.int 0)))) .nil))))
    (.ret (.var 1)))) }
def f_text_of : Fn := { np := 1, ns := 3, dfl := [], gen := false, body :=
    (.ret (.mth (.cst (.str [])) 6 (.cons (.lc (.gen (.tup (.cons (.nm 1) (.cons (.nm 2) .nil))) (.zip (.cons (.var 0) (.cons (.sli (.var 0) (.prt (.cst (.int 1))) (.cst .non)) .nil))) .nil (.elt (.ite (.cmp (.var 2) [.gt] (.cons (.var 1) .nil)) (.cst (.str [65])) (.cst (.str [66])))))) .nil))) }
def f_Weaving___init__ : Fn := { np := 2, ns := 2, dfl := [], gen := false, body :=
    (.seq (.ifs (.not (.call 104 (.cons (.var 1) .nil)))
    (.rse 4 .nil)
    .nop)
    (.seq (.sat (.var 0) 130 (.var 1))
    (.seq (.sat (.var 0) 131 (.idx (.call 105 (.cons (.var 1) .nil)) (.neg (.cst (.int 1)))))
    (.sat (.var 0) 132 (.bin .sub (.bi .len (.cons (.var 1) .nil)) (.att (.var 0) 131)))))) }
def f_Weaving_profile : Fn := { np := 1, ns := 1, dfl := [], gen := false, body :=
    (.ret (.call 105 (.cons (.att (.var 0) 130) .nil))) }
def f_Weaving_steps : Fn := { np := 1, ns := 4, dfl := [], gen := false, body :=
    (.seq (.asg (.nm 1) (.call 105 (.cons (.att (.var 0) 130) .nil)))
    (.ret (.lc (.gen (.tup (.cons (.nm 2) (.cons (.nm 3) .nil))) (.enm (.att (.var 0) 130)) .nil (.elt (.tup (.cons (.var 3) (.cons (.idx (.var 1) (.var 2)) (.cons (.bin .sub (.var 2) (.idx (.var 1) (.var 2))) .nil))))))))) }
def f_Weaving_cells : Fn := { np := 1, ns := 3, dfl := [], gen := false, body :=
    (.ret (.lc (.gen (.tup (.cons (.nm 1) (.cons (.nm 2) .nil))) (.enm (.call 105 (.cons (.att (.var 0) 130) .nil))) .nil (.elt (.tup (.cons (.var 2) (.cons (.bin .sub (.var 1) (.var 2)) .nil))))))) }
def f_Weaving___len__ : Fn := { np := 1, ns := 1, dfl := [], gen := false, body :=
    (.ret (.bi .len (.cons (.att (.var 0) 130) .nil))) }
def f_Weaving___eq__ : Fn := { np := 2, ns := 2, dfl := [], gen := false, body :=
    (.ret (.and (.isi (.var 1) [.cls 10]) (.cmp (.att (.var 0) 130) [.eq] (.cons (.att (.var 1) 130) .nil)))) }
def f_Weaving___le__ : Fn := { np := 2, ns := 4, dfl := [], gen := false, body :=
    (.seq (.ifs (.or (.not (.isi (.var 1) [.cls 10])) (.or (.cmp (.att (.var 0) 131) [.ne] (.cons (.att (.var 1) 131) .nil)) (.cmp (.att (.var 0) 132) [.ne] (.cons (.att (.var 1) 132) .nil))))
    (.ret (.cst (.bl false)))
    .nop)
    (.ret (.bi .all (.cons (.lc (.gen (.tup (.cons (.nm 2) (.cons (.nm 3) .nil))) (.zip (.cons (.call 105 (.cons (.att (.var 0) 130) .nil)) (.cons (.call 105 (.cons (.att (.var 1) 130) .nil)) .nil))) .nil (.elt (.cmp (.var 2) [.le] (.cons (.var 3) .nil))))) .nil)))) }
def f_check_sizes : Fn := { np := 2, ns := 2, dfl := [], gen := false, body :=
    (.ifs (.or (.not (.isi (.var 1) [.cls 10])) (.or (.cmp (.att (.var 0) 131) [.ne] (.cons (.att (.var 1) 131) .nil)) (.cmp (.att (.var 0) 132) [.ne] (.cons (.att (.var 1) 132) .nil))))
    (.rse 4 .nil)
    .nop) }
def f_is_integer : Fn := { np := 1, ns := 1, dfl := [], gen := false, body :=
    (.ret (.and (.isi (.var 0) [.int]) (.not (.isi (.var 0) [.bool])))) }
def f_within : Fn := { np := 3, ns := 3, dfl := [], gen := false, body :=
    (.ret (.and (.call 117 (.cons (.var 0) .nil)) (.cmp (.var 1) [.le, .le] (.cons (.var 0) (.cons (.var 2) .nil))))) }
def f_is_row : Fn := { np := 1, ns := 2, dfl := [], gen := false, body :=
    (.ret (.and (.isi (.var 0) [.str]) (.and (.cmp (.bi .len (.cons (.var 0) .nil)) [.le] (.cons (.cst (.int 12)) .nil)) (.bi .all (.cons (.lc (.gen (.nm 1) (.itv (.var 0)) .nil (.elt (.cmp (.var 1) [.mem] (.cons (.cst (.str [97, 98, 99, 100, 101, 102, 103, 104])) .nil))))) .nil))))) }
def f_are_rows : Fn := { np := 1, ns := 1, dfl := [], gen := false, body :=
    (.ret (.and (.isi (.var 0) [.tuple]) (.and (.cmp (.bi .len (.cons (.var 0) .nil)) [.eq] (.cons (.cst (.int 2)) .nil)) (.and (.call 119 (.cons (.idx (.var 0) (.cst (.int 0))) .nil)) (.call 119 (.cons (.idx (.var 0) (.cst (.int 1))) .nil)))))) }
def f_check_rows : Fn := { np := 1, ns := 1, dfl := [], gen := false, body :=
    (.ifs (.not (.call 120 (.cons (.var 0) .nil)))
    (.rse 2 .nil)
    .nop) }
def f_are_colours : Fn := { np := 1, ns := 4, dfl := [], gen := false, body :=
    (.seq (.ifs (.or (.not (.isi (.var 0) [.str])) (.or (.cmp (.var 0) [.eq] (.cons (.cst (.str [])) .nil)) (.not (.bi .all (.cons (.lc (.gen (.nm 3) (.itv (.var 0)) .nil (.elt (.cmp (.var 3) [.mem] (.cons (.cst (.str [97, 98, 99, 100, 101, 102, 103, 104])) .nil))))) .nil)))))
    (.ret (.cst (.bl false)))
    .nop)
    (.ret (.bi .all (.cons (.lc (.gen (.tup (.cons (.nm 1) (.cons (.nm 2) .nil))) (.zip (.cons (.var 0) (.cons (.sli (.var 0) (.prt (.cst (.int 1))) (.cst .non)) .nil))) .nil (.elt (.cmp (.var 1) [.lt] (.cons (.var 2) .nil))))) .nil)))) }
def f_number_in : Fn := { np := 1, ns := 2, dfl := [], gen := false, body :=
    (.seq (.ifs (.or (.cmp (.var 0) [.eq] (.cons (.cst (.str [])) .nil)) (.or (.not (.bi .all (.cons (.lc (.gen (.nm 1) (.itv (.var 0)) .nil (.elt (.cmp (.var 1) [.mem] (.cons (.cst (.str [48, 49, 50, 51, 52, 53, 54, 55, 56, 57])) .nil))))) .nil))) (.cmp (.bi .len (.cons (.var 0) .nil)) [.gt] (.cons (.cst (.int 9)) .nil))))
    (.ret (.cst .non))
    .nop)
    (.ret (.ite (.cmp (.bi .str (.cons (.bi .int (.cons (.var 0) .nil)) .nil)) [.eq] (.cons (.var 0) .nil)) (.bi .int (.cons (.var 0) .nil)) (.cst .non)))) }
def f_item_of : Fn := { np := 3, ns := 4, dfl := [], gen := false, body :=
    (.seq (.ifs (.or (.not (.isi (.var 0) [.str])) (.or (.cmp (.bi .len (.cons (.var 0) .nil)) [.lt] (.cons (.cst (.int 2)) .nil)) (.cmp (.idx (.var 0) (.cst (.int 0))) [.nmem] (.cons (.cst (.str [97, 98])) .nil))))
    (.ret (.cst .non))
    .nop)
    (.seq (.asg (.nm 3) (.call 122 (.cons (.sli (.var 0) (.prt (.cst (.int 1))) (.cst .non)) .nil)))
    (.seq (.ifs (.or (.cmp (.var 3) [.isn] (.cons (.cst .non) .nil)) (.not (.cmp (.cst (.int 1)) [.le, .le] (.cons (.var 3) (.cons (.ite (.cmp (.idx (.var 0) (.cst (.int 0))) [.eq] (.cons (.cst (.str [97])) .nil)) (.var 1) (.var 2)) .nil)))))
    (.ret (.cst .non))
    .nop)
    (.ret (.tup (.cons (.ite (.cmp (.idx (.var 0) (.cst (.int 0))) [.eq] (.cons (.cst (.str [97])) .nil)) (.cst (.str [65])) (.cst (.str [66]))) (.cons (.var 3) .nil))))))) }
def f_is_look : Fn := { np := 3, ns := 10, dfl := [], gen := false, body :=
    (.seq (.ifs (.or (.not (.isi (.var 0) [.tuple])) (.or (.cmp (.bi .len (.cons (.var 0) .nil)) [.lt] (.cons (.cst (.int 3)) .nil)) (.not (.isi (.idx (.var 0) (.cst (.int 0))) [.str]))))
    (.ret (.cst (.bl false)))
    .nop)
    (.seq (.asg (.tup (.cons (.nm 3) (.cons (.nm 4) .nil))) (.sli (.var 0) (.cst .non) (.prt (.cst (.int 2)))))
    (.seq (.ifs (.and (.cmp (.var 3) [.mem] (.cons (.tup (.cons (.cst (.str [99, 111, 108, 111, 117, 114])) (.cons (.cst (.str [114, 111, 119])) .nil))) .nil)) (.cmp (.bi .len (.cons (.var 0) .nil)) [.eq] (.cons (.cst (.int 3)) .nil)))
    (.seq (.asg (.nm 5) (.ite (.cmp (.var 3) [.eq] (.cons (.cst (.str [99, 111, 108, 111, 117, 114])) .nil)) (.call 121 (.cons (.idx (.var 0) (.cst (.int 2))) .nil)) (.and (.isi (.idx (.var 0) (.cst (.int 2))) [.str]) (.cmp (.idx (.var 0) (.cst (.int 2))) [.mem] (.cons (.tup (.cons (.cst (.str [65])) (.cons (.cst (.str [66])) .nil))) .nil)))))
    (.ret (.and (.call 118 (.cons (.var 4) (.cons (.cst (.int 1)) (.cons (.bin .add (.var 1) (.var 2)) .nil)))) (.var 5))))
    .nop)
    (.seq (.ifs (.and (.cmp (.var 3) [.eq] (.cons (.cst (.str [97, 104, 101, 97, 100])) .nil)) (.cmp (.bi .len (.cons (.var 0) .nil)) [.eq] (.cons (.cst (.int 3)) .nil)))
    (.seq (.asg (.tup (.cons (.nm 8) (.cons (.nm 9) .nil))) (.tup (.cons (.call 123 (.cons (.var 4) (.cons (.var 1) (.cons (.var 2) .nil)))) (.cons (.call 123 (.cons (.idx (.var 0) (.cst (.int 2))) (.cons (.var 1) (.cons (.var 2) .nil)))) .nil))))
    (.ret (.and (.cmp (.var 8) [.isnot] (.cons (.cst .non) .nil)) (.and (.cmp (.var 9) [.isnot] (.cons (.cst .non) .nil)) (.cmp (.idx (.var 8) (.cst (.int 0))) [.ne] (.cons (.idx (.var 9) (.cst (.int 0))) .nil))))))
    .nop)
    (.seq (.ifs (.or (.cmp (.var 3) [.nmem] (.cons (.tup (.cons (.cst (.str [119, 105, 110, 100, 111, 119])) (.cons (.cst (.str [116, 97, 108, 108, 121])) .nil))) .nil)) (.or (.cmp (.bi .len (.cons (.var 0) .nil)) [.ne] (.cons (.cst (.int 4)) .nil)) (.or (.not (.call 117 (.cons (.idx (.var 0) (.cst (.int 2))) .nil))) (.not (.call 117 (.cons (.idx (.var 0) (.cst (.int 3))) .nil))))))
    (.ret (.cst (.bl false)))
    .nop)
    (.seq (.asg (.tup (.cons (.nm 6) (.cons (.nm 7) .nil))) (.sli (.var 0) (.prt (.cst (.int 2))) (.cst .non)))
    (.seq (.ifs (.cmp (.var 3) [.eq] (.cons (.cst (.str [119, 105, 110, 100, 111, 119])) .nil))
    (.ret (.and (.cmp (.call 123 (.cons (.var 4) (.cons (.var 1) (.cons (.var 2) .nil)))) [.isnot] (.cons (.cst .non) .nil)) (.cmp (.cst (.int 1)) [.le, .le, .le] (.cons (.var 6) (.cons (.var 7) (.cons (.bin .add (.var 1) (.var 2)) .nil))))))
    .nop)
    (.ret (.and (.call 118 (.cons (.var 4) (.cons (.cst (.int 1)) (.cons (.bin .add (.var 1) (.var 2)) .nil)))) (.cmp (.cst (.int 0)) [.le, .le, .le] (.cons (.var 6) (.cons (.var 7) (.cons (.cst (.int 12)) .nil))))))))))))) }
def f_forbids : Fn := { np := 3, ns := 11, dfl := [], gen := false, body :=
    (.seq (.asg (.tup (.cons (.nm 3) (.cons (.nm 4) (.cons (.nm 5) .nil)))) (.var 2))
    (.seq (.asg (.tup (.cons (.nm 6) (.cons (.nm 7) (.cons (.nm 8) .nil)))) (.tup (.cons (.idx (.var 0) (.cst (.int 0))) (.cons (.bin .add (.bin .add (.var 4) (.var 5)) (.cst (.int 1))) (.cons (.ite (.cmp (.idx (.var 2) (.cst (.int 0))) [.eq] (.cons (.cst (.str [65])) .nil)) (.bin .add (.var 4) (.cst (.int 1))) (.bin .add (.var 5) (.cst (.int 1)))) .nil)))))
    (.seq (.ifs (.cmp (.var 6) [.eq] (.cons (.cst (.str [99, 111, 108, 111, 117, 114])) .nil))
    (.ret (.and (.cmp (.var 7) [.eq] (.cons (.idx (.var 0) (.cst (.int 1))) .nil)) (.cmp (.idx (.idx (.var 1) (.mth (.cst (.str [65, 66])) 8 (.cons (.var 3) .nil))) (.bin .sub (.var 8) (.cst (.int 1)))) [.nmem] (.cons (.idx (.var 0) (.cst (.int 2))) .nil))))
    .nop)
    (.seq (.ifs (.cmp (.var 6) [.eq] (.cons (.cst (.str [114, 111, 119])) .nil))
    (.ret (.and (.cmp (.var 7) [.eq] (.cons (.idx (.var 0) (.cst (.int 1))) .nil)) (.cmp (.var 3) [.ne] (.cons (.idx (.var 0) (.cst (.int 2))) .nil))))
    .nop)
    (.seq (.ifs (.cmp (.var 6) [.eq] (.cons (.cst (.str [116, 97, 108, 108, 121])) .nil))
    (.ret (.and (.cmp (.var 7) [.eq] (.cons (.idx (.var 0) (.cst (.int 1))) .nil)) (.not (.cmp (.idx (.var 0) (.cst (.int 2))) [.le, .le] (.cons (.ite (.cmp (.var 3) [.eq] (.cons (.cst (.str [65])) .nil)) (.bin .add (.var 4) (.cst (.int 1))) (.var 4)) (.cons (.idx (.var 0) (.cst (.int 3))) .nil))))))
    .nop)
    (.seq (.asg (.tup (.cons (.nm 9) (.cons (.nm 10) .nil))) (.tup (.cons (.mth (.idx (.idx (.var 0) (.cst (.int 1))) (.cst (.int 0))) 9 .nil) (.cons (.bi .int (.cons (.sli (.idx (.var 0) (.cst (.int 1))) (.prt (.cst (.int 1))) (.cst .non)) .nil)) .nil))))
    (.seq (.ifs (.or (.cmp (.var 3) [.ne] (.cons (.var 9) .nil)) (.cmp (.var 8) [.ne] (.cons (.var 10) .nil)))
    (.ret (.cst (.bl false)))
    .nop)
    (.seq (.ifs (.cmp (.var 6) [.eq] (.cons (.cst (.str [119, 105, 110, 100, 111, 119])) .nil))
    (.ret (.not (.cmp (.idx (.var 0) (.cst (.int 2))) [.le, .le] (.cons (.var 7) (.cons (.idx (.var 0) (.cst (.int 3))) .nil)))))
    .nop)
    (.ret (.cmp (.ite (.cmp (.var 3) [.eq] (.cons (.cst (.str [65])) .nil)) (.var 5) (.var 4)) [.ge] (.cons (.bi .int (.cons (.sli (.idx (.var 0) (.cst (.int 2))) (.prt (.cst (.int 1))) (.cst .non)) .nil)) .nil))))))))))) }
def f_is_step : Fn := { np := 3, ns := 3, dfl := [], gen := false, body :=
    (.seq (.ifs (.or (.not (.isi (.var 0) [.tuple])) (.or (.cmp (.bi .len (.cons (.var 0) .nil)) [.ne] (.cons (.cst (.int 3)) .nil)) (.not (.isi (.idx (.var 0) (.cst (.int 0))) [.str]))))
    (.ret (.cst (.bl false)))
    .nop)
    (.seq (.ifs (.cmp (.idx (.var 0) (.cst (.int 0))) [.eq] (.cons (.cst (.str [65])) .nil))
    (.ret (.and (.call 118 (.cons (.idx (.var 0) (.cst (.int 1))) (.cons (.cst (.int 0)) (.cons (.bin .sub (.var 1) (.cst (.int 1))) .nil)))) (.call 118 (.cons (.idx (.var 0) (.cst (.int 2))) (.cons (.cst (.int 0)) (.cons (.var 2) .nil))))))
    .nop)
    (.ret (.and (.cmp (.idx (.var 0) (.cst (.int 0))) [.eq] (.cons (.cst (.str [66])) .nil)) (.and (.call 118 (.cons (.idx (.var 0) (.cst (.int 1))) (.cons (.cst (.int 0)) (.cons (.var 1) .nil)))) (.call 118 (.cons (.idx (.var 0) (.cst (.int 2))) (.cons (.cst (.int 0)) (.cons (.bin .sub (.var 2) (.cst (.int 1))) .nil))))))))) }
def f_head : Fn := { np := 1, ns := 1, dfl := [], gen := false, body :=
    (.ret (.ite (.cmp (.idx (.var 0) (.cst (.int 0))) [.eq] (.cons (.cst (.str [65])) .nil)) (.tup (.cons (.bin .add (.idx (.var 0) (.cst (.int 1))) (.cst (.int 1))) (.cons (.idx (.var 0) (.cst (.int 2))) .nil))) (.tup (.cons (.idx (.var 0) (.cst (.int 1))) (.cons (.bin .add (.idx (.var 0) (.cst (.int 2))) (.cst (.int 1))) .nil))))) }
def f_tail : Fn := { np := 1, ns := 1, dfl := [], gen := false, body :=
    (.ret (.tup (.cons (.idx (.var 0) (.cst (.int 1))) (.cons (.idx (.var 0) (.cst (.int 2))) .nil)))) }
def f_Plan___init__ : Fn := { np := 4, ns := 5, dfl := [], gen := false, body :=
    (.seq (.fr (.nm 4) (.itv (.var 3))
    (.ifs (.not (.call 126 (.cons (.var 4) (.cons (.var 1) (.cons (.var 2) .nil)))))
    (.rse 5 .nil)
    .nop))
    (.seq (.sat (.var 0) 131 (.var 1))
    (.seq (.sat (.var 0) 132 (.var 2))
    (.sat (.var 0) 133 (.dc (.gen (.nm 4) (.itv (.var 3)) .nil (.ekv (.var 4) (.cst (.bl true))))))))) }
def f_Plan_of : Fn := { np := 2, ns := 7, dfl := [], gen := false, body :=
    (.seq (.ifs (.not (.call 120 (.cons (.var 0) .nil)))
    (.rse 2 .nil)
    .nop)
    (.seq (.asg (.tup (.cons (.nm 3) (.cons (.nm 4) .nil))) (.tup (.cons (.bi .len (.cons (.idx (.var 0) (.cst (.int 0))) .nil)) (.cons (.bi .len (.cons (.idx (.var 0) (.cst (.int 1))) .nil)) .nil))))
    (.seq (.fr (.nm 2) (.itv (.var 1))
    (.ifs (.not (.call 124 (.cons (.var 2) (.cons (.var 3) (.cons (.var 4) .nil)))))
    (.rse 3 .nil)
    .nop))
    (.ret (.mk 11 (.cons (.var 3) (.cons (.var 4) (.cons (.lc (.gen (.nm 5) (.itv (.call 103 (.cons (.var 3) (.cons (.var 4) .nil)))) (.cons (.not (.bi .any (.cons (.lc (.gen (.nm 6) (.itv (.var 1)) .nil (.elt (.call 125 (.cons (.var 6) (.cons (.var 0) (.cons (.var 5) .nil))))))) .nil))) .nil) (.elt (.var 5)))) .nil)))))))) }
def f_Plan_steps : Fn := { np := 1, ns := 1, dfl := [], gen := false, body :=
    (.ret (.bi .sorted (.cons (.att (.var 0) 133) .nil))) }
def f_Plan___contains__ : Fn := { np := 2, ns := 3, dfl := [], gen := false, body :=
    (.seq (.ifs (.or (.not (.isi (.var 1) [.cls 10])) (.cmp (.tup (.cons (.att (.var 1) 131) (.cons (.att (.var 1) 132) .nil))) [.ne] (.cons (.tup (.cons (.att (.var 0) 131) (.cons (.att (.var 0) 132) .nil))) .nil)))
    (.ret (.cst (.bl false)))
    .nop)
    (.ret (.bi .all (.cons (.lc (.gen (.nm 2) (.itv (.att (.var 1) 134)) .nil (.elt (.cmp (.var 2) [.mem] (.cons (.att (.var 0) 133) .nil))))) .nil)))) }
def f_Plan___bool__ : Fn := { np := 1, ns := 1, dfl := [], gen := false, body :=
    (.ret (.cmp (.tup (.cons (.att (.var 0) 131) (.cons (.att (.var 0) 132) .nil))) [.mem] (.cons (.call 140 (.cons (.att (.var 0) 131) (.cons (.att (.var 0) 132) (.cons (.att (.var 0) 133) .nil)))) .nil))) }
def f_Plan___eq__ : Fn := { np := 2, ns := 2, dfl := [], gen := false, body :=
    (.seq (.ifs (.not (.isi (.var 1) [.cls 11]))
    (.ret (.cst (.bl false)))
    .nop)
    (.ret (.cmp (.tup (.cons (.att (.var 0) 131) (.cons (.att (.var 0) 132) (.cons (.att (.var 0) 133) .nil)))) [.eq] (.cons (.tup (.cons (.att (.var 1) 131) (.cons (.att (.var 1) 132) (.cons (.att (.var 1) 133) .nil)))) .nil)))) }
def f_Plan___and__ : Fn := { np := 2, ns := 3, dfl := [], gen := false, body :=
    (.seq (.ifs (.cmp (.tup (.cons (.att (.var 0) 131) (.cons (.att (.var 0) 132) .nil))) [.ne] (.cons (.tup (.cons (.att (.var 1) 131) (.cons (.att (.var 1) 132) .nil))) .nil))
    (.rse 5 .nil)
    .nop)
    (.ret (.mk 11 (.cons (.att (.var 0) 131) (.cons (.att (.var 0) 132) (.cons (.lc (.gen (.nm 2) (.kys (.att (.var 0) 133)) (.cons (.cmp (.var 2) [.mem] (.cons (.att (.var 1) 133) .nil)) .nil) (.elt (.var 2)))) .nil)))))) }
def f_next_steps : Fn := { np := 2, ns := 3, dfl := [], gen := false, body :=
    (.ret (.lc (.gen (.nm 2) (.itv (.tup (.cons (.tup (.cons (.cst (.str [65])) (.cons (.idx (.var 1) (.cst (.int 0))) (.cons (.idx (.var 1) (.cst (.int 1))) .nil)))) (.cons (.tup (.cons (.cst (.str [66])) (.cons (.idx (.var 1) (.cst (.int 0))) (.cons (.idx (.var 1) (.cst (.int 1))) .nil)))) .nil)))) (.cons (.cmp (.var 2) [.mem] (.cons (.var 0) .nil)) .nil) (.elt (.var 2))))) }
def f_all_cells : Fn := { np := 2, ns := 4, dfl := [], gen := false, body :=
    (.ret (.lc (.gen (.nm 2) (.rng (.cons (.bin .add (.bin .add (.var 0) (.var 1)) (.cst (.int 1))) .nil)) .nil (.gen (.nm 3) (.rng (.cons (.bin .add (.var 0) (.cst (.int 1))) .nil)) (.cons (.cmp (.cst (.int 0)) [.le, .le] (.cons (.bin .sub (.var 2) (.var 3)) (.cons (.var 1) .nil))) .nil) (.elt (.tup (.cons (.var 3) (.cons (.bin .sub (.var 2) (.var 3)) .nil)))))))) }
def f_come_to : Fn := { np := 3, ns := 6, dfl := [], gen := false, body :=
    (.seq (.asg (.nm 3) (.dsp (.cons (.tup (.cons (.cst (.int 0)) (.cons (.cst (.int 0)) .nil))) (.cons (.cst (.bl true)) .nil))))
    (.seq (.fr (.nm 4) (.itv (.call 139 (.cons (.var 0) (.cons (.var 1) .nil))))
    (.ifs (.cmp (.var 4) [.mem] (.cons (.var 3) .nil))
    (.fr (.nm 5) (.itv (.call 137 (.cons (.var 2) (.cons (.var 4) .nil))))
    (.six (.var 3) (.call 127 (.cons (.var 5) .nil)) (.cst (.bl true))))
    .nop))
    (.ret (.var 3)))) }
def f_come_from : Fn := { np := 3, ns := 6, dfl := [], gen := false, body :=
    (.seq (.asg (.nm 3) (.dsp (.cons (.tup (.cons (.var 0) (.cons (.var 1) .nil))) (.cons (.cst (.bl true)) .nil))))
    (.seq (.fr (.nm 4) (.itv (.rev (.call 139 (.cons (.var 0) (.cons (.var 1) .nil)))))
    (.ifs (.bi .any (.cons (.lc (.gen (.nm 5) (.itv (.call 137 (.cons (.var 2) (.cons (.var 4) .nil)))) .nil (.elt (.cmp (.call 127 (.cons (.var 5) .nil)) [.mem] (.cons (.var 3) .nil))))) .nil))
    (.six (.var 3) (.var 4) (.cst (.bl true)))
    .nop))
    (.ret (.var 3)))) }
def f_possible_steps : Fn := { np := 1, ns := 4, dfl := [], gen := false, body :=
    (.seq (.asg (.nm 1) (.call 140 (.cons (.att (.var 0) 131) (.cons (.att (.var 0) 132) (.cons (.att (.var 0) 133) .nil)))))
    (.seq (.asg (.nm 2) (.call 141 (.cons (.att (.var 0) 131) (.cons (.att (.var 0) 132) (.cons (.att (.var 0) 133) .nil)))))
    (.ret (.dc (.gen (.nm 3) (.itv (.att (.var 0) 134)) (.cons (.and (.cmp (.call 128 (.cons (.var 3) .nil)) [.mem] (.cons (.var 1) .nil)) (.cmp (.call 127 (.cons (.var 3) .nil)) [.mem] (.cons (.var 2) .nil))) .nil) (.ekv (.var 3) (.cst (.bl true)))))))) }
def f_is_priced : Fn := { np := 3, ns := 3, dfl := [], gen := false, body :=
    (.seq (.ifs (.or (.not (.isi (.var 0) [.tuple])) (.cmp (.bi .len (.cons (.var 0) .nil)) [.ne] (.cons (.cst (.int 2)) .nil)))
    (.ret (.cst (.bl false)))
    .nop)
    (.ret (.and (.call 124 (.cons (.idx (.var 0) (.cst (.int 0))) (.cons (.var 1) (.cons (.var 2) .nil)))) (.call 118 (.cons (.idx (.var 0) (.cst (.int 1))) (.cons (.cst (.int 1)) (.cons (.cst (.int 1000000)) .nil))))))) }
def f_check_priced : Fn := { np := 2, ns := 3, dfl := [], gen := false, body :=
    (.seq (.exp (.call 180 (.cons (.var 0) .nil)))
    (.ifs (.not (.bi .all (.cons (.lc (.gen (.nm 2) (.itv (.var 1)) .nil (.elt (.call 145 (.cons (.var 2) (.cons (.bi .len (.cons (.idx (.var 0) (.cst (.int 0))) .nil)) (.cons (.bi .len (.cons (.idx (.var 0) (.cst (.int 1))) .nil)) .nil))))))) .nil)))
    (.rse 3 .nil)
    .nop)) }
def f_Costs___init__ : Fn := { np := 3, ns := 6, dfl := [], gen := false, body :=
    (.seq (.sat (.var 0) 131 (.bi .len (.cons (.idx (.var 1) (.cst (.int 0))) .nil)))
    (.seq (.sat (.var 0) 132 (.bi .len (.cons (.idx (.var 1) (.cst (.int 1))) .nil)))
    (.seq (.sat (.var 0) 135 (.dc (.gen (.nm 3) (.itv (.call 103 (.cons (.att (.var 0) 131) (.cons (.att (.var 0) 132) .nil)))) .nil (.ekv (.var 3) (.bi .sum (.cons (.lc (.gen (.tup (.cons (.nm 4) (.cons (.nm 5) .nil))) (.itv (.var 2)) (.cons (.call 125 (.cons (.var 4) (.cons (.var 1) (.cons (.var 3) .nil)))) .nil) (.elt (.var 5)))) .nil))))))
    (.seq (.sat (.var 0) 136 (.mth (.var 0) 137 .nil))
    (.seq (.sat (.var 0) 138 (.mth (.var 0) 139 .nil))
    (.sat (.var 0) 140 (.idx (.att (.var 0) 136) (.tup (.cons (.att (.var 0) 131) (.cons (.att (.var 0) 132) .nil)))))))))) }
def f_Costs_from_start : Fn := { np := 1, ns := 5, dfl := [], gen := false, body :=
    (.seq (.asg (.nm 1) (.dsp (.cons (.tup (.cons (.cst (.int 0)) (.cons (.cst (.int 0)) .nil))) (.cons (.cst (.int 0)) .nil))))
    (.seq (.fr (.nm 2) (.itv (.call 139 (.cons (.att (.var 0) 131) (.cons (.att (.var 0) 132) .nil))))
    (.fr (.nm 3) (.itv (.call 137 (.cons (.att (.var 0) 135) (.cons (.var 2) .nil))))
    (.seq (.asg (.nm 4) (.bin .add (.idx (.var 1) (.var 2)) (.idx (.att (.var 0) 135) (.var 3))))
    (.ifs (.or (.cmp (.call 127 (.cons (.var 3) .nil)) [.nmem] (.cons (.var 1) .nil)) (.cmp (.var 4) [.lt] (.cons (.idx (.var 1) (.call 127 (.cons (.var 3) .nil))) .nil)))
    (.six (.var 1) (.call 127 (.cons (.var 3) .nil)) (.var 4))
    .nop))))
    (.ret (.var 1)))) }
def f_Costs_to_end : Fn := { np := 1, ns := 5, dfl := [], gen := false, body :=
    (.seq (.asg (.nm 1) (.dsp (.cons (.tup (.cons (.att (.var 0) 131) (.cons (.att (.var 0) 132) .nil))) (.cons (.cst (.int 0)) .nil))))
    (.seq (.fr (.nm 2) (.itv (.rev (.call 139 (.cons (.att (.var 0) 131) (.cons (.att (.var 0) 132) .nil)))))
    (.seq (.asg (.nm 3) (.lc (.gen (.nm 4) (.itv (.call 137 (.cons (.att (.var 0) 135) (.cons (.var 2) .nil)))) .nil (.elt (.bin .add (.idx (.att (.var 0) 135) (.var 4)) (.idx (.var 1) (.call 127 (.cons (.var 4) .nil))))))))
    (.ifs (.cmp (.var 3) [.ne] (.cons (.lst .nil) .nil))
    (.six (.var 1) (.var 2) (.bi .min (.cons (.var 3) .nil)))
    .nop)))
    (.ret (.var 1)))) }
def f_Costs_through : Fn := { np := 2, ns := 2, dfl := [], gen := false, body :=
    (.ret (.bin .add (.bin .add (.idx (.att (.var 0) 136) (.call 128 (.cons (.var 1) .nil))) (.idx (.att (.var 0) 135) (.var 1))) (.idx (.att (.var 0) 138) (.call 127 (.cons (.var 1) .nil))))) }
def f_Costs_tight_plan : Fn := { np := 1, ns := 2, dfl := [], gen := false, body :=
    (.ret (.mk 11 (.cons (.att (.var 0) 131) (.cons (.att (.var 0) 132) (.cons (.lc (.gen (.nm 1) (.kys (.att (.var 0) 135)) (.cons (.cmp (.mth (.var 0) 141 (.cons (.var 1) .nil)) [.eq] (.cons (.att (.var 0) 140) .nil)) .nil) (.elt (.var 1)))) .nil))))) }
def f_cheapest : Fn := { np := 2, ns := 10, dfl := [], gen := false, body :=
    (.seq (.exp (.call 181 (.cons (.var 0) (.cons (.var 1) .nil))))
    (.seq (.asg (.nm 2) (.mk 12 (.cons (.var 0) (.cons (.var 1) .nil))))
    (.seq (.asg (.tup (.cons (.nm 4) (.cons (.nm 5) (.cons (.nm 6) .nil)))) (.tup (.cons (.att (.mth (.var 2) 147 .nil) 133) (.cons (.tup (.cons (.cst (.int 0)) (.cons (.cst (.int 0)) .nil))) (.cons (.cst (.str [])) .nil)))))
    (.seq (.whl (.cmp (.var 5) [.ne] (.cons (.tup (.cons (.att (.var 2) 131) (.cons (.att (.var 2) 132) .nil))) .nil))
    (.seq (.asg (.nm 7) (.idx (.call 137 (.cons (.var 4) (.cons (.var 5) .nil))) (.neg (.cst (.int 1)))))
    (.asg (.tup (.cons (.nm 5) (.cons (.nm 6) .nil))) (.tup (.cons (.call 127 (.cons (.var 7) .nil)) (.cons (.bin .add (.var 6) (.idx (.var 7) (.cst (.int 0)))) .nil))))))
    (.seq (.asg (.nm 3) (.lc (.gen (.nm 8) (.rng (.cons (.bin .add (.att (.var 2) 131) (.cst (.int 1))) .nil)) .nil (.elt (.lc (.gen (.nm 9) (.rng (.cons (.bin .add (.att (.var 2) 132) (.cst (.int 1))) .nil)) .nil (.elt (.idx (.att (.var 2) 136) (.tup (.cons (.var 8) (.cons (.var 9) .nil)))))))))))
    (.ret (.tup (.cons (.att (.var 2) 140) (.cons (.mk 10 (.cons (.var 6) .nil)) (.cons (.var 3) .nil)))))))))) }
def f_cheapest_plan : Fn := { np := 2, ns := 2, dfl := [], gen := false, body :=
    (.seq (.exp (.call 181 (.cons (.var 0) (.cons (.var 1) .nil))))
    (.ret (.mth (.mk 12 (.cons (.var 0) (.cons (.var 1) .nil))) 147 .nil))) }
def f_marks : Fn := { np := 2, ns := 5, dfl := [], gen := false, body :=
    (.seq (.asg (.nm 2) (.call 183 (.cons (.var 0) (.cons (.var 1) .nil))))
    (.ret (.lc (.gen (.tup (.cons (.nm 3) (.cons (.nm 4) .nil))) (.itv (.var 1)) .nil (.elt (.call 185 (.cons (.var 2) (.cons (.var 0) (.cons (.var 3) .nil))))))))) }
def f_mark_in : Fn := { np := 3, ns := 5, dfl := [], gen := false, body :=
    (.seq (.asg (.nm 3) (.lc (.gen (.nm 4) (.itv (.att (.var 0) 134)) (.cons (.not (.call 125 (.cons (.var 2) (.cons (.var 1) (.cons (.var 4) .nil))))) .nil) (.elt (.var 4)))))
    (.seq (.ifs (.cmp (.bi .len (.cons (.var 3) .nil)) [.eq] (.cons (.bi .len (.cons (.att (.var 0) 134) .nil)) .nil))
    (.ret (.cst (.str [110, 111, 110, 101])))
    .nop)
    (.ret (.ite (.mk 11 (.cons (.att (.var 0) 131) (.cons (.att (.var 0) 132) (.cons (.var 3) .nil)))) (.cst (.str [115, 111, 109, 101])) (.cst (.str [97, 108, 108])))))) }
def f_price_of : Fn := { np := 4, ns := 7, dfl := [], gen := false, body :=
    (.seq (.exp (.call 181 (.cons (.var 0) (.cons (.var 1) .nil))))
    (.seq (.ifs (.or (.not (.call 118 (.cons (.var 2) (.cons (.cst (.int 1)) (.cons (.bi .len (.cons (.idx (.var 0) (.cst (.int 0))) .nil)) .nil))))) (.not (.call 118 (.cons (.var 3) (.cons (.cst (.int 1)) (.cons (.bi .len (.cons (.idx (.var 0) (.cst (.int 1))) .nil)) .nil))))))
    (.rse 15 .nil)
    .nop)
    (.seq (.asg (.nm 4) (.mk 12 (.cons (.var 0) (.cons (.var 1) .nil))))
    (.seq (.asg (.nm 5) (.lc (.gen (.nm 6) (.rng (.cons (.bin .add (.att (.var 4) 132) (.cst (.int 1))) .nil)) .nil (.elt (.mth (.var 4) 141 (.cons (.tup (.cons (.cst (.str [65])) (.cons (.bin .sub (.var 2) (.cst (.int 1))) (.cons (.var 6) .nil)))) .nil))))))
    (.ret (.tup (.cons (.bi .min (.cons (.sli (.var 5) (.cst .non) (.prt (.var 3))) .nil)) (.cons (.bi .min (.cons (.sli (.var 5) (.prt (.var 3)) (.cst .non)) .nil)) .nil)))))))) }
def f_l_said : Fn := { np := 3, ns := 4, dfl := [], gen := false, body :=
    (.seq (.asg (.nm 3) (.cst .non))
    (.seq (.tr (.ifs (.cmp (.var 0) [.lt] (.cons (.cst (.int 2)) .nil))
    (.asg (.nm 3) (.ite (.cmp (.var 0) [.eq] (.cons (.cst (.int 0)) .nil)) (.call 182 (.cons (.var 1) (.cons (.var 2) .nil))) (.call 183 (.cons (.var 1) (.cons (.var 2) .nil)))))
    (.asg (.nm 3) (.ite (.cmp (.var 0) [.eq] (.cons (.cst (.int 2)) .nil)) (.call 184 (.cons (.var 1) (.cons (.var 2) .nil))) (.call 186 (.cons (.var 1) (.cons (.var 2) (.cons (.cst (.int 0)) (.cons (.cst (.bl true)) .nil)))))))) (.hcons 2 none
    (.asg (.nm 3) (.cst (.str [114, 111, 119]))) (.hcons 3 none
    (.asg (.nm 3) (.cst (.str [108, 111, 111, 107]))) (.hcons 15 none
    (.asg (.nm 3) (.cst (.str [115, 116, 97, 116, 101, 109, 101, 110, 116]))) .hnil))))
    (.ret (.var 3)))) }
def f_l_refused_right : Fn := { np := 0, ns := 10, dfl := [], gen := false, body :=
    (.seq (.asg (.tup (.cons (.nm 2) (.cons (.nm 3) .nil))) (.tup (.cons (.tup (.cons (.cst (.str [114, 111, 119])) (.cons (.cst (.int 1)) (.cons (.cst (.str [65])) .nil)))) (.cons (.tup (.cons (.cst (.str [97, 98])) (.cons (.cst (.str [99])) .nil))) .nil))))
    (.seq (.asg (.nm 0) (.lst (.cons (.cst .non) (.cons (.tup .nil) (.cons (.tup (.cons (.var 2) .nil)) (.cons (.var 2) (.cons (.lst (.cons (.var 2) (.cons (.cst (.int 1)) .nil))) (.cons (.tup (.cons (.var 2) (.cons (.cst (.int 0)) .nil))) .nil))))))))
    (.seq (.asg (.nm 0) (.bin .add (.var 0) (.lst (.cons (.tup (.cons (.var 2) (.cons (.cst (.bl true)) .nil))) (.cons (.tup (.cons (.var 2) (.cons (.cst (.int 1000001)) .nil))) (.cons (.tup (.cons (.var 2) (.cons (.cst .non) .nil))) (.cons (.tup (.cons (.cst .non) (.cons (.cst (.int 1)) .nil))) (.cons (.tup (.cons (.var 2) (.cons (.cst (.int 1)) (.cons (.cst (.int 1)) .nil)))) .nil))))))))
    (.seq (.asg (.nm 0) (.bin .add (.var 0) (.lst (.cons (.tup (.cons (.tup (.cons (.cst (.str [114, 111, 119])) (.cons (.cst (.int 4)) (.cons (.cst (.str [65])) .nil)))) (.cons (.cst (.int 1)) .nil))) (.cons (.tup (.cons (.tup (.cons (.cst (.str [99, 111, 108, 111, 117, 114])) (.cons (.cst (.int 1)) (.cons (.cst (.str [98, 97])) .nil)))) (.cons (.cst (.int 1)) .nil))) (.cons (.tup (.cons (.var 2) (.cons (.cst (.str [49])) .nil))) .nil))))))
    (.seq (.fr (.nm 1) (.rng (.cons (.cst (.int 4)) .nil))
    (.seq (.fr (.nm 4) (.itv (.tup (.cons (.cst .non) (.cons (.tup (.cons (.cst (.str [97, 98])) .nil)) (.cons (.lst (.cons (.cst (.str [97, 98])) (.cons (.cst (.str [99])) .nil))) (.cons (.tup (.cons (.cst (.str [97, 98])) (.cons (.cst (.str [99, 100, 120])) .nil))) (.cons (.tup (.cons (.bin .mul (.cst (.str [97])) (.cst (.int 13))) (.cons (.cst (.str [])) .nil))) (.cons (.tup (.cons (.cst (.str [])) (.cons (.bin .mul (.cst (.str [97])) (.cst (.int 13))) .nil))) .nil))))))))
    (.ifs (.cmp (.call 187 (.cons (.var 1) (.cons (.var 4) (.cons (.lst (.cons (.cst .non) .nil)) .nil)))) [.ne] (.cons (.cst (.str [114, 111, 119])) .nil))
    (.ret (.cst (.bl false)))
    .nop))
    (.seq (.ifs (.cmp (.lc (.gen (.nm 9) (.itv (.var 0)) (.cons (.cmp (.call 187 (.cons (.var 1) (.cons (.var 3) (.cons (.lst (.cons (.tup (.cons (.var 2) (.cons (.cst (.int 1000000)) .nil))) (.cons (.var 9) .nil))) .nil)))) [.ne] (.cons (.cst (.str [108, 111, 111, 107])) .nil)) .nil) (.elt (.var 9)))) [.ne] (.cons (.lst .nil) .nil))
    (.ret (.cst (.bl false)))
    .nop)
    (.seq (.ifs (.cmp (.lc (.gen (.nm 9) (.itv (.var 0)) (.cons (.cmp (.call 187 (.cons (.var 1) (.cons (.var 3) (.cons (.lst (.cons (.var 9) (.cons (.tup (.cons (.var 2) (.cons (.cst (.int 1)) .nil))) .nil))) .nil)))) [.ne] (.cons (.cst (.str [108, 111, 111, 107])) .nil)) .nil) (.elt (.var 9)))) [.ne] (.cons (.lst .nil) .nil))
    (.ret (.cst (.bl false)))
    .nop)
    (.ifs (.cmp (.lc (.gen (.nm 9) (.itv (.var 0)) (.cons (.cmp (.call 187 (.cons (.var 1) (.cons (.var 3) (.cons (.lst (.cons (.var 9) .nil)) .nil)))) [.ne] (.cons (.cst (.str [108, 111, 111, 107])) .nil)) .nil) (.elt (.var 9)))) [.ne] (.cons (.lst .nil) .nil))
    (.ret (.cst (.bl false)))
    .nop)))))
    (.seq (.fr (.tup (.cons (.nm 5) (.cons (.nm 6) .nil))) (.itv (.lst (.cons (.tup (.cons (.cst (.int 1)) (.cons (.neg (.cst (.int 1))) .nil))) (.cons (.tup (.cons (.cst (.int 1)) (.cons (.cst (.int 2)) .nil))) (.cons (.tup (.cons (.cst (.int 3)) (.cons (.cst (.int 1)) .nil))) (.cons (.tup (.cons (.cst (.int 0)) (.cons (.cst (.int 1)) .nil))) (.cons (.tup (.cons (.cst (.int 1)) (.cons (.cst (.int 0)) .nil))) (.cons (.tup (.cons (.neg (.cst (.int 1))) (.cons (.cst (.int 1)) .nil))) (.cons (.tup (.cons (.cst (.int 3)) (.cons (.cst (.int 2)) .nil))) (.cons (.tup (.cons (.bin .pow (.cst (.int 10)) (.cst (.int 30))) (.cons (.cst (.int 1)) .nil))) .nil))))))))))
    (.seq (.asg (.nm 7) (.cst (.bl false)))
    (.seq (.tr (.exp (.call 186 (.cons (.var 3) (.cons (.lst (.cons (.tup (.cons (.var 2) (.cons (.cst (.int 1)) .nil))) .nil)) (.cons (.var 5) (.cons (.var 6) .nil)))))) (.hcons 15 (some 8)
    (.asg (.nm 7) (.cst (.bl true))) .hnil))
    (.ifs (.not (.var 7))
    (.ret (.cst (.bl false)))
    .nop))))
    (.ret (.cmp (.call 187 (.cons (.cst (.int 3)) (.cons (.var 3) (.cons (.lst .nil) .nil)))) [.eq] (.cons (.cst (.str [115, 116, 97, 116, 101, 109, 101, 110, 116])) .nil))))))))) }
def f_law_v2 : Fn := { np := 1, ns := 5, dfl := [], gen := false, body :=
    (.seq (.ifs (.not (.call 188 .nil))
    (.ret (.cst (.bl false)))
    .nop)
    (.seq (.asg (.tup (.cons (.nm 3) (.cons (.nm 4) .nil))) (.tup (.cons (.tup (.cons (.cst (.str [99])) (.cons (.cst (.str [103])) .nil))) (.cons (.lst (.cons (.tup (.cons (.tup (.cons (.cst (.str [97, 104, 101, 97, 100])) (.cons (.cst (.str [98, 49])) (.cons (.cst (.str [97, 49])) .nil)))) (.cons (.cst (.int 3)) .nil))) (.cons (.tup (.cons (.tup (.cons (.cst (.str [99, 111, 108, 111, 117, 114])) (.cons (.cst (.int 1)) (.cons (.cst (.str [99])) .nil)))) (.cons (.cst (.int 4)) .nil))) .nil))) .nil))))
    (.seq (.asg (.nm 1) (.call 182 (.cons (.var 3) (.cons (.var 4) .nil))))
    (.seq (.ifs (.cmp (.tup (.cons (.idx (.var 1) (.cst (.int 0))) (.cons (.att (.idx (.var 1) (.cst (.int 1))) 130) (.cons (.idx (.var 1) (.cst (.int 2))) .nil)))) [.ne] (.cons (.tup (.cons (.cst (.int 3)) (.cons (.cst (.str [65, 66])) (.cons (.lst (.cons (.lst (.cons (.cst (.int 0)) (.cons (.cst (.int 4)) .nil))) (.cons (.lst (.cons (.cst (.int 0)) (.cons (.cst (.int 3)) .nil))) .nil))) .nil)))) .nil))
    (.ret (.cst (.bl false)))
    .nop)
    (.seq (.ifs (.cmp (.att (.call 183 (.cons (.var 3) (.cons (.var 4) .nil))) 134) [.ne] (.cons (.lst (.cons (.tup (.cons (.cst (.str [65])) (.cons (.cst (.int 0)) (.cons (.cst (.int 0)) .nil)))) (.cons (.tup (.cons (.cst (.str [66])) (.cons (.cst (.int 1)) (.cons (.cst (.int 0)) .nil)))) .nil))) .nil))
    (.ret (.cst (.bl false)))
    .nop)
    (.seq (.ifs (.cmp (.call 184 (.cons (.var 3) (.cons (.var 4) .nil))) [.ne] (.cons (.lst (.cons (.cst (.str [97, 108, 108])) (.cons (.cst (.str [110, 111, 110, 101])) .nil))) .nil))
    (.ret (.cst (.bl false)))
    .nop)
    (.seq (.ifs (.or (.cmp (.call 186 (.cons (.var 3) (.cons (.var 4) (.cons (.cst (.int 1)) (.cons (.cst (.int 1)) .nil))))) [.ne] (.cons (.tup (.cons (.cst (.int 3)) (.cons (.cst (.int 4)) .nil))) .nil)) (.cmp (.idx (.call 182 (.cons (.var 3) (.cons (.bin .add (.var 4) (.var 4)) .nil))) (.cst (.int 0))) [.ne] (.cons (.cst (.int 6)) .nil)))
    (.ret (.cst (.bl false)))
    .nop)
    (.seq (.ifs (.cmp (.call 184 (.cons (.var 3) (.cons (.lst (.cons (.tup (.cons (.tup (.cons (.cst (.str [114, 111, 119])) (.cons (.cst (.int 1)) (.cons (.cst (.str [65])) .nil)))) (.cons (.cst (.int 5)) .nil))) (.cons (.tup (.cons (.tup (.cons (.cst (.str [114, 111, 119])) (.cons (.cst (.int 1)) (.cons (.cst (.str [66])) .nil)))) (.cons (.cst (.int 5)) .nil))) .nil))) .nil))) [.ne] (.cons (.lst (.cons (.cst (.str [115, 111, 109, 101])) (.cons (.cst (.str [115, 111, 109, 101])) .nil))) .nil))
    (.ret (.cst (.bl false)))
    .nop)
    (.seq (.asg (.nm 1) (.call 182 (.cons (.tup (.cons (.cst (.str [])) (.cons (.cst (.str [])) .nil))) (.cons (.lst .nil) .nil))))
    (.seq (.ifs (.or (.cmp (.tup (.cons (.idx (.var 1) (.cst (.int 0))) (.cons (.att (.idx (.var 1) (.cst (.int 1))) 130) (.cons (.idx (.var 1) (.cst (.int 2))) .nil)))) [.ne] (.cons (.tup (.cons (.cst (.int 0)) (.cons (.cst (.str [])) (.cons (.lst (.cons (.lst (.cons (.cst (.int 0)) .nil)) .nil)) .nil)))) .nil)) (.cmp (.att (.call 183 (.cons (.tup (.cons (.cst (.str [])) (.cons (.cst (.str [])) .nil))) (.cons (.lst .nil) .nil))) 134) [.ne] (.cons (.lst .nil) .nil)))
    (.ret (.cst (.bl false)))
    .nop)
    (.seq (.asg (.nm 2) (.bin .mul (.lst (.cons (.tup (.cons (.tup (.cons (.cst (.str [114, 111, 119])) (.cons (.cst (.int 1)) (.cons (.cst (.str [65])) .nil)))) (.cons (.cst (.int 1000000)) .nil))) (.cons (.tup (.cons (.tup (.cons (.cst (.str [114, 111, 119])) (.cons (.cst (.int 1)) (.cons (.cst (.str [66])) .nil)))) (.cons (.cst (.int 1000000)) .nil))) .nil))) (.cst (.int 20))))
    (.seq (.asg (.nm 1) (.call 182 (.cons (.tup (.cons (.cst (.str [97, 97, 97, 97])) (.cons (.cst (.str [98, 98, 98, 98])) .nil))) (.cons (.var 2) .nil))))
    (.seq (.ifs (.or (.cmp (.idx (.var 1) (.cst (.int 0))) [.ne] (.cons (.cst (.int 20000000)) .nil)) (.or (.cmp (.att (.idx (.var 1) (.cst (.int 1))) 130) [.ne] (.cons (.cst (.str [66, 66, 66, 66, 65, 65, 65, 65])) .nil)) (.cmp (.call 184 (.cons (.tup (.cons (.cst (.str [97])) (.cons (.cst (.str [98])) .nil))) (.cons (.var 2) .nil))) [.ne] (.cons (.bin .mul (.lst (.cons (.cst (.str [115, 111, 109, 101])) .nil)) (.cst (.int 40))) .nil))))
    (.ret (.cst (.bl false)))
    .nop)
    (.ret (.and (.cmp (.bi .len (.cons (.att (.call 183 (.cons (.tup (.cons (.cst (.str [97, 97, 97, 97])) (.cons (.cst (.str [98, 98, 98, 98])) .nil))) (.cons (.var 2) .nil))) 134) .nil)) [.eq] (.cons (.cst (.int 40)) .nil)) (.cmp (.call 184 (.cons (.tup (.cons (.cst (.str [97])) (.cons (.cst (.str [98])) .nil))) (.cons (.lst .nil) .nil))) [.eq] (.cons (.lst .nil) .nil))))))))))))))))) }
def fns : List (Nat × Fn) := ([(103, f_all_steps), (104, f_is_text), (105, f_profile_of), (106, f_text_of), (107, f_Weaving___init__), (108, f_Weaving_profile), (109, f_Weaving_steps), (110, f_Weaving_cells), (111, f_Weaving___len__), (112, f_Weaving___eq__), (113, f_Weaving___le__), (116, f_check_sizes), (117, f_is_integer), (118, f_within), (119, f_is_row), (120, f_are_rows), (180, f_check_rows), (121, f_are_colours), (122, f_number_in), (123, f_item_of), (124, f_is_look), (125, f_forbids), (126, f_is_step), (127, f_head), (128, f_tail), (129, f_Plan___init__), (130, f_Plan_of), (131, f_Plan_steps), (132, f_Plan___contains__), (133, f_Plan___bool__)] : List (Nat × Fn)) ++
  ([(134, f_Plan___eq__), (135, f_Plan___and__), (137, f_next_steps), (139, f_all_cells), (140, f_come_to), (141, f_come_from), (142, f_possible_steps), (145, f_is_priced), (181, f_check_priced), (146, f_Costs___init__), (147, f_Costs_from_start), (148, f_Costs_to_end), (149, f_Costs_through), (150, f_Costs_tight_plan), (182, f_cheapest), (183, f_cheapest_plan), (184, f_marks), (185, f_mark_in), (186, f_price_of), (187, f_l_said), (188, f_l_refused_right), (189, f_law_v2)] : List (Nat × Fn))
def cls : List (Nat × Cl) := ([(1, { ms := [], base := none, flds := [], exc := true }),
  (2, { ms := [], base := some 1, flds := [], exc := true }),
  (3, { ms := [], base := some 1, flds := [], exc := true }),
  (4, { ms := [], base := some 1, flds := [], exc := true }),
  (5, { ms := [], base := some 1, flds := [], exc := true }),
  (15, { ms := [], base := some 1, flds := [], exc := true }),
  (10, { ms := [(31, .inst, 107), (158, .prop, 108), (134, .prop, 109), (159, .prop, 110), (30, .inst, 111), (20, .inst, 112), (21, .inst, 113)], base := none, flds := [] }),
  (11, { ms := [(31, .inst, 129), (153, .stat, 130), (134, .prop, 131), (28, .inst, 132), (29, .inst, 133), (20, .inst, 134), (22, .inst, 135)], base := none, flds := [] }),
  (12, { ms := [(31, .inst, 146), (137, .inst, 147), (139, .inst, 148), (141, .inst, 149), (147, .inst, 150)], base := none, flds := [] })] : List (Nat × Cl))
def loose : List PySem.Str := (["_wall", "__name__", "BeltError", "BadRow", "BadLook", "BadWeaving", "BadStep", "BadStatement", "MOST_LETTERS", "all_steps", "is_text", "profile_of", "text_of", "Weaving", "check_sizes", "COLOURS", "MOST_ITEMS", "MOST_PRICE", "is_integer", "within", "is_row", "are_rows", "check_rows", "are_colours", "number_in", "item_of", "is_look", "forbids", "is_step", "head"] : List (PySem.Str)) ++
  (["tail", "Plan", "next_steps", "texts_from", "all_cells", "come_to", "come_from", "possible_steps", "is_priced", "check_priced", "Costs", "cheapest", "cheapest_plan", "marks", "mark_in", "price_of", "_law_said", "_law_refused_right"] : List (PySem.Str))
def lawAt : Nat := 53
def lawId : Nat := 189
def topAt (i : Nat) : PySem.Stmt := (PySem.Challenge.pw_twobelts_k43_known_prices_and_refusals.main.body[i]?).getD (.Pass default)
def metAt (i j : Nat) : PySem.Stmt := ((C8.clsBody (topAt i))[j]?).getD (.Pass default)
def names : List (Nat × PySem.Str) := ([(1, "append"), (2, "pop"), (3, "get"), (4, "setdefault"), (5, "update"), (6, "join"), (7, "split"), (8, "index"), (9, "upper"), (10, "lower"), (11, "startswith"), (12, "insert"), (13, "remove"), (14, "reverse"), (15, "clear"), (20, "__eq__"), (21, "__le__"), (22, "__and__"), (23, "__or__"), (24, "__add__"), (25, "__mul__"), (26, "__rmul__"), (27, "__neg__"), (28, "__contains__"), (29, "__bool__"), (30, "__len__"), (31, "__init__"), (32, "__call__"), (130, "text"), (131, "n")] : List (Nat × PySem.Str)) ++
  ([(132, "m"), (133, "allowed"), (134, "steps"), (135, "of_step"), (136, "ahead"), (137, "from_start"), (138, "behind"), (139, "to_end"), (140, "lowest"), (141, "through"), (147, "tight_plan"), (153, "of"), (158, "profile"), (159, "cells"), (160, "weavings")] : List (Nat × PySem.Str))
def gls : List (PySem.Str × Gv) := ([("all_steps", .fn 103), ("is_text", .fn 104), ("profile_of", .fn 105), ("text_of", .fn 106), ("check_sizes", .fn 116), ("is_integer", .fn 117), ("within", .fn 118), ("is_row", .fn 119), ("are_rows", .fn 120), ("check_rows", .fn 180), ("are_colours", .fn 121), ("number_in", .fn 122), ("item_of", .fn 123), ("is_look", .fn 124), ("forbids", .fn 125), ("is_step", .fn 126), ("head", .fn 127), ("tail", .fn 128), ("next_steps", .fn 137), ("all_cells", .fn 139), ("come_to", .fn 140), ("come_from", .fn 141), ("possible_steps", .fn 142), ("is_priced", .fn 145), ("check_priced", .fn 181), ("cheapest", .fn 182), ("cheapest_plan", .fn 183), ("marks", .fn 184), ("mark_in", .fn 185), ("price_of", .fn 186)] : List (PySem.Str × Gv)) ++
  ([("_law_said", .fn 187), ("_law_refused_right", .fn 188), ("law", .fn 189), ("BeltError", .cl 1), ("BadRow", .cl 2), ("BadLook", .cl 3), ("BadWeaving", .cl 4), ("BadStep", .cl 5), ("BadStatement", .cl 15), ("Weaving", .cl 10), ("Plan", .cl 11), ("Costs", .cl 12), ("MOST_LETTERS", .cv (.int 12)), ("COLOURS", .cv (.str [97, 98, 99, 100, 101, 102, 103, 104])), ("MOST_ITEMS", .cv (.int 12)), ("MOST_PRICE", .cv (.int 1000000)), ("all", .bf "all"), ("any", .bf "any"), ("bool", .bt "bool"), ("enumerate", .bt "enumerate"), ("int", .bt "int"), ("isinstance", .bf "isinstance"), ("len", .bf "len"), ("min", .bf "min"), ("range", .bt "range"), ("sorted", .bf "sorted"), ("str", .bt "str"), ("sum", .bf "sum"), ("tuple", .bt "tuple"), ("zip", .bt "zip")] : List (PySem.Str × Gv))
def atts : List Nat := [136, 133, 138, 140, 132, 131, 135, 134, 130]
def fnL : List FnI := ([⟨103, .glo "all_steps", "all_steps", "all_steps", ["n", "m", "found", "i", "j"], topAt 10⟩,
  ⟨104, .glo "is_text", "is_text", "is_text", ["value", "many", "letter"], topAt 11⟩,
  ⟨105, .glo "profile_of", "profile_of", "profile_of", ["text", "found", "letter"], topAt 12⟩,
  ⟨106, .glo "text_of", "text_of", "text_of", ["profile", "before", "after"], topAt 13⟩,
  ⟨107, .met "Weaving" "__init__", "__init__", "Weaving.__init__", ["self", "text"], metAt 14 0⟩,
  ⟨108, .prp "Weaving" "profile", "profile", "Weaving.profile", ["self"], metAt 14 2⟩,
  ⟨109, .prp "Weaving" "steps", "steps", "Weaving.steps", ["self", "heights", "place", "letter"], metAt 14 3⟩,
  ⟨110, .prp "Weaving" "cells", "cells", "Weaving.cells", ["self", "place", "height"], metAt 14 4⟩,
  ⟨111, .met "Weaving" "__len__", "__len__", "Weaving.__len__", ["self"], metAt 14 5⟩,
  ⟨112, .met "Weaving" "__eq__", "__eq__", "Weaving.__eq__", ["self", "other"], metAt 14 6⟩,
  ⟨113, .met "Weaving" "__le__", "__le__", "Weaving.__le__", ["self", "other", "one", "two"], metAt 14 7⟩,
  ⟨116, .glo "check_sizes", "check_sizes", "check_sizes", ["one", "other"], topAt 15⟩,
  ⟨117, .glo "is_integer", "is_integer", "is_integer", ["value"], topAt 20⟩,
  ⟨118, .glo "within", "within", "within", ["value", "low", "high"], topAt 21⟩,
  ⟨119, .glo "is_row", "is_row", "is_row", ["value", "letter"], topAt 22⟩,
  ⟨120, .glo "are_rows", "are_rows", "are_rows", ["value"], topAt 23⟩,
  ⟨180, .glo "check_rows", "check_rows", "check_rows", ["value"], topAt 24⟩,
  ⟨121, .glo "are_colours", "are_colours", "are_colours", ["value", "one", "other", "letter"], topAt 25⟩,
  ⟨122, .glo "number_in", "number_in", "number_in", ["text", "sign"], topAt 26⟩,
  ⟨123, .glo "item_of", "item_of", "item_of", ["value", "n", "m", "number"], topAt 27⟩,
  ⟨124, .glo "is_look", "is_look", "is_look", ["value", "n", "m", "word", "first", "right", "low", "high", "one", "other"], topAt 28⟩,
  ⟨125, .glo "forbids", "forbids", "forbids", ["look", "rows", "step", "row", "i", "j", "word", "place", "item", "own", "number"], topAt 29⟩,
  ⟨126, .glo "is_step", "is_step", "is_step", ["value", "n", "m"], topAt 31⟩,
  ⟨127, .glo "head", "head", "head", ["step"], topAt 32⟩,
  ⟨128, .glo "tail", "tail", "tail", ["step"], topAt 33⟩,
  ⟨129, .met "Plan" "__init__", "__init__", "Plan.__init__", ["self", "n", "m", "steps", "step"], metAt 34 0⟩,
  ⟨130, .sta "Plan" "of", "of", "Plan.of", ["rows", "looks", "look", "n", "m", "step", "one"], metAt 34 1⟩,
  ⟨131, .prp "Plan" "steps", "steps", "Plan.steps", ["self"], metAt 34 2⟩,
  ⟨132, .met "Plan" "__contains__", "__contains__", "Plan.__contains__", ["self", "weaving", "step"], metAt 34 3⟩,
  ⟨133, .met "Plan" "__bool__", "__bool__", "Plan.__bool__", ["self"], metAt 34 4⟩] : List (FnI)) ++
  ([⟨134, .met "Plan" "__eq__", "__eq__", "Plan.__eq__", ["self", "other"], metAt 34 5⟩,
  ⟨135, .met "Plan" "__and__", "__and__", "Plan.__and__", ["self", "other", "step"], metAt 34 6⟩,
  ⟨137, .glo "next_steps", "next_steps", "next_steps", ["allowed", "cell", "step"], topAt 35⟩,
  ⟨139, .glo "all_cells", "all_cells", "all_cells", ["n", "m", "k", "i"], topAt 37⟩,
  ⟨140, .glo "come_to", "come_to", "come_to", ["n", "m", "allowed", "found", "cell", "step"], topAt 38⟩,
  ⟨141, .glo "come_from", "come_from", "come_from", ["n", "m", "allowed", "found", "cell", "step"], topAt 39⟩,
  ⟨142, .glo "possible_steps", "possible_steps", "possible_steps", ["plan", "ahead", "behind", "step"], topAt 40⟩,
  ⟨145, .glo "is_priced", "is_priced", "is_priced", ["value", "n", "m"], topAt 42⟩,
  ⟨181, .glo "check_priced", "check_priced", "check_priced", ["rows", "priced", "pair"], topAt 43⟩,
  ⟨146, .met "Costs" "__init__", "__init__", "Costs.__init__", ["self", "rows", "priced", "step", "look", "price"], metAt 44 0⟩,
  ⟨147, .met "Costs" "from_start", "from_start", "Costs.from_start", ["self", "found", "cell", "step", "cost"], metAt 44 1⟩,
  ⟨148, .met "Costs" "to_end", "to_end", "Costs.to_end", ["self", "found", "cell", "some", "step"], metAt 44 2⟩,
  ⟨149, .met "Costs" "through", "through", "Costs.through", ["self", "step"], metAt 44 3⟩,
  ⟨150, .met "Costs" "tight_plan", "tight_plan", "Costs.tight_plan", ["self", "step"], metAt 44 4⟩,
  ⟨182, .glo "cheapest", "cheapest", "cheapest", ["rows", "priced", "costs", "table", "allowed", "cell", "text", "step", "i", "j"], topAt 45⟩,
  ⟨183, .glo "cheapest_plan", "cheapest_plan", "cheapest_plan", ["rows", "priced"], topAt 46⟩,
  ⟨184, .glo "marks", "marks", "marks", ["rows", "priced", "plan", "look", "price"], topAt 47⟩,
  ⟨185, .glo "mark_in", "mark_in", "mark_in", ["plan", "rows", "look", "right", "step"], topAt 48⟩,
  ⟨186, .glo "price_of", "price_of", "price_of", ["rows", "priced", "p", "q", "costs", "prices", "j"], topAt 49⟩,
  ⟨187, .glo "_law_said", "_law_said", "_law_said", ["_law_call", "_law_rows", "_law_priced", "_law_told"], topAt 51⟩,
  ⟨188, .glo "_law_refused_right", "_law_refused_right", "_law_refused_right", ["_law_odd", "_law_call", "_law_look", "_law_rows", "_law_thing", "_law_p", "_law_q", "_law_caught", "error", "_law_pair"], topAt 52⟩,
  ⟨189, .glo "law", "law", "law", ["_law_script", "_law_told", "_law_many", "_law_rows", "_law_priced"], topAt 53⟩] : List (FnI))
def clL : List (Nat × PySem.Str) := ([(1, "BeltError"), (2, "BadRow"), (3, "BadLook"), (4, "BadWeaving"), (5, "BadStep"), (15, "BadStatement"), (10, "Weaving"), (11, "Plan"), (12, "Costs")] : List (Nat × PySem.Str))
def exL : List (Nat × Nat) := []
def hd : Hd := ⟨fns, cls, gls, atts, names, fnL, clL, exL⟩
theorem stat : statB hd = true := by decide +kernel
set_option maxRecDepth 2000000 in
theorem told (ns : List Int) : isTrueR (callF hd.T (40 + 1) lawId [.ref 0] (scr ns)) = true := by
  rw [← callQ_eq]
  kernel_rfl
abbrev R : PySem.W.OpenRow := PySem.W.OpenLaw.row PySem.Challenge.rw_twobelts_k43_known_prices_and_refusals
abbrev hk : PySem.W.Hook := hookW 7 hd lawId
def ob (s : PySem.W.SharedT) : AlW := obsW 7 hd lawId (HandSHeadRun.getT s)
theorem ob_eq (s : PySem.W.SharedT) : ob s = hk.obs s.abs := obsW_eq (HandSHeadRun.getT_eq s)
theorem run (w : World) : HandSHeadRun.RunEq R (PySem.W.view R.prog [53]) hk ob 6000 loose w := by
  intro os
  kernel_rfl
end TB.P
open PySem.W PySem.Calls PyProof.Rows PySem
theorem PySem.Challenge.cw_twobelts_k43_known_prices_and_refusals_holds : PySem.Challenge.rw_twobelts_k43_known_prices_and_refusals.Holds := by
  w_on; o_law
  refine HandSHeadRun.head_any (r := OpenLaw.row PySem.Challenge.rw_twobelts_k43_known_prices_and_refusals) (q := view (OpenLaw.row PySem.Challenge.rw_twobelts_k43_known_prices_and_refusals).prog [53]) (H := TB.P.hk) (ob := TB.P.ob) (M := 6000) (loose := TB.P.loose) (d := HandSHeadRun.topDef (OpenLaw.row PySem.Challenge.rw_twobelts_k43_known_prices_and_refusals).prog 53) (kwd := []) TB.P.ob_eq
    (by kernel_rfl) (fun s => by kernel_rfl) TB.P.run (by kernel_rfl) (by kernel_rfl) (by kernel_rfl) (by rfl) (by first | assumption | decide +kernel) (by decide +kernel) ⟨rfl, rfl, rfl, rfl, rfl, by decide +kernel⟩ ?hw ?hc
  case hw => w_witness2
  case hc =>
    exact TB.law_tb (l := PySem.Challenge.rw_twobelts_k43_known_prices_and_refusals) (D := TB.P.hd) (law := TB.P.lawId) (d := 40) (x := "_law_script") (n := 63) (F0 := 7) (F := TB.P.f_law_v2) rfl (by decide) (by kernel_rfl) ⟨rfl, by decide, by decide⟩ TB.P.stat (by kernel_rfl) (by kernel_rfl) rfl rfl (by kernel_rfl) fun ns _ => TB.P.told ns
