import PyProof.Rows.All
import HandS.ForMost
import PyProof.ReprLen
import HandS.ForExc
import HandS.Wide
import HandS.Flow
import HandS.IsInst
import HandS.SortInts
import HandS.TupAny
import HandS.TupMul
import HandS.Walk
import HandS.Zip
import HandS.FStr
import HandS.RaiseMore
import HandS.Deep
import HandS.Style
import HandS.EndBits
import HandS.Words
import HandS.Lambda
import HandS.TupLe
import HandS.TupSets
import KE.DataMinMax
import HandS.More
import HandS.Strs
import HandS.SetBool
import HandS.SetFor
import HandS.Dict
import KE.GoesEnumKw
import HandS.Iter
import HandS.Zip0
import HandS.Conv
import HandS.ExcIs
import HandS.ExcOwn
import HandS.TryOnly
import HandS.HotCalls
import KE.KNest
import PySem.Challenge.RW_outlasts_k62_bands_refused
set_option Elab.async false
set_option linter.all false
/-! A small evaluator for the sub-language that the program and its laws are written in, over data by value. -/
namespace MP

/-- keys of dicts -/
abbrev Ky := Sum Int (List Nat)

/-- the exception classes of the program -/
inductive Ex where
  | spanError | noBook | noTime | noShare | noParts | noPlain | noKind | noMarks | noWord | noFull | noNumber | noBand | noName | noDay | noDeed | noFraction | noText | noLine | tooMany
  deriving DecidableEq

/-- classes of objects -/
inductive Cl where
  | ledger | desk
  deriving DecidableEq

/-- the words of refusals -/
def exW : Ex → List Nat
  | .noBook => [98, 111, 111, 107]
  | .noTime => [116, 105, 109, 101]
  | .noShare => [115, 104, 97, 114, 101]
  | .noParts => [112, 97, 114, 116, 115]
  | .noPlain => [112, 108, 97, 105, 110]
  | .noKind => [107, 105, 110, 100]
  | .noMarks => [109, 97, 114, 107, 115]
  | .noWord => [119, 111, 114, 100]
  | .noFull => [102, 117, 108, 108]
  | .noNumber => [110, 117, 109, 98, 101, 114]
  | .noBand => [98, 97, 110, 100]
  | .noName => [110, 97, 109, 101]
  | .noDay => [100, 97, 121]
  | .noDeed => [100, 101, 101, 100]
  | .noFraction => [102, 114, 97, 99, 116, 105, 111, 110]
  | .noText => [116, 101, 120, 116]
  | .noLine => [108, 105, 110, 101]
  | .tooMany => [109, 97, 110, 121]
  | .spanError => [111, 116, 104, 101, 114]
/-- may be raised: without an own __init__ -/
def Ex.okc : Ex → Bool
  | .spanError => false
  | .tooMany => false
  | _ => true
def wTold : List Nat := [116, 111, 108, 100]
/-- attributes -/
inductive Fd where
  | tellings | stood | kept
  deriving DecidableEq

/-- data by value; ref n: the n-th object of the evaluator's heap; scr: the script -/
inductive D where
  | non
  | bl (b : Bool)
  | int (i : Int)
  | str (s : List Nat)
  | tup (xs : List D)
  | lst (xs : List D)
  | dct (kvs : List (Ky × D))
  | ref (n : Nat)
  | exc (c : Ex)
  | scr (ns : List Int)

/-- objects -/
inductive O where
  | lst (xs : List D)
  | dct (kvs : List (Ky × D))
  | ins (c : Cl) (fs : List (Fd × D))

/-- what a slot holds: nothing, a value, an own list, an own dict -/
inductive SV where
  | un
  | v (d : D)
  | ol (xs : List D)
  | od (kvs : List (Ky × D))

abbrev Hh := List O
abbrev Env := List SV

inductive Res (α : Type) where
  | ok (a : α) (h : Hh)
  | exc (c : Ex) (h : Hh)
  | stk

namespace Res
def bind {α β : Type} (r : Res α) (f : α → Hh → Res β) : Res β :=
  match r with
  | .ok a h => f a h
  | .exc c h => .exc c h
  | .stk => .stk
@[simp] theorem bind_ok {α β : Type} (a : α) (h : Hh) (f : α → Hh → Res β) : (Res.ok a h).bind f = f a h := rfl
@[simp] theorem bind_exc {α β : Type} (c : Ex) (h : Hh) (f : α → Hh → Res β) : (Res.exc c h).bind f = .exc c h := rfl
@[simp] theorem bind_stk {α β : Type} (f : α → Hh → Res β) : (Res.stk : Res α).bind f = .stk := rfl
/-- without exceptions -/
def intX : Res D → Res D
  | .ok (.int i) h => .ok (.int i) h
  | _ => .stk
def noX {α : Type} : Res α → Res α
  | .ok a h => .ok a h
  | _ => .stk
end Res

inductive SRes where
  | nx (r : Env) (h : Hh)
  | rt (v : SV) (h : Hh)
  | bk (r : Env) (h : Hh)
  | ct (r : Env) (h : Hh)
  | exc (c : Ex) (h : Hh)
  | stk

inductive Bop where
  | add | sub | mul | fdiv | mod | pow
  deriving DecidableEq
inductive Cop where
  | eq | ne | lt | le | gt | ge | is | isNot | isIn | notIn
  deriving DecidableEq
inductive Ty where
  | int | bool | str | tuple | list | valueError | lookType | ex (c : Ex) | cls (c : Cl)
  deriving DecidableEq
/-- built-in functions and types -/
inductive Bl where
  | len | abs | all | any | dict | int | list | max | min | repr | sorted | str | sum | tuple
  deriving DecidableEq
/-- methods of built-in types -/
inductive Bm where
  | count | index | items | join | partition | split | strip | hpop
  deriving DecidableEq

/-- targets -/
inductive Tg where
  | nm (i : Nat)
  | tup (ts : List Tg)
  | star (i j : Nat)
  | own (i : Nat)

mutual
inductive E where
  | var (i : Nat)
  | olen (i : Nat)
  | oidx (i : Nat) (e : E)
  | glob (g : Nat)
  | int (i : Int)
  | bl (b : Bool)
  | non
  | str (s : List Nat)
  | tup (es : Es)
  | lst (es : Es)
  | dct (kvs : Es)
  | alloc (e : E)
  | bin (op : Bop) (a b : E)
  | neg (a : E)
  | cmp (op : Cop) (a b : E)
  | cmp2 (o1 o2 : Cop) (a b c : E)
  | cmp3 (o1 o2 o3 : Cop) (a b c d : E)
  | and (es : Es)
  | or (es : Es)
  | not (a : E)
  | ifx (c a b : E)
  | sub (a i : E)
  | slc (a lo hi : E)
  | rev (a : E)
  | call (f : Nat) (es : Es)
  | blt (b : Bl) (es : Es)
  | isi (a : E) (t : Ty)
  | meth (o : E) (m : Nat) (es : Es)
  | bm (o : E) (m : Bm) (es : Es)
  | attr (o : E) (f : Fd)
  | make (c : Cl)
  | lc (t : Tg) (it : It) (ifs : Es) (elt : E)
  | ssc (t : Tg) (it : It) (ifs : Es) (elt : E)
  | sset (a : E)
  | lrg (a b c : Int)
  | fstr (es : Es)
  | said (e : E)
  | dead
  | tapp (o : E) (m : Nat) (es : Es) (a : E)
  | tclr (o : E) (m : Nat) (es : Es)
inductive Es where
  | nil
  | cons (e : E) (es : Es)
inductive It where
  | e (e : E)
  | r1 (a : E)
  | r2 (a b : E)
  | r3 (a b c : E)
  | zip (a b : E) (strict : Bool)
  | enum (a : E)
end

mutual
inductive S where
  | expr (e : E)
  | asg (t : Tg) (e : E)
  | asgO (i : Nat) (e : E)
  | par (ts : List Tg) (es : Es)
  | freeze (i : Nat)
  | app (i : Nat) (e : E)
  | setH (o i e : E)
  | setO (i : Nat) (k e : E)
  | popO (i : Nat) (k : E)
  | setA (o : E) (f : Fd) (e : E)
  | appH (o e : E)
  | popH (o : E)
  | ifs (c : E) (a b : Ss)
  | whl (c : E) (b : Ss)
  | for (t : Tg) (it : It) (b : Ss)
  | ret (e : E)
  | retN
  | retF (e : E)
  | retO (i : Nat)
  | raise (c : Ex)
  | brk
  | cont
  | pass
inductive Ss where
  | nil
  | cons (s : S) (ss : Ss)
end

/-- a def: how many parameters, defaults of the last ones, how many slots, the body -/
structure Def where
  np : Nat
  dfl : List D
  ns : Nat
  body : Ss

/-- the program: defs by number, constants of the top by number, methods by class and number -/
structure Prog where
  rz : Bool := false
  fn : Nat → Option Def
  gl : Nat → Option D
  me : Cl → Nat → Option Nat
  init : Cl → Nat

def E.isNon : E → Bool
  | .non => true
  | _ => false
def Es.len : Es → Nat
  | .nil => 0
  | .cons _ es => es.len + 1

/-! ### data -/
def lim : Nat := 16777216

mutual
def D.beq : D → D → Bool
  | .non, .non => true
  | .bl a, .bl b => a == b
  | .int i, .int j => i == j
  | .str s, .str t => s == t
  | .tup xs, .tup ys => D.beqs xs ys
  | .lst xs, .lst ys => D.beqs xs ys
  | .dct xs, .dct ys => D.beqk xs ys
  | .ref n, .ref m => n == m
  | .exc c, .exc d => decide (c = d)
  | _, _ => false
def D.beqs : List D → List D → Bool
  | [], [] => true
  | x :: xs, y :: ys => D.beq x y && D.beqs xs ys
  | _, _ => false
def D.beqk : List (Ky × D) → List (Ky × D) → Bool
  | [], [] => true
  | (k, x) :: xs, (j, y) :: ys => decide (k = j) && D.beq x y && D.beqk xs ys
  | _, _ => false
end

/- == of data without dicts and objects, as Python has it -/
mutual
def D.eqv : D → D → Bool
  | .non, .non => true
  | .bl a, .bl b => a == b
  | .bl a, .int j => (if a then 1 else 0) == j
  | .int i, .bl b => i == (if b then 1 else 0)
  | .int i, .int j => i == j
  | .str s, .str t => s == t
  | .tup xs, .tup ys => D.eqvs xs ys
  | .lst xs, .lst ys => D.eqvs xs ys
  | _, _ => false
def D.eqvs : List D → List D → Bool
  | [], [] => true
  | x :: xs, y :: ys => D.eqv x y && D.eqvs xs ys
  | _, _ => false
end

/- none of dicts, objects, exceptions, nor deeper than n -/
mutual
def D.plain : Nat → D → Bool
  | _, .non => true
  | _, .bl _ => true
  | _, .int _ => true
  | _, .str s => s.all fun c => decide (c < 128)
  | 0, .tup _ => false
  | n + 1, .tup xs => D.plains n xs
  | 0, .lst _ => false
  | n + 1, .lst xs => D.plains n xs
  | _, _ => false
def D.plains : Nat → List D → Bool
  | _, [] => true
  | n, x :: xs => D.plain n x && D.plains n xs
end

def getK {α : Type} (kvs : List (Ky × α)) (k : Ky) : Option α := (kvs.find? fun p => decide (p.1 = k)).map (·.2)
def putK {α : Type} (kvs : List (Ky × α)) (k : Ky) (v : α) : List (Ky × α) :=
  if (kvs.any fun p => decide (p.1 = k)) = true then kvs.map (fun p => if p.1 = k then (p.1, v) else p) else kvs ++ [(k, v)]
def delK {α : Type} (kvs : List (Ky × α)) (k : Ky) : List (Ky × α) := kvs.filter fun p => decide (p.1 ≠ k)

def D.ky : D → Option Ky
  | .int i => some (.inl i)
  | .str s => some (.inr s)
  | _ => none
def kyD : Ky → D
  | .inl i => .int i
  | .inr s => .str s

/-- the text of a number -/
def natText (n : Nat) : List Nat := (Nat.toDigits 10 n).map Char.toNat
def intText (i : Int) : List Nat := if i < 0 then 45 :: natText i.natAbs else natText i.natAbs

def SV.fz : SV → Option D
  | .un => none
  | .v d => some d
  | .ol xs => some (.lst xs)
  | .od kvs => some (.dct kvs)

/-- the items of a sequence -/
def items (d : D) (h : Hh) : Option (List D) :=
  match d with
  | .tup xs => some xs
  | .lst xs => some xs
  | .ref n => match h[n]? with
    | some (.lst xs) => some xs
    | _ => none
  | _ => none
def itemsL (d : D) (h : Hh) : Option (List D) :=
  match d with
  | .lst xs => some xs
  | .ref n => match h[n]? with
    | some (.lst xs) => some xs
    | _ => none
  | _ => none
def deref (d : D) (h : Hh) : D :=
  match d with
  | .ref n => match h[n]? with
    | some (.lst xs) => .lst xs
    | _ => .ref n
  | _ => d

/-- truth -/
def truth (d : D) (h : Hh) : Option Bool :=
  match d with
  | .non => some false
  | .bl b => some b
  | .int i => some (decide (i ≠ 0))
  | .str s => if s.length ≤ lim then some (!s.isEmpty) else none
  | .tup xs => some (!xs.isEmpty)
  | .lst xs => some (!xs.isEmpty)
  | .dct kvs => some (!kvs.isEmpty)
  | .ref n => match h[n]? with
    | some (.lst xs) => some (!xs.isEmpty)
    | _ => none
  | .exc _ => none
  | .scr _ => none

def D.isNon : D → Bool
  | .non => true
  | _ => false
def D.flat : D → Bool
  | .non => true
  | .bl _ => true
  | .int _ => true
  | .str _ => true
  | _ => false

def D.isStr : D → Bool
  | .str _ => true
  | _ => false
/-! ### operators -/
def binop (op : Bop) (a b : D) (h : Hh) : Option D :=
  match op, deref a h, deref b h with
  | .add, .int i, .int j => some (.int (i + j))
  | .add, .str s, .str t => if s.length + t.length ≤ lim then some (.str (s ++ t)) else none
  | .add, .lst xs, .lst ys => if xs.length + ys.length ≤ lim then some (.lst (xs ++ ys)) else none
  | .add, .tup xs, .tup ys => if xs.length + ys.length ≤ lim then some (.tup (xs ++ ys)) else none
  | .sub, .int i, .int j => some (.int (i - j))
  | .mul, .int i, .int j => if i.natAbs.log2 + j.natAbs.log2 < 1000000 then some (.int (i * j)) else none
  | .mul, .tup xs, .int k => if xs.length ≠ 0 ∧ 2 ≤ k ∧ k ≤ 1000 ∧ xs.length ≤ 1000 then some (.tup (List.replicate k.toNat xs).flatten) else none
  | .mul, .lst xs, .int k => if xs.length * k.toNat ≤ lim ∧ -1000000 ≤ k ∧ k ≤ 1000000 then some (.lst (List.replicate k.toNat xs).flatten) else none
  | .fdiv, .int i, .int j => if 0 < j ∧ j.natAbs.log2 < 9000 then some (.int (i / j)) else none
  | .mod, .int i, .int j => if 0 < j then some (.int (i % j)) else none
  | .pow, .int i, .int j => if 0 ≤ j ∧ j ≤ 1000 ∧ i.natAbs < 2 ^ 64 then some (.int (i ^ j.toNat)) else none
  | _, _, _ => none

def isIn (x y : D) (h : Hh) : Option Bool :=
  match x, y with
  | .str [c], .str t => some (t.contains c)
  | _, .dct kvs => match x.ky with
    | some k => some (getK kvs k).isSome
    | none => none
  | _, .tup ys => if x.flat && ys.all D.flat then some (ys.any fun z => D.eqv z x) else none
  | _, _ => match itemsL y h with
    | some ys => if x.plain 60 && D.plains 59 ys then some (ys.any fun z => D.eqv z x) else none
    | none => none

def cmpop (op : Cop) (a b : D) (h : Hh) : Option Bool :=
  match op with
  | .lt => match a, b with | .int i, .int j => some (decide (i < j)) | _, _ => none
  | .le => match a, b with | .int i, .int j => some (decide (i ≤ j)) | _, _ => none
  | .gt => match a, b with | .int i, .int j => some (decide (j < i)) | _, _ => none
  | .ge => match a, b with | .int i, .int j => some (decide (j ≤ i)) | _, _ => none
  | .eq => if a.isStr && b.isStr then some (D.eqv a b) else if (deref a h).plain 60 && (deref b h).plain 60 then some (D.eqv (deref a h) (deref b h)) else none
  | .ne => if a.isStr && b.isStr then some (!D.eqv a b) else if (deref a h).plain 60 && (deref b h).plain 60 then some (!D.eqv (deref a h) (deref b h)) else none
  | .is => match b with
    | .non => some a.isNon
    | .bl c => match a with
      | .bl d => some (decide (d = c))
      | _ => none
    | _ => none
  | .isNot => match b with
    | .non => some (!a.isNon)
    | .bl c => match a with
      | .bl d => some (!decide (d = c))
      | _ => none
    | _ => none
  | .isIn => isIn a b h
  | .notIn => (isIn a b h).map (!·)

def subD (a i : D) (h : Hh) : Option D :=
  match a, i with
  | .dct kvs, k => match k.ky with
    | some k => getK kvs k
    | none => none
  | .str s, .int i => if s.length ≤ lim then (L2.atI s i).map fun c => .str [c] else none
  | .scr ns, .int i => (L2.atI ns i).map .int
  | a, .int i => match items a h with
    | some xs => L2.atI xs i
    | none => none
  | _, _ => none

def partD : D → Option (Option Int)
  | .int i => some (some i)
  | _ => none
def cutD {α : Type} (xs : List α) (lo hi : Option Int) : List α := (xs.drop (HT.sIx xs.length 0 lo)).take (HT.sIx xs.length xs.length hi - HT.sIx xs.length 0 lo)
def cutO (a : D) (l u : Option Int) (h : Hh) : Option D :=
  match deref a h with
  | .lst xs => some (.lst (cutD xs l u))
  | .tup xs => some (.tup (cutD xs l u))
  | .str s => if s.length ≤ lim then some (.str (cutD s l u)) else none
  | _ => none
def revD (a : D) (h : Hh) : Option D :=
  match deref a h with
  | .lst xs => some (.lst xs.reverse)
  | .tup xs => some (.tup xs.reverse)
  | _ => none

def intsD : List D → Option (List Int)
  | [] => some []
  | .int i :: r => (intsD r).map (i :: ·)
  | _ => none
def boolsD : List D → Option (List Bool)
  | [] => some []
  | .bl b :: r => (boolsD r).map (b :: ·)
  | _ => none
def strsD : List D → Option (List (List Nat))
  | [] => some []
  | .str s :: r => (strsD r).map (s :: ·)
  | _ => none
def pairsD : List D → Option (List (Ky × D))
  | [] => some []
  | .tup [k, v] :: r => match k.ky, pairsD r with
    | some k, some kvs => some ((k, v) :: kvs)
    | _, _ => none
  | _ => none

/-- keys and values in turns -/
def pairUp : List D → Option (List (Ky × D))
  | [] => some []
  | k :: v :: r => match k.ky, pairUp r with
    | some k, some kvs => some ((k, v) :: kvs)
    | _, _ => none
  | _ => none

/-- sorting -/
def insI (i : Int) : List Int → List Int
  | [] => [i]
  | j :: r => if i ≤ j then i :: j :: r else j :: insI i r
def sortI : List Int → List Int
  | [] => []
  | i :: r => insI i (sortI r)
def insU (i : Int) : List Int → List Int
  | [] => [i]
  | j :: r => if i < j then i :: j :: r else if i = j then j :: r else j :: insU i r
/-- sorted, each once -/
def sortU : List Int → List Int
  | [] => []
  | i :: r => insU i (sortU r)
def leL : List Nat → List Nat → Bool
  | [], _ => true
  | _ :: _, [] => false
  | a :: r, b :: s => decide (a < b) || (decide (a = b) && leL r s)
def insS (x : List Nat) : List (List Nat) → List (List Nat)
  | [] => [x]
  | y :: r => if leL x y then x :: y :: r else y :: insS x r
def sortS : List (List Nat) → List (List Nat)
  | [] => []
  | x :: r => insS x (sortS r)

/-- texts: joined, split, parted -/
def joinL (sep : List Nat) : List (List Nat) → List Nat
  | [] => []
  | [x] => x
  | x :: y :: r => x ++ sep ++ joinL sep (y :: r)
def splitC (c : Nat) : List Nat → List (List Nat)
  | [] => [[]]
  | a :: r => if a = c then [] :: splitC c r else match splitC c r with
    | [] => [[a]]
    | x :: xs => (a :: x) :: xs
def partC (c : Nat) : List Nat → List Nat × Option (List Nat)
  | [] => ([], none)
  | a :: r => if a = c then ([], some r) else let (x, y) := partC c r; (a :: x, y)
def digit? (c : Nat) : Bool := decide (48 ≤ c) && decide (c ≤ 57)
def digitsVal (s : List Nat) : Nat := s.foldl (fun n c => n * 10 + (c - 48)) 0

/-! ### texts of data -/
open PySem in
def toStr (s : List Nat) : Str := ⟨s.toArray⟩
def kyPy : Ky → PySem.PyData
  | .inl i => .int i
  | .inr s => .str (toStr s)
mutual
def toPy : D → PySem.PyData
  | .non => .none
  | .bl b => .bool b
  | .int i => .int i
  | .str s => .str (toStr s)
  | .tup xs => .tuple (toPys xs)
  | .lst xs => .list (toPys xs)
  | .dct kvs => .dict (toPyk kvs)
  | .ref _ => .none
  | .exc _ => .none
  | .scr _ => .none
def toPys : List D → List PySem.PyData
  | [] => []
  | x :: xs => toPy x :: toPys xs
def toPyk : List (Ky × D) → List (PySem.PyData × PySem.PyData)
  | [] => []
  | (k, v) :: r => (kyPy k, toPy v) :: toPyk r
end
/-- what a number weighs, where it may be shown -/
def intW (i : Int) : Option Nat := if i.natAbs < 1048576 then some 21 else if i.natAbs.log2 < 1920 then some 1921 else none
def strW (s : List Nat) : Option Nat := if s.all (fun c => decide (c < 128)) then some s.length else none
def kyW : Ky → Option Nat
  | .inl i => intW i
  | .inr s => strW s
/- may be shown, and what it weighs -/
mutual
def shw : Nat → D → Option Nat
  | _, .non => some 0
  | _, .bl _ => some 0
  | _, .int i => intW i
  | _, .str s => strW s
  | 0, .tup _ => none
  | n + 1, .tup xs => shws n xs
  | 0, .lst _ => none
  | n + 1, .lst xs => shws n xs
  | _, _ => none
def shws : Nat → List D → Option Nat
  | _, [] => some 0
  | n, x :: xs => match shw n x, shws n xs with
    | some a, some b => some (a + 1 + b)
    | _, _ => none
end
/- the same of data with dicts -/
mutual
def shwD : Nat → D → Option Nat
  | _, .non => some 0
  | _, .bl _ => some 0
  | _, .int i => intW i
  | _, .str s => strW s
  | 0, .tup _ => none
  | n + 1, .tup xs => shwDs n xs
  | 0, .lst _ => none
  | n + 1, .lst xs => shwDs n xs
  | 0, .dct _ => none
  | n + 1, .dct kvs => shwDk n kvs
  | _, _ => none
def shwDs : Nat → List D → Option Nat
  | _, [] => some 0
  | n, x :: xs => match shwD n x, shwDs n xs with
    | some a, some b => some (a + 1 + b)
    | _, _ => none
def shwDk : Nat → List (Ky × D) → Option Nat
  | _, [] => some 0
  | n, (k, x) :: xs => match kyW k, shwD n x, shwDk n xs with
    | some c, some a, some b => some (c + a + 2 + b)
    | _, _, _ => none
end
def reprX (d : D) : Option D :=
  match shwD 60 d with
  | some w => if w ≤ 8000 then some (.str (toPy d).shown.cps.toList) else none
  | none => none
def reprD (d : D) : Option D :=
  match shw 60 d with
  | some w => if w ≤ 8000 then some (.str (toPy d).shown.cps.toList) else none
  | none => reprX d

/-! ### built-ins -/
/-- tuples of ints, compared -/
def tupsI : List D → Option (List (List Int))
  | [] => some []
  | .tup xs :: ds => match intsD xs, tupsI ds with
    | some ns, some nss => some (ns :: nss)
    | _, _ => none
  | _ :: _ => none
def ltI : List Int → List Int → Bool
  | a :: as, b :: bs => decide (a < b) || (decide (a = b) && ltI as bs)
  | _, _ => false
def minI (n : List Int) (ns : List (List Int)) : List Int := ns.foldl (fun a y => if ltI y a = true then y else a) n
def blt (b : Bl) (ds : List D) (h : Hh) : Option D :=
  match b, ds with
  | .len, [.str s] => if s.length ≤ lim then some (.int s.length) else none
  | .len, [.dct kvs] => some (.int kvs.length)
  | .len, [.scr ns] => some (.int ns.length)
  | .len, [d] => (items d h).map fun xs => .int xs.length
  | .abs, [.int i] => some (.int (if i < 0 then -i else i))
  | .all, [d] => match itemsL d h with
    | some xs => (boolsD xs).map fun bs => .bl (bs.all id)
    | none => none
  | .any, [d] => match itemsL d h with
    | some xs => (boolsD xs).map fun bs => .bl (bs.any id)
    | none => none
  | .dict, [.dct kvs] => some (.dct kvs)
  | .dict, [d] => match itemsL d h with
    | some xs => (pairsD xs).map fun kvs => .dct (kvs.foldl (fun m p => putK m p.1 p.2) [])
    | none => none
  | .int, [.int i] => some (.int i)
  | .int, [.bl b] => some (.int (if b then 1 else 0))
  | .list, [.dct kvs] => some (.lst (kvs.map fun p => kyD p.1))
  | .list, [d] => (items d h).map .lst
  | .max, [.int i, .int j] => some (.int (if j > i then j else i))
  | .min, [.int i, .int j] => some (.int (if j < i then j else i))
  | .min, [d] => match itemsL d h with
    | some xs => match tupsI xs with
      | some (n :: ns) => if ns.all (fun m => decide (m.length = n.length)) = true then some (.tup ((minI n ns).map .int)) else none
      | _ => none
    | none => none
  | .repr, [d] => reprD d
  | .sorted, [d] => match itemsL d h with
    | some xs => match intsD xs with
      | some ns => some (.lst ((sortI ns).map .int))
      | none => none
    | none => none
  | .sum, [d] => match itemsL d h with
    | some xs => (intsD xs).map fun ns => .int ns.sum
    | none => none
  | .tuple, [d] => (items d h).map .tup
  | _, _ => none

def isiD (d : D) (t : Ty) (h : Hh) : Option Bool :=
  match d with
  | .exc c => match t with
    | .ex e => if c.okc = true ∧ e ≠ .spanError then some (decide (c = e)) else none
    | .valueError => if c.okc = true then some true else none
    | .lookType => if c.okc = true then some false else none
    | _ => none
  | .scr _ => none
  | .ref n => match h[n]? with
    | some (.lst _) => match t with
      | .list => some true
      | .int => some false
      | .bool => some false
      | .str => some false
      | .tuple => some false
      | _ => none
    | _ => none
  | d => match t with
    | .int => some (match d with | .int _ => true | .bl _ => true | _ => false)
    | .bool => some (match d with | .bl _ => true | _ => false)
    | .str => some (match d with | .str _ => true | _ => false)
    | .tuple => some (match d with | .tup _ => true | _ => false)
    | .list => some (match d with | .lst _ => true | _ => false)
    | _ => none

/-- what has such a method -/
def bmOk (m : Bm) (x : D) (h : Hh) : Bool :=
  match m, x with
  | .count, .lst _ => true
  | .index, .lst _ => true
  | .hpop, .ref n => match h[n]? with
    | some (.lst _) => true
    | _ => false
  | .join, .str _ => true
  | .partition, .str _ => true
  | .split, .str _ => true
  | .strip, .str _ => true
  | .items, .dct _ => true
  | _, _ => false
/-- methods of built-in types that change nothing -/
def bmeth (m : Bm) (o : D) (ds : List D) (h : Hh) : Option D :=
  match m, o, ds with
  | .count, .lst xs, [.bl b] => (boolsD xs).map fun bs => .int (bs.count b : Nat)
  | .index, .lst xs, [.bl b] => match boolsD xs with
    | some bs => (bs.findIdx? (· == b)).map fun i => .int (i : Nat)
    | none => none
  | .join, .str sep, [d] => match itemsL d h with
    | some xs => match strsD xs with
      | some ss => if (joinL sep ss).length ≤ lim then some (.str (joinL sep ss)) else none
      | none => none
    | none => none
  | .partition, .str s, [.str [c]] => if s.length ≤ lim then match partC c s with
      | (a, some b) => some (.tup [.str a, .str [c], .str b])
      | (a, none) => some (.tup [.str a, .str [], .str []])
    else none
  | .split, .str s, [.str [c]] => if s.length + 2 ≤ lim then some (.lst ((splitC c s).map .str)) else none
  | .items, .dct kvs, [] => some (.lst (kvs.map fun p => .tup [kyD p.1, p.2]))
  | _, _, _ => none

/-! ### targets -/
mutual
def bindTg : Tg → D → Env → Hh → Option Env
  | .nm i, d, r, _ => if i < r.length then some (r.set i (.v d)) else none
  | .tup ts, d, r, h => match d with
    | .tup xs => if xs.length = ts.length then bindTgs ts xs r h else none
    | _ => none
  | .star i j, d, r, h => match itemsL d h with
    | some (x :: xs) => if i < r.length ∧ j < r.length then some ((r.set i (.v x)).set j (.v (.lst xs))) else none
    | _ => none
  | .own _, _, _, _ => none
def bindTgs : List Tg → List D → Env → Hh → Option Env
  | [], [], r, _ => some r
  | t :: ts, x :: xs, r, h => match bindTg t x r h with
    | some r' => bindTgs ts xs r' h
    | none => none
  | _, _, _, _ => none
end

def bindSV : List Tg → List SV → Env → Hh → Option Env
  | [], [], r, _ => some r
  | .own i :: ts, .ol xs :: vs, r, h => if i < r.length then bindSV ts vs (r.set i (.ol xs)) h else none
  | t :: ts, .v d :: vs, r, h => match bindTg t d r h with
    | some r' => bindSV ts vs r' h
    | none => none
  | _, _, _, _ => none
mutual
/-- the slots of a target -/
def Tg.slots : Tg → List Nat
  | .nm i => [i]
  | .tup ts => Tg.slotss ts
  | .star i j => [i, j]
  | .own i => [i]
def Tg.slotss : List Tg → List Nat
  | [] => []
  | t :: ts => t.slots ++ Tg.slotss ts
end
def SV.owned : SV → Bool
  | .ol _ => true
  | .od _ => true
  | _ => false
/-- slots forgotten; none of them owns anything -/
def wipeE (r : Env) : List Nat → Option Env
  | [] => some r
  | i :: is => match wipeE r is with
    | some r' => match r'[i]? with
      | some sv => if sv.owned then none else some (r'.set i .un)
      | none => none
    | none => none

/-! ### loops -/
def enumD (xs : List D) : List D := List.zipWith (fun (i : Nat) x => .tup [.int (i : Nat), x]) (List.range xs.length) xs
def compGo (bd : D → Hh → Option Env) (ck : Env → Hh → Res Bool) (el : Env → Hh → Res D) : List D → Hh → Res (List D)
  | [], h => .ok [] h
  | x :: xs, h => match bd x h with
    | none => .stk
    | some r => (ck r h).bind fun b h1 => if b = true then (el r h1).bind fun y h2 => (compGo bd ck el xs h2).bind fun ys h3 => .ok (y :: ys) h3 else compGo bd ck el xs h1
def forGo (bd : D → Env → Hh → Option Env) (body : Env → Hh → SRes) : List D → Env → Hh → SRes
  | [], r, h => .nx r h
  | x :: xs, r, h => match bd x r h with
    | none => .stk
    | some r' => match body r' h with
      | .nx r1 h1 => forGo bd body xs r1 h1
      | .ct r1 h1 => forGo bd body xs r1 h1
      | .bk r1 h1 => .nx r1 h1
      | .rt v h1 => .rt v h1
      | .exc c h1 => .exc c h1
      | .stk => .stk
/-- over a list of the heap, that must stand still -/
def forGoH (n : Nat) (all : List D) (bd : D → Env → Hh → Option Env) (body : Env → Hh → SRes) : List D → Env → Hh → SRes
  | xs, r, h => match h[n]? with
    | some (.lst ys) => if D.beqs ys all then match xs with
        | [] => .nx r h
        | x :: xs => match bd x r h with
          | none => .stk
          | some r' => match body r' h with
            | .nx r1 h1 => forGoH n all bd body xs r1 h1
            | .ct r1 h1 => forGoH n all bd body xs r1 h1
            | .bk r1 h1 => .nx r1 h1
            | .rt v h1 => .rt v h1
            | .exc c h1 => .exc c h1
            | .stk => .stk
      else .stk
    | _ => .stk
def whileGo (ck : Env → Hh → Res Bool) (body : Env → Hh → SRes) : Nat → Env → Hh → SRes
  | 0, _, _ => .stk
  | n + 1, r, h => match ck r h with
    | .ok true h1 => match body r h1 with
      | .nx r1 h2 => whileGo ck body n r1 h2
      | .ct r1 h2 => whileGo ck body n r1 h2
      | .bk r1 h2 => .nx r1 h2
      | .rt v h2 => .rt v h2
      | .exc c h2 => .exc c h2
      | .stk => .stk
    | .ok false h1 => .nx r h1
    | .exc c h1 => .exc c h1
    | .stk => .stk
/-- how many turns a while may have -/
def FU : Nat := 2 ^ 5000

def opt {α : Type} (o : Option α) (h : Hh) : Res α :=
  match o with
  | some a => .ok a h
  | none => .stk
@[simp] theorem opt_some {α : Type} (a : α) (h : Hh) : opt (some a) h = .ok a h := rfl
@[simp] theorem opt_none {α : Type} (h : Hh) : opt (none : Option α) h = .stk := rfl

/-- a method of a built-in type -/
def bmGo (m : Bm) (x : D) (ds : List D) (h : Hh) : Res D :=
  match m, x, ds with
  | .hpop, .ref n, [.int i] => match h[n]? with
    | some (.lst xs) => match L2.ixN xs.length i with
      | some j => match xs[j]? with
        | some y => if xs.length ≤ lim then .ok y (h.set n (.lst (xs.eraseIdx j))) else .stk
        | none => .stk
      | none => .stk
    | _ => .stk
  | m, x, ds => opt (bmeth m x ds h) h
/-- does it make a new list, a new dict -/
def E.fresh : E → Bool
  | .lst _ => true
  | .dct _ => true
  | .lc _ _ _ _ => true
  | .blt .list _ => true
  | .blt .dict _ => true
  | .blt .sorted _ => true
  | _ => false

def rangeL (lo : Int) (n : Nat) (c : Int) : List D := (List.range n).map fun i : Nat => D.int (lo + (i : Int) * c)

section
variable (P : Prog) (cl : Nat → List D → Hh → Res SV)
mutual
def evE : E → Env → Hh → Res D
  | .var i, r, h => match r[i]? with
    | some (.v d) => .ok d h
    | _ => .stk
  | .olen i, r, h => match r[i]? with
    | some (.ol xs) => .ok (.int xs.length) h
    | some (.v d) => opt (blt .len [d] h) h
    | _ => .stk
  | .oidx i e, r, h => match r[i]? with
    | some (.ol xs) => (evE e r h).bind fun k h1 => match k with
      | .int j => opt (L2.atI xs j) h1
      | _ => .stk
    | some (.od kvs) => (evE e r h).bind fun k h1 => opt (k.ky.bind (getK kvs)) h1
    | some (.v d) => (evE e r h).bind fun k h1 => opt (subD d k h1) h1
    | _ => .stk
  | .glob g, _, h => opt (P.gl g) h
  | .int i, _, h => .ok (.int i) h
  | .bl b, _, h => .ok (.bl b) h
  | .non, _, h => .ok .non h
  | .str s, _, h => .ok (.str s) h
  | .tup es, r, h => (evEs es r h).bind fun ds h1 => .ok (.tup ds) h1
  | .lst es, r, h => (evEs es r h).bind fun ds h1 => .ok (.lst ds) h1
  | .dct kvs, r, h => (evEs kvs r h).bind fun ds h1 => opt ((pairUp ds).map fun kvs => .dct (kvs.foldl (fun m p => putK m p.1 p.2) [])) h1
  | .alloc e, r, h => if e.fresh then (evE e r h).bind fun d h1 => match d with
      | .lst xs => .ok (.ref h1.length) (h1 ++ [.lst xs])
      | .dct kvs => .ok (.ref h1.length) (h1 ++ [.dct kvs])
      | _ => .stk
    else .stk
  | .bin op a b, r, h => (evE a r h).bind fun x h1 => (evE b r h1).bind fun y h2 => opt (binop op x y h2) h2
  | .neg a, r, h => (evE a r h).bind fun x h1 => match x with
    | .int i => .ok (.int (-i)) h1
    | _ => .stk
  | .cmp op a b, r, h => (evE a r h).bind fun x h1 => (evE b r h1).bind fun y h2 => opt ((cmpop op x y h2).map .bl) h2
  | .cmp2 o1 o2 a b c, r, h => (evE a r h).bind fun x h1 => (evE b r h1).bind fun y h2 => (opt (cmpop o1 x y h2) h2).bind fun k h3 =>
      if k = true then (evE c r h3).bind fun z h4 => opt ((cmpop o2 y z h4).map .bl) h4 else .ok (.bl false) h3
  | .cmp3 o1 o2 o3 a b c d, r, h => (evE a r h).bind fun x h1 => (evE b r h1).bind fun y h2 => (opt (cmpop o1 x y h2) h2).bind fun k h3 =>
      if k = true then (evE c r h3).bind fun z h4 => (opt (cmpop o2 y z h4) h4).bind fun k2 h5 =>
        if k2 = true then (evE d r h5).bind fun w h6 => opt ((cmpop o3 z w h6).map .bl) h6 else .ok (.bl false) h5
      else .ok (.bl false) h3
  | .and es, r, h => evAnd es r h
  | .or es, r, h => evOr es r h
  | .not a, r, h => (evE a r h).bind fun x h1 => opt ((truth x h1).map fun b => .bl (!b)) h1
  | .ifx c a b, r, h => (evE c r h).bind fun x h1 => (opt (truth x h1) h1).bind fun k h2 => if k = true then evE a r h2 else evE b r h2
  | .sub a i, r, h => (evE a r h).bind fun x h1 => (evE i r h1).bind fun y h2 => opt (subD x y h2) h2
  | .slc a lo hi, r, h => (evE a r h).bind fun x h1 => (if lo.isNon then .ok none h1 else (evE lo r h1).bind fun y h2 => opt (partD y) h2).bind fun l h2 =>
      (if hi.isNon then .ok none h2 else (evE hi r h2).bind fun z h3 => opt (partD z) h3).bind fun u h3 => opt (cutO x l u h3) h3
  | .rev a, r, h => (evE a r h).bind fun x h1 => opt (revD x h1) h1
  | .call f es, r, h => (evEs es r h).bind fun ds h1 => (cl f ds h1).bind fun v h2 => opt v.fz h2
  | .blt b es, r, h => (evEs es r h).bind fun ds h1 => opt (blt b ds h1) h1
  | .isi a t, r, h => (evE a r h).bind fun x h1 => opt ((isiD x t h1).map .bl) h1
  | .meth o m es, r, h => (evE o r h).bind fun x h1 => (evEs es r h1).bind fun ds h2 => match x with
    | .ref n => match h2[n]? with
      | some (.ins c _) => match P.me c m with
        | some f => (cl f (.ref n :: ds) h2).bind fun v h3 => opt v.fz h3
        | none => .stk
      | _ => .stk
    | _ => .stk
  | .bm o m es, r, h => (evE o r h).bind fun x h1 => if bmOk m x h1 = true then (evEs es r h1).bind fun ds h2 => bmGo m x ds h2 else .stk
  | .attr o f, r, h => (evE o r h).bind fun x h1 => match x with
    | .ref n => match h1[n]? with
      | some (.ins _ fs) => opt (fs.lookup f) h1
      | _ => .stk
    | _ => .stk
  | .make c, _, h => (cl (P.init c) [.ref h.length] (h ++ [.ins c []])).bind fun v h1 => match v with
    | .v .non => .ok (.ref h.length) h1
    | _ => .stk
  | .lc t it ifs elt, r, h => (evIt it r h).bind fun xs h1 => match wipeE r t.slots with
    | some r0 => (compGo (bindTg t · r0) (fun r' h' => (evIfs ifs r' h').noX) (fun r' h' => (evE elt r' h').noX) xs h1).bind fun ys h2 => .ok (.lst ys) h2
    | none => .stk
  | .ssc t it ifs elt, r, h => (evIt it r h).bind fun xs h1 => match wipeE r t.slots with
    | some r0 => if xs.length < 4000 then (compGo (bindTg t · r0) (fun r' h' => (evIfs ifs r' h').noX) (fun r' h' => (evE elt r' h').intX) xs h1).bind fun ys h2 =>
      match intsD ys with
      | some ns => if ns.length < 64 then .ok (.lst ((sortU ns).map .int)) h2 else .stk
      | none => .stk
      else .stk
    | none => .stk
  | .sset a, r, h => (evE a r h).bind fun x h1 => match itemsL x h1 with
    | some xs => match intsD xs with
      | some ns => if ns.length < 64 then .ok (.lst ((sortU ns).map .int)) h1 else .stk
      | none => .stk
    | none => .stk
  | .lrg a b c, _, h => .ok (.lst (rangeL a (PySem.Builtin.Range.rangeSize a b c).toNat c)) h
  | .fstr es, r, h => evFs es r h
  | .said e, r, h => match evE e r h with
    | .ok d h1 => .ok (.tup [.str wTold, d]) h1
    | .exc c h1 => if c.okc = true then .ok (.tup [.str (exW c)]) h1 else .stk
    | .stk => .stk
  | .dead, _, _ => .stk
  | .tapp o m es a, r, h => (evE o r h).bind fun x h1 => (evEs es r h1).bind fun ds h2 => match x with
    | .ref n => match h2[n]? with
      | some (.ins c _) => match P.me c m with
        | some f => (cl f (.ref n :: ds) h2).bind fun v h3 => match v with
          | .ol _ => (evE a r h3).bind fun _ h4 => .ok .non h4
          | _ => .stk
        | none => .stk
      | _ => .stk
    | _ => .stk
  | .tclr o m es, r, h => (evE o r h).bind fun x h1 => (evEs es r h1).bind fun ds h2 => match x with
    | .ref n => match h2[n]? with
      | some (.ins c _) => match P.me c m with
        | some f => (cl f (.ref n :: ds) h2).bind fun v h3 => match v with
          | .ol _ => .ok .non h3
          | _ => .stk
        | none => .stk
      | _ => .stk
    | _ => .stk
def evEs : Es → Env → Hh → Res (List D)
  | .nil, _, h => .ok [] h
  | .cons e es, r, h => (evE e r h).bind fun d h1 => (evEs es r h1).bind fun ds h2 => .ok (d :: ds) h2
def evAnd : Es → Env → Hh → Res D
  | .nil, _, _ => .stk
  | .cons e es, r, h => match es with
    | .nil => evE e r h
    | .cons _ _ => (evE e r h).bind fun x h1 => (opt (truth x h1) h1).bind fun k h2 => if k = true then evAnd es r h2 else .ok x h2
def evOr : Es → Env → Hh → Res D
  | .nil, _, _ => .stk
  | .cons e es, r, h => match es with
    | .nil => evE e r h
    | .cons _ _ => (evE e r h).bind fun x h1 => (opt (truth x h1) h1).bind fun k h2 => if k = true then .ok x h2 else evOr es r h2
def evIfs : Es → Env → Hh → Res Bool
  | .nil, _, h => .ok true h
  | .cons e es, r, h => (evE e r h).bind fun x h1 => (opt (truth x h1) h1).bind fun k h2 => if k = true then evIfs es r h2 else .ok false h2
def evFs : Es → Env → Hh → Res D
  | .nil, _, h => .ok (.str []) h
  | .cons e es, r, h => (evE e r h).bind fun x h1 => (evFs es r h1).bind fun y h2 => match blt .str [x] h2, y with
    | some (.str s), .str t => if s.length + t.length ≤ lim then .ok (.str (s ++ t)) h2 else .stk
    | _, _ => .stk
def evIt : It → Env → Hh → Res (List D)
  | .e e, r, h => (evE e r h).bind fun x h1 => match x with
    | .str s => if s.length ≤ lim then .ok (s.map fun c => .str [c]) h1 else .stk
    | .tup xs => .ok xs h1
    | .lst xs => .ok xs h1
    | _ => .stk
  | .r1 a, r, h => (evE a r h).bind fun x h1 => match x with
    | .int n => if -1000000 ≤ n ∧ n ≤ 1000000 then .ok (rangeL 0 n.toNat 1) h1 else .stk
    | _ => .stk
  | .r2 a b, r, h => (evE a r h).bind fun x h1 => (evE b r h1).bind fun y h2 => match x, y with
    | .int m, .int n => if (-1000000 ≤ m ∧ m ≤ 1000000) ∧ -1000000 ≤ n ∧ n ≤ 1000000 then .ok (rangeL m (n - m).toNat 1) h2 else .stk
    | _, _ => .stk
  | .r3 _ _ _, _, _ => .stk
  | .zip a b s, r, h => (evE a r h).bind fun x h1 => (evE b r h1).bind fun y h2 => match x, y with
    | .lst xs, .lst ys => if s = false ∨ xs.length = ys.length then .ok (List.zipWith (fun x y => .tup [x, y]) xs ys) h2 else .stk
    | .tup xs, .tup ys => if s = false ∨ xs.length = ys.length then .ok (List.zipWith (fun x y => .tup [x, y]) xs ys) h2 else .stk
    | _, _ => .stk
  | .enum a, r, h => (evE a r h).bind fun x h1 => match x with
    | .tup xs => .ok (enumD xs) h1
    | .lst xs => .ok (enumD xs) h1
    | _ => .stk
end

/-- a value that is new: it may be owned -/
def evF (e : E) (r : Env) (h : Hh) : Res SV :=
  match e with
  | .call f es => (evEs P cl es r h).bind fun ds h1 => cl f ds h1
  | e => if e.fresh then (evE P cl e r h).bind fun d h1 => match d with
      | .lst xs => .ok (.ol xs) h1
      | .dct kvs => .ok (.od kvs) h1
      | _ => .stk
    else .stk

def evPar : List Tg → Es → Env → Hh → Res (List SV)
  | [], .nil, _, h => .ok [] h
  | .own _ :: ts, .cons e es, r, h => (evF P cl e r h).bind fun v h1 => (evPar ts es r h1).bind fun vs h2 => .ok (v :: vs) h2
  | _ :: ts, .cons e es, r, h => (evE P cl e r h).bind fun d h1 => (evPar ts es r h1).bind fun vs h2 => .ok (.v d :: vs) h2
  | _, _, _, _ => .stk

def evC (c : E) (r : Env) (h : Hh) : Res Bool := (evE P cl c r h).bind fun x h1 => opt (truth x h1) h1

mutual
def evS : S → Env → Hh → SRes
  | .expr e, r, h => match evE P cl e r h with
    | .ok _ h1 => .nx r h1
    | .exc c h1 => .exc c h1
    | .stk => .stk
  | .asg t e, r, h => match evE P cl e r h with
    | .ok d h1 => match bindTg t d r h1 with
      | some r1 => .nx r1 h1
      | none => .stk
    | .exc c h1 => .exc c h1
    | .stk => .stk
  | .asgO i e, r, h => match evF P cl e r h with
    | .ok (.ol xs) h1 => if i < r.length then .nx (r.set i (.ol xs)) h1 else .stk
    | .ok (.od kvs) h1 => if i < r.length then .nx (r.set i (.od kvs)) h1 else .stk
    | .ok _ _ => .stk
    | .exc c h1 => .exc c h1
    | .stk => .stk
  | .par ts es, r, h => match evPar P cl ts es r h with
    | .ok vs h1 => match bindSV ts vs r h1 with
      | some r1 => .nx r1 h1
      | none => .stk
    | .exc c h1 => .exc c h1
    | .stk => .stk
  | .freeze i, r, h => match r[i]? with
    | some (.ol xs) => .nx (r.set i (.v (.lst xs))) h
    | some (.od kvs) => .nx (r.set i (.v (.dct kvs))) h
    | some (.v d) => .nx r h
    | _ => .stk
  | .app i e, r, h => match r[i]? with
    | some (.ol xs) => match evE P cl e r h with
      | .ok d h1 => if xs.length < lim then .nx (r.set i (.ol (xs ++ [d]))) h1 else .stk
      | .exc c h1 => .exc c h1
      | .stk => .stk
    | _ => .stk
  | .setH o i e, r, h => match evEs P cl (.cons e (.cons o (.cons i .nil))) r h with
    | .ok [d, .ref n, .int j] h1 => match h1[n]? with
      | some (.lst xs) => match L2.ixN xs.length j with
        | some k => .nx r (h1.set n (.lst (xs.set k d)))
        | none => .stk
      | _ => .stk
    | .ok _ _ => .stk
    | .exc c h1 => .exc c h1
    | .stk => .stk
  | .setO i k e, r, h => match evEs P cl (.cons e (.cons k .nil)) r h with
    | .ok [d, k] h1 => match r[i]?, k with
      | some (.ol xs), .int j => match L2.ixN xs.length j with
        | some n => .nx (r.set i (.ol (xs.set n d))) h1
        | none => .stk
      | some (.od kvs), k => match k.ky with
        | some k => if kvs.length < lim then .nx (r.set i (.od (putK kvs k d))) h1 else .stk
        | none => .stk
      | _, _ => .stk
    | .ok _ _ => .stk
    | .exc c h1 => .exc c h1
    | .stk => .stk
  | .popO i k, r, h => match r[i]? with
    | some (.od kvs) => match evE P cl k r h with
      | .ok d h1 => match d.ky with
        | some k => if (getK kvs k).isSome then .nx (r.set i (.od (delK kvs k))) h1 else .stk
        | none => .stk
      | .exc c h1 => .exc c h1
      | .stk => .stk
    | _ => .stk
  | .setA o f e, r, h => match evEs P cl (.cons e (.cons o .nil)) r h with
    | .ok [d, .ref n] h1 => match h1[n]? with
      | some (.ins c fs) => .nx r (h1.set n (.ins c ((f, d) :: fs.filter fun p => decide (p.1 ≠ f))))
      | _ => .stk
    | .ok _ _ => .stk
    | .exc c h1 => .exc c h1
    | .stk => .stk
  | .appH o e, r, h => match evE P cl o r h with
    | .ok x h1 => if bmOk .hpop x h1 = true then match evE P cl e r h1 with
        | .ok d h2 => match x with
          | .ref n => match h2[n]? with
            | some (.lst xs) => if xs.length < lim then .nx r (h2.set n (.lst (xs ++ [d]))) else .stk
            | _ => .stk
          | _ => .stk
        | .exc c h2 => .exc c h2
        | .stk => .stk
      else .stk
    | .exc c h1 => .exc c h1
    | .stk => .stk
  | .popH o, r, h => match evE P cl o r h with
    | .ok (.ref n) h1 => match h1[n]? with
      | some (.lst xs) => if xs.length = 0 then .stk else .nx r (h1.set n (.lst xs.dropLast))
      | _ => .stk
    | .ok _ _ => .stk
    | .exc c h1 => .exc c h1
    | .stk => .stk
  | .ifs c a b, r, h => match evC P cl c r h with
    | .ok k h1 => if k = true then evSs a r h1 else evSs b r h1
    | .exc c h1 => .exc c h1
    | .stk => .stk
  | .whl c b, r, h => whileGo (evC P cl c) (fun r h => evSs b r h) FU r h
  | .for t it b, r, h => match it with
    | .enum (.attr o f) => match evE P cl (.attr o f) r h with
      | .ok (.ref n) h1 => match h1[n]? with
        | some (.lst xs) => forGoH n xs (bindTg t) (fun r h => evSs b r h) (xs.zipIdx.map fun p => .tup [.int (p.2 : Nat), p.1]) r h1
        | _ => .stk
      | .ok _ _ => .stk
      | .exc c h1 => .exc c h1
      | .stk => .stk
    | it => match evIt P cl it r h with
      | .ok xs h1 => forGo (bindTg t) (fun r h => evSs b r h) xs r h1
      | .exc c h1 => .exc c h1
      | .stk => .stk
  | .ret e, r, h => match evE P cl e r h with
    | .ok d h1 => .rt (.v d) h1
    | .exc c h1 => .exc c h1
    | .stk => .stk
  | .retN, _, h => .rt (.v .non) h
  | .retF e, r, h => match evF P cl e r h with
    | .ok v h1 => .rt v h1
    | .exc c h1 => .exc c h1
    | .stk => .stk
  | .retO i, r, h => match r[i]? with
    | some (.ol xs) => .rt (.ol xs) h
    | some (.od kvs) => .rt (.od kvs) h
    | some (.v d) => .rt (.v d) h
    | _ => .stk
  | .raise c, _, h => if P.rz = true then .exc c h else .stk
  | .brk, r, h => .bk r h
  | .cont, r, h => .ct r h
  | .pass, r, h => .nx r h
def evSs : Ss → Env → Hh → SRes
  | .nil, r, h => .nx r h
  | .cons s ss, r, h => match evS s r h with
    | .nx r1 h1 => evSs ss r1 h1
    | x => x
end
end

/-- a def called -/
def runDef (P : Prog) (cl : Nat → List D → Hh → Res SV) (d : Def) (ds : List D) (h : Hh) : Res SV :=
  if ds.length = d.np then match evSs P cl d.body (ds.map .v ++ List.replicate (d.ns - d.np) .un) h with
    | .nx _ h1 => .ok (.v .non) h1
    | .rt v h1 => .ok v h1
    | .exc c h1 => .exc c h1
    | _ => .stk
  else .stk
/-- calls down to a depth -/
def callK (P : Prog) : Nat → Nat → List D → Hh → Res SV
  | 0, _, _, _ => .stk
  | k + 1, f, ds, h => match P.fn f with
    | some d => runDef P (callK P k) d (ds ++ d.dfl.drop (ds.length + d.dfl.length - d.np)) h
    | none => .stk

end MP


set_option Elab.async false
set_option linter.all false
/-! What the evaluator's data stand for in the abstract heap of the hand layer. -/
namespace MP
open PySem PySem.Spec PyProof.Rows L2

def kyK : Ky → Key
  | .inl i => .inl i
  | .inr s => .inr (toStr s)
/-- the names of attributes -/
def Fd.nm : Fd → Str
  | .tellings => "tellings"
  | .stood => "stood"
  | .kept => "kept"
/-- where the classes of the program stand -/
structure Stc where
  cv : Cl → Addr
  tabs : List (Addr × Str)
/-- the names of the classes -/
def Ex.nm : Ex → Str
  | .spanError => "SpanError"
  | .noBook => "NoBook"
  | .noTime => "NoTime"
  | .noShare => "NoShare"
  | .noParts => "NoParts"
  | .noPlain => "NoPlain"
  | .noKind => "NoKind"
  | .noMarks => "NoMarks"
  | .noWord => "NoWord"
  | .noFull => "NoFull"
  | .noNumber => "NoNumber"
  | .noBand => "NoBand"
  | .noName => "NoName"
  | .noDay => "NoDay"
  | .noDeed => "NoDeed"
  | .noFraction => "NoFraction"
  | .noText => "NoText"
  | .noLine => "NoLine"
  | .tooMany => "TooMany"
/-- where a class of exceptions stands -/
def evK (K : PySem.W.Frag) (c : Ex) : Addr := match PySem.W.nsIn K mainGlobals c.nm with
  | some (some (.ref a)) => a
  | _ => 0
/-- the very object stands at a -/
def ExO (a : Addr) (o : Obj) : HO := .ext fun h => h.get? a = some o
/-- an exception of such a class -/
def ExIs (K : PySem.W.Frag) (c : Ex) (o : Obj) : Prop := o.cls = .ref (evK K c) ∧ o.dict = none ∧ ∃ fs, o.data = .fields fs

mutual
/-- d is told by v; F: what stands still, phi: where the objects are -/
def VRep (K : PySem.W.Frag) (F : Hp) (phi : List Addr) : D → V → Prop
  | .non, v => v = .non
  | .bl b, v => v = .bl b
  | .int i, v => v = .int i
  | .str s, v => v = .str (toStr s)
  | .tup xs, v => ∃ a vs, v = .ref a ∧ SqT K F a vs ∧ VReps K F phi xs vs
  | .lst xs, v => ∃ a vs, v = .ref a ∧ F a = some (.lst vs) ∧ VReps K F phi xs vs
  | .dct kvs, v => ∃ a kws, v = .ref a ∧ F a = some (.dK kws) ∧ KReps K F phi kvs kws
  | .ref n, v => ∃ a, v = .ref a ∧ phi[n]? = some a
  | .scr ns, v => ∃ a, v = .ref a ∧ SqL K F a (ns.map V.int)
  | .exc c, v => ∃ a o, v = .ref a ∧ F a = some (ExO a o) ∧ ExIs K c o
def VReps (K : PySem.W.Frag) (F : Hp) (phi : List Addr) : List D → List V → Prop
  | [], vs => vs = []
  | d :: ds, vs => ∃ v ws, vs = v :: ws ∧ VRep K F phi d v ∧ VReps K F phi ds ws
def KReps (K : PySem.W.Frag) (F : Hp) (phi : List Addr) : List (Ky × D) → List (Key × V) → Prop
  | [], kws => kws = []
  | (k, d) :: kvs, kws => ∃ v ws, kws = (kyK k, v) :: ws ∧ VRep K F phi d v ∧ KReps K F phi kvs ws
end

/-- F grown: nothing is lost -/
def Sub (F F' : Hp) : Prop := ∀ a o, F a = some o → F' a = some o
theorem Sub.refl (F : Hp) : Sub F F := fun _ _ h => h
theorem Sub.trans {F G H : Hp} (a : Sub F G) (b : Sub G H) : Sub F H := fun x o h => b x o (a x o h)
def Pre (p q : List Addr) : Prop := ∀ (n : Nat) (a : Addr), p[n]? = some a → q[n]? = some a
theorem Pre.refl (p : List Addr) : Pre p p := fun _ _ h => h
theorem Pre.trans {p q r : List Addr} (a : Pre p q) (b : Pre q r) : Pre p r := fun n x h => b n x (a n x h)
theorem Pre.snoc (p : List Addr) (a : Addr) : Pre p (p ++ [a]) := fun n x h => by
  rw [List.getElem?_append_left (by have := (List.getElem?_eq_some_iff.mp h).1; omega)]
  exact h

section
variable {K : PySem.W.Frag} {F F' : Hp} {phi phi' : List Addr}
theorem Sub.seqT {a : Addr} {vs : List V} (s : Sub F F') (h : SqT K F a vs) : SqT K F' a vs := by
  rcases h with h | h
  · rcases h with h | ⟨o, h⟩
    · exact .inl (.inl (s _ _ h))
    · exact .inl (.inr ⟨o, s _ _ h⟩)
  · exact .inr h
theorem Sub.seqL {a : Addr} {vs : List V} (s : Sub F F') (h : SqL K F a vs) : SqL K F' a vs := by
  rcases h with h | h
  · rcases h with h | ⟨o, h⟩
    · exact .inl (.inl (s _ _ h))
    · exact .inl (.inr ⟨o, s _ _ h⟩)
  · exact .inr h
mutual
theorem VRep.mono (s : Sub F F') (p : Pre phi phi') : ∀ (d : D) (v : V), VRep K F phi d v → VRep K F' phi' d v
  | .non, v, h => by simpa only [VRep] using h
  | .bl b, v, h => by simpa only [VRep] using h
  | .int i, v, h => by simpa only [VRep] using h
  | .str t, v, h => by simpa only [VRep] using h
  | .tup xs, v, h => by
    simp only [VRep] at h ⊢
    obtain ⟨a, vs, e, q, r⟩ := h
    exact ⟨a, vs, e, s.seqT q, VReps.mono s p xs vs r⟩
  | .lst xs, v, h => by
    simp only [VRep] at h ⊢
    obtain ⟨a, vs, e, q, r⟩ := h
    exact ⟨a, vs, e, s _ _ q, VReps.mono s p xs vs r⟩
  | .dct kvs, v, h => by
    simp only [VRep] at h ⊢
    obtain ⟨a, vs, e, q, r⟩ := h
    exact ⟨a, vs, e, s _ _ q, KReps.mono s p kvs vs r⟩
  | .ref n, v, h => by
    simp only [VRep] at h ⊢
    obtain ⟨a, e, q⟩ := h
    exact ⟨a, e, p _ _ q⟩
  | .scr ns, v, h => by
    simp only [VRep] at h ⊢
    obtain ⟨a, e, q⟩ := h
    exact ⟨a, e, s.seqL q⟩
  | .exc c, v, h => by
    simp only [VRep] at h ⊢
    obtain ⟨a, o, e, q, r⟩ := h
    exact ⟨a, o, e, s _ _ q, r⟩
theorem VReps.mono (s : Sub F F') (p : Pre phi phi') : ∀ (ds : List D) (vs : List V), VReps K F phi ds vs → VReps K F' phi' ds vs
  | [], vs, h => by simpa only [VReps] using h
  | d :: ds, vs, h => by
    simp only [VReps] at h ⊢
    obtain ⟨v, ws, e, q, r⟩ := h
    exact ⟨v, ws, e, VRep.mono s p d v q, VReps.mono s p ds ws r⟩
theorem KReps.mono (s : Sub F F') (p : Pre phi phi') : ∀ (ds : List (Ky × D)) (vs : List (Key × V)), KReps K F phi ds vs → KReps K F' phi' ds vs
  | [], vs, h => by simpa only [KReps] using h
  | (k, d) :: ds, vs, h => by
    simp only [KReps] at h ⊢
    obtain ⟨v, ws, e, q, r⟩ := h
    exact ⟨v, ws, e, VRep.mono s p d v q, KReps.mono s p ds ws r⟩
end
theorem VReps.nil : VReps K F phi [] [] := by simp only [VReps]
theorem VReps.cons {d : D} {v : V} {ds : List D} {vs : List V} (h : VRep K F phi d v) (r : VReps K F phi ds vs) : VReps K F phi (d :: ds) (v :: vs) := by
  simp only [VReps]
  exact ⟨v, vs, rfl, h, r⟩
theorem VReps.len : ∀ {ds : List D} {vs : List V}, VReps K F phi ds vs → vs.length = ds.length
  | [], vs, h => by simp only [VReps] at h; rw [h]; rfl
  | d :: ds, vs, h => by
    simp only [VReps] at h
    obtain ⟨v, ws, e, _, r⟩ := h
    rw [e, List.length_cons, List.length_cons, VReps.len r]
theorem VReps.get : ∀ {ds : List D} {vs : List V} {i : Nat} {v : V}, VReps K F phi ds vs → vs[i]? = some v → ∃ d, ds[i]? = some d ∧ VRep K F phi d v
  | [], vs, i, v, h, e => by simp only [VReps] at h; rw [h] at e; simp at e
  | d :: ds, vs, i, v, h, e => by
    simp only [VReps] at h
    obtain ⟨w, ws, e2, q, r⟩ := h
    rw [e2] at e
    cases i with
    | zero => exact ⟨d, rfl, by simp at e; rw [← e]; exact q⟩
    | succ i => exact VReps.get (i := i) (vs := ws) r (by simpa using e)
theorem VReps.at : ∀ {ds : List D} {vs : List V} {i : Nat} {d : D}, VReps K F phi ds vs → ds[i]? = some d → ∃ v, vs[i]? = some v ∧ VRep K F phi d v
  | [], vs, i, d, h, e => by simp at e
  | c :: ds, vs, i, d, h, e => by
    simp only [VReps] at h
    obtain ⟨w, ws, e2, q, r⟩ := h
    rw [e2]
    cases i with
    | zero => exact ⟨w, rfl, by simp at e; rw [← e]; exact q⟩
    | succ i => exact VReps.at (i := i) (ds := ds) r (by simpa using e)
theorem VReps.app : ∀ {ds es : List D} {vs ws : List V}, VReps K F phi ds vs → VReps K F phi es ws → VReps K F phi (ds ++ es) (vs ++ ws)
  | [], es, vs, ws, h, q => by simp only [VReps] at h; rw [h]; exact q
  | d :: ds, es, vs, ws, h, q => by
    simp only [VReps] at h
    obtain ⟨v, us, e, r, t⟩ := h
    rw [e]
    exact VReps.cons r (VReps.app t q)
theorem VReps.take : ∀ {ds : List D} {vs : List V} (n : Nat), VReps K F phi ds vs → VReps K F phi (ds.take n) (vs.take n)
  | ds, vs, 0, h => by simp only [List.take_zero, VReps]
  | [], vs, n + 1, h => by simp only [VReps] at h; rw [h]; simp only [List.take_nil, VReps]
  | d :: ds, vs, n + 1, h => by
    simp only [VReps] at h
    obtain ⟨v, us, e, r, t⟩ := h
    rw [e, List.take_succ_cons, List.take_succ_cons]
    exact VReps.cons r (VReps.take n t)
theorem VReps.drop : ∀ {ds : List D} {vs : List V} (n : Nat), VReps K F phi ds vs → VReps K F phi (ds.drop n) (vs.drop n)
  | ds, vs, 0, h => by simpa only [List.drop_zero] using h
  | [], vs, n + 1, h => by simp only [VReps] at h; rw [h]; simp only [List.drop_nil, VReps]
  | d :: ds, vs, n + 1, h => by
    simp only [VReps] at h
    obtain ⟨v, us, e, r, t⟩ := h
    rw [e, List.drop_succ_cons, List.drop_succ_cons]
    exact VReps.drop n t
theorem VReps.rev : ∀ {ds : List D} {vs : List V}, VReps K F phi ds vs → VReps K F phi ds.reverse vs.reverse
  | [], vs, h => by simp only [VReps] at h; rw [h]; simp only [List.reverse_nil, VReps]
  | d :: ds, vs, h => by
    simp only [VReps] at h
    obtain ⟨v, us, e, r, t⟩ := h
    rw [e, List.reverse_cons, List.reverse_cons]
    exact VReps.app (VReps.rev t) (VReps.cons r VReps.nil)
theorem VReps.rep {ds : List D} {vs : List V} (h : VReps K F phi ds vs) : ∀ n : Nat, VReps K F phi (List.replicate n ds).flatten (List.replicate n vs).flatten
  | 0 => by simp only [List.replicate_zero, List.flatten_nil, VReps]
  | n + 1 => by
    rw [List.replicate_succ, List.replicate_succ, List.flatten_cons, List.flatten_cons]
    exact VReps.app h (VReps.rep h n)
theorem VReps.set : ∀ {ds : List D} {vs : List V} {d : D} {v : V} (n : Nat), VReps K F phi ds vs → VRep K F phi d v → VReps K F phi (ds.set n d) (vs.set n v)
  | [], vs, d, v, n, h, q => by simp only [VReps] at h; rw [h]; simp only [List.set_nil, VReps]
  | c :: ds, vs, d, v, n, h, q => by
    simp only [VReps] at h
    obtain ⟨w, us, e, r, t⟩ := h
    rw [e]
    cases n with
    | zero => exact VReps.cons q t
    | succ n => exact VReps.cons r (VReps.set n t q)
theorem VReps.erase : ∀ {ds : List D} {vs : List V} (n : Nat), VReps K F phi ds vs → VReps K F phi (ds.eraseIdx n) (vs.eraseIdx n)
  | [], vs, n, h => by simp only [VReps] at h; rw [h]; simp only [List.eraseIdx_nil, VReps]
  | c :: ds, vs, n, h => by
    simp only [VReps] at h
    obtain ⟨w, us, e, r, t⟩ := h
    rw [e]
    cases n with
    | zero => exact t
    | succ n => exact VReps.cons r (VReps.erase n t)
theorem VReps.map {α : Type} (f : α → D) (g : α → V) (hf : ∀ a, VRep K F phi (f a) (g a)) : ∀ xs : List α, VReps K F phi (xs.map f) (xs.map g)
  | [] => by simp only [List.map_nil, VReps]
  | x :: xs => VReps.cons (hf x) (VReps.map f g hf xs)
theorem VRep.vint (i : Int) : VRep K F phi (.int i) (.int i) := by simp only [VRep]
theorem VRep.vstr (s : List Nat) : VRep K F phi (.str s) (.str (toStr s)) := by simp only [VRep]
theorem VRep.vbl (b : Bool) : VRep K F phi (.bl b) (.bl b) := by simp only [VRep]
theorem VRep.vnon : VRep K F phi .non .non := by simp only [VRep]
theorem VReps.ofInts : ∀ {ds : List D} {vs : List V} {ns : List Int}, VReps K F phi ds vs → intsD ds = some ns → vs = ns.map V.int
  | [], vs, ns, h, e => by
    simp only [VReps] at h
    simp only [intsD, Option.some.injEq] at e
    rw [h, ← e]
    rfl
  | .int i :: ds, vs, ns, h, e => by
    simp only [VReps] at h
    obtain ⟨v, ws, e2, q, r⟩ := h
    simp only [VRep] at q
    simp only [intsD, Option.map_eq_some_iff] at e
    obtain ⟨ms, e3, e4⟩ := e
    rw [e2, q, ← e4, VReps.ofInts r e3]
    rfl
  | .non :: ds, vs, ns, h, e => by simp [intsD] at e
  | .bl b :: ds, vs, ns, h, e => by simp [intsD] at e
  | .str b :: ds, vs, ns, h, e => by simp [intsD] at e
  | .tup b :: ds, vs, ns, h, e => by simp [intsD] at e
  | .lst b :: ds, vs, ns, h, e => by simp [intsD] at e
  | .dct b :: ds, vs, ns, h, e => by simp [intsD] at e
  | .ref b :: ds, vs, ns, h, e => by simp [intsD] at e
  | .exc b :: ds, vs, ns, h, e => by simp [intsD] at e
  | .scr b :: ds, vs, ns, h, e => by simp [intsD] at e
theorem VReps.ofBools : ∀ {ds : List D} {vs : List V} {ns : List Bool}, VReps K F phi ds vs → boolsD ds = some ns → vs = ns.map V.bl
  | [], vs, ns, h, e => by
    simp only [VReps] at h
    simp only [boolsD, Option.some.injEq] at e
    rw [h, ← e]
    rfl
  | .bl i :: ds, vs, ns, h, e => by
    simp only [VReps] at h
    obtain ⟨v, ws, e2, q, r⟩ := h
    simp only [VRep] at q
    simp only [boolsD, Option.map_eq_some_iff] at e
    obtain ⟨ms, e3, e4⟩ := e
    rw [e2, q, ← e4, VReps.ofBools r e3]
    rfl
  | .non :: ds, vs, ns, h, e => by simp [boolsD] at e
  | .int b :: ds, vs, ns, h, e => by simp [boolsD] at e
  | .str b :: ds, vs, ns, h, e => by simp [boolsD] at e
  | .tup b :: ds, vs, ns, h, e => by simp [boolsD] at e
  | .lst b :: ds, vs, ns, h, e => by simp [boolsD] at e
  | .dct b :: ds, vs, ns, h, e => by simp [boolsD] at e
  | .ref b :: ds, vs, ns, h, e => by simp [boolsD] at e
  | .exc b :: ds, vs, ns, h, e => by simp [boolsD] at e
  | .scr b :: ds, vs, ns, h, e => by simp [boolsD] at e
theorem VReps.ofStrs : ∀ {ds : List D} {vs : List V} {ns : List (List Nat)}, VReps K F phi ds vs → strsD ds = some ns → vs = ns.map fun s => V.str (toStr s)
  | [], vs, ns, h, e => by
    simp only [VReps] at h
    simp only [strsD, Option.some.injEq] at e
    rw [h, ← e]
    rfl
  | .str i :: ds, vs, ns, h, e => by
    simp only [VReps] at h
    obtain ⟨v, ws, e2, q, r⟩ := h
    simp only [VRep] at q
    simp only [strsD, Option.map_eq_some_iff] at e
    obtain ⟨ms, e3, e4⟩ := e
    rw [e2, q, ← e4, VReps.ofStrs r e3]
    rfl
  | .non :: ds, vs, ns, h, e => by simp [strsD] at e
  | .int b :: ds, vs, ns, h, e => by simp [strsD] at e
  | .bl b :: ds, vs, ns, h, e => by simp [strsD] at e
  | .tup b :: ds, vs, ns, h, e => by simp [strsD] at e
  | .lst b :: ds, vs, ns, h, e => by simp [strsD] at e
  | .dct b :: ds, vs, ns, h, e => by simp [strsD] at e
  | .ref b :: ds, vs, ns, h, e => by simp [strsD] at e
  | .exc b :: ds, vs, ns, h, e => by simp [strsD] at e
  | .scr b :: ds, vs, ns, h, e => by simp [strsD] at e
end

/-! ### the heap and the slots -/
/-- an object of the evaluator's heap, by what the abstract heap holds there -/
def ORep (K : PySem.W.Frag) (C : Stc) (F : Hp) (phi : List Addr) (H : Hp) (a : Addr) : O → Prop
  | .lst xs => ∃ vs, H a = some (.lst vs) ∧ VReps K F phi xs vs
  | .dct kvs => ∃ kws, H a = some (.dK kws) ∧ KReps K F phi kvs kws
  | .ins c fs => ∃ dx gs, H a = some (.ins (C.cv c) dx gs) ∧ (∀ f : Fd, match fs.lookup f with
      | some d => ∃ v, gs.lookup f.nm = some v ∧ VRep K F phi d v
      | none => gs.lookup f.nm = none) ∧ (gs.map (·.1)).Nodup ∧ ∀ x ∈ gs.map (·.1), ∃ f : Fd, x = f.nm
structure HR (K : PySem.W.Frag) (C : Stc) (F : Hp) (phi : List Addr) (h : Hh) (H : Hp) : Prop where
  fH : Sub F H
  len : phi.length = h.length
  obj : ∀ (n : Nat) (a : Addr) (o : O), phi[n]? = some a → h[n]? = some o → ORep K C F phi H a o
  mF : ∀ (n : Nat) (a : Addr), phi[n]? = some a → F a = none
  tb : LamX.Tabs C.tabs H
  nF : ∀ a ps, F a ≠ some (.tbl ps)
  nd : ∀ (m n : Nat) (a : Addr), phi[m]? = some a → phi[n]? = some a → m = n
/-- what a slot holds -/
def SRep (K : PySem.W.Frag) (F : Hp) (phi : List Addr) (H : Hp) : SV → Option V → Prop
  | .un, _ => True
  | .v d, w => ∃ v, w = some v ∧ VRep K F phi d v
  | .ol xs, w => ∃ a vs, w = some (.ref a) ∧ H a = some (.lst vs) ∧ VReps K F phi xs vs ∧ F a = none ∧ ∀ n : Nat, phi[n]? ≠ some a
  | .od kvs, w => ∃ a kws, w = some (.ref a) ∧ H a = some (.dK kws) ∧ KReps K F phi kvs kws ∧ F a = none ∧ ∀ n : Nat, phi[n]? ≠ some a
/-- the slot owns what stands at a -/
def Own (r : Env) (σ : L2.St) (i : Nat) (a : Addr) : Prop := (∃ sv, r[i]? = some sv ∧ ((∃ xs, sv = .ol xs) ∨ ∃ kvs, sv = .od kvs)) ∧ σ[i]? = some (some (.ref a))
structure SR (K : PySem.W.Frag) (C : Stc) (F R : Hp) (phi : List Addr) (r : Env) (h : Hh) (σ : L2.St) (H : Hp) : Prop where
  hr : HR K C F phi h H
  rH : Sub R H
  rF : ∀ a o, R a = some o → F a = none
  rM : ∀ (n : Nat) (a : Addr), phi[n]? = some a → R a = none
  rO : ∀ i a, Own r σ i a → R a = none
  nR : ∀ a ps, R a ≠ some (.tbl ps)
  sl : r.length = σ.length
  slot : ∀ (i : Nat) (sv : SV), r[i]? = some sv → ∀ w : Option V, σ[i]? = some w → SRep K F phi H sv w
  no : ∀ i j a, Own r σ i a → Own r σ j a → i = j

/-- only new things are laid: what was tracked stays, F grows by new things alone -/
structure Grow (F H F' H' : Hp) : Prop where
  hH : Sub H H'
  old : ∀ a o, H a = some o → F' a = F a
  fH : Sub F' H'
  nt : ∀ a ps, F' a = some (.tbl ps) → F a = some (.tbl ps)
theorem Grow.refl {F H : Hp} (s : Sub F H) : Grow F H F H := ⟨Sub.refl H, fun _ _ _ => rfl, s, fun _ _ h => h⟩
theorem Grow.sub {F H F' H' : Hp} (g : Grow F H F' H') (s : Sub F H) : Sub F F' := fun a o h => by rw [g.old a o (s a o h)]; exact h
theorem Grow.trans {F H F' H' F2 H2 : Hp} (g : Grow F H F' H') (k : Grow F' H' F2 H2) : Grow F H F2 H2 :=
  ⟨g.hH.trans k.hH, fun a o h => by rw [k.old a o (g.hH a o h), g.old a o h], k.fH, fun a ps h => g.nt a ps (k.nt a ps h)⟩
theorem Grow.one {F H : Hp} {p : Addr} {o : HO} (s : Sub F H) (hp : H p = none) (ho : ∀ ps, o ≠ .tbl ps := by intro ps h; cases h) : Grow F H (upd F p o) (upd H p o) := by
  refine ⟨fun a u h => ?_, fun a u h => ?_, fun a u h => ?_, fun a ps h => ?_⟩
  · rw [upd_ne (ne_of_none h hp)]; exact h
  · rw [upd_ne (ne_of_none h hp)]
  · by_cases e : a = p
    · subst e; rw [upd_same] at h ⊢; exact h
    · rw [upd_ne e] at h ⊢; exact s a u h
  · by_cases e : a = p
    · subst e; rw [upd_same] at h; exact absurd (Option.some.inj h) (ho ps)
    · rw [upd_ne e] at h; exact h
theorem Sub.upd {F H : Hp} {p : Addr} {o : HO} (s : Sub F H) (hp : H p = none) : Sub F (L2.upd F p o) := fun a u h => by
  rw [upd_ne (ne_of_none (s a u h) hp)]
  exact h

section
variable {K : PySem.W.Frag} {C : Stc} {F F' R : Hp} {phi : List Addr} {r : Env} {h : Hh} {σ : L2.St} {H H' : Hp}
theorem ORep.grow {a : Addr} {o : O} (g : Grow F H F' H') (s : Sub F H) (x : ORep K C F phi H a o) : ORep K C F' phi H' a o := by
  have gs := g.sub s
  cases o with
  | lst xs =>
    obtain ⟨vs, e, q⟩ := x
    exact ⟨vs, g.hH _ _ e, VReps.mono gs (Pre.refl _) _ _ q⟩
  | dct kvs =>
    obtain ⟨vs, e, q⟩ := x
    exact ⟨vs, g.hH _ _ e, KReps.mono gs (Pre.refl _) _ _ q⟩
  | ins c fs =>
    obtain ⟨dx, fl, e, q, n1, n2⟩ := x
    refine ⟨dx, fl, g.hH _ _ e, fun f => ?_, n1, n2⟩
    have q' := q f
    cases hf : fs.lookup f with
    | none =>
      rw [hf] at q'
      exact q'
    | some d =>
      rw [hf] at q'
      obtain ⟨v, e1, e2⟩ := q'
      exact ⟨v, e1, VRep.mono gs (Pre.refl _) _ _ e2⟩
/-- a tracked thing is known: there is something there -/
theorem ORep.there {a : Addr} {o : O} (x : ORep K C F phi H a o) : ∃ u, H a = some u := by
  cases o with
  | lst xs => obtain ⟨vs, e, _⟩ := x; exact ⟨_, e⟩
  | dct kvs => obtain ⟨vs, e, _⟩ := x; exact ⟨_, e⟩
  | ins c fs => obtain ⟨dx, fl, e, _⟩ := x; exact ⟨_, e⟩
theorem HR.at (x : HR K C F phi h H) {n : Nat} {a : Addr} (e : phi[n]? = some a) : ∃ o, h[n]? = some o ∧ ORep K C F phi H a o := by
  have hl := (List.getElem?_eq_some_iff.mp e).1
  have hl2 : n < h.length := by rw [← x.len]; exact hl
  exact ⟨h[n], by simp [hl2], x.obj n a _ e (by simp [hl2])⟩
theorem HR.of (x : HR K C F phi h H) {n : Nat} {o : O} (e : h[n]? = some o) : ∃ a, phi[n]? = some a ∧ ORep K C F phi H a o := by
  have hl := (List.getElem?_eq_some_iff.mp e).1
  have hl2 : n < phi.length := by rw [x.len]; exact hl
  exact ⟨phi[n], by simp [hl2], x.obj n _ o (by simp [hl2]) e⟩
theorem HR.grow (x : HR K C F phi h H) (g : Grow F H F' H') : HR K C F' phi h H' where
  fH := g.fH
  len := x.len
  obj := fun n a o e1 e2 => (x.obj n a o e1 e2).grow g x.fH
  mF := fun n a e => by
    obtain ⟨o, _, ho⟩ := x.at e
    obtain ⟨u, hu⟩ := ho.there
    rw [g.old a u hu]
    exact x.mF n a e
  tb := x.tb.ext g.hH
  nF := fun a ps e => x.nF a ps (g.nt a ps e)
  nd := x.nd
theorem SRep.grow {sv : SV} {w : Option V} (g : Grow F H F' H') (s : Sub F H) (x : SRep K F phi H sv w) : SRep K F' phi H' sv w := by
  have gs := g.sub s
  cases sv with
  | un => trivial
  | v d =>
    obtain ⟨v, e, q⟩ := x
    exact ⟨v, e, VRep.mono gs (Pre.refl _) _ _ q⟩
  | ol xs =>
    obtain ⟨a, vs, e, q, t, n, m⟩ := x
    exact ⟨a, vs, e, g.hH _ _ q, VReps.mono gs (Pre.refl _) _ _ t, by rw [g.old a _ q]; exact n, m⟩
  | od xs =>
    obtain ⟨a, vs, e, q, t, n, m⟩ := x
    exact ⟨a, vs, e, g.hH _ _ q, KReps.mono gs (Pre.refl _) _ _ t, by rw [g.old a _ q]; exact n, m⟩
theorem SR.grow (x : SR K C F R phi r h σ H) (g : Grow F H F' H') : SR K C F' R phi r h σ H' where
  hr := x.hr.grow g
  rH := fun a o e => g.hH a o (x.rH a o e)
  rF := fun a o e => by rw [g.old a o (x.rH a o e)]; exact x.rF a o e
  rM := x.rM
  rO := x.rO
  nR := x.nR
  sl := x.sl
  slot := fun i sv e w e2 => (x.slot i sv e w e2).grow g x.hr.fH
  no := x.no
/-- tables grow, and new things are laid that nobody knows -/
theorem ORep.growN {a : Addr} {o : O} (g : LamX.ExtN H H') (x : ORep K C F phi H a o) : ORep K C F phi H' a o := by
  cases o with
  | lst xs =>
    obtain ⟨vs, e, q⟩ := x
    exact ⟨vs, g _ _ e (by intro ps z; cases z), q⟩
  | dct kvs =>
    obtain ⟨vs, e, q⟩ := x
    exact ⟨vs, g _ _ e (by intro ps z; cases z), q⟩
  | ins c fs =>
    obtain ⟨dx, fl, e, q⟩ := x
    exact ⟨dx, fl, g _ _ e (by intro ps z; cases z), q⟩
theorem SR.growN (x : SR K C F R phi r h σ H) (g : LamX.ExtN H H') (t : LamX.Tabs C.tabs H') : SR K C F R phi r h σ H' where
  hr := {
    fH := fun a o e => g a o (x.hr.fH a o e) fun ps z => x.hr.nF a ps (by rw [e, z])
    len := x.hr.len
    obj := fun n a o e1 e2 => (x.hr.obj n a o e1 e2).growN g
    mF := x.hr.mF
    tb := t
    nF := x.hr.nF
    nd := x.hr.nd }
  rH := fun a o e => g a o (x.rH a o e) fun ps z => x.nR a ps (by rw [e, z])
  rF := x.rF
  rM := x.rM
  rO := x.rO
  nR := x.nR
  sl := x.sl
  slot := fun i sv e w e2 => by
    have y := x.slot i sv e w e2
    cases sv with
    | un => trivial
    | v d => exact y
    | ol xs =>
      obtain ⟨a, vs, e, q, t, n, m⟩ := y
      exact ⟨a, vs, e, g _ _ q (by intro ps z; cases z), t, n, m⟩
    | od xs =>
      obtain ⟨a, vs, e, q, t, n, m⟩ := y
      exact ⟨a, vs, e, g _ _ q (by intro ps z; cases z), t, n, m⟩
  no := x.no
end
end MP


set_option Elab.async false
set_option linter.all false
set_option maxHeartbeats 1000000
/-! Operators by value: the hand layer's rules, told of the evaluator's data. -/
namespace MP
open PySem PySem.Spec PyProof.Rows L2

theorem lim_eq : lim = sizeLine := by rw [sizeLine_eq]; rfl
theorem toStr_len (s : List Nat) : (toStr s).length = s.length := by simp [toStr, Str.length]
theorem toStr_list (s : List Nat) : (toStr s).cps.toList = s := by simp [toStr]
theorem toStr_app (s t : List Nat) : toStr s ++ toStr t = toStr (s ++ t) := by
  show Str.append (toStr s) (toStr t) = _
  simp [Str.append, toStr]
theorem toStr_inj {s t : List Nat} (h : toStr s = toStr t) : s = t := by
  have := congrArg (fun z : Str => z.cps.toList) h
  simpa [toStr] using this

/-- as VRep, a list of the heap told by what it holds -/
def DRep (K : PySem.W.Frag) (F : Hp) (phi : List Addr) (H : Hp) : D → V → Prop
  | .lst xs, v => ∃ a vs, v = .ref a ∧ H a = some (.lst vs) ∧ VReps K F phi xs vs
  | .tup xs, v => ∃ a vs, v = .ref a ∧ SqT K H a vs ∧ VReps K F phi xs vs
  | d, v => VRep K F phi d v

section
variable {K : PySem.W.Frag} {C : Stc} {F F' R : Hp} {phi : List Addr} {h : Hh} {H H' : Hp}
theorem drep_of (x : HR K C F phi h H) {d : D} {v : V} (q : VRep K F phi d v) : DRep K F phi H d v := by
  cases d with
  | lst xs =>
    simp only [VRep] at q
    obtain ⟨a, vs, e, q1, q2⟩ := q
    exact ⟨a, vs, e, x.fH _ _ q1, q2⟩
  | tup xs =>
    simp only [VRep] at q
    obtain ⟨a, vs, e, q1, q2⟩ := q
    exact ⟨a, vs, e, x.fH.seqT q1, q2⟩
  | _ => exact q
theorem drep_deref (x : HR K C F phi h H) {d : D} {v : V} (q : VRep K F phi d v) : DRep K F phi H (deref d h) v := by
  have base := drep_of x q
  cases d with
  | ref n =>
    simp only [deref]
    split
    · rename_i xs e
      simp only [VRep] at q
      obtain ⟨a, ea, ep⟩ := q
      obtain ⟨vs, e1, e2⟩ := (show ∃ vs, H a = some (.lst vs) ∧ VReps K F phi xs vs from x.obj n a _ ep e)
      exact ⟨a, vs, ea, e1, e2⟩
    · exact q
  | _ => exact base
theorem itemsL_rep (x : HR K C F phi h H) {d : D} {v : V} {xs : List D} (q : VRep K F phi d v) (e : itemsL d h = some xs) : ∃ a vs, v = .ref a ∧ H a = some (.lst vs) ∧ VReps K F phi xs vs := by
  cases d with
  | lst ys =>
    simp only [itemsL, Option.some.injEq] at e
    subst e
    exact drep_of x q
  | ref n =>
    simp only [itemsL] at e
    split at e
    · rename_i ys e1
      simp only [Option.some.injEq] at e
      subst e
      have := drep_deref x q
      simp only [deref, e1] at this
      exact this
    · cases e
  | _ => simp [itemsL] at e
theorem items_rep (x : HR K C F phi h H) {d : D} {v : V} {xs : List D} (q : VRep K F phi d v) (e : items d h = some xs) :
    ∃ a vs, v = .ref a ∧ VReps K F phi xs vs ∧ (H a = some (.lst vs) ∨ SqT K H a vs) := by
  cases d with
  | lst ys =>
    simp only [items, Option.some.injEq] at e
    subst e
    obtain ⟨a, vs, e1, e2, e3⟩ := drep_of x q
    exact ⟨a, vs, e1, e3, .inl e2⟩
  | tup ys =>
    simp only [items, Option.some.injEq] at e
    subst e
    obtain ⟨a, vs, e1, e2, e3⟩ := drep_of x q
    exact ⟨a, vs, e1, e3, .inr e2⟩
  | ref n =>
    simp only [items] at e
    split at e
    · rename_i ys e1
      simp only [Option.some.injEq] at e
      subst e
      have := drep_deref x q
      simp only [deref, e1] at this
      obtain ⟨a, vs, e1, e2, e3⟩ := this
      exact ⟨a, vs, e1, e3, .inl e2⟩
    · cases e
  | _ => simp [items] at e
/-- a new list, a new tuple -/
theorem new_lst {p : Addr} {vs : List V} {xs : List D} (s : Sub F H) (hp : H p = none) (r : VReps K F phi xs vs) : VRep K (upd F p (.lst vs)) phi (.lst xs) (.ref p) := by
  simp only [VRep]
  exact ⟨p, vs, rfl, upd_same, VReps.mono (s.upd hp) (Pre.refl _) _ _ r⟩
theorem new_tup {p : Addr} {vs : List V} {xs : List D} (s : Sub F H) (hp : H p = none) (r : VReps K F phi xs vs) : VRep K (upd F p (.tup vs)) phi (.tup xs) (.ref p) := by
  simp only [VRep]
  exact ⟨p, vs, rfl, .inl (.inl upd_same), VReps.mono (s.upd hp) (Pre.refl _) _ _ r⟩
theorem HR.free_none (x : HR K C F phi h H) {p : Addr} (hp : H p = none) : F p = none := by
  cases e : F p with
  | none => rfl
  | some o => rw [x.fH _ _ e] at hp; cases hp
end

/-- an operator by value -/
def rB (K : PySem.W.Frag) (C : Stc) (g : D → D → Hh → Option D) : R2 := fun x y H Q => ∃ F phi h dx dy d, HR K C F phi h H ∧ VRep K F phi dx x ∧ VRep K F phi dy y ∧ g dx dy h = some d ∧
  ∀ F' v H', Grow F H F' H' → VRep K F' phi d v → Q v H'
def rN (K : PySem.W.Frag) (C : Stc) (g : List D → Hh → Option D) : List V → Hp → VK → Prop := fun xs H Q => ∃ F phi h ds d, HR K C F phi h H ∧ VReps K F phi ds xs ∧ g ds h = some d ∧
  ∀ F' v H', Grow F H F' H' → VRep K F' phi d v → Q v H'

/-! ### data compared -/
section
variable {K : PySem.W.Frag} {F H : Hp} {phi : List Addr}
mutual
theorem dp_of (s : Sub F H) : ∀ (n : Nat) (d : D) (v : V), d.plain n = true → VRep K F phi d v → Dp K H v (toPy d)
  | _, .non, v, _, q => by simp only [VRep] at q; subst q; exact .non
  | _, .bl b, v, _, q => by simp only [VRep] at q; subst q; exact .bl b
  | _, .int b, v, _, q => by simp only [VRep] at q; subst q; exact .int b
  | _, .str b, v, _, q => by simp only [VRep] at q; subst q; exact .str _
  | 0, .tup xs, v, p, q => by simp [D.plain] at p
  | n + 1, .tup xs, v, p, q => by
    simp only [VRep] at q
    obtain ⟨a, vs, rfl, q1, q2⟩ := q
    simp only [D.plain] at p
    exact .tup (s.seqT q1) (dps_of s n xs vs p q2)
  | 0, .lst xs, v, p, q => by simp [D.plain] at p
  | n + 1, .lst xs, v, p, q => by
    simp only [VRep] at q
    obtain ⟨a, vs, rfl, q1, q2⟩ := q
    simp only [D.plain] at p
    exact .lst (.inl (.inl (s _ _ q1))) (dps_of s n xs vs p q2)
  | n, .dct _, v, p, q => by cases n <;> simp [D.plain] at p
  | n, .ref _, v, p, q => by cases n <;> simp [D.plain] at p
  | n, .exc _, v, p, q => by cases n <;> simp [D.plain] at p
  | n, .scr _, v, p, q => by cases n <;> simp [D.plain] at p
theorem dps_of (s : Sub F H) : ∀ (n : Nat) (ds : List D) (vs : List V), D.plains n ds = true → VReps K F phi ds vs → DpAll K H vs (toPys ds)
  | _, [], vs, _, q => by simp only [VReps] at q; subst q; exact .nil
  | n, d :: ds, vs, p, q => by
    simp only [VReps] at q
    obtain ⟨v, ws, rfl, q1, q2⟩ := q
    simp only [D.plains, Bool.and_eq_true] at p
    exact .cons (dp_of s n d v p.1 q1) (dps_of s n ds ws p.2 q2)
end
theorem dp_of_drep (s : Sub F H) {n : Nat} {d : D} {v : V} (p : d.plain n = true) (q : DRep K F phi H d v) : Dp K H v (toPy d) := by
  cases d with
  | lst xs =>
    obtain ⟨a, vs, rfl, q1, q2⟩ := q
    cases n with
    | zero => simp [D.plain] at p
    | succ n =>
      simp only [D.plain] at p
      exact .lst (.inl (.inl q1)) (dps_of s n xs vs p q2)
  | tup xs =>
    obtain ⟨a, vs, rfl, q1, q2⟩ := q
    cases n with
    | zero => simp [D.plain] at p
    | succ n =>
      simp only [D.plain] at p
      exact .tup q1 (dps_of s n xs vs p q2)
  | _ => exact dp_of (phi := phi) s n _ v p q
end
theorem strOk_of {s : List Nat} (h : (s.all fun c => decide (c < 128)) = true) : PyData.strOk (toStr s) = true := by
  unfold PyData.strOk toStr
  rw [Array.all_eq_true']
  intro c hc
  have hc' : c ∈ s := by simpa using hc
  have := List.all_eq_true.mp h c hc'
  simp only [decide_eq_true_eq] at this ⊢
  omega
mutual
theorem lay_of : ∀ (n : Nat) (d : D), d.plain n = true → (toPy d).canLay0 = true ∧ (toPy d).depth ≤ n
  | n, .non, _ => by simp [toPy, PyData.canLay0, PyData.depth]
  | n, .bl b, _ => by simp [toPy, PyData.canLay0, PyData.depth]
  | n, .int b, _ => by simp [toPy, PyData.canLay0, PyData.depth]
  | n, .str b, p => by
    have p' : (b.all fun c => decide (c < 128)) = true := by cases n <;> simpa only [D.plain] using p
    simp [toPy, PyData.canLay0, PyData.depth, strOk_of p']
  | 0, .tup xs, p => by simp [D.plain] at p
  | n + 1, .tup xs, p => by
    simp only [D.plain] at p
    have := lays_of n xs p
    simp only [toPy, PyData.canLay0, PyData.depth]
    exact ⟨this.1, by omega⟩
  | 0, .lst xs, p => by simp [D.plain] at p
  | n + 1, .lst xs, p => by
    simp only [D.plain] at p
    have := lays_of n xs p
    simp only [toPy, PyData.canLay0, PyData.depth]
    exact ⟨this.1, by omega⟩
  | n, .dct _, p => by cases n <;> simp [D.plain] at p
  | n, .ref _, p => by cases n <;> simp [D.plain] at p
  | n, .exc _, p => by cases n <;> simp [D.plain] at p
  | n, .scr _, p => by cases n <;> simp [D.plain] at p
theorem lays_of : ∀ (n : Nat) (ds : List D), D.plains n ds = true → PyData.canLayAll0 (toPys ds) = true ∧ PyData.depthAll (toPys ds) ≤ n
  | n, [], _ => by simp [toPys, PyData.canLayAll0, PyData.depthAll]
  | n, d :: ds, p => by
    simp only [D.plains, Bool.and_eq_true] at p
    have h1 := lay_of n d p.1
    have h2 := lays_of n ds p.2
    simp only [toPys, PyData.canLayAll0, PyData.depthAll, Bool.and_eq_true]
    exact ⟨⟨h1.1, h2.1⟩, by omega⟩
end
theorem shaped_of {d : D} (p : d.plain 60 = true) : SeqAt.shaped (toPy d) = true := by
  have h := lay_of 60 d p
  unfold SeqAt.shaped
  rw [h.1, Bool.true_and, decide_eq_true_eq]
  omega
theorem str_beq (s t : List Nat) : (toStr s == toStr t) = (s == t) := by
  by_cases e : s = t
  · subst e; simp
  · have : ¬ toStr s = toStr t := fun z => e (toStr_inj z)
    rw [beq_eq_false_iff_ne.mpr e, beq_eq_false_iff_ne.mpr this]
mutual
theorem eqv_of : ∀ (m n : Nat) (a b : D), a.plain m = true → b.plain n = true → PyData.eqv (toPy a) (toPy b) = D.eqv a b
  | m, n, .non, b, p, q => by cases b <;> first | (simp [toPy, PyData.eqv, D.eqv]; done) | (cases n <;> simp [D.plain] at q)
  | m, n, .bl x, b, p, q => by cases b <;> first | (simp [toPy, PyData.eqv, D.eqv]; done) | (cases n <;> simp [D.plain] at q)
  | m, n, .int x, b, p, q => by cases b <;> first | (simp [toPy, PyData.eqv, D.eqv]; done) | (cases n <;> simp [D.plain] at q)
  | m, n, .str x, b, p, q => by cases b <;> first | (simp [toPy, PyData.eqv, D.eqv, str_beq]; done) | (cases n <;> simp [D.plain] at q)
  | m, n, .tup xs, b, p, q => by
    cases b with
    | tup ys =>
      cases m with
      | zero => simp [D.plain] at p
      | succ m =>
        cases n with
        | zero => simp [D.plain] at q
        | succ n =>
          simp only [D.plain] at p q
          simp only [toPy, PyData.eqv, D.eqv]
          exact eqvs_of m n xs ys p q
    | _ => first | (simp [toPy, PyData.eqv, D.eqv]; done) | (cases n <;> simp [D.plain] at q)
  | m, n, .lst xs, b, p, q => by
    cases b with
    | lst ys =>
      cases m with
      | zero => simp [D.plain] at p
      | succ m =>
        cases n with
        | zero => simp [D.plain] at q
        | succ n =>
          simp only [D.plain] at p q
          simp only [toPy, PyData.eqv, D.eqv]
          exact eqvs_of m n xs ys p q
    | _ => first | (simp [toPy, PyData.eqv, D.eqv]; done) | (cases n <;> simp [D.plain] at q)
  | m, n, .dct _, b, p, q => by cases m <;> simp [D.plain] at p
  | m, n, .ref _, b, p, q => by cases m <;> simp [D.plain] at p
  | m, n, .exc _, b, p, q => by cases m <;> simp [D.plain] at p
  | m, n, .scr _, b, p, q => by cases m <;> simp [D.plain] at p
theorem eqvs_of : ∀ (m n : Nat) (a b : List D), D.plains m a = true → D.plains n b = true → PyData.eqvAll (toPys a) (toPys b) = D.eqvs a b
  | m, n, [], [], _, _ => by simp [toPys, PyData.eqvAll, D.eqvs]
  | m, n, [], y :: ys, _, _ => by simp [toPys, PyData.eqvAll, D.eqvs]
  | m, n, x :: xs, [], _, _ => by simp [toPys, PyData.eqvAll, D.eqvs]
  | m, n, x :: xs, y :: ys, p, q => by
    simp only [D.plains, Bool.and_eq_true] at p q
    simp only [toPys, PyData.eqvAll, D.eqvs]
    rw [eqv_of m n x y p.1 q.1, eqvs_of m n xs ys p.2 q.2]
end

/-! ### binary operators -/
def Bop.op : Bop → Operator
  | .add => .Add
  | .sub => .Sub
  | .mul => .Mult
  | .fdiv => .FloorDiv
  | .mod => .Mod
  | .pow => .Pow
section
variable {X : Cx} {C : Stc}
theorem op_bin (op : Bop) : OpR X (binaryOp op.op) (rB X.K C (binop op)) := by
  intro pins s σ H x y v u Q I rx ry hq
  obtain ⟨F, phi, h, dx, dy, d, hr, hx, hy, e, q⟩ := hq
  have ax := drep_deref hr hx
  have ay := drep_deref hr hy
  have g0 : Grow F H F H := Grow.refl hr.fH
  unfold binop at e
  split at e
  · rename_i i j ex ey
    rw [ex] at ax; rw [ey] at ay
    simp only [DRep, VRep] at ax ay
    cases e
    exact op_add pins s σ H x y v u Q I rx ry ⟨i, j, ax, ay, q F _ H g0 (VRep.vint _)⟩
  · rename_i i j ex ey
    rw [ex] at ax; rw [ey] at ay
    simp only [DRep, VRep] at ax ay
    split at e
    · rename_i hl
      cases e
      refine op_add_str pins s σ H x y v u Q I rx ry ⟨_, _, ax, ay, ?_, ?_⟩
      · rw [toStr_len, toStr_len, ← lim_eq]; exact hl
      · rw [toStr_app]; exact q F _ H g0 (VRep.vstr _)
    · cases e
  · rename_i xs ys ex ey
    rw [ex] at ax; rw [ey] at ay
    obtain ⟨a, vs, e1, e2, e3⟩ := ax
    obtain ⟨b, ws, f1, f2, f3⟩ := ay
    split at e
    · rename_i hl
      cases e
      refine op_cat pins s σ H x y v u Q I rx ry ⟨a, b, vs, ws, e1, f1, e2, f2, ?_, fun p hp => ?_⟩
      · rw [e3.len, f3.len, ← lim_eq]; exact hl
      · exact q _ _ _ (Grow.one hr.fH hp) (new_lst hr.fH hp (e3.app f3))
    · cases e
  · rename_i xs ys ex ey
    rw [ex] at ax; rw [ey] at ay
    obtain ⟨a, vs, e1, e2, e3⟩ := ax
    obtain ⟨b, ws, f1, f2, f3⟩ := ay
    have hxe : dx = .tup xs := by
      cases dx with
      | ref n => simp only [deref] at ex; split at ex <;> cases ex
      | _ => exact ex
    have hye : dy = .tup ys := by
      cases dy with
      | ref n => simp only [deref] at ey; split at ey <;> cases ey
      | _ => exact ey
    split at e
    · rename_i hl
      cases e
      refine op_catA pins s σ H x y v u Q I rx ry ⟨a, b, vs, ws, e1, f1, e2, f2, ?_, fun z => ?_, fun z z2 => ?_, fun z z2 p hp => ?_⟩
      · rw [e3.len, f3.len, ← lim_eq]; exact hl
      · have : xs = [] := List.eq_nil_of_length_eq_zero (by rw [← e3.len, z]; rfl)
        rw [this, List.nil_append] at q
        rw [← f1]
        exact q F _ H g0 (by rw [← hye]; exact hy)
      · have : ys = [] := List.eq_nil_of_length_eq_zero (by rw [← f3.len, z2]; rfl)
        rw [this, List.append_nil] at q
        rw [← e1]
        exact q F _ H g0 (by rw [← hxe]; exact hx)
      · exact q _ _ _ (Grow.one hr.fH hp) (new_tup hr.fH hp (e3.app f3))
    · cases e
  · rename_i i j ex ey
    rw [ex] at ax; rw [ey] at ay
    simp only [DRep, VRep] at ax ay
    cases e
    exact op_sub pins s σ H x y v u Q I rx ry ⟨i, j, ax, ay, q F _ H g0 (VRep.vint _)⟩
  · rename_i i j ex ey
    rw [ex] at ax; rw [ey] at ay
    simp only [DRep, VRep] at ax ay
    split at e
    · rename_i hl
      cases e
      exact op_mulW pins s σ H x y v u Q I rx ry ⟨i, j, ax, ay, hl, q F _ H g0 (VRep.vint _)⟩
    · cases e
  · rename_i xs k ex ey
    rw [ex] at ax; rw [ey] at ay
    obtain ⟨a, vs, e1, e2, e3⟩ := ax
    simp only [DRep, VRep] at ay
    split at e
    · rename_i hl
      cases e
      refine op_repT pins s σ H x y v u Q I rx ry ⟨a, k, vs, e1, ay, e2, fun z => hl.1 (by rw [← e3.len, z]; rfl), hl.2.1, hl.2.2.1, by rw [e3.len]; exact hl.2.2.2, fun p hp => ?_⟩
      exact q _ _ _ (Grow.one hr.fH hp) (new_tup hr.fH hp (e3.rep _))
    · cases e
  · rename_i xs k ex ey
    rw [ex] at ax; rw [ey] at ay
    obtain ⟨a, vs, e1, e2, e3⟩ := ax
    simp only [DRep, VRep] at ay
    split at e
    · rename_i hl
      cases e
      refine op_rep pins s σ H x y v u Q I rx ry ⟨a, k, vs, e1, ay, e2, by omega, by omega, by rw [e3.len, ← lim_eq]; exact hl.1, fun p hp => ?_⟩
      exact q _ _ _ (Grow.one hr.fH hp) (new_lst hr.fH hp (e3.rep _))
    · cases e
  · rename_i i j ex ey
    rw [ex] at ax; rw [ey] at ay
    simp only [DRep, VRep] at ax ay
    split at e
    · rename_i hl
      cases e
      exact op_fdivW pins s σ H x y v u Q I rx ry ⟨i, j, ax, ay, hl, q F _ H g0 (VRep.vint _)⟩
    · cases e
  · rename_i i j ex ey
    rw [ex] at ax; rw [ey] at ay
    simp only [DRep, VRep] at ax ay
    split at e
    · rename_i hl
      cases e
      exact op_mod pins s σ H x y v u Q I rx ry ⟨i, j, ax, ay, hl, q F _ H g0 (VRep.vint _)⟩
    · cases e
  · rename_i i j ex ey
    rw [ex] at ax; rw [ey] at ay
    simp only [DRep, VRep] at ax ay
    split at e
    · rename_i hl
      cases e
      exact op_pow pins s σ H x y v u Q I rx ry ⟨i, j, ax, ay, ⟨hl.1, by omega, hl.2.2⟩, q F _ H g0 (VRep.vint _)⟩
    · cases e
  · cases e
end
end MP

namespace MP
open PySem PySem.Spec PyProof.Rows L2
/-! ### dicts -/
theorem kyK_inj : ∀ {j k : Ky}, kyK j = kyK k → j = k
  | .inl i, .inl j, h => by cases h; rfl
  | .inl i, .inr s, h => by cases h
  | .inr s, .inl i, h => by cases h
  | .inr s, .inr t, h => by
    have : toStr s = toStr t := by injection h
    rw [toStr_inj this]
theorem kyK_dec (j k : Ky) : decide (kyK j = kyK k) = decide (j = k) := by
  by_cases e : j = k
  · subst e; simp
  · have : ¬ kyK j = kyK k := fun z => e (kyK_inj z)
    rw [decide_eq_false e, decide_eq_false this]
theorem ky_rep {K : PySem.W.Frag} {F : Hp} {phi : List Addr} : ∀ {d : D} {v : V} {k : Ky}, VRep K F phi d v → d.ky = some k → v = kV (kyK k)
  | .int i, v, k, q, e => by
    simp only [VRep] at q
    simp only [D.ky, Option.some.injEq] at e
    subst e q
    rfl
  | .str s, v, k, q, e => by
    simp only [VRep] at q
    simp only [D.ky, Option.some.injEq] at e
    subst e q
    rfl
  | .non, v, k, q, e => by simp [D.ky] at e
  | .bl _, v, k, q, e => by simp [D.ky] at e
  | .tup _, v, k, q, e => by simp [D.ky] at e
  | .lst _, v, k, q, e => by simp [D.ky] at e
  | .dct _, v, k, q, e => by simp [D.ky] at e
  | .ref _, v, k, q, e => by simp [D.ky] at e
  | .exc _, v, k, q, e => by simp [D.ky] at e
  | .scr _, v, k, q, e => by simp [D.ky] at e
theorem kyD_rep {K : PySem.W.Frag} {F : Hp} {phi : List Addr} (k : Ky) : VRep K F phi (kyD k) (kV (kyK k)) := by
  cases k with
  | inl i => simp only [kyD, VRep, kyK, kV]
  | inr s => simp only [kyD, VRep, kyK, kV]
section
variable {K : PySem.W.Frag} {F : Hp} {phi : List Addr}
theorem KReps.len : ∀ {kvs : List (Ky × D)} {kws : List (Key × V)}, KReps K F phi kvs kws → kws.length = kvs.length
  | [], kws, h => by simp only [KReps] at h; rw [h]; rfl
  | (k, d) :: kvs, kws, h => by
    simp only [KReps] at h
    obtain ⟨v, ws, e, _, r⟩ := h
    rw [e, List.length_cons, List.length_cons, KReps.len r]
theorem KReps.cons {k : Ky} {d : D} {v : V} {kvs : List (Ky × D)} {kws : List (Key × V)} (h : VRep K F phi d v) (r : KReps K F phi kvs kws) : KReps K F phi ((k, d) :: kvs) ((kyK k, v) :: kws) := by
  simp only [KReps]
  exact ⟨v, kws, rfl, h, r⟩
theorem KReps.nil : KReps K F phi [] [] := by simp only [KReps]
theorem KReps.app : ∀ {kvs lvs : List (Ky × D)} {kws lws : List (Key × V)}, KReps K F phi kvs kws → KReps K F phi lvs lws → KReps K F phi (kvs ++ lvs) (kws ++ lws)
  | [], lvs, kws, lws, h, q => by simp only [KReps] at h; rw [h]; exact q
  | (k, d) :: kvs, lvs, kws, lws, h, q => by
    simp only [KReps] at h
    obtain ⟨v, ws, e, t, r⟩ := h
    rw [e]
    exact KReps.cons t (KReps.app r q)
theorem KReps.any : ∀ {kvs : List (Ky × D)} {kws : List (Key × V)} (k : Ky), KReps K F phi kvs kws → (kws.any fun p => decide (p.1 = kyK k)) = kvs.any fun p => decide (p.1 = k)
  | [], kws, k, h => by simp only [KReps] at h; rw [h]; rfl
  | (j, d) :: kvs, kws, k, h => by
    simp only [KReps] at h
    obtain ⟨v, ws, e, t, r⟩ := h
    rw [e, List.any_cons, List.any_cons, KReps.any k r]
    show (decide (kyK j = kyK k) || _) = (decide (j = k) || _)
    rw [kyK_dec]
theorem KReps.find : ∀ {kvs : List (Ky × D)} {kws : List (Key × V)} (k : Ky), KReps K F phi kvs kws → match getK kvs k with
    | some d => ∃ v, valV kws (kyK k) = some v ∧ VRep K F phi d v
    | none => valV kws (kyK k) = none
  | [], kws, k, h => by simp only [KReps] at h; rw [h]; rfl
  | (j, d) :: kvs, kws, k, h => by
    simp only [KReps] at h
    obtain ⟨v, ws, e, t, r⟩ := h
    rw [e]
    by_cases hk : j = k
    · subst hk
      have : getK ((j, d) :: kvs) j = some d := by simp [getK]
      rw [this]
      exact ⟨v, by rw [valV_pos rfl], t⟩
    · have e1 : getK ((j, d) :: kvs) k = getK kvs k := by simp [getK, hk]
      have e2 : valV ((kyK j, v) :: ws) (kyK k) = valV ws (kyK k) := valV_neg (fun z => hk (kyK_inj z))
      rw [e1, e2]
      exact KReps.find k r
theorem KReps.repl : ∀ {kvs : List (Ky × D)} {kws : List (Key × V)} (k : Ky) {d : D} {v : V}, KReps K F phi kvs kws → VRep K F phi d v →
    KReps K F phi (kvs.map fun p => if p.1 = k then (p.1, d) else p) (kws.map fun p => if p.1 = kyK k then (p.1, v) else p)
  | [], kws, k, d, v, h, q => by simp only [KReps] at h; rw [h]; exact KReps.nil
  | (j, c) :: kvs, kws, k, d, v, h, q => by
    simp only [KReps] at h
    obtain ⟨w, ws, e, t, r⟩ := h
    rw [e, List.map_cons, List.map_cons]
    by_cases hk : j = k
    · subst hk
      rw [if_pos rfl, if_pos rfl]
      exact KReps.cons q (KReps.repl j r q)
    · rw [if_neg hk, if_neg (fun z => hk (kyK_inj z))]
      exact KReps.cons t (KReps.repl k r q)
theorem KReps.put {kvs : List (Ky × D)} {kws : List (Key × V)} (k : Ky) {d : D} {v : V} (h : KReps K F phi kvs kws) (q : VRep K F phi d v) : KReps K F phi (putK kvs k d) (L2.putK kws (kyK k) v) := by
  unfold putK L2.putK
  rw [KReps.any k h]
  split
  · exact KReps.repl k h q
  · exact h.app (KReps.cons q KReps.nil)
theorem KReps.del : ∀ {kvs : List (Ky × D)} {kws : List (Key × V)} (k : Ky), KReps K F phi kvs kws → KReps K F phi (delK kvs k) (dropK kws (kyK k))
  | [], kws, k, h => by simp only [KReps] at h; rw [h]; exact KReps.nil
  | (j, c) :: kvs, kws, k, h => by
    simp only [KReps] at h
    obtain ⟨w, ws, e, t, r⟩ := h
    rw [e]
    by_cases hk : j = k
    · subst hk
      have e1 : delK ((j, c) :: kvs) j = delK kvs j := by simp [delK]
      have e2 : dropK ((kyK j, w) :: ws) (kyK j) = dropK ws (kyK j) := by simp [dropK]
      rw [e1, e2]
      exact KReps.del j r
    · have e1 : delK ((j, c) :: kvs) k = (j, c) :: delK kvs k := by simp [delK, hk]
      have hk2 : ¬ kyK j = kyK k := fun z => hk (kyK_inj z)
      have e2 : dropK ((kyK j, w) :: ws) (kyK k) = (kyK j, w) :: dropK ws (kyK k) := by simp [dropK, hk2]
      rw [e1, e2]
      exact KReps.cons t (KReps.del k r)
theorem KReps.keys : ∀ {kvs : List (Ky × D)} {kws : List (Key × V)}, KReps K F phi kvs kws → VReps K F phi (kvs.map fun p => kyD p.1) (kws.map fun p => kV p.1)
  | [], kws, h => by simp only [KReps] at h; rw [h]; exact VReps.nil
  | (j, c) :: kvs, kws, h => by
    simp only [KReps] at h
    obtain ⟨w, ws, e, t, r⟩ := h
    rw [e, List.map_cons, List.map_cons]
    exact VReps.cons (kyD_rep j) (KReps.keys r)
end

/-! ### comparisons -/
def Cop.op : Cop → CmpOp
  | .eq => .Eq
  | .ne => .NotEq
  | .lt => .Lt
  | .le => .LtE
  | .gt => .Gt
  | .ge => .GtE
  | .is => .Is
  | .isNot => .IsNot
  | .isIn => .In
  | .notIn => .NotIn
theorem none_iff {K : PySem.W.Frag} {F : Hp} {phi : List Addr} {d : D} {x : V} (q : VRep K F phi d x) : decide (x = .non) = d.isNon := by
  cases d <;> simp only [VRep] at q
  case non => subst q; rfl
  case bl => subst q; rfl
  case int => subst q; rfl
  case str => subst q; rfl
  case tup => obtain ⟨a, vs, e, _⟩ := q; subst e; rfl
  case lst => obtain ⟨a, vs, e, _⟩ := q; subst e; rfl
  case dct => obtain ⟨a, vs, e, _⟩ := q; subst e; rfl
  case exc => obtain ⟨a, vs, e, _⟩ := q; subst e; rfl
  case ref => obtain ⟨a, e, _⟩ := q; subst e; rfl
  case scr => obtain ⟨a, e, _⟩ := q; subst e; rfl
theorem flat_rep {K : PySem.W.Frag} {F : Hp} {phi : List Addr} {d : D} {x : V} (q : VRep K F phi d x) (p : d.flat = true) : flatV x = true := by
  cases d <;> simp only [VRep] at q <;> first | (subst q; rfl) | (simp [D.flat] at p)
theorem flats_rep {K : PySem.W.Frag} {F : Hp} {phi : List Addr} : ∀ {ds : List D} {vs : List V}, VReps K F phi ds vs → ds.all D.flat = true → vs.all flatV = true
  | [], vs, q, _ => by simp only [VReps] at q; rw [q]; rfl
  | d :: ds, vs, q, p => by
    simp only [VReps] at q
    obtain ⟨v, ws, e, q1, q2⟩ := q
    rw [List.all_cons, Bool.and_eq_true] at p
    rw [e, List.all_cons, flat_rep q1 p.1, flats_rep q2 p.2]
    rfl
theorem eqV_rep {K : PySem.W.Frag} {F : Hp} {phi : List Addr} {d e : D} {x y : V} (q : VRep K F phi d x) (q2 : VRep K F phi e y) (p : d.flat = true) (p2 : e.flat = true) : eqV x y = D.eqv d e := by
  cases d <;> simp [D.flat] at p <;> cases e <;> simp [D.flat] at p2 <;> simp only [VRep] at q q2 <;> subst q q2 <;> simp [eqV, D.eqv, str_beq]
theorem anyV_rep {K : PySem.W.Frag} {F : Hp} {phi : List Addr} {e : D} {y : V} (q2 : VRep K F phi e y) (p2 : e.flat = true) : ∀ {ds : List D} {vs : List V}, VReps K F phi ds vs → ds.all D.flat = true →
    (vs.any fun z => eqV z y) = ds.any fun z => D.eqv z e
  | [], vs, q, _ => by simp only [VReps] at q; rw [q]; rfl
  | d :: ds, vs, q, p => by
    simp only [VReps] at q
    obtain ⟨v, ws, e1, q1, q3⟩ := q
    rw [List.all_cons, Bool.and_eq_true] at p
    rw [e1, List.any_cons, List.any_cons, eqV_rep q1 q2 p.1 p2, anyV_rep q2 p2 q3 p.2]
theorem any_py (e : D) (p2 : e.plain 60 = true) : ∀ {n : Nat} {ds : List D}, D.plains n ds = true → ((toPys ds).any fun z => PyData.eqv z (toPy e)) = ds.any fun z => D.eqv z e
  | n, [], _ => rfl
  | n, d :: ds, p => by
    simp only [D.plains, Bool.and_eq_true] at p
    simp only [toPys]
    rw [List.any_cons, List.any_cons, eqv_of n 60 d e p.1 p2, any_py e p2 p.2]
section
variable {X : Cx} {C : Stc}
theorem op_isin (hu : X.A.units + 65 < cLine) : OpR X (compareOp .In) (rB X.K C fun x y h => (isIn x y h).map .bl) := by
  intro pins s σ H x y v u Q I rx ry hq
  obtain ⟨F, phi, h, dx, dy, d, hr, hx, hy, e, q⟩ := hq
  have g0 : Grow F H F H := Grow.refl hr.fH
  simp only [Option.map_eq_some_iff] at e
  obtain ⟨b, e, rfl⟩ := e
  unfold isIn at e
  split at e
  · rename_i c t
    cases e
    simp only [VRep] at hx hy
    refine op_in_sign pins s σ H x y v u Q I rx ry ⟨c, toStr t, hx, hy, ?_⟩
    rw [toStr_list, ← List.contains_eq_mem]
    exact q F _ H g0 (VRep.vbl _)
  · rename_i kvs
    split at e
    · rename_i k ek
      cases e
      simp only [VRep] at hy
      obtain ⟨a, kws, ey, e1, e2⟩ := hy
      subst ey
      obtain rfl : u = Value.ref a := ry
      have hk := ky_rep hx ek
      refine d_in (o := valV kws (kyK k)) (by omega) I (.inl ⟨kws, kyK k, .inl (hr.fH _ _ e1), hk, rfl⟩) rx fun s' I' => ⟨.bl (valV kws (kyK k)).isSome, H, I', rfl, ?_⟩
      have hf := KReps.find k e2
      have : (valV kws (kyK k)).isSome = (getK kvs k).isSome := by
        cases hg : getK kvs k with
        | none => rw [hg] at hf; rw [hf]; rfl
        | some d => rw [hg] at hf; obtain ⟨w, hw, _⟩ := hf; rw [hw]; rfl
      rw [this]
      exact q F _ H g0 (VRep.vbl _)
    · cases e
  · rename_i ys _
    split at e
    · rename_i p
      cases e
      rw [Bool.and_eq_true] at p
      simp only [VRep] at hy
      obtain ⟨a, vs, ey, e1, e2⟩ := hy
      refine op_in_seq pins s σ H x y v u Q I rx ry ⟨a, vs, ey, .inr (hr.fH.seqT e1), flat_rep hx p.1, flats_rep e2 p.2, ?_⟩
      show Q (.bl (inV x vs)) H
      unfold inV
      rw [anyV_rep hx p.1 e2 p.2]
      exact q F _ H g0 (VRep.vbl _)
    · cases e
  · split at e
    · rename_i ys ei
      split at e
      · rename_i p
        cases e
        rw [Bool.and_eq_true] at p
        obtain ⟨a, vs, ey, e1, e2⟩ := itemsL_rep hr hy ei
        refine op_inD hu pins s σ H x y v u Q I rx ry ⟨toPy dx, toPys ys, dp_of hr.fH 60 _ _ p.1 hx, ?_, shaped_of p.1, ?_, ?_⟩
        · rw [ey]
          exact .lst (.inl (.inl e1)) (dps_of hr.fH 59 _ _ p.2 e2)
        · exact shaped_of (d := .lst ys) (by simpa only [D.plain] using p.2)
        · rw [any_py dx p.1 p.2]
          exact q F _ H g0 (VRep.vbl _)
      · cases e
    · cases e
theorem op_notin (hu : X.A.units + 65 < cLine) : OpR X (compareOp .NotIn) (rB X.K C fun x y h => ((isIn x y h).map (!·)).map .bl) := by
  intro pins s σ H x y v u Q I rx ry hq
  obtain ⟨F, phi, h, dx, dy, d, hr, hx, hy, e, q⟩ := hq
  have g0 : Grow F H F H := Grow.refl hr.fH
  simp only [Option.map_map, Option.map_eq_some_iff] at e
  obtain ⟨b, e, rfl⟩ := e
  unfold isIn at e
  split at e
  · rename_i c t
    cases e
    simp only [VRep] at hx hy
    refine op_notIn_sign pins s σ H x y v u Q I rx ry ⟨c, toStr t, hx, hy, ?_⟩
    rw [toStr_list, ← List.contains_eq_mem]
    exact q F _ H g0 (VRep.vbl _)
  · rename_i kvs
    split at e
    · rename_i k ek
      cases e
      simp only [VRep] at hy
      obtain ⟨a, kws, ey, e1, e2⟩ := hy
      subst ey
      obtain rfl : u = Value.ref a := ry
      have hk := ky_rep hx ek
      refine d_notIn (o := valV kws (kyK k)) (by omega) I (.inl ⟨kws, kyK k, .inl (hr.fH _ _ e1), hk, rfl⟩) rx fun s' I' => ⟨.bl (!(valV kws (kyK k)).isSome), H, I', rfl, ?_⟩
      have hf := KReps.find k e2
      have : (valV kws (kyK k)).isSome = (getK kvs k).isSome := by
        cases hg : getK kvs k with
        | none => rw [hg] at hf; rw [hf]; rfl
        | some d => rw [hg] at hf; obtain ⟨w, hw, _⟩ := hf; rw [hw]; rfl
      rw [this]
      exact q F _ H g0 (VRep.vbl _)
    · cases e
  · rename_i ys _
    split at e
    · rename_i p
      cases e
      rw [Bool.and_eq_true] at p
      simp only [VRep] at hy
      obtain ⟨a, vs, ey, e1, e2⟩ := hy
      refine op_notIn_seq pins s σ H x y v u Q I rx ry ⟨a, vs, ey, .inr (hr.fH.seqT e1), flat_rep hx p.1, flats_rep e2 p.2, ?_⟩
      show Q (.bl (!inV x vs)) H
      unfold inV
      rw [anyV_rep hx p.1 e2 p.2]
      exact q F _ H g0 (VRep.vbl _)
    · cases e
  · split at e
    · rename_i ys ei
      split at e
      · rename_i p
        cases e
        rw [Bool.and_eq_true] at p
        obtain ⟨a, vs, ey, e1, e2⟩ := itemsL_rep hr hy ei
        refine op_notInD hu pins s σ H x y v u Q I rx ry ⟨toPy dx, toPys ys, dp_of hr.fH 60 _ _ p.1 hx, ?_, shaped_of p.1, ?_, ?_⟩
        · rw [ey]
          exact .lst (.inl (.inl e1)) (dps_of hr.fH 59 _ _ p.2 e2)
        · exact shaped_of (d := .lst ys) (by simpa only [D.plain] using p.2)
        · rw [any_py dx p.1 p.2]
          exact q F _ H g0 (VRep.vbl _)
      · cases e
    · cases e
theorem str_two {K : PySem.W.Frag} {F : Hp} {phi : List Addr} {dx dy : D} {x y : V} (hx : VRep K F phi dx x) (hy : VRep K F phi dy y) (p : (dx.isStr && dy.isStr) = true) : scal x y = true ∧ decide (x = y) = D.eqv dx dy := by
  rw [Bool.and_eq_true] at p
  cases dx with
  | str s =>
    cases dy with
    | str t =>
      simp only [VRep] at hx hy
      subst hx hy
      refine ⟨rfl, ?_⟩
      simp only [D.eqv]
      by_cases e : s = t
      · subst e; simp
      · have : ¬ V.str (toStr s) = V.str (toStr t) := fun z => e (toStr_inj (V.str.inj z))
        rw [decide_eq_false this]
        exact (beq_eq_false_iff_ne.mpr e).symm
    | _ => cases p.2
  | _ => cases p.1
theorem op_cmp (op : Cop) (hu : X.A.units + 65 < cLine) : OpR X (compareOp op.op) (rB X.K C fun x y h => (cmpop op x y h).map .bl) := by
  cases op with
  | isIn => exact op_isin hu
  | notIn => exact op_notin hu
  | lt =>
    intro pins s σ H x y v u Q I rx ry hq
    obtain ⟨F, phi, h, dx, dy, d, hr, hx, hy, e, q⟩ := hq
    simp only [Option.map_eq_some_iff, cmpop] at e
    obtain ⟨b, e, rfl⟩ := e
    split at e
    · cases e
      simp only [VRep] at hx hy
      exact op_lt pins s σ H x y v u Q I rx ry ⟨_, _, hx, hy, q F _ H (Grow.refl hr.fH) (VRep.vbl _)⟩
    · cases e
  | le =>
    intro pins s σ H x y v u Q I rx ry hq
    obtain ⟨F, phi, h, dx, dy, d, hr, hx, hy, e, q⟩ := hq
    simp only [Option.map_eq_some_iff, cmpop] at e
    obtain ⟨b, e, rfl⟩ := e
    split at e
    · cases e
      simp only [VRep] at hx hy
      exact op_le pins s σ H x y v u Q I rx ry ⟨_, _, hx, hy, q F _ H (Grow.refl hr.fH) (VRep.vbl _)⟩
    · cases e
  | gt =>
    intro pins s σ H x y v u Q I rx ry hq
    obtain ⟨F, phi, h, dx, dy, d, hr, hx, hy, e, q⟩ := hq
    simp only [Option.map_eq_some_iff, cmpop] at e
    obtain ⟨b, e, rfl⟩ := e
    split at e
    · cases e
      simp only [VRep] at hx hy
      exact op_gt pins s σ H x y v u Q I rx ry ⟨_, _, hx, hy, q F _ H (Grow.refl hr.fH) (VRep.vbl _)⟩
    · cases e
  | ge =>
    intro pins s σ H x y v u Q I rx ry hq
    obtain ⟨F, phi, h, dx, dy, d, hr, hx, hy, e, q⟩ := hq
    simp only [Option.map_eq_some_iff, cmpop] at e
    obtain ⟨b, e, rfl⟩ := e
    split at e
    · cases e
      simp only [VRep] at hx hy
      exact op_ge pins s σ H x y v u Q I rx ry ⟨_, _, hx, hy, q F _ H (Grow.refl hr.fH) (VRep.vbl _)⟩
    · cases e
  | eq =>
    intro pins s σ H x y v u Q I rx ry hq
    obtain ⟨F, phi, h, dx, dy, d, hr, hx, hy, e, q⟩ := hq
    simp only [Option.map_eq_some_iff, cmpop] at e
    obtain ⟨b, e, rfl⟩ := e
    split at e
    · rename_i p
      obtain ⟨z1, z2⟩ := str_two hx hy p
      cases e
      refine op_eq pins s σ H x y v u Q I rx ry ⟨z1, ?_⟩
      rw [z2]
      exact q F _ H (Grow.refl hr.fH) (VRep.vbl _)
    split at e
    · rename_i p
      cases e
      rw [Bool.and_eq_true] at p
      refine op_eqD (by omega) pins s σ H x y v u Q I rx ry ⟨_, _, dp_of_drep hr.fH p.1 (drep_deref hr hx), dp_of_drep hr.fH p.2 (drep_deref hr hy), shaped_of p.1, shaped_of p.2, ?_⟩
      rw [eqv_of 60 60 _ _ p.1 p.2]
      exact q F _ H (Grow.refl hr.fH) (VRep.vbl _)
    · cases e
  | ne =>
    intro pins s σ H x y v u Q I rx ry hq
    obtain ⟨F, phi, h, dx, dy, d, hr, hx, hy, e, q⟩ := hq
    simp only [Option.map_eq_some_iff, cmpop] at e
    obtain ⟨b, e, rfl⟩ := e
    split at e
    · rename_i p
      obtain ⟨z1, z2⟩ := str_two hx hy p
      cases e
      refine op_ne pins s σ H x y v u Q I rx ry ⟨z1, ?_⟩
      rw [z2]
      exact q F _ H (Grow.refl hr.fH) (VRep.vbl _)
    split at e
    · rename_i p
      cases e
      rw [Bool.and_eq_true] at p
      refine op_neD (by omega) pins s σ H x y v u Q I rx ry ⟨_, _, dp_of_drep hr.fH p.1 (drep_deref hr hx), dp_of_drep hr.fH p.2 (drep_deref hr hy), shaped_of p.1, shaped_of p.2, ?_⟩
      rw [eqv_of 60 60 _ _ p.1 p.2]
      exact q F _ H (Grow.refl hr.fH) (VRep.vbl _)
    · cases e
  | is =>
    intro pins s σ H x y v u Q I rx ry hq
    obtain ⟨F, phi, h, dx, dy, d, hr, hx, hy, e, q⟩ := hq
    simp only [Option.map_eq_some_iff, cmpop] at e
    obtain ⟨b, e, rfl⟩ := e
    split at e
    · simp only [Option.some.injEq] at e
      simp only [VRep] at hy
      refine op_isN pins s σ H x y v u Q I rx ry ⟨hy, ?_⟩
      rw [none_iff hx, e]
      exact q F _ H (Grow.refl hr.fH) (VRep.vbl _)
    · split at e
      · cases e
        simp only [VRep] at hx hy
        exact op_is_bl pins s σ H x y v u Q I rx ry ⟨_, _, hx, hy, q F _ H (Grow.refl hr.fH) (VRep.vbl _)⟩
      · cases e
    · cases e
  | isNot =>
    intro pins s σ H x y v u Q I rx ry hq
    obtain ⟨F, phi, h, dx, dy, d, hr, hx, hy, e, q⟩ := hq
    simp only [Option.map_eq_some_iff, cmpop] at e
    obtain ⟨b, e, rfl⟩ := e
    split at e
    · simp only [Option.some.injEq] at e
      simp only [VRep] at hy
      refine op_notN pins s σ H x y v u Q I rx ry ⟨hy, ?_⟩
      have e2 : (!decide (x = V.non)) = b := by
        rw [none_iff hx, e]
      rw [e2]
      exact q F _ H (Grow.refl hr.fH) (VRep.vbl _)
    · split at e
      · cases e
        simp only [VRep] at hx hy
        exact op_isnot_bl pins s σ H x y v u Q I rx ry ⟨_, _, hx, hy, q F _ H (Grow.refl hr.fH) (VRep.vbl _)⟩
      · cases e
    · cases e
end
end MP


set_option Elab.async false
set_option linter.all false
set_option maxHeartbeats 2000000
/-! min of a list of tuples of ints. -/
namespace MP
open PySem PySem.Spec PyProof.Rows L2 PySem.W
theorem all_ints {h : Heap} : ∀ {vs : List Value} {ns : List Int}, IntsAre vs ns → ReadsAll h vs (ns.map .int) []
  | _, _, .nil => .nil
  | _, _, .cons p q r => .cons (.int _ _) (all_ints r)
theorem tup_reads {h : Heap} {v : Value} {ns : List Int} (x : TS.TupInts h v ns) : Reads h v (.tuple (ns.map .int)) [] := by
  obtain ⟨a, xs, rfl, ⟨o, ho, hc, n, hd⟩, i⟩ := x
  exact .tuple ho hc hd (all_ints i)
theorem alike_ints : ∀ a b : List Int, alikeAll (a.map PyData.int) (b.map PyData.int) = true
  | [], _ => by simp [alikeAll]
  | x :: a, [] => by simp [alikeAll]
  | x :: a, y :: b => by
    have := alike_ints a b
    simp [alikeAll, alike, this]
theorem depth_ints : ∀ a : List Int, PyData.depthAll (a.map PyData.int) ≤ 1
  | [] => by simp [PyData.depthAll]
  | x :: a => by
    have := depth_ints a
    simp [PyData.depthAll, PyData.depth]
    omega
theorem lt_ints : ∀ a b : List Int, a.length = b.length → dataLt (.tuple (a.map .int)) (.tuple (b.map .int)) = ltI a b
  | [], [], _ => by simp [dataLt, keyToks, keyToksAll, ltI, PyProof.Rows.lexLt]; rfl
  | x :: a, y :: b, h => by
    have ih := lt_ints a b (by simpa using h)
    unfold dataLt at ih ⊢
    simp only [keyToks, keyToksAll, List.map_cons, ltI, List.cons_append, List.nil_append] at ih ⊢
    rw [lex_self (O := itemOrd)]
    by_cases e : x = y
    · subst e
      rw [lex_self (O := itemOrd), ih]
      simp
    · rw [lex_diff (O := itemOrd) (by simpa using e)]
      simp [e]
      rfl
section
variable {X : Cx}
/-- min(xs), xs a list of tuples of ints, as many in each -/
theorem call_minT (hc : X.calm = true) (hu : X.A.units + 65 < cLine) : CallR X (.builtin "min") (fun xs H Q => ∃ (p : Addr) (vs : List V) (n : List Int) (ns : List (List Int)), xs = [.ref p] ∧ SqL X.K H p vs ∧
    (∀ m ∈ ns, m.length = n.length) ∧ vs.length = ns.length + 1 ∧ (∀ (i : Nat) v, vs[i]? = some v → ∃ m, (n :: ns)[i]? = some m ∧ TupI X.K H v m) ∧ ∀ (i : Nat) v, vs[i]? = some v → (n :: ns)[i]? = some (minI n ns) → Q v H) := by
  intro pins s σ H xs us Q I r ⟨p, vs, n, ns, ex, hs, hm, hl, ht, q⟩
  subst ex
  obtain ⟨its, rv, li, _⟩ := I.list hs
  rw [Vals.ref1 r]
  have lv : its.length = vs.length := rv.length.symm
  have tr : ∀ (i : Nat) u, its[i]? = some u → ∃ m, (n :: ns)[i]? = some m ∧ TS.TupInts s.heap u m := fun i u hi => by
    have hi' : i < vs.length := by rw [← lv]; exact (List.getElem?_eq_some_iff.mp hi).1
    obtain ⟨m, hm, t, e, hT⟩ := ht i vs[i] (by simp)
    obtain ⟨u', hu', rr⟩ := Vals.get rv (show vs[i]? = some vs[i] by simp)
    rw [hi] at hu'
    cases hu'
    rw [e] at rr
    cases rr
    exact ⟨m, hm, tupI_raw I hT⟩
  have sz : its.toArray.size = ns.length + 1 := by rw [List.size_toArray, lv, hl]
  refine call_min_walkH (iter_listW (A := X.A.in1) (I.ok.hd hc) li.isList fun s₂ e W st hfp hw hk => ?_)
  refine ⟨_, _, _, _, _, _, _, s.heap, fun i j => ltI ((n :: ns).getD i []) ((n :: ns).getD j []), rfl, W, st, hfp, by omega, hw, hk, ?_, fun v s' hP m => ?_⟩
  · intro i j vi vj s' Q' E' hk' hi hj hq
    have hi : its[i]? = some vi := by simpa using hi
    have hj : its[j]? = some vj := by simpa using hj
    obtain ⟨a, ha, ta⟩ := tr i vi hi
    obtain ⟨b, hb, tb⟩ := tr j vj hj
    have la : a.length = n.length := by
      rcases List.mem_cons.mp (List.mem_of_getElem? ha) with rfl | z
      · rfl
      · exact hm a z
    have lb : b.length = n.length := by
      rcases List.mem_cons.mp (List.mem_of_getElem? hb) with rfl | z
      · rfl
      · exact hm b z
    have ea : (n :: ns).getD i [] = a := by rw [List.getD_eq_getElem?_getD, ha]; rfl
    have eb : (n :: ns).getD j [] = b := by rw [List.getD_eq_getElem?_getD, hb]; rfl
    simp only at hq
    rw [ea, eb, ← lt_ints a b (by omega)] at hq
    have da := depth_ints a
    refine rcLt_alike _ _ X.A.in1 s' vi vj _ _ (reads_keeps hk' (tup_reads ta)) (reads_keeps hk' (tup_reads tb)) (by rw [alike]; exact alike_ints a b) (by simp) ?_ _ _ E' Q' hq
    have h1 := Nat.min_le_left (PyData.tuple (a.map .int)).depth (PyData.tuple (b.map .int)).depth
    have h2 : (PyData.tuple (a.map .int)).depth ≤ 2 := by rw [PyData.depth]; omega
    show X.A.units + 1 + _ < _
    omega
  · obtain ⟨h', tk, rfl, hk'⟩ := moved_old e rfl m
    have hP : its[argBest (fun i j => ltI ((n :: ns).getD i []) ((n :: ns).getD j [])) (its.toArray.size - 1)]? = some v := by simpa using hP
    obtain ⟨f1, f2⟩ := argBest_fold ltI [] n ns ns.length (Nat.le_refl _)
    rw [List.take_length] at f2
    rw [sz, Nat.add_sub_cancel] at hP
    generalize argBest (fun i j => ltI ((n :: ns).getD i []) ((n :: ns).getD j [])) ns.length = i at hP f1 f2
    have hi : i < vs.length := by omega
    obtain ⟨u, hu', rr⟩ := Vals.get rv (show vs[i]? = some vs[i] by simp)
    rw [hP] at hu'
    cases hu'
    refine ⟨vs[i], H, I.kept hk', rr, q i vs[i] (by simp) ?_⟩
    have hn : i < (n :: ns).length := by simp; omega
    rw [List.getElem?_eq_getElem hn]
    rw [List.getD_eq_getElem?_getD, List.getElem?_eq_getElem hn] at f2
    exact congrArg some f2
end
end MP


set_option Elab.async false
set_option linter.all false
set_option maxHeartbeats 1000000
/-! Built-in functions by value. -/
namespace MP
open PySem PySem.Spec PyProof.Rows L2

section
variable {K : PySem.W.Frag} {C : Stc} {F : Hp} {phi : List Addr} {h : Hh} {H : Hp}
theorem vreps1 {d : D} {vs : List V} (q : VReps K F phi [d] vs) : ∃ v, vs = [v] ∧ VRep K F phi d v := by
  simp only [VReps] at q
  obtain ⟨v, ws, e, r, t⟩ := q
  subst t
  exact ⟨v, e, r⟩
theorem vreps2 {d e : D} {vs : List V} (q : VReps K F phi [d, e] vs) : ∃ v w, vs = [v, w] ∧ VRep K F phi d v ∧ VRep K F phi e w := by
  simp only [VReps] at q
  obtain ⟨v, ws, e1, r, w, us, e2, r2, t⟩ := q
  subst t e2
  exact ⟨v, w, e1, r, r2⟩
/-- a value's truth -/
theorem tru_of (x : HR K C F phi h H) {d : D} {v : V} {k : Bool} (q : VRep K F phi d v) (e : truth d h = some k) : TruV K v H k := by
  cases d with
  | non =>
    simp only [VRep] at q
    simp only [truth, Option.some.injEq] at e
    subst q e
    rfl
  | bl b =>
    simp only [VRep] at q
    simp only [truth, Option.some.injEq] at e
    subst q e
    rfl
  | int i =>
    simp only [VRep] at q
    simp only [truth, Option.some.injEq] at e
    subst q e
    show decide (i ≠ 0) = (i != 0)
    by_cases hi : i = 0
    · subst hi; rfl
    · simp [hi]
  | str s =>
    simp only [VRep] at q
    simp only [truth] at e
    split at e
    · rename_i hl
      cases e
      subst q
      refine ⟨by rw [toStr_len, ← lim_eq]; exact hl, ?_⟩
      rw [toStr_len]
      cases s with
      | nil => rfl
      | cons c r => simp; omega
    · cases e
  | tup xs =>
    simp only [VRep] at q
    simp only [truth, Option.some.injEq] at e
    obtain ⟨a, vs, e1, e2, e3⟩ := q
    subst e1 e
    refine .inr (.inl ⟨vs, x.fH.seqT e2, ?_⟩)
    have := e3.len
    cases xs <;> cases vs <;> simp at this ⊢
  | lst xs =>
    simp only [VRep] at q
    simp only [truth, Option.some.injEq] at e
    obtain ⟨a, vs, e1, e2, e3⟩ := q
    subst e1 e
    refine .inl ⟨vs, .inl (.inl (x.fH _ _ e2)), ?_⟩
    have := e3.len
    cases xs <;> cases vs <;> simp at this ⊢
  | dct kvs =>
    simp only [VRep] at q
    simp only [truth, Option.some.injEq] at e
    obtain ⟨a, vs, e1, e2, e3⟩ := q
    subst e1 e
    refine .inr (.inr ⟨vs, x.fH _ _ e2, ?_⟩)
    have := e3.len
    cases kvs <;> cases vs <;> simp at this ⊢
  | ref n =>
    simp only [truth] at e
    split at e
    · rename_i xs ei
      cases e
      have := drep_deref x q
      simp only [deref, ei] at this
      obtain ⟨a, vs, e1, e2, e3⟩ := this
      subst e1
      refine .inl ⟨vs, .inl (.inl e2), ?_⟩
      have := e3.len
      cases xs <;> cases vs <;> simp at this ⊢
    · cases e
  | exc c => simp [truth] at e
  | scr ns => simp [truth] at e
end

/-! ### sorting -/
theorem insI_perm (i : Int) : ∀ l : List Int, (insI i l).Perm (i :: l)
  | [] => .refl _
  | j :: r => by
    unfold insI
    split
    · exact .refl _
    · exact ((insI_perm i r).cons j).trans (.swap i j r)
theorem sortI_perm : ∀ l : List Int, (sortI l).Perm l
  | [] => .refl _
  | i :: r => (insI_perm i (sortI r)).trans ((sortI_perm r).cons i)
theorem insI_sorted (i : Int) : ∀ l : List Int, l.Pairwise (· ≤ ·) → (insI i l).Pairwise (· ≤ ·)
  | [], _ => List.pairwise_singleton _ _
  | j :: r, p => by
    unfold insI
    split
    · rename_i hle
      refine List.pairwise_cons.mpr ⟨fun x hx => ?_, p⟩
      rcases List.mem_cons.mp hx with e | hx
      · omega
      · have := (List.pairwise_cons.mp p).1 x hx
        omega
    · rename_i hle
      have hp := List.pairwise_cons.mp p
      refine List.pairwise_cons.mpr ⟨fun x hx => ?_, insI_sorted i r hp.2⟩
      rcases List.mem_cons.mp ((insI_perm i r).mem_iff.mp hx) with e | hx
      · omega
      · exact hp.1 x hx
theorem sortI_sorted : ∀ l : List Int, (sortI l).Pairwise (· ≤ ·)
  | [] => .nil
  | i :: r => insI_sorted i _ (sortI_sorted r)
theorem sortI_uniq {ns ms : List Int} (p : ms.Perm ns) (s : ms.Pairwise (· ≤ ·)) : ms = sortI ns :=
  (p.trans (sortI_perm ns).symm).eq_of_pairwise (fun _ _ _ _ a b => Int.le_antisymm a b) s (sortI_sorted ns)

/-! ### what may be shown -/
theorem intW_ok {i : Int} {w : Nat} (e : intW i = some w) : i.natAbs.log2 < 1920 ∧ (if i == 0 then 0 else i.natAbs.log2 + 1) ≤ w := by
  unfold intW at e
  split at e
  · rename_i hl
    cases e
    have h1 : i.natAbs.log2 < 20 ∨ i.natAbs = 0 := by
      by_cases z : i.natAbs = 0
      · exact .inr z
      · exact .inl ((Nat.log2_lt z).mpr (by simpa using hl))
    rcases h1 with h1 | h1
    · exact ⟨by omega, by split <;> omega⟩
    · rw [h1]
      have : Nat.log2 0 = 0 := by decide
      exact ⟨by omega, by split <;> omega⟩
  · split at e
    · cases e
      exact ⟨by assumption, by split <;> omega⟩
    · cases e
theorem strW_ok {s : List Nat} {w : Nat} (e : strW s = some w) : (s.all fun c => decide (c < 128)) = true ∧ w = s.length := by
  unfold strW at e
  split at e
  · cases e
    exact ⟨by assumption, rfl⟩
  · cases e
theorem short_str {s : List Nat} (e : (s.all fun c => decide (c < 128)) = true) : ((toStr s).cps.toList.all fun c => decide (c < 16 ^ 8)) = true := by
  rw [toStr_list, List.all_eq_true]
  intro c hc
  have := List.all_eq_true.mp e c hc
  simp only [decide_eq_true_eq] at this ⊢
  omega
theorem int_short {i : Int} (h : i.natAbs.log2 < 1920) : (PyData.shown (.int i)).length ≤ 2000 := by
  rw [PyData.shown_int]
  have := PyProof.Rows.int_text_len_1921 h
  omega
mutual
theorem shw_ok : ∀ (n : Nat) (d : D) (w : Nat), shw n d = some w → (toPy d).showable = true ∧ (toPy d).leavesShort 2000 = true ∧ (toPy d).weight ≤ w ∧ (toPy d).depth ≤ n ∧ (toPy d).hasDict = false
  | n, .non, w, e => by simp [toPy, PyData.showable, PyData.leavesShort, PyData.weight, PyData.depth, PyData.hasDict]
  | n, .bl b, w, e => by simp [toPy, PyData.showable, PyData.leavesShort, PyData.weight, PyData.depth, PyData.hasDict]
  | n, .int i, w, e => by
    have e' : intW i = some w := by cases n <;> simpa only [shw] using e
    have h := intW_ok e'
    refine ⟨?_, ?_, ?_, ?_, ?_⟩
    · simp only [toPy, PyData.showable, decide_eq_true_eq]; exact h.1
    · simp only [toPy, PyData.leavesShort, decide_eq_true_eq]; exact int_short h.1
    · simp only [toPy, PyData.weight]; exact h.2
    · simp [toPy, PyData.depth]
    · simp [toPy, PyData.hasDict]
  | n, .str s, w, e => by
    have e' : strW s = some w := by cases n <;> simpa only [shw] using e
    have h := strW_ok e'
    refine ⟨?_, ?_, ?_, ?_, ?_⟩
    · simp [toPy, PyData.showable]
    · simp only [toPy, PyData.leavesShort]; exact short_str h.1
    · simp only [toPy, PyData.weight]; rw [h.2]; simp [toStr]
    · simp [toPy, PyData.depth]
    · simp [toPy, PyData.hasDict]
  | 0, .tup xs, w, e => by simp [shw] at e
  | n + 1, .tup xs, w, e => by
    simp only [shw] at e
    have h := shws_ok n xs w e
    simp only [toPy, PyData.showable, PyData.leavesShort, PyData.weight, PyData.depth, PyData.hasDict]
    exact ⟨h.1, h.2.1, h.2.2.1, by omega, h.2.2.2.2⟩
  | 0, .lst xs, w, e => by simp [shw] at e
  | n + 1, .lst xs, w, e => by
    simp only [shw] at e
    have h := shws_ok n xs w e
    simp only [toPy, PyData.showable, PyData.leavesShort, PyData.weight, PyData.depth, PyData.hasDict]
    exact ⟨h.1, h.2.1, h.2.2.1, by omega, h.2.2.2.2⟩
  | n, .dct _, w, e => by cases n <;> simp [shw] at e
  | n, .ref _, w, e => by cases n <;> simp [shw] at e
  | n, .exc _, w, e => by cases n <;> simp [shw] at e
  | n, .scr _, w, e => by cases n <;> simp [shw] at e
theorem shws_ok : ∀ (n : Nat) (ds : List D) (w : Nat), shws n ds = some w → PyData.showableAll (toPys ds) = true ∧ PyData.leavesShortAll 2000 (toPys ds) = true ∧ PyData.weightAll (toPys ds) ≤ w ∧
    PyData.depthAll (toPys ds) ≤ n ∧ PyData.hasDictAll (toPys ds) = false
  | n, [], w, e => by simp [toPys, PyData.showableAll, PyData.leavesShortAll, PyData.weightAll, PyData.depthAll, PyData.hasDictAll]
  | n, d :: ds, w, e => by
    simp only [shws] at e
    split at e
    · rename_i a b ea eb
      cases e
      have h1 := shw_ok n d a ea
      have h2 := shws_ok n ds b eb
      simp only [toPys, PyData.showableAll, PyData.leavesShortAll, PyData.weightAll, PyData.depthAll, PyData.hasDictAll, Bool.and_eq_true, Bool.or_eq_false_iff]
      exact ⟨⟨h1.1, h2.1⟩, ⟨h1.2.1, h2.2.1⟩, by have := h1.2.2.1; have := h2.2.2.1; omega, by have := h1.2.2.2.1; have := h2.2.2.2.1; omega, h1.2.2.2.2, h2.2.2.2.2⟩
    · cases e
end
theorem kyW_ok {k : Ky} {w : Nat} (e : kyW k = some w) : (kyPy k).showable = true ∧ (kyPy k).leavesShort 2000 = true ∧ (kyPy k).weight ≤ w ∧ (kyPy k).depth = 0 := by
  cases k with
  | inl i =>
    have h := intW_ok (show intW i = some w from e)
    refine ⟨?_, ?_, ?_, ?_⟩
    · simp only [kyPy, PyData.showable, decide_eq_true_eq]; exact h.1
    · simp only [kyPy, PyData.leavesShort, decide_eq_true_eq]; exact int_short h.1
    · simp only [kyPy, PyData.weight]; exact h.2
    · simp [kyPy, PyData.depth]
  | inr s =>
    have h := strW_ok (show strW s = some w from e)
    refine ⟨?_, ?_, ?_, ?_⟩
    · simp [kyPy, PyData.showable]
    · simp only [kyPy, PyData.leavesShort]; exact short_str h.1
    · simp only [kyPy, PyData.weight]; rw [h.2]; simp [toStr]
    · simp [kyPy, PyData.depth]
mutual
theorem shwD_ok : ∀ (n : Nat) (d : D) (w : Nat), shwD n d = some w → (toPy d).showable = true ∧ (toPy d).leavesShort 2000 = true ∧ (toPy d).weight ≤ w ∧ (toPy d).depth ≤ n
  | n, .non, w, e => by simp [toPy, PyData.showable, PyData.leavesShort, PyData.weight, PyData.depth]
  | n, .bl b, w, e => by simp [toPy, PyData.showable, PyData.leavesShort, PyData.weight, PyData.depth]
  | n, .int i, w, e => by
    have e' : intW i = some w := by cases n <;> simpa only [shwD] using e
    have h := kyW_ok (k := .inl i) e'
    exact ⟨h.1, h.2.1, h.2.2.1, by simp [toPy, PyData.depth]⟩
  | n, .str s, w, e => by
    have e' : strW s = some w := by cases n <;> simpa only [shwD] using e
    have h := kyW_ok (k := .inr s) e'
    exact ⟨h.1, h.2.1, h.2.2.1, by simp [toPy, PyData.depth]⟩
  | 0, .tup xs, w, e => by simp [shwD] at e
  | n + 1, .tup xs, w, e => by
    simp only [shwD] at e
    have h := shwDs_ok n xs w e
    simp only [toPy, PyData.showable, PyData.leavesShort, PyData.weight, PyData.depth]
    exact ⟨h.1, h.2.1, h.2.2.1, by omega⟩
  | 0, .dct xs, w, e => by simp [shwD] at e
  | n + 1, .dct kvs, w, e => by
    simp only [shwD] at e
    have h := shwDk_ok n kvs w e
    simp only [toPy, PyData.showable, PyData.leavesShort, PyData.weight, PyData.depth]
    exact ⟨h.1, h.2.1, h.2.2.1, by omega⟩
  | 0, .lst _, w, e => by simp [shwD] at e
  | n + 1, .lst xs, w, e => by
    simp only [shwD] at e
    have h := shwDs_ok n xs w e
    simp only [toPy, PyData.showable, PyData.leavesShort, PyData.weight, PyData.depth]
    exact ⟨h.1, h.2.1, h.2.2.1, by omega⟩
  | n, .ref _, w, e => by cases n <;> simp [shwD] at e
  | n, .exc _, w, e => by cases n <;> simp [shwD] at e
  | n, .scr _, w, e => by cases n <;> simp [shwD] at e
theorem shwDs_ok : ∀ (n : Nat) (ds : List D) (w : Nat), shwDs n ds = some w → PyData.showableAll (toPys ds) = true ∧ PyData.leavesShortAll 2000 (toPys ds) = true ∧ PyData.weightAll (toPys ds) ≤ w ∧ PyData.depthAll (toPys ds) ≤ n
  | n, [], w, e => by simp [toPys, PyData.showableAll, PyData.leavesShortAll, PyData.weightAll, PyData.depthAll]
  | n, d :: ds, w, e => by
    simp only [shwDs] at e
    split at e
    · rename_i a b ea eb
      cases e
      have h1 := shwD_ok n d a ea
      have h2 := shwDs_ok n ds b eb
      simp only [toPys, PyData.showableAll, PyData.leavesShortAll, PyData.weightAll, PyData.depthAll, Bool.and_eq_true]
      exact ⟨⟨h1.1, h2.1⟩, ⟨h1.2.1, h2.2.1⟩, by have := h1.2.2.1; have := h2.2.2.1; omega, by have := h1.2.2.2; have := h2.2.2.2; omega⟩
    · cases e
theorem shwDk_ok : ∀ (n : Nat) (ds : List (Ky × D)) (w : Nat), shwDk n ds = some w → PyData.showableKv (toPyk ds) = true ∧ PyData.leavesShortKv 2000 (toPyk ds) = true ∧ PyData.weightKv (toPyk ds) ≤ w ∧ PyData.depthKv (toPyk ds) ≤ n
  | n, [], w, e => by simp [toPyk, PyData.showableKv, PyData.leavesShortKv, PyData.weightKv, PyData.depthKv]
  | n, (k, d) :: ds, w, e => by
    simp only [shwDk] at e
    split at e
    · rename_i c a b ec ea eb
      cases e
      have h0 := kyW_ok ec
      have h1 := shwD_ok n d a ea
      have h2 := shwDk_ok n ds b eb
      simp only [toPyk, PyData.showableKv, PyData.leavesShortKv, PyData.weightKv, PyData.depthKv, Bool.and_eq_true]
      exact ⟨⟨⟨h0.1, h1.1⟩, h2.1⟩, ⟨⟨h0.2.1, h1.2.1⟩, h2.2.1⟩, by have := h0.2.2.1; have := h1.2.2.1; have := h2.2.2.1; omega, by have := h0.2.2.2; have := h1.2.2.2; have := h2.2.2.2; omega⟩
    · cases e
end
section
variable {X : Cx} {pins : List (Addr × Obj)} {σ : L2.St} {F H : Hp} {phi : List Addr} {s : Shared}
theorem keys_reads {P : Program} {w : World} {h : Heap} : ∀ {kvs : List (Ky × D)} {kws : List (Key × V)} {vs : List (Key × Value)} {es : List DictEntry}, KReps X.K F phi kvs kws → KV kws vs → Pairs (mixKind P w) es vs → ReadsAll h (es.map (·.key)) ((toPyk kvs).map (·.1)) []
  | [], kws, vs, es, q, rv, pr => by
    simp only [KReps] at q
    subst q
    cases rv
    cases pr
    simp only [toPyk, List.map_nil]
    exact .nil
  | (k, d) :: kvs, kws, vs, es, q, rv, pr => by
    simp only [KReps] at q
    obtain ⟨v, ws, rfl, q1, q2⟩ := q
    cases rv with
    | @cons a b as bs hd tl =>
    cases pr with
    | @cons e kv es' kvs' p1 p2 p3 =>
    simp only [toPyk, List.map_cons]
    have hk : Reads h e.key (kyPy k) [] := by
      rw [← hd.1] at p1
      rcases keyIs_shape p1 with ⟨i, t, e1, e2⟩ | ⟨x, t, e1, e2⟩
      · rw [e2]
        cases k with
        | inl j =>
          have : j = i := by simpa [kyK] using e1
          subst this
          exact .int _ _
        | inr j => simp [kyK] at e1
      · rw [e2]
        cases k with
        | inl j => simp [kyK] at e1
        | inr j =>
          have : toStr j = x := by simpa [kyK] using e1
          subst this
          exact .str _ _
    exact .cons hk (keys_reads q2 tl p3)
mutual
theorem reads_shwD (I : Inv X pins σ H s) (sm : ∃ m, X.base.Ns sysModules m) (sF : Sub F H) : ∀ (n : Nat) (d : D) (v : V) (u : Value) (w : Nat), shwD n d = some w → VRep X.K F phi d v → RelV v u → ∃ as, Reads s.heap u (toPy d) as ∧ sysModules ∉ as
  | n, .non, v, u, w, e, q, r => by
    simp only [VRep] at q
    subst q
    cases r
    exact ⟨_, .none, by simp⟩
  | n, .bl b, v, u, w, e, q, r => by
    simp only [VRep] at q
    subst q
    cases r
    exact ⟨_, .bool _, by simp⟩
  | n, .int i, v, u, w, e, q, r => by
    simp only [VRep] at q
    subst q
    obtain ⟨t, rfl⟩ := r
    exact ⟨_, .int _ _, by simp⟩
  | n, .str z, v, u, w, e, q, r => by
    simp only [VRep] at q
    subst q
    obtain ⟨t, rfl⟩ := r
    exact ⟨_, .str _ _, by simp⟩
  | 0, .tup xs, v, u, w, e, q, r => by simp [shwD] at e
  | n + 1, .tup xs, v, u, w, e, q, r => by
    simp only [shwD] at e
    simp only [VRep] at q
    obtain ⟨a, vs, rfl, q1, q2⟩ := q
    obtain rfl : u = Value.ref a := r
    obtain ⟨its, rv, ⟨o, ho, hc, m, hd⟩, _⟩ := I.tuple (sF.seqT q1)
    obtain ⟨as, hr, hn⟩ := reads_shwDs I sm sF n xs vs its w e q2 rv
    exact ⟨as, by rw [toPy]; exact .tuple ho hc hd (by simpa using hr), hn⟩
  | 0, .dct xs, v, u, w, e, q, r => by simp [shwD] at e
  | n + 1, .dct kvs, v, u, w, e, q, r => by
    simp only [shwD] at e
    simp only [VRep] at q
    obtain ⟨a, kws, rfl, q1, q2⟩ := q
    obtain rfl : u = Value.ref a := r
    obtain ⟨_, hsys, vs, rel, dd⟩ := dk_of I.hok (sF a _ q1)
    obtain ⟨ob, es, ep, ho, hex, hdat, hko, hpr, hnd⟩ := dd
    obtain ⟨bs, hb, hn⟩ := reads_shwDk I sm sF n kvs kws vs es.toList w e q2 rel hpr
    refine ⟨a :: [] ++ bs, by rw [toPy]; exact .dict ho hex.1 hdat (keys_reads q2 rel hpr) hb, ?_⟩
    have : a ≠ sysModules := by simpa using hsys
    simp only [List.cons_append, List.nil_append, List.mem_cons, not_or]
    exact ⟨fun z => this z.symm, hn⟩
  | 0, .lst _, v, u, w, e, q, r => by simp [shwD] at e
  | n + 1, .lst xs, v, u, w, e, q, r => by
    simp only [shwD] at e
    simp only [VRep] at q
    obtain ⟨a, vs, rfl, q1, q2⟩ := q
    obtain rfl : u = Value.ref a := r
    obtain ⟨_, its, m, rv, ho⟩ := (show ObjOk X.prog X.w H s.heap a (.lst vs) from I.hok a _ (sF a _ q1))
    obtain ⟨as, hr, hn⟩ := reads_shwDs I sm sF n xs vs its w e q2 rv
    refine ⟨a :: as, by rw [toPy]; exact .list ho rfl rfl (by simpa using hr), ?_⟩
    have : a ≠ sysModules := fun z => by
      obtain ⟨mm, ob, x1, x2, e1, e2, _⟩ := sm
      have y := I.bk _ _ e1
      rw [z, y] at ho
      cases ho
      exact nomatch e2
    simp only [List.mem_cons, not_or]
    exact ⟨fun z => this z.symm, hn⟩
  | n, .ref _, v, u, w, e, q, r => by cases n <;> simp [shwD] at e
  | n, .exc _, v, u, w, e, q, r => by cases n <;> simp [shwD] at e
  | n, .scr _, v, u, w, e, q, r => by cases n <;> simp [shwD] at e
theorem reads_shwDs (I : Inv X pins σ H s) (sm : ∃ m, X.base.Ns sysModules m) (sF : Sub F H) : ∀ (n : Nat) (ds : List D) (vs : List V) (us : List Value) (w : Nat), shwDs n ds = some w → VReps X.K F phi ds vs → Vals vs us → ∃ as, ReadsAll s.heap us (toPys ds) as ∧ sysModules ∉ as
  | n, [], vs, us, w, e, q, r => by
    simp only [VReps] at q
    subst q
    cases r
    exact ⟨_, by rw [toPys]; exact .nil, by simp⟩
  | n, d :: ds, vs, us, w, e, q, r => by
    simp only [VReps] at q
    obtain ⟨v, ws, rfl, q1, q2⟩ := q
    cases r with
    | cons r1 r2 =>
      simp only [shwDs] at e
      split at e
      · rename_i a b ea eb
        obtain ⟨as, h1, n1⟩ := reads_shwD I sm sF n d v _ a ea q1 r1
        obtain ⟨bs, h2, n2⟩ := reads_shwDs I sm sF n ds ws _ b eb q2 r2
        exact ⟨as ++ bs, by rw [toPys]; exact .cons h1 h2, by simp [n1, n2]⟩
      · cases e
theorem reads_shwDk (I : Inv X pins σ H s) (sm : ∃ m, X.base.Ns sysModules m) (sF : Sub F H) : ∀ (n : Nat) (kvs : List (Ky × D)) (kws : List (Key × V)) (vs : List (Key × Value)) (es : List DictEntry) (w : Nat), shwDk n kvs = some w → KReps X.K F phi kvs kws → KV kws vs → Pairs (mixKind X.prog X.w) es vs →
    ∃ as, ReadsAll s.heap (es.map (·.val)) ((toPyk kvs).map (·.2)) as ∧ sysModules ∉ as
  | n, [], kws, vs, es, w, e, q, r, p => by
    simp only [KReps] at q
    subst q
    cases r
    cases p
    exact ⟨_, by rw [toPyk]; exact .nil, by simp⟩
  | n, (k, d) :: kvs, kws, vs, es, w, e, q, r, p => by
    simp only [KReps] at q
    obtain ⟨v, ws, rfl, q1, q2⟩ := q
    cases r with
    | @cons a b as bs r1 r2 =>
    cases p with
    | @cons en kv es' kvs' p1 p2 p3 =>
      simp only [shwDk] at e
      split at e
      · rename_i c a b ec ea eb
        obtain ⟨as, h1, n1⟩ := reads_shwD I sm sF n d v _ a ea q1 r1.2
        obtain ⟨bs, h2, n2⟩ := reads_shwDk I sm sF n kvs ws _ _ b eb q2 r2 p3
        refine ⟨as ++ bs, ?_, by simp [n1, n2]⟩
        simp only [toPyk, List.map_cons]
        exact .cons (by rw [p2]; exact h1) h2
      · cases e
end
end
section
variable {K : PySem.W.Frag} {F H : Hp} {phi : List Addr}
mutual
theorem dp_shw (s : Sub F H) : ∀ (n : Nat) (d : D) (v : V) (w : Nat), shw n d = some w → VRep K F phi d v → Dp K H v (toPy d)
  | _, .non, v, w, _, q => by simp only [VRep] at q; subst q; exact .non
  | _, .bl b, v, w, _, q => by simp only [VRep] at q; subst q; exact .bl b
  | _, .int b, v, w, _, q => by simp only [VRep] at q; subst q; exact .int b
  | _, .str b, v, w, _, q => by simp only [VRep] at q; subst q; exact .str _
  | 0, .tup xs, v, w, p, q => by simp [shw] at p
  | n + 1, .tup xs, v, w, p, q => by
    simp only [VRep] at q
    obtain ⟨a, vs, rfl, q1, q2⟩ := q
    simp only [shw] at p
    exact .tup (s.seqT q1) (dps_shw s n xs vs w p q2)
  | 0, .lst xs, v, w, p, q => by simp [shw] at p
  | n + 1, .lst xs, v, w, p, q => by
    simp only [VRep] at q
    obtain ⟨a, vs, rfl, q1, q2⟩ := q
    simp only [shw] at p
    exact .lst (.inl (.inl (s _ _ q1))) (dps_shw s n xs vs w p q2)
  | n, .dct _, v, w, p, q => by cases n <;> simp [shw] at p
  | n, .ref _, v, w, p, q => by cases n <;> simp [shw] at p
  | n, .exc _, v, w, p, q => by cases n <;> simp [shw] at p
  | n, .scr _, v, w, p, q => by cases n <;> simp [shw] at p
theorem dps_shw (s : Sub F H) : ∀ (n : Nat) (ds : List D) (vs : List V) (w : Nat), shws n ds = some w → VReps K F phi ds vs → DpAll K H vs (toPys ds)
  | _, [], vs, w, _, q => by simp only [VReps] at q; subst q; exact .nil
  | n, d :: ds, vs, w, p, q => by
    simp only [VReps] at q
    obtain ⟨v, ws, rfl, q1, q2⟩ := q
    simp only [shws] at p
    split at p
    · rename_i a b ea eb
      exact .cons (dp_shw s n d v a ea q1) (dps_shw s n ds ws b eb q2)
    · cases p
end
end
theorem toStr_cps (z : Str) : toStr z.cps.toList = z := by
  cases z
  simp [toStr]
section
variable {X : Cx} {C : Stc}
theorem cr_repr (hsm0 : ∃ m, X.base.Ns sysModules m) (hg : X.A.guards = some []) (hu : X.A.units + 65 < cLine) : CallR X (.builtin "repr") (rN X.K C (blt .repr)) := by
  intro pins s σ H xs us Q I r hq
  obtain ⟨F, phi, h, ds, d, hr, hds, e, q⟩ := hq
  unfold blt at e
  split at e <;> try contradiction
  rename_i d0 _
  obtain ⟨v, e1, hv⟩ := vreps1 hds
  subst e1
  obtain ⟨u, eu, ru⟩ := vals1 r
  subst eu
  unfold reprD at e
  split at e
  · rename_i w ew
    split at e
    · rename_i hw
      cases e
      obtain ⟨s1, s2, s3, s4, s5⟩ := shw_ok 60 d0 w ew
      have hz : (toPy d0).shown.length ≤ sizeLine := by
        have b := PyData.shown_le 2000 (by decide) _ s2
        rw [sizeLine_eq]
        have h1 : (2000 + 2) * (toPy d0).weight ≤ 2002 * 8000 := Nat.mul_le_mul_left _ (Nat.le_trans s3 hw)
        omega
      obtain ⟨as, hrd⟩ := Dp.reads I _ v u (dp_shw hr.fH 60 d0 v w ew hv) ru
      have fin : ∀ (h' : Heap) (t : Tok) (tk : Nat), (∀ b o, s.heap.get? b = some o → h'.get? b = some o) → EP X pins σ Q (.str (toPy d0).shown t) { s with heap := h', toks := tk } := fun h' t tk hk =>
        ⟨.str (toPy d0).shown, H, I.kept (t' := tk) hk, ⟨t, rfl⟩, q F _ H (Grow.refl hr.fH) (by simp only [VRep]; rw [toStr_cps])⟩
      cases d0 with
      | non =>
        simp only [VRep] at hv
        subst hv
        cases ru
        exact PySem.P.repr_of_none (by have := fin s.heap s.toks (s.toks + 1) (fun _ _ z => z); rw [show (toPy .non).shown = ("None" : Str) from PyData.shown_none] at this; exact this)
      | bl b =>
        simp only [VRep] at hv
        subst hv
        cases ru
        exact PySem.P.repr_of_bool (by have := fin s.heap s.toks (s.toks + 1) (fun _ _ z => z); rw [show (toPy (.bl b)).shown = _ from PyData.shown_bool b] at this; exact this)
      | int i =>
        simp only [VRep] at hv
        subst hv
        obtain ⟨t, rfl⟩ := ru
        have hl : i.natAbs.log2 < 1920 := (intW_ok (by simpa only [shw] using ew)).1
        exact PySem.P.repr_of_int hl (by have := fin s.heap s.toks (s.toks + 1) (fun _ _ z => z); rw [show (toPy (.int i)).shown = _ from PyData.shown_int i] at this; exact this)
      | str z =>
        simp only [VRep] at hv
        subst hv
        obtain ⟨t, rfl⟩ := ru
        have e0 : (toPy (.str z)).shown = reprText (toStr z) := PyData.shown_str _
        rw [e0] at hz
        exact PySem.P.repr_of_str (by have := fin s.heap s.toks (s.toks + 1) (fun _ _ z => z); rw [e0] at this; exact this) hz
      | tup ys =>
        simp only [VRep] at hv
        obtain ⟨a, vs, e1, _⟩ := hv
        subst e1
        obtain rfl : u = Value.ref a := ru
        exact repr_of_reads' (h₀ := s.heap) hrd s1 (PyData.noDict_hsm s5) hg (by omega) (fun _ _ z => z) (fun h' t tk hk => fin h' t tk hk) hz
      | lst ys =>
        simp only [VRep] at hv
        obtain ⟨a, vs, e1, _⟩ := hv
        subst e1
        obtain rfl : u = Value.ref a := ru
        exact repr_of_reads' (h₀ := s.heap) hrd s1 (PyData.noDict_hsm s5) hg (by omega) (fun _ _ z => z) (fun h' t tk hk => fin h' t tk hk) hz
      | dct _ => simp [shw] at ew
      | ref _ => simp [shw] at ew
      | exc _ => simp [shw] at ew
      | scr _ => simp [shw] at ew
    · cases e
  · rename_i en
    unfold reprX at e
    split at e
    · rename_i w ew
      split at e
      · rename_i hw
        cases e
        obtain ⟨s1, s2, s3, s4⟩ := shwD_ok 60 d0 w ew
        have hz : (toPy d0).shown.length ≤ sizeLine := by
          have b := PyData.shown_le 2000 (by decide) _ s2
          rw [sizeLine_eq]
          have h1 : (2000 + 2) * (toPy d0).weight ≤ 2002 * 8000 := Nat.mul_le_mul_left _ (Nat.le_trans s3 hw)
          omega
        obtain ⟨as, hrd, hsm⟩ := reads_shwD I hsm0 hr.fH 60 d0 v u w ew hv ru
        have fin : ∀ (h' : Heap) (t : Tok) (tk : Nat), (∀ b o, s.heap.get? b = some o → h'.get? b = some o) → EP X pins σ Q (.str (toPy d0).shown t) { s with heap := h', toks := tk } := fun h' t tk hk =>
          ⟨.str (toPy d0).shown, H, I.kept (t' := tk) hk, ⟨t, rfl⟩, q F _ H (Grow.refl hr.fH) (by simp only [VRep]; rw [toStr_cps])⟩
        cases d0 with
        | tup ys =>
          simp only [VRep] at hv
          obtain ⟨a, vs, e1, _⟩ := hv
          subst e1
          obtain rfl : u = Value.ref a := ru
          exact repr_of_reads' (h₀ := s.heap) hrd s1 (fun _ => hsm) hg (by omega) (fun _ _ z => z) (fun h' t tk hk => fin h' t tk hk) hz
        | dct ys =>
          simp only [VRep] at hv
          obtain ⟨a, vs, e1, _⟩ := hv
          subst e1
          obtain rfl : u = Value.ref a := ru
          exact repr_of_reads' (h₀ := s.heap) hrd s1 (fun _ => hsm) hg (by omega) (fun _ _ z => z) (fun h' t tk hk => fin h' t tk hk) hz
        | non => simp [shw] at en
        | bl _ => simp [shw] at en
        | int _ => simp only [shw] at en; simp only [shwD] at ew; rw [en] at ew; cases ew
        | str _ => simp only [shw] at en; simp only [shwD] at ew; rw [en] at ew; cases ew
        | lst ys =>
          simp only [VRep] at hv
          obtain ⟨a, vs, e1, _⟩ := hv
          subst e1
          obtain rfl : u = Value.ref a := ru
          exact repr_of_reads' (h₀ := s.heap) hrd s1 (fun _ => hsm) hg (by omega) (fun _ _ z => z) (fun h' t tk hk => fin h' t tk hk) hz
        | ref _ => simp [shwD] at ew
        | exc _ => simp [shwD] at ew
        | scr _ => simp [shwD] at ew
      · cases e
    · cases e
end
end MP

namespace MP
open PySem PySem.Spec PyProof.Rows L2
section
variable {X : Cx} {C : Stc}
theorem cr_len' : CallR X (.builtin "len") (rN X.K C (blt .len)) := by
  intro pins s σ H xs us Q I r hq
  obtain ⟨F, phi, h, ds, d, hr, hds, e, q⟩ := hq
  have g0 : Grow F H F H := Grow.refl hr.fH
  unfold blt at e
  split at e <;> try contradiction
  · rename_i z _
    obtain ⟨v, e1, hv⟩ := vreps1 hds
    simp only [VRep] at hv
    subst e1 hv
    split at e
    · rename_i hl
      cases e
      refine call_len_str pins s σ H _ us Q I r ⟨toStr z, rfl, by rw [toStr_len, ← lim_eq]; exact hl, ?_⟩
      rw [toStr_len]
      exact q F _ H g0 (VRep.vint _)
    · cases e
  · rename_i kvs _
    obtain ⟨v, e1, hv⟩ := vreps1 hds
    simp only [VRep] at hv
    obtain ⟨a, kws, e2, e3, e4⟩ := hv
    subst e1 e2
    cases e
    refine call_lenD pins s σ H _ us Q I r ⟨a, kws, rfl, hr.fH _ _ e3, ?_⟩
    rw [e4.len]
    exact q F _ H g0 (VRep.vint _)
  · rename_i ns _
    obtain ⟨v, e1, hv⟩ := vreps1 hds
    simp only [VRep] at hv
    obtain ⟨a, e2, e3⟩ := hv
    subst e1 e2
    cases e
    refine call_len_seq pins s σ H _ us Q I r ⟨a, _, rfl, .inl (hr.fH.seqL e3), ?_⟩
    rw [List.length_map]
    exact q F _ H g0 (VRep.vint _)
  · rename_i d0 _ _ _ _
    obtain ⟨v, e1, hv⟩ := vreps1 hds
    simp only [Option.map_eq_some_iff] at e
    obtain ⟨ys, ei, rfl⟩ := e
    obtain ⟨a, vs, e2, e3, e4⟩ := items_rep hr hv ei
    subst e1 e2
    refine call_len_seq pins s σ H _ us Q I r ⟨a, vs, rfl, e4.imp (fun z => .inl (.inl z)) id, ?_⟩
    rw [e3.len]
    exact q F _ H g0 (VRep.vint _)
theorem cr_abs' : CallR X (.builtin "abs") (rN X.K C (blt .abs)) := by
  intro pins s σ H xs us Q I r hq
  obtain ⟨F, phi, h, ds, d, hr, hds, e, q⟩ := hq
  unfold blt at e
  split at e <;> try contradiction
  rename_i i _
  obtain ⟨v, e1, hv⟩ := vreps1 hds
  simp only [VRep] at hv
  subst e1 hv
  cases e
  exact call_abs pins s σ H _ us Q I r ⟨i, rfl, q F _ H (Grow.refl hr.fH) (VRep.vint _)⟩
theorem cr_all' (hc : X.calm = true) : CallR X (.builtin "all") (rN X.K C (blt .all)) := by
  intro pins s σ H xs us Q I r hq
  obtain ⟨F, phi, h, ds, d, hr, hds, e, q⟩ := hq
  unfold blt at e
  split at e <;> try contradiction
  rename_i d0 _
  obtain ⟨v, e1, hv⟩ := vreps1 hds
  split at e
  · rename_i ys ei
    simp only [Option.map_eq_some_iff] at e
    obtain ⟨bs, eb, rfl⟩ := e
    obtain ⟨a, vs, e2, e3, e4⟩ := itemsL_rep hr hv ei
    have e5 := VReps.ofBools e4 eb
    subst e1 e2 e5
    exact cr_all hc pins s σ H _ us Q I r ⟨a, bs, rfl, .inl (.inl e3), q F _ H (Grow.refl hr.fH) (VRep.vbl _)⟩
  · cases e
theorem cr_any' (hc : X.calm = true) : CallR X (.builtin "any") (rN X.K C (blt .any)) := by
  intro pins s σ H xs us Q I r hq
  obtain ⟨F, phi, h, ds, d, hr, hds, e, q⟩ := hq
  unfold blt at e
  split at e <;> try contradiction
  rename_i d0 _
  obtain ⟨v, e1, hv⟩ := vreps1 hds
  split at e
  · rename_i ys ei
    simp only [Option.map_eq_some_iff] at e
    obtain ⟨bs, eb, rfl⟩ := e
    obtain ⟨a, vs, e2, e3, e4⟩ := itemsL_rep hr hv ei
    have e5 := VReps.ofBools e4 eb
    subst e1 e2 e5
    exact cr_any hc pins s σ H _ us Q I r ⟨a, bs, rfl, .inl (.inl e3), q F _ H (Grow.refl hr.fH) (VRep.vbl _)⟩
  · cases e
theorem cr_sum' (hc : X.calm = true) : CallR X (.builtin "sum") (rN X.K C (blt .sum)) := by
  intro pins s σ H xs us Q I r hq
  obtain ⟨F, phi, h, ds, d, hr, hds, e, q⟩ := hq
  unfold blt at e
  split at e <;> try contradiction
  rename_i d0 _
  obtain ⟨v, e1, hv⟩ := vreps1 hds
  split at e
  · rename_i ys ei
    simp only [Option.map_eq_some_iff] at e
    obtain ⟨bs, eb, rfl⟩ := e
    obtain ⟨a, vs, e2, e3, e4⟩ := itemsL_rep hr hv ei
    have e5 := VReps.ofInts e4 eb
    subst e1 e2 e5
    exact cr_sum hc pins s σ H _ us Q I r ⟨a, bs, rfl, .inl (.inl e3), q F _ H (Grow.refl hr.fH) (VRep.vint _)⟩
  · cases e
theorem cr_sorted' : CallR X (.builtin "sorted") (rN X.K C (blt .sorted)) := by
  intro pins s σ H xs us Q I r hq
  obtain ⟨F, phi, h, ds, d, hr, hds, e, q⟩ := hq
  unfold blt at e
  split at e <;> try contradiction
  rename_i d0 _
  obtain ⟨v, e1, hv⟩ := vreps1 hds
  split at e
  · rename_i ys ei
    split at e
    · rename_i ns en
      cases e
      obtain ⟨a, vs, e2, e3, e4⟩ := itemsL_rep hr hv ei
      have e5 := VReps.ofInts e4 en
      subst e1 e2 e5
      refine cr_sortedI pins s σ H _ us Q I r ⟨a, ns, rfl, .inl (.inl e3), fun ms p hp hs hn => ?_⟩
      have := sortI_uniq hp hs
      subst this
      exact q _ _ _ (Grow.one hr.fH hn) (new_lst hr.fH hn (VReps.map D.int V.int VRep.vint _))
    · cases e
  · cases e
theorem cr_int' : CallR X (.type "int") (rN X.K C fun ds h => match ds with
    | [.int i] => some (.int i)
    | [.bl b] => some (.int (if b then 1 else 0))
    | _ => none) := by
  intro pins s σ H xs us Q I r hq
  obtain ⟨F, phi, h, ds, d, hr, hds, e, q⟩ := hq
  have g0 : Grow F H F H := Grow.refl hr.fH
  dsimp only at e
  split at e
  · rename_i i
    obtain ⟨v, e1, hv⟩ := vreps1 hds
    simp only [VRep] at hv
    subst e1 hv
    cases e
    exact call_int1 pins s σ H _ us Q I r (.inl ⟨i, rfl, q F _ H g0 (VRep.vint _)⟩)
  · rename_i b
    obtain ⟨v, e1, hv⟩ := vreps1 hds
    simp only [VRep] at hv
    subst e1 hv
    cases e
    exact call_int1 pins s σ H _ us Q I r (.inr ⟨b, rfl, q F _ H g0 (VRep.vint _)⟩)
  · cases e
theorem cr_max' (hc : X.calm = true) : CallR X (.builtin "max") (rN X.K C (blt .max)) := by
  intro pins s σ H xs us Q I r hq
  obtain ⟨F, phi, h, ds, d, hr, hds, e, q⟩ := hq
  unfold blt at e
  split at e <;> try contradiction
  rename_i i j _
  obtain ⟨v, w, e1, hv, hw⟩ := vreps2 hds
  simp only [VRep] at hv hw
  subst e1 hv hw
  cases e
  exact call_max2 hc pins s σ H _ us Q I r ⟨i, j, rfl, q F _ H (Grow.refl hr.fH) (VRep.vint _)⟩
theorem ints_back : ∀ ns : List Int, intsD (ns.map D.int) = some ns
  | [] => rfl
  | n :: ns => by simp [intsD, ints_back ns]
theorem intsD_eq : ∀ {ds : List D} {ns : List Int}, intsD ds = some ns → ds = ns.map .int
  | [], ns, h => by cases h; rfl
  | d :: ds, ns, h => by
    cases d <;> simp only [intsD] at h <;> try contradiction
    rename_i i
    rw [Option.map_eq_some_iff] at h
    obtain ⟨ms, e, rfl⟩ := h
    rw [intsD_eq e]
    rfl
theorem tupsI_eq : ∀ {ds : List D} {nss : List (List Int)}, tupsI ds = some nss → ds = nss.map fun ns => .tup (ns.map .int)
  | [], nss, h => by cases h; rfl
  | d :: ds, nss, h => by
    cases d <;> simp only [tupsI] at h <;> try contradiction
    rename_i xs
    split at h
    · rename_i ns mss e1 e2
      cases h
      rw [intsD_eq e1, tupsI_eq e2]
      rfl
    · cases h
theorem cr_min' (hc : X.calm = true) (hu : X.A.units + 65 < cLine) : CallR X (.builtin "min") (rN X.K C (blt .min)) := by
  intro pins s σ H xs us Q I r hq
  obtain ⟨F, phi, h, ds, d, hr, hds, e, q⟩ := hq
  unfold blt at e
  split at e <;> try contradiction
  · rename_i i j _
    obtain ⟨v, w, e1, hv, hw⟩ := vreps2 hds
    simp only [VRep] at hv hw
    subst e1 hv hw
    cases e
    exact call_min2 hc pins s σ H _ us Q I r ⟨i, j, rfl, q F _ H (Grow.refl hr.fH) (VRep.vint _)⟩
  · rename_i d0 _
    obtain ⟨v, e1, hv⟩ := vreps1 hds
    split at e
    · rename_i ys ei
      split at e
      · rename_i n ns en
        split at e
        · rename_i al
          cases e
          obtain ⟨a, vs, e2, e3, e4⟩ := itemsL_rep hr hv ei
          have ey := tupsI_eq en
          subst e1 e2 ey
          have at' : ∀ (i : Nat) v, vs[i]? = some v → ∃ m, (n :: ns)[i]? = some m ∧ VRep X.K F phi (.tup (m.map .int)) v := fun i v hi => by
            obtain ⟨d, hd, rv⟩ := VReps.get e4 hi
            rw [List.getElem?_map] at hd
            cases hm : (n :: ns)[i]? with
            | none => rw [hm] at hd; cases hd
            | some m =>
              rw [hm] at hd
              cases hd
              exact ⟨m, rfl, rv⟩
          refine call_minT hc hu pins s σ H _ us Q I r ⟨a, vs, n, ns, rfl, .inl (.inl e3), fun m hm => by simpa using List.all_eq_true.mp al m hm, by rw [VReps.len e4]; simp, fun i v hi => ?_, fun i v hi hm => ?_⟩
          · obtain ⟨m, hm, rv⟩ := at' i v hi
            simp only [VRep] at rv
            obtain ⟨t, ws, rfl, ht, rw'⟩ := rv
            have := VReps.ofInts rw' (ints_back m)
            subst this
            exact ⟨m, hm, t, rfl, Sub.seqT hr.fH ht⟩
          · obtain ⟨m, hm', rv⟩ := at' i v hi
            rw [hm] at hm'
            cases hm'
            exact q F _ H (Grow.refl hr.fH) rv
        · cases e
      · cases e
    · cases e
theorem cr_tuple' : CallR X (.type "tuple") (rN X.K C (blt .tuple)) := by
  intro pins s σ H xs us Q I r hq
  obtain ⟨F, phi, h, ds, d, hr, hds, e, q⟩ := hq
  unfold blt at e
  split at e <;> try contradiction
  rename_i d0 _
  obtain ⟨v, e1, hv⟩ := vreps1 hds
  simp only [Option.map_eq_some_iff] at e
  obtain ⟨ys, ei, rfl⟩ := e
  by_cases ht : ∃ zs, d0 = .tup zs
  · obtain ⟨zs, rfl⟩ := ht
    simp only [items, Option.some.injEq] at ei
    subst ei
    have hv2 := hv
    simp only [VRep] at hv2
    obtain ⟨a, vs, e2, e3, e4⟩ := hv2
    subst e2
    subst e1
    exact call_tuple_of pins s σ H _ us Q I r ⟨a, vs, rfl, .inr ⟨hr.fH.seqT e3, q F _ H (Grow.refl hr.fH) hv⟩⟩
  · obtain ⟨a, vs, e2, e3, e4⟩ : ∃ a vs, v = .ref a ∧ H a = some (.lst vs) ∧ VReps X.K F phi ys vs := by
      refine itemsL_rep hr hv ?_
      cases d0 with
      | tup zs => exact absurd ⟨zs, rfl⟩ ht
      | lst zs => exact ei
      | ref n => exact ei
      | _ => simp [items] at ei
    subst e1 e2
    exact call_tuple_of pins s σ H _ us Q I r ⟨a, vs, rfl, .inl ⟨.inl (.inl e3), fun p hp => q _ _ _ (Grow.one hr.fH hp) (new_tup hr.fH hp e4)⟩⟩
theorem cr_list' (hc : X.calm = true) : CallR X (.type "list") (rN X.K C (blt .list)) := by
  intro pins s σ H xs us Q I r hq
  obtain ⟨F, phi, h, ds, d, hr, hds, e, q⟩ := hq
  unfold blt at e
  split at e <;> try contradiction
  · rename_i kvs _
    obtain ⟨v, e1, hv⟩ := vreps1 hds
    simp only [VRep] at hv
    obtain ⟨a, kws, e2, e3, e4⟩ := hv
    subst e1 e2
    cases e
    exact call_listD hc pins s σ H _ us Q I r ⟨a, kws, rfl, .inl (hr.fH _ _ e3), fun p hp => q _ _ _ (Grow.one hr.fH hp) (new_lst hr.fH hp e4.keys)⟩
  · rename_i d0 _ _
    obtain ⟨v, e1, hv⟩ := vreps1 hds
    simp only [Option.map_eq_some_iff] at e
    obtain ⟨ys, ei, rfl⟩ := e
    obtain ⟨a, vs, e2, e3, e4⟩ := items_rep hr hv ei
    subst e1 e2
    exact call_list_of pins s σ H _ us Q I r ⟨a, vs, rfl, e4.imp (fun z => .inl (.inl z)) id, fun p hp => q _ _ _ (Grow.one hr.fH hp) (new_lst hr.fH hp e3)⟩
end
end MP


set_option Elab.async false
set_option linter.all false
set_option maxHeartbeats 1000000
/-! Subscripts and slices by value. -/
namespace MP
open PySem PySem.Spec PyProof.Rows L2
theorem atI_map {α β : Type} (f : α → β) (xs : List α) (i : Int) : atI (xs.map f) i = (atI xs i).map f := by
  unfold atI
  rw [List.length_map]
  cases ixN xs.length i with
  | none => rfl
  | some j => simp
theorem atI_rep {K : PySem.W.Frag} {F : Hp} {phi : List Addr} {xs : List D} {vs : List V} {i : Int} {d : D} (r : VReps K F phi xs vs) (e : atI xs i = some d) : ∃ v, atI vs i = some v ∧ VRep K F phi d v := by
  unfold atI at e ⊢
  rw [r.len]
  cases hj : ixN xs.length i with
  | none => rw [hj] at e; cases e
  | some j =>
    rw [hj] at e
    exact VReps.at (i := j) r e
section
variable {X : Cx} {C : Stc}
theorem ix_dct (hu : X.A.units + 1 < cLine) : IxR X (fun x y H Q => ∃ a v, x = .ref a ∧ DGet H a y (some v) ∧ Q v H) := by
  intro value slice pins s σ H x y v u Q I rx ry h hs
  obtain ⟨a, w, ex, g, q⟩ := h
  subst ex
  obtain rfl : v = Value.ref a := rx
  have hT := dict_typeIs I g
  unfold subscriptTail
  refine wpAny_bind ?_
  rw [getitemInPython_of_ne hT.not_modules]
  refine wpAny_bind (wpAny_specialOf hT PySem.F.slot_dict_getitem.lookup ?_)
  have fin : wpAny (model X.prog X.w) X.A (subscripted slice false (.ref a) u) (fun r s₃ => wpAny (model X.prog X.w) X.A (letTemporaryGo value (.ref a) r >>= fun _ => pure r) (EP X pins σ Q) X.xe s₃) X.xe s := by
    rw [hs]
    exact wpAny_operating (d_getItem hu I g ry fun w' s3 I3 rw' => wpAny_bind (wpAny_letTemporaryGo (wpAny_pure ⟨w, H, I3, rw', q⟩)))
  first
    | exact wpAny_pure (wpAny_bind fin)
    | exact wpAny_bind (wpAny_pure (wpAny_bind fin))
    | exact wpAny_bind fin
theorem ix_sub (hu : X.A.units + 1 < cLine) : IxR X (rB X.K C subD) := by
  intro value slice pins s σ H x y v u Q I rx ry hq hs
  obtain ⟨F, phi, h, dx, dy, d, hr, hx, hy, e, q⟩ := hq
  have g0 : Grow F H F H := Grow.refl hr.fH
  unfold subD at e
  split at e
  · rename_i kvs
    split at e
    · rename_i k ek
      simp only [VRep] at hx
      obtain ⟨a, kws, ex, e1, e2⟩ := hx
      have hf := KReps.find k e2
      rw [e] at hf
      obtain ⟨w, hw, hv⟩ := hf
      exact ix_dct hu value slice pins s σ H x y v u Q I rx ry ⟨a, w, ex, .inl ⟨kws, kyK k, .inl (hr.fH _ _ e1), ky_rep hy ek, hw.symm⟩, q F _ H g0 hv⟩ hs
    · cases e
  · rename_i z i
    split at e
    · rename_i hl
      simp only [Option.map_eq_some_iff] at e
      obtain ⟨c, ec, rfl⟩ := e
      simp only [VRep] at hx hy
      refine ix_str value slice pins s σ H x y v u Q I rx ry ⟨toStr z, i, c, hx, hy, by rw [toStr_len, ← lim_eq]; exact hl, by rw [toStr_list]; exact ec, ?_⟩ hs
      exact q F _ H g0 (VRep.vstr [c])
    · cases e
  · rename_i ns i
    simp only [Option.map_eq_some_iff] at e
    obtain ⟨n, en, rfl⟩ := e
    simp only [VRep] at hx hy
    obtain ⟨a, ex, e1⟩ := hx
    exact ix_list value slice pins s σ H x y v u Q I rx ry ⟨a, _, i, .int n, ex, hy, hr.fH.seqL e1, by rw [atI_map, en]; rfl, q F _ H g0 (VRep.vint n)⟩ hs
  · rename_i i _ _ _
    split at e
    · rename_i ys ei
      obtain ⟨a, vs, e2, e3, e4⟩ := items_rep hr hx ei
      obtain ⟨w, hw, hv⟩ := atI_rep e3 e
      simp only [VRep] at hy
      rcases e4 with e4 | e4
      · exact ix_list value slice pins s σ H x y v u Q I rx ry ⟨a, vs, i, w, e2, hy, .inl (.inl e4), hw, q F _ H g0 hv⟩ hs
      · exact ix_tup value slice pins s σ H x y v u Q I rx ry ⟨a, vs, i, w, e2, hy, e4, hw, q F _ H g0 hv⟩ hs
    · cases e
  · cases e

/-! ### slices -/
def rSl (K : PySem.W.Frag) (C : Stc) (g : D → Option Int → Option Int → Hh → Option D) : V → Option Int → Option Int → Hp → VK → Prop := fun x lo hi H Q => ∃ F phi h dx d, HR K C F phi h H ∧ VRep K F phi dx x ∧
  g dx lo hi h = some d ∧ ∀ F' v H', Grow F H F' H' → VRep K F' phi d v → Q v H'
theorem cut_rep {K : PySem.W.Frag} {F : Hp} {phi : List Addr} {xs : List D} {vs : List V} (l u : Option Int) (r : VReps K F phi xs vs) : VReps K F phi (cutD xs l u) (cutV vs l u) := by
  unfold cutD cutV
  rw [r.len]
  exact VReps.take _ (VReps.drop _ r)
theorem cut_whole {α : Type} {xs : List α} {l u : Option Int} (h : HT.sIx xs.length 0 l = 0 ∧ HT.sIx xs.length xs.length u = xs.length) : cutD xs l u = xs := by
  unfold cutD
  rw [h.1, h.2, List.drop_zero, Nat.sub_zero, List.take_length]
theorem sl_any : SlR X (rSl X.K C cutO) := by
  intro pins s σ H x v vl vu lo hi sl Q I rx hsl pl pu hq
  obtain ⟨F, phi, h, dx, d, hr, hx, e, q⟩ := hq
  have g0 : Grow F H F H := Grow.refl hr.fH
  have ax := drep_deref hr hx
  unfold cutO at e
  split at e
  · rename_i xs ex
    rw [ex] at ax
    obtain ⟨a, vs, e1, e2, e3⟩ := ax
    cases e
    exact sl_list pins s σ H x v vl vu lo hi sl Q I rx hsl pl pu ⟨a, vs, e1, .inl (.inl e2), fun p hp => q _ _ _ (Grow.one hr.fH hp) (new_lst hr.fH hp (cut_rep lo hi e3))⟩
  · rename_i xs ex
    rw [ex] at ax
    obtain ⟨a, vs, e1, e2, e3⟩ := ax
    have hxe : dx = .tup xs := by
      cases dx with
      | ref n => simp only [deref] at ex; split at ex <;> cases ex
      | _ => exact ex
    cases e
    refine sl_tupA pins s σ H x v vl vu lo hi sl Q I rx hsl pl pu ⟨a, vs, e1, e2, fun z => ?_, fun z p hp => q _ _ _ (Grow.one hr.fH hp) (new_tup hr.fH hp (cut_rep lo hi e3))⟩
    rw [e3.len] at z
    rw [← e1]
    exact q F _ H g0 (by rw [cut_whole z, ← hxe]; exact hx)
  · rename_i z ex
    rw [ex] at ax
    simp only [DRep, VRep] at ax
    split at e
    · rename_i hl
      cases e
      refine sl_str pins s σ H x v vl vu lo hi sl Q I rx hsl pl pu ⟨toStr z, ax, by rw [toStr_len, ← lim_eq]; exact hl, ?_⟩
      have : cutS (toStr z) lo hi = toStr (cutD z lo hi) := by
        unfold cutS cutD
        rw [toStr_list, toStr_len]
        rfl
      rw [this]
      exact q F _ H g0 (VRep.vstr _)
    · cases e
  · cases e
end
end MP


set_option Elab.async false
set_option linter.all false
set_option maxHeartbeats 1000000
/-! The evaluator's readings, and the rules of the hand layer told of them. -/
namespace MP
open PySem PySem.Spec PyProof.Rows L2

/-! ### calls -/
/-- a def's promise, with the guards known -/
structure FnG (P : Program) (w : World) (K : PySem.W.Frag) (mg : Str → Option Value) (base : Heap) (k : Nat) (f : Addr) (fd : FuncData) (ps : List Str) (sp : Sp) : Prop where
  len : ∀ vs H Q E, sp vs H Q E → vs.length = ps.length
  run : ∀ (A : Around) (outer : List PySem.Env) (s : Shared) (H : Hp) (args : Args) (us : List Value) (vs : List V) (Q : VK) (E : XK), Room k A → A.guards = some [] → Env0 P w K mg base A outer s H →
    BindsTo s fd args (ps.zip us) → Vals vs us → sp vs H Q E → codeAny (model P w) A (.call (.ref f) args) (CR (L2.CX P w) outer P w H s Q E) s

section
variable {X : Cx} {k : Nat} {f : Addr} {fd : FuncData} {ps : List Str} {sp : Sp} {dvs : List V} {ds : List Value} {W : WX}
theorem run_call {pins : List (Addr × Obj)} {σ : L2.St} {H : Hp} {s : Shared} {Q : VK} {us : List Value} {vs : List V} (G : FnG X.prog X.w X.K X.mg X.base k f fd ps sp) (hr : Room k X.A) (hg : X.A.guards = some []) (hb : Binds X.K fd ps ds) (hd : Vals dvs ds)
    (tk : Takes X W) (I : L2.Inv X pins σ H s) (r : Vals vs us) (h : sp (vs ++ dvs) H Q fun cls d H' => W cls d σ H') : wpAny (model X.prog X.w) X.A (call (.ref f) us) (EP X pins σ Q) X.xe s := by
  have r2 : Vals (vs ++ dvs) (us ++ ds) := r.append hd
  have hl : (us ++ ds).length = ps.length := by rw [← r2.length]; exact G.len _ _ _ _ h
  have go := G.run X.A X.stack s H ⟨us, []⟩ (us ++ ds) (vs ++ dvs) Q _ hr hg I.env0 (hb s us I.kIn hl) r2 h
  refine wpAny_call (codeAny_mono go fun x s' hq => ?_)
  match x, hq with
  | .error e, hq => exact tk e s' (XE.of_call I (fun _ _ _ z => z) hq)
  | .ok (.ret u), hq => exact I.after hq
  | .ok .next, hq => exact hq.elim
  | .ok .brk, hq => exact hq.elim
  | .ok .cont, hq => exact hq.elim
end
theorem deeper_guards (A : Around) (env : PySem.Env) : (A.deeper env).guards = A.guards := rfl
/-- a def by its body -/
theorem fnG_of {P : Program} {w : World} {K : PySem.W.Frag} {mg : Str → Option Value} {base : Heap} {k : Nat} {f : Addr} {x qual : Str} {st : Stmt} {fd : FuncData} {N ps : List Str} {sp : Sp} (F : Fun K x qual st f fd) (S : FnScope N ps (defScope st))
    (len : ∀ vs H Q E, sp vs H Q E → vs.length = ps.length)
    (hbody : ∀ (cdv : Value) (A : Around) (outer : List PySem.Env) (s : Shared) (H : Hp) (vs : List V) (Q : VK) (E : XK), Room k (A.deeper (envOfC qual (defScope st) s.heap.objs.size f cdv)) → A.guards = some [] → sp vs H Q E →
      ∃ t, PSs (cxOf (L2.CX P w) P w K mg base N qual (defScope st) f cdv A outer s H E) (defBody st) t ∧ t { nx := fun _ H' => Q .non H', rt := Q } (L2.start N vs) H) :
    FnG P w K mg base (k + 1) f fd ps sp := by
  obtain ⟨oc, od, kV, doc, pm, an, cdv, ct, osl, rfl, lk, hcd⟩ := F.ex
  refine ⟨len, fun A outer s H args us vs Q E hr hg e0 hb r hsp => ?_⟩
  -- the promise told of this very A alone
  have K1 : FnOk P w K mg base (L2.CX P w) (k + 1) f (PySem.W.fnOf x qual (defArgs st) (defBody st) (defScope st) .none kV doc pm an cdv ct) ps sp →
      codeAny (model P w) A (.call (.ref f) args) (CR (L2.CX P w) outer P w H s Q E) s := fun G => G.run A outer s H args us vs Q E hr e0 hb r hsp
  have hl := len _ _ _ _ hsp
  have KX : K.In s.heap := e0.mod.kin.keeps fun b o e => (e0.bs b o e).1
  have nl : s.heap.NoLimit := e0.mod.nolimit.keeps fun b o e => (e0.bs b o e).1
  have kinds : ∀ y ∈ ps.zip us, (defScope st).names.lookup y.1 = some .local ∨ ((defScope st).names.lookup y.1 = some .cell ∧ ((cellsFrom (s.heap.objs.size + 1) (defScope st).names []).lookup y.1).isSome = true) := by
    rintro ⟨n, v⟩ hy
    exact (S.par n (List.of_mem_zip hy).1).imp id fun q => ⟨q, PySem.W.cellsFrom_some _ _ _ (.inl q)⟩
  have body : ∀ s1 : Shared, L2.Inv (cxOf (L2.CX P w) P w K mg base N qual (defScope st) f cdv A outer s H E) [] (L2.start N vs) H s1 →
      wpAny (model P w) (A.deeper (envOfC qual (defScope st) s.heap.objs.size f cdv)) (execs (defBody st) (envOfC qual (defScope st) s.heap.objs.size f cdv))
        (SP (cxOf (L2.CX P w) P w K mg base N qual (defScope st) f cdv A outer s H E) [] { nx := fun _ H' => Q .non H', rt := Q })
        (cxOf (L2.CX P w) P w K mg base N qual (defScope st) f cdv A outer s H E).xe s1 := fun s1 I => by
    obtain ⟨t, ht, hq⟩ := hbody cdv A outer s H vs Q E (hr.deeper _) hg hsp
    exact ht.run [] s1 (L2.start N vs) H _ I hq
  have enter : codeAny (model P w) A (.call (.ref f) args) (CR (L2.CX P w) outer P w H s Q E) s := by
    refine codeAny_call_function hr.depth (KX _ _ lk) rfl S.co S.gen rfl (PySem.W.codeRec_of KX hcd) (hb _ _ _ _ ?_)
    refine wpAny_newFunctionEnv_cells S.kind kinds fun env he s1 x1 => ?_
    subst he
    refine ⟨nl.keeps x1.toInCall.keep, codeAny_func (wpAny_mono (body s1 (inv_start S hr.hd e0 hl r x1)) (fun fl s' hs => ?_) fun e s' hs => hs)⟩
    match fl, hs with
    | .ret u, ⟨v, _, H', J, rv, q⟩ => exact ⟨v, H', J.os, J.bare, J.base, J.hok, rv, q⟩
    | .next, ⟨_, H', J, q⟩ => exact ⟨V.non, H', J.os, J.bare, J.base, J.hok, rfl, q⟩
    | .brk, ⟨_, _, _, q⟩ => exact q.elim
    | .cont, ⟨_, _, _, q⟩ => exact q.elim
  exact enter

/-! ### readings -/
section
variable (K : PySem.W.Frag) (C : Stc)
def ePost {α β : Type} (W : WX) (rep : Hp → List Addr → α → β → Prop) (F R : Hp) (phi : List Addr) (r : Env) (σ : L2.St) (x : Res α) (Q : β → Hp → Prop) : Prop :=
  match x with
  | .ok a h' => ∀ F' phi' b H', Sub F F' → Pre phi phi' → SR K C F' R phi' r h' σ H' → rep F' phi' a b → Q b H'
  | .exc c h' => ∀ F' phi' H', Sub F F' → Pre phi phi' → SR K C F' R phi' r h' σ H' → W (.ref (evK K c)) none σ H'
  | .stk => False
def tR {α β : Type} (W : WX) (rep : Hp → List Addr → α → β → Prop) (f : Env → Hh → Res α) : L2.St → Hp → (β → Hp → Prop) → Prop := fun σ H Q =>
  ∃ F R phi r h, SR K C F R phi r h σ H ∧ ePost K C W rep F R phi r σ (f r h) Q
end
def repB : Hp → List Addr → Bool → Bool → Prop := fun _ _ a b => a = b

section
variable {K : PySem.W.Frag} {C : Stc} {W : WX} {α β γ δ : Type} {rep : Hp → List Addr → α → β → Prop} {rep2 : Hp → List Addr → γ → δ → Prop} {F F' R : Hp} {phi phi' : List Addr} {r : Env} {h : Hh} {σ : L2.St} {H H' : Hp}
theorem ePost.mono {x : Res α} {Q Q' : β → Hp → Prop} (p : ePost K C W rep F R phi r σ x Q) (s : Sub F F') (q : Pre phi phi') (hq : ∀ b H, Q b H → Q' b H) : ePost K C W rep F' R phi' r σ x Q' := by
  cases x with
  | ok a h' => exact fun F2 phi2 b H2 s2 q2 S rp => hq _ _ (p F2 phi2 b H2 (s.trans s2) (q.trans q2) S rp)
  | exc c h' => exact fun F2 phi2 H2 s2 q2 S => p F2 phi2 H2 (s.trans s2) (q.trans q2) S
  | stk => exact p
theorem tR.mono {f : Env → Hh → Res α} {Q Q' : β → Hp → Prop} (p : tR K C W rep f σ H Q) (hq : ∀ b H, Q b H → Q' b H) : tR K C W rep f σ H Q' := by
  obtain ⟨F, R, phi, r, h, S, q⟩ := p
  exact ⟨F, R, phi, r, h, S, q.mono (Sub.refl _) (Pre.refl _) hq⟩
/-- one part of what is evaluated, and the rest -/
theorem tR_bind {f : Env → Hh → Res α} {g : α → Hh → Res γ} {Q : δ → Hp → Prop} (S : SR K C F R phi r h σ H) (p : ePost K C W rep2 F R phi r σ ((f r h).bind g) Q) :
    tR K C W rep f σ H fun b H1 => ∃ F1 phi1 a h1, Sub F F1 ∧ Pre phi phi1 ∧ SR K C F1 R phi1 r h1 σ H1 ∧ rep F1 phi1 a b ∧ f r h = .ok a h1 ∧ ePost K C W rep2 F1 R phi1 r σ (g a h1) Q := by
  refine ⟨F, R, phi, r, h, S, ?_⟩
  cases e : f r h with
  | ok a h1 =>
    rw [e, Res.bind_ok] at p
    intro F' phi' b H' s q S' rp
    exact ⟨F', phi', a, h1, s, q, S', rp, rfl, p.mono s q fun _ _ z => z⟩
  | exc c h1 =>
    rw [e, Res.bind_exc] at p
    exact p
  | stk =>
    rw [e, Res.bind_stk] at p
    exact p
/-- a result that is there at once -/
theorem ePost.now {x : Option α} {Q : β → Hp → Prop} (p : ePost K C W rep F R phi r σ (opt x h) Q) : ∃ a, x = some a ∧ ∀ F' phi' b H', Sub F F' → Pre phi phi' → SR K C F' R phi' r h σ H' → rep F' phi' a b → Q b H' := by
  cases x with
  | none => exact p.elim
  | some a => exact ⟨a, rfl, p⟩
end

/-- the context's facts that the rules ask for -/
structure Cok (X : Cx) (C : Stc) (W : WX) (k : Nat) : Prop where
  nd : X.N.Nodup
  hu : X.A.units + 65 < cLine
  grd : X.A.guards = some []
  tk : Takes X W
/-- not within an except suite, with room -/
structure Cool (X : Cx) (k : Nat) : Prop where
  calm : X.calm = true
  room : Room k X.A
theorem Cool.hu {X : Cx} {k : Nat} (c : Cool X k) : X.A.units + 65 < cLine := by have := c.room.un; omega

section
variable (X : Cx) (C : Stc) (W : WX) (P : Prog) (cl : Nat → List D → Hh → Res SV)
abbrev tE (e : E) : TE := tR X.K C W (VRep X.K) (evE P cl e)
abbrev tC (e : E) : TT := tR X.K C W repB (evC P cl e)
abbrev tEs (es : Es) : TA := tR X.K C W (VReps X.K) (evEs P cl es)
end

section
variable {X : Cx} {C : Stc} {W : WX} {k : Nat} {P : Prog} {cl : Nat → List D → Hh → Res SV} {a b c : Expr} {ma mb mc : E} {pos : Pos}
theorem _root_.L2.PE.imp {e : Expr} {t t' : TE} (p : PE X e t) (h : ∀ σ H Q, t' σ H Q → t σ H Q) : PE X e t' := ⟨fun pins s σ H Q I q => p.run pins s σ H Q I (h σ H Q q)⟩
theorem _root_.L2.PT.imp {e : Expr} {t t' : TT} (p : PT X e t) (h : ∀ σ H Q, t' σ H Q → t σ H Q) : PT X e t' := ⟨fun pins s σ H Q I q => p.run pins s σ H Q I (h σ H Q q)⟩
theorem _root_.L2.PA.imp {e : List Expr} {t t' : TA} (p : PA X e t) (h : ∀ σ H Q, t' σ H Q → t σ H Q) : PA X e t' := ⟨fun pos pins s σ H Q I q => p.run pos pins s σ H Q I (h σ H Q q)⟩
theorem _root_.L2.PS.imp {e : Stmt} {t t' : TS} (p : PS X e t) (h : ∀ D σ H, t' D σ H → t D σ H) : PS X e t' := ⟨fun pins s σ H D I q => p.run pins s σ H D I (h D σ H q)⟩
theorem _root_.L2.PSs.imp {e : List Stmt} {t t' : TS} (p : PSs X e t) (h : ∀ D σ H, t' D σ H → t D σ H) : PSs X e t' := ⟨fun pins s σ H D I q => p.run pins s σ H D I (h D σ H q)⟩

/-! ### names and constants -/
theorem s_var {i : Nat} {x : Str} (hN : X.N[i]? = some x) (hv : Vis X.env.scope x) (hd : (x == ("__debug__" : Str)) = false) (hcd : (x == ("__classdict__" : Str)) = false) : PE X (.Name x pos) (tE X C W P cl (.var i)) := by
  refine (pe_var hN hv hd hcd).imp fun σ H Q q => ?_
  obtain ⟨F, R, phi, r, h, S, p⟩ := q
  rw [evE] at p
  split at p
  · rename_i d e
    have hl := (List.getElem?_eq_some_iff.mp e).1
    have hl2 : i < σ.length := by rw [← S.sl]; exact hl
    obtain ⟨v, e1, e2⟩ := S.slot i _ e σ[i] (by simp [hl2])
    exact ⟨v, by rw [← e1]; simp [hl2], p F phi v H (Sub.refl _) (Pre.refl _) S e2⟩
  · exact p.elim
theorem s_int {i : Int} {j : Nat} : PE X (.Constant (.int i) j pos) (tE X C W P cl (.int i)) := pe_int.imp fun σ H Q ⟨F, R, phi, r, h, S, p⟩ => by
  rw [evE] at p
  exact p F phi _ H (Sub.refl _) (Pre.refl _) S (VRep.vint i)
theorem s_bl {i : Bool} {j : Nat} : PE X (.Constant (.bool i) j pos) (tE X C W P cl (.bl i)) := pe_bl.imp fun σ H Q ⟨F, R, phi, r, h, S, p⟩ => by
  rw [evE] at p
  exact p F phi _ H (Sub.refl _) (Pre.refl _) S (VRep.vbl i)
theorem s_non {j : Nat} : PE X (.Constant .none j pos) (tE X C W P cl .non) := pe_non.imp fun σ H Q ⟨F, R, phi, r, h, S, p⟩ => by
  rw [evE] at p
  exact p F phi _ H (Sub.refl _) (Pre.refl _) S VRep.vnon
theorem s_str {z : Str} {t : List Nat} (hz : z = toStr t) {j : Nat} : PE X (.Constant (.str z) j pos) (tE X C W P cl (.str t)) := pe_str.imp fun σ H Q ⟨F, R, phi, r, h, S, p⟩ => by
  rw [evE] at p
  rw [hz]
  exact p F phi _ H (Sub.refl _) (Pre.refl _) S (VRep.vstr t)
theorem s_glob {g : Nat} {x : Str} {u : Value} {v : V} (hg : Gl X x) (hm : X.mg x = some u) (rv : RelV v u) (hd : (x == ("__debug__" : Str)) = false) (hr : ∀ d, P.gl g = some d → ∀ F phi, VRep X.K F phi d v) : PE X (.Name x pos) (tE X C W P cl (.glob g)) :=
  (pe_glob hg hm rv hd).imp fun σ H Q ⟨F, R, phi, r, h, S, p⟩ => by
    rw [evE] at p
    obtain ⟨d, e, q⟩ := p.now
    exact q F phi v H (Sub.refl _) (Pre.refl _) S (hr d e F phi)

/-! ### operators -/
theorem s_bin (op : Bop) (ha : PE X a (tE X C W P cl ma)) (hb : PE X b (tE X C W P cl mb)) : PE X (.BinOp a op.op b pos) (tE X C W P cl (.bin op ma mb)) := by
  refine (pe_op (op_bin (C := C) op) ha hb).imp fun σ H Q ⟨F, R, phi, r, h, S, p⟩ => ?_
  rw [evE] at p
  refine (tR_bind S p).mono fun x H1 ⟨F1, phi1, dx, h1, s1, q1, S1, rx, _, p1⟩ => ?_
  refine (tR_bind S1 p1).mono fun y H2 ⟨F2, phi2, dy, h2, s2, q2, S2, ry, _, p2⟩ => ?_
  obtain ⟨d, e, q⟩ := p2.now
  exact ⟨F2, phi2, h2, dx, dy, d, S2.hr, VRep.mono s2 q2 _ _ rx, ry, e, fun F' v H' g rv => q F' phi2 v H' (g.sub S2.hr.fH) (Pre.refl _) (S2.grow g) rv⟩
theorem s_cmp (ok : Cok X C W k) (op : Cop) (hm : behindInMarks op.op b = false) (ha : PE X a (tE X C W P cl ma)) (hb : PE X b (tE X C W P cl mb)) : PE X (.Compare a [op.op] [b] pos) (tE X C W P cl (.cmp op ma mb)) := by
  refine (pe_cmpR (op_cmp (C := C) op ok.hu) ha hb hm).imp fun σ H Q ⟨F, R, phi, r, h, S, p⟩ => ?_
  rw [evE] at p
  refine (tR_bind S p).mono fun x H1 ⟨F1, phi1, dx, h1, s1, q1, S1, rx, _, p1⟩ => ?_
  refine (tR_bind S1 p1).mono fun y H2 ⟨F2, phi2, dy, h2, s2, q2, S2, ry, _, p2⟩ => ?_
  obtain ⟨d, e, q⟩ := p2.now
  exact ⟨F2, phi2, h2, dx, dy, d, S2.hr, VRep.mono s2 q2 _ _ rx, ry, e, fun F' v H' g rv => q F' phi2 v H' (g.sub S2.hr.fH) (Pre.refl _) (S2.grow g) rv⟩
/-- a test is its value's truth -/
theorem evC_eq (e : E) (r : Env) (h : Hh) : evC P cl e r h = (evE P cl e r h).bind fun x h1 => opt (truth x h1) h1 := rfl
/-- the reading of an expression whose value is a truth value, as a test -/
theorem tc_of {e : E} {σ : L2.St} {H : Hp} {Q : Bool → Hp → Prop} (hb : ∀ r h d h1, evE P cl e r h = .ok d h1 → ∃ x, d = .bl x) (q : tC X C W P cl e σ H Q) : tE X C W P cl e σ H fun x H1 => ∃ y, x = .bl y ∧ Q y H1 := by
  obtain ⟨F, R, phi, r, h, S, p⟩ := q
  rw [evC_eq] at p
  refine ⟨F, R, phi, r, h, S, ?_⟩
  cases e1 : evE P cl e r h with
  | ok d h1 =>
    obtain ⟨x, rfl⟩ := hb r h d h1 e1
    rw [e1, Res.bind_ok] at p
    intro F' phi' b H' s q S' rp
    simp only [VRep] at rp
    exact ⟨x, rp, p F' phi' x H' s q S' rfl⟩
  | exc c h1 => rw [e1, Res.bind_exc] at p; exact p
  | stk => rw [e1, Res.bind_stk] at p; exact p
theorem opt_bl {o : Option Bool} {h h1 : Hh} {d : D} (e : opt (o.map D.bl) h = .ok d h1) : ∃ x, d = .bl x := by
  cases o with
  | none => cases e
  | some x => simp only [Option.map_some, opt_some] at e; cases e; exact ⟨x, rfl⟩
theorem bind_ok_inv {α β : Type} {x : Res α} {f : α → Hh → Res β} {b : β} {h : Hh} (e : x.bind f = .ok b h) : ∃ a h1, x = .ok a h1 ∧ f a h1 = .ok b h := by
  cases x with
  | ok a h1 => exact ⟨a, h1, rfl, e⟩
  | exc c h1 => cases e
  | stk => cases e
theorem cmp_bl {op : Cop} {r : Env} {h h1 : Hh} {d : D} (e : evE P cl (.cmp op ma mb) r h = .ok d h1) : ∃ x, d = .bl x := by
  rw [evE] at e
  obtain ⟨x, h2, _, e⟩ := bind_ok_inv e
  obtain ⟨y, h3, _, e⟩ := bind_ok_inv e
  exact opt_bl e
theorem st_cmp (ok : Cok X C W k) (op : Cop) (hm : behindInMarks op.op b = false) (ha : PE X a (tE X C W P cl ma)) (hb : PE X b (tE X C W P cl mb)) : PT X (.Compare a [op.op] [b] pos) (tC X C W P cl (.cmp op ma mb)) := by
  refine (pt_cmpR (op_cmp (C := C) op ok.hu) ha hb hm).imp fun σ H Q q => ?_
  obtain ⟨F, R, phi, r, h, S, p⟩ := tc_of (fun _ _ _ _ => cmp_bl) q
  rw [evE] at p
  refine (tR_bind S p).mono fun x H1 ⟨F1, phi1, dx, h1, s1, q1, S1, rx, _, p1⟩ => ?_
  refine (tR_bind S1 p1).mono fun y H2 ⟨F2, phi2, dy, h2, s2, q2, S2, ry, _, p2⟩ => ?_
  obtain ⟨d, e, q⟩ := p2.now
  exact ⟨F2, phi2, h2, dx, dy, d, S2.hr, VRep.mono s2 q2 _ _ rx, ry, e, fun F' v H' g rv => q F' phi2 v H' (g.sub S2.hr.fH) (Pre.refl _) (S2.grow g) rv⟩
theorem s_neg (ha : PE X a (tE X C W P cl ma)) : PE X (.UnaryOp .USub a pos) (tE X C W P cl (.neg ma)) := by
  refine (pe_un un_neg ha).imp fun σ H Q ⟨F, R, phi, r, h, S, p⟩ => ?_
  rw [evE] at p
  refine (tR_bind S p).mono fun x H1 ⟨F1, phi1, dx, h1, s1, q1, S1, rx, _, p1⟩ => ?_
  split at p1
  · rename_i i _
    simp only [VRep] at rx
    exact ⟨i, rx, p1 F1 phi1 _ H1 (Sub.refl _) (Pre.refl _) S1 (VRep.vint _)⟩
  · exact p1.elim
theorem s_not (ha : PE X a (tE X C W P cl ma)) : PE X (.UnaryOp .Not a pos) (tE X C W P cl (.not ma)) := by
  refine (pe_notT ha).imp fun σ H Q ⟨F, R, phi, r, h, S, p⟩ => ?_
  rw [evE] at p
  refine (tR_bind S p).mono fun x H1 ⟨F1, phi1, dx, h1, s1, q1, S1, rx, _, p1⟩ => ?_
  obtain ⟨d, e, q⟩ := p1.now
  simp only [Option.map_eq_some_iff] at e
  obtain ⟨y, e, rfl⟩ := e
  exact ⟨y, tru_of S1.hr rx e, q F1 phi1 _ H1 (Sub.refl _) (Pre.refl _) S1 (VRep.vbl _)⟩
theorem st_not (ha : PT X a (tC X C W P cl ma)) : PT X (.UnaryOp .Not a pos) (tC X C W P cl (.not ma)) := by
  refine (pt_not ha).imp fun σ H Q ⟨F, R, phi, r, h, S, p⟩ => ?_
  refine ⟨F, R, phi, r, h, S, ?_⟩
  rw [evC_eq, evE] at p
  rw [evC_eq]
  cases e1 : evE P cl ma r h with
  | ok d h1 =>
    rw [e1] at p
    simp only [Res.bind_ok] at p ⊢
    cases e2 : truth d h1 with
    | none => rw [e2] at p; exact p.elim
    | some y =>
      rw [e2] at p
      simp only [Option.map_some, opt_some, Res.bind_ok, truth] at p ⊢
      exact fun F' phi' b H' s q S' rp => p F' phi' (!b) H' s q S' (by rw [show y = b from rp]; rfl)
  | exc c h1 => rw [e1] at p; exact p
  | stk => rw [e1] at p; exact p
/-- any expression as a test -/
theorem st_val (ha : PE X a (tE X C W P cl ma)) (he : ∀ whole, isTrue a X.env whole = (do let v ← whole; standAt a.pos; holding [v] (truthy v))) : PT X a (tC X C W P cl ma) := by
  refine (pt_truth ha he).imp fun σ H Q ⟨F, R, phi, r, h, S, p⟩ => ?_
  rw [evC_eq] at p
  refine (tR_bind S p).mono fun x H1 ⟨F1, phi1, dx, h1, s1, q1, S1, rx, _, p1⟩ => ?_
  obtain ⟨y, e, q⟩ := p1.now
  exact ⟨y, tru_of S1.hr rx e, q F1 phi1 y H1 (Sub.refl _) (Pre.refl _) S1 rfl⟩
theorem s_ifx (hc : PT X c (tC X C W P cl mc)) (ha : PE X a (tE X C W P cl ma)) (hb : PE X b (tE X C W P cl mb)) : PE X (.IfExp c a b pos) (tE X C W P cl (.ifx mc ma mb)) := by
  refine (pe_ifExp hc ha hb).imp fun σ H Q ⟨F, R, phi, r, h, S, p⟩ => ?_
  rw [evE] at p
  have p' : ePost X.K C W (VRep X.K) F R phi r σ ((evC P cl mc r h).bind fun k h2 => if k = true then evE P cl ma r h2 else evE P cl mb r h2) Q := by
    rw [evC_eq]
    cases e1 : evE P cl mc r h with
    | ok d h1 => rw [e1] at p; exact p
    | exc c h1 => rw [e1] at p; exact p
    | stk => rw [e1] at p; exact p
  refine (tR_bind S p').mono fun x H1 ⟨F1, phi1, y, h1, s1, q1, S1, rx, _, p1⟩ => ?_
  obtain rfl : y = x := rx
  cases y with
  | true => exact ⟨F1, R, phi1, r, h1, S1, p1⟩
  | false => exact ⟨F1, R, phi1, r, h1, S1, p1⟩
end
end MP

namespace MP
open PySem PySem.Spec PyProof.Rows L2
section
variable {X : Cx} {C : Stc} {W : WX} {k : Nat} {P : Prog} {cl : Nat → List D → Hh → Res SV} {a b c : Expr} {es : List Expr} {ma mb mc : E} {mes : Es} {pos : Pos}
/-! ### chains, and, or -/
theorem s_cmp2 (ok : Cok X C W k) (o1 o2 : Cop) (hm : lastMarks [o1.op, o2.op] [b, c] = false) (ha : PE X a (tE X C W P cl ma)) (hb : PE X b (tE X C W P cl mb)) (hc : PE X c (tE X C W P cl mc)) :
    PE X (.Compare a [o1.op, o2.op] [b, c] pos) (tE X C W P cl (.cmp2 o1 o2 ma mb mc)) := by
  refine (pe_chain (op_cmp (C := C) o1 ok.hu) (op_cmp (C := C) o2 ok.hu) ha hb hc hm).imp fun σ H Q ⟨F, R, phi, r, h, S, p⟩ => ?_
  rw [evE] at p
  refine (tR_bind S p).mono fun x H1 ⟨F1, phi1, dx, h1, s1, q1, S1, rx, _, p1⟩ => ?_
  refine (tR_bind S1 p1).mono fun y H2 ⟨F2, phi2, dy, h2, s2, q2, S2, ry, _, p2⟩ => ?_
  cases e1 : cmpop o1 dx dy h2 with
  | none => rw [e1] at p2; exact p2.elim
  | some y1 =>
    rw [e1] at p2
    simp only [opt_some, Res.bind_ok] at p2
    refine ⟨F2, phi2, h2, dx, dy, .bl y1, S2.hr, VRep.mono s2 q2 _ _ rx, ry, by show Option.map D.bl (cmpop o1 dx dy h2) = _; rw [e1]; rfl, fun F' v H' g rv => ?_⟩
    simp only [VRep] at rv
    refine ⟨y1, rv, ?_⟩
    have S3 := S2.grow g
    cases y1 with
    | false =>
      rw [if_neg Bool.false_ne_true] at p2 ⊢
      exact p2 F' phi2 _ H' (g.sub S2.hr.fH) (Pre.refl _) S3 (VRep.vbl _)
    | true =>
      rw [if_pos rfl] at p2 ⊢
      have p3 := p2.mono (g.sub S2.hr.fH) (Pre.refl _) (fun _ _ z => z)
      refine (tR_bind S3 p3).mono fun z H4 ⟨F4, phi4, dz, h4, s4, q4, S4, rz, _, p4⟩ => ?_
      obtain ⟨d, e, q⟩ := p4.now
      exact ⟨F4, phi4, h4, dy, dz, d, S4.hr, VRep.mono ((g.sub S2.hr.fH).trans s4) q4 _ _ ry, rz, e, fun F5 v5 H5 g5 rv5 => q F5 phi4 v5 H5 (g5.sub S4.hr.fH) (Pre.refl _) (S4.grow g5) rv5⟩
theorem cmp2_bl {o1 o2 : Cop} {r : Env} {h h1 : Hh} {d : D} (e : evE P cl (.cmp2 o1 o2 ma mb mc) r h = .ok d h1) : ∃ x, d = .bl x := by
  rw [evE] at e
  obtain ⟨x, h2, _, e⟩ := bind_ok_inv e
  obtain ⟨y, h3, _, e⟩ := bind_ok_inv e
  obtain ⟨z, h4, _, e⟩ := bind_ok_inv e
  split at e
  · obtain ⟨w, h5, _, e⟩ := bind_ok_inv e
    exact opt_bl e
  · cases e
    exact ⟨_, rfl⟩
theorem st_cmp2 (ok : Cok X C W k) (o1 o2 : Cop) (hm : lastMarks [o1.op, o2.op] [b, c] = false) (ha : PE X a (tE X C W P cl ma)) (hb : PE X b (tE X C W P cl mb)) (hc : PE X c (tE X C W P cl mc)) :
    PT X (.Compare a [o1.op, o2.op] [b, c] pos) (tC X C W P cl (.cmp2 o1 o2 ma mb mc)) := by
  refine (pt_chain (op_cmp (C := C) o1 ok.hu) (op_cmp (C := C) o2 ok.hu) ha hb hc hm).imp fun σ H Q q => ?_
  obtain ⟨F, R, phi, r, h, S, p⟩ := tc_of (fun _ _ _ _ => cmp2_bl) q
  rw [evE] at p
  refine (tR_bind S p).mono fun x H1 ⟨F1, phi1, dx, h1, s1, q1, S1, rx, _, p1⟩ => ?_
  refine (tR_bind S1 p1).mono fun y H2 ⟨F2, phi2, dy, h2, s2, q2, S2, ry, _, p2⟩ => ?_
  cases e1 : cmpop o1 dx dy h2 with
  | none => rw [e1] at p2; exact p2.elim
  | some y1 =>
    rw [e1] at p2
    simp only [opt_some, Res.bind_ok] at p2
    refine ⟨F2, phi2, h2, dx, dy, .bl y1, S2.hr, VRep.mono s2 q2 _ _ rx, ry, by show Option.map D.bl (cmpop o1 dx dy h2) = _; rw [e1]; rfl, fun F' v H' g rv => ?_⟩
    simp only [VRep] at rv
    refine ⟨y1, rv, ?_⟩
    have S3 := S2.grow g
    cases y1 with
    | false =>
      rw [if_neg Bool.false_ne_true] at p2 ⊢
      exact p2 F' phi2 _ H' (g.sub S2.hr.fH) (Pre.refl _) S3 (VRep.vbl _)
    | true =>
      rw [if_pos rfl] at p2 ⊢
      have p3 := p2.mono (g.sub S2.hr.fH) (Pre.refl _) (fun _ _ z => z)
      refine (tR_bind S3 p3).mono fun z H4 ⟨F4, phi4, dz, h4, s4, q4, S4, rz, _, p4⟩ => ?_
      obtain ⟨d, e, q⟩ := p4.now
      exact ⟨F4, phi4, h4, dy, dz, d, S4.hr, VRep.mono ((g.sub S2.hr.fH).trans s4) q4 _ _ ry, rz, e, fun F5 v5 H5 g5 rv5 => q F5 phi4 v5 H5 (g5.sub S4.hr.fH) (Pre.refl _) (S4.grow g5) rv5⟩
theorem s_and1 (ha : PE X a (tE X C W P cl ma)) : PE X (.BoolOp .And [a] pos) (tR X.K C W (VRep X.K) (evAnd P cl (.cons ma .nil))) := (pe_one ha).imp fun σ H Q ⟨F, R, phi, r, h, S, p⟩ => by
  rw [evAnd] at p
  exact ⟨F, R, phi, r, h, S, p⟩
theorem s_or1 (ha : PE X a (tE X C W P cl ma)) : PE X (.BoolOp .Or [a] pos) (tR X.K C W (VRep X.K) (evOr P cl (.cons ma .nil))) := (pe_one ha).imp fun σ H Q ⟨F, R, phi, r, h, S, p⟩ => by
  rw [evOr] at p
  exact ⟨F, R, phi, r, h, S, p⟩
theorem s_and2 (ha : PE X a (tE X C W P cl ma)) (hb : PE X (.BoolOp .And (b :: es) pos) (tR X.K C W (VRep X.K) (evAnd P cl (.cons mb mes)))) : PE X (.BoolOp .And (a :: b :: es) pos) (tR X.K C W (VRep X.K) (evAnd P cl (.cons ma (.cons mb mes)))) := by
  refine (pe_andT ha hb).imp fun σ H Q ⟨F, R, phi, r, h, S, p⟩ => ?_
  rw [evAnd] at p
  refine (tR_bind S p).mono fun x H1 ⟨F1, phi1, dx, h1, s1, q1, S1, rx, _, p1⟩ => ?_
  cases e1 : truth dx h1 with
  | none => rw [e1] at p1; exact p1.elim
  | some y =>
    rw [e1] at p1
    simp only [opt_some, Res.bind_ok] at p1
    refine ⟨y, tru_of S1.hr rx e1, ?_⟩
    cases y with
    | true => exact ⟨F1, R, phi1, r, h1, S1, p1⟩
    | false => exact p1 F1 phi1 _ H1 (Sub.refl _) (Pre.refl _) S1 rx
theorem s_or2 (ha : PE X a (tE X C W P cl ma)) (hb : PE X (.BoolOp .Or (b :: es) pos) (tR X.K C W (VRep X.K) (evOr P cl (.cons mb mes)))) : PE X (.BoolOp .Or (a :: b :: es) pos) (tR X.K C W (VRep X.K) (evOr P cl (.cons ma (.cons mb mes)))) := by
  refine (pe_orT ha hb).imp fun σ H Q ⟨F, R, phi, r, h, S, p⟩ => ?_
  rw [evOr] at p
  refine (tR_bind S p).mono fun x H1 ⟨F1, phi1, dx, h1, s1, q1, S1, rx, _, p1⟩ => ?_
  cases e1 : truth dx h1 with
  | none => rw [e1] at p1; exact p1.elim
  | some y =>
    rw [e1] at p1
    simp only [opt_some, Res.bind_ok] at p1
    refine ⟨y, tru_of S1.hr rx e1, ?_⟩
    cases y with
    | false => exact ⟨F1, R, phi1, r, h1, S1, p1⟩
    | true => exact p1 F1 phi1 _ H1 (Sub.refl _) (Pre.refl _) S1 rx
def evAndT (P : Prog) (cl : Nat → List D → Hh → Res SV) (es : Es) (r : Env) (h : Hh) : Res Bool := (evAnd P cl es r h).bind fun x h1 => opt (truth x h1) h1
def evOrT (P : Prog) (cl : Nat → List D → Hh → Res SV) (es : Es) (r : Env) (h : Hh) : Res Bool := (evOr P cl es r h).bind fun x h1 => opt (truth x h1) h1
abbrev tAT (X : Cx) (C : Stc) (W : WX) (P : Prog) (cl : Nat → List D → Hh → Res SV) (es : Es) : TT := tR X.K C W repB (evAndT P cl es)
abbrev tOT (X : Cx) (C : Stc) (W : WX) (P : Prog) (cl : Nat → List D → Hh → Res SV) (es : Es) : TT := tR X.K C W repB (evOrT P cl es)
theorem PW.imp {X : Cx} {e : Expr} {t t' : TT} (p : PW X e t) (h : ∀ σ H Q, t' σ H Q → t σ H Q) : PW X e t' := ⟨fun wh pins s σ H Q I q => p.run wh pins s σ H Q I (h σ H Q q)⟩
theorem sw_and1 (ha : PT X a (tC X C W P cl ma)) : PW X (.BoolOp .And [a] pos) (tAT X C W P cl (.cons ma .nil)) := PW.imp (pw_and1 ha) fun σ H Q ⟨F, R, phi, r, h, S, p⟩ => by
  unfold evAndT at p
  rw [evAnd] at p
  exact ⟨F, R, phi, r, h, S, p⟩
theorem sw_or1 (ha : PT X a (tC X C W P cl ma)) : PW X (.BoolOp .Or [a] pos) (tOT X C W P cl (.cons ma .nil)) := PW.imp (pw_or1 ha) fun σ H Q ⟨F, R, phi, r, h, S, p⟩ => by
  unfold evOrT at p
  rw [evOr] at p
  exact ⟨F, R, phi, r, h, S, p⟩
theorem andT_eq (ma mb : E) (mes : Es) (r : Env) (h : Hh) : evAndT P cl (.cons ma (.cons mb mes)) r h = (evC P cl ma r h).bind fun y h1 => if y = true then evAndT P cl (.cons mb mes) r h1 else .ok false h1 := by
  unfold evAndT
  rw [evAnd, evC_eq]
  cases evE P cl ma r h with
  | ok d h1 =>
    simp only [Res.bind_ok]
    cases e : truth d h1 with
    | none => rfl
    | some y =>
      simp only [opt_some, Res.bind_ok]
      cases y with
      | true => rfl
      | false => simp only [Bool.false_eq_true, if_false, Res.bind_ok, e, opt_some]
  | exc c h1 => rfl
  | stk => rfl
theorem orT_eq (ma mb : E) (mes : Es) (r : Env) (h : Hh) : evOrT P cl (.cons ma (.cons mb mes)) r h = (evC P cl ma r h).bind fun y h1 => if y = true then .ok true h1 else evOrT P cl (.cons mb mes) r h1 := by
  unfold evOrT
  rw [evOr, evC_eq]
  cases evE P cl ma r h with
  | ok d h1 =>
    simp only [Res.bind_ok]
    cases e : truth d h1 with
    | none => rfl
    | some y =>
      simp only [opt_some, Res.bind_ok]
      cases y with
      | false => rfl
      | true => simp only [if_true, Res.bind_ok, e, opt_some]
  | exc c h1 => rfl
  | stk => rfl
theorem sw_and2 (ha : PT X a (tC X C W P cl ma)) (hb : PW X (.BoolOp .And (b :: es) pos) (tAT X C W P cl (.cons mb mes))) : PW X (.BoolOp .And (a :: b :: es) pos) (tAT X C W P cl (.cons ma (.cons mb mes))) := by
  refine PW.imp (pw_and ha hb) fun σ H Q ⟨F, R, phi, r, h, S, p⟩ => ?_
  rw [andT_eq] at p
  refine (tR_bind S p).mono fun x H1 ⟨F1, phi1, y, h1, s1, q1, S1, rx, _, p1⟩ => ?_
  obtain rfl : y = x := rx
  cases y with
  | true => exact ⟨F1, R, phi1, r, h1, S1, p1⟩
  | false => exact p1 F1 phi1 _ H1 (Sub.refl _) (Pre.refl _) S1 rfl
theorem sw_or2 (ha : PT X a (tC X C W P cl ma)) (hb : PW X (.BoolOp .Or (b :: es) pos) (tOT X C W P cl (.cons mb mes))) : PW X (.BoolOp .Or (a :: b :: es) pos) (tOT X C W P cl (.cons ma (.cons mb mes))) := by
  refine PW.imp (pw_or ha hb) fun σ H Q ⟨F, R, phi, r, h, S, p⟩ => ?_
  rw [orT_eq] at p
  refine (tR_bind S p).mono fun x H1 ⟨F1, phi1, y, h1, s1, q1, S1, rx, _, p1⟩ => ?_
  obtain rfl : y = x := rx
  cases y with
  | false => exact ⟨F1, R, phi1, r, h1, S1, p1⟩
  | true => exact p1 F1 phi1 _ H1 (Sub.refl _) (Pre.refl _) S1 rfl

/-! ### argument lists, displays, subscripts -/
theorem s_nil : PA X [] (tEs X C W P cl .nil) := pa_nil.imp fun σ H Q ⟨F, R, phi, r, h, S, p⟩ => by
  rw [evEs] at p
  exact p F phi _ H (Sub.refl _) (Pre.refl _) S VReps.nil
theorem s_cons (hs : starEach (a :: es) X.env = (false, eval a X.env) :: starEach es X.env) (ha : PE X a (tE X C W P cl ma)) (hr : PA X es (tEs X C W P cl mes)) : PA X (a :: es) (tEs X C W P cl (.cons ma mes)) := by
  refine (pa_cons ha hr hs).imp fun σ H Q ⟨F, R, phi, r, h, S, p⟩ => ?_
  rw [evEs] at p
  refine (tR_bind S p).mono fun x H1 ⟨F1, phi1, dx, h1, s1, q1, S1, rx, _, p1⟩ => ?_
  refine (tR_bind S1 p1).mono fun y H2 ⟨F2, phi2, dy, h2, s2, q2, S2, ry, _, p2⟩ => ?_
  exact p2 F2 phi2 _ H2 (Sub.refl _) (Pre.refl _) S2 (VReps.cons (VRep.mono s2 q2 _ _ rx) ry)
theorem Es_len : ∀ (es : Es) (r : Env) (h : Hh) (ds : List D) (h1 : Hh), evEs P cl es r h = .ok ds h1 → ∀ n, es.len = n → ds.length = n
  | .nil, r, h, ds, h1, e, n, hn => by
    rw [evEs] at e
    cases e
    rw [← hn]
    rfl
  | .cons a es, r, h, ds, h1, e, n, hn => by
    rw [evEs] at e
    obtain ⟨x, h2, _, e⟩ := bind_ok_inv e
    obtain ⟨y, h3, e3, e⟩ := bind_ok_inv e
    cases e
    rw [List.length_cons, Es_len es r h2 y h1 e3 _ rfl, ← hn]
    rfl
theorem s_tup {x1 : Nat} (hl : mes.len ≤ 1000) (h : PA X es (tEs X C W P cl mes)) : PE X (.Tuple es x1 pos) (tE X C W P cl (.tup mes)) := by
  refine (pe_tup h).imp fun σ H Q ⟨F, R, phi, r, h, S, p⟩ => ?_
  rw [evE] at p
  refine (tR_bind S p).mono fun x H1 ⟨F1, phi1, ds, h1, s1, q1, S1, rx, e1, p1⟩ => ⟨?_, fun t ht => ?_⟩
  · rw [rx.len, Es_len mes r h ds h1 e1 _ rfl, sizeLine_eq]; omega
  · have g := Grow.one (o := .tup x) S1.hr.fH ht
    exact p1 _ phi1 _ _ (g.sub S1.hr.fH) (Pre.refl _) (S1.grow g) (new_tup S1.hr.fH ht rx)
theorem s_lst (hl : mes.len ≤ 1000) (h : PA X es (tEs X C W P cl mes)) : PE X (.List es pos) (tE X C W P cl (.lst mes)) := by
  refine (pe_lst h).imp fun σ H Q ⟨F, R, phi, r, h, S, p⟩ => ?_
  rw [evE] at p
  refine (tR_bind S p).mono fun x H1 ⟨F1, phi1, ds, h1, s1, q1, S1, rx, e1, p1⟩ => ⟨?_, fun t ht => ?_⟩
  · rw [rx.len, Es_len mes r h ds h1 e1 _ rfl, sizeLine_eq]; omega
  · have g := Grow.one (o := .lst x) S1.hr.fH ht
    exact p1 _ phi1 _ _ (g.sub S1.hr.fH) (Pre.refl _) (S1.grow g) (new_lst S1.hr.fH ht rx)
theorem s_sub (ok : Cok X C W k) (hs : PlainIx b) (ha : PE X a (tE X C W P cl ma)) (hb : PE X b (tE X C W P cl mb)) : PE X (.Subscript a b pos) (tE X C W P cl (.sub ma mb)) := by
  refine (pe_ix (ix_sub (C := C) (by have := ok.hu; omega)) ha hb hs).imp fun σ H Q ⟨F, R, phi, r, h, S, p⟩ => ?_
  rw [evE] at p
  refine (tR_bind S p).mono fun x H1 ⟨F1, phi1, dx, h1, s1, q1, S1, rx, _, p1⟩ => ?_
  refine (tR_bind S1 p1).mono fun y H2 ⟨F2, phi2, dy, h2, s2, q2, S2, ry, _, p2⟩ => ?_
  obtain ⟨d, e, q⟩ := p2.now
  exact ⟨F2, phi2, h2, dx, dy, d, S2.hr, VRep.mono s2 q2 _ _ rx, ry, e, fun F' v H' g rv => q F' phi2 v H' (g.sub S2.hr.fH) (Pre.refl _) (S2.grow g) rv⟩
/-- a part of a slice: left out, or a number -/
def evP (P : Prog) (cl : Nat → List D → Hh → Res SV) (e : E) (r : Env) (h : Hh) : Res (Option Int) := if e.isNon then .ok none h else (evE P cl e r h).bind fun y h2 => opt (partD y) h2
def repO : Hp → List Addr → Option Int → Option Int → Prop := fun _ _ a b => a = b
abbrev tP (X : Cx) (C : Stc) (W : WX) (P : Prog) (cl : Nat → List D → Hh → Res SV) (e : E) : TO := tR X.K C W repO (evP P cl e)
theorem _root_.L2.PO.imp {e : Option Expr} {t t' : TO} (p : PO X e t) (h : ∀ σ H Q, t' σ H Q → t σ H Q) : PO X e t' := ⟨fun pins s σ H Q I q => p.run pins s σ H Q I (h σ H Q q)⟩
theorem sp_none : PO X none (tP X C W P cl .non) := po_none.imp fun σ H Q ⟨F, R, phi, r, h, S, p⟩ => p F phi none H (Sub.refl _) (Pre.refl _) S rfl
theorem sp_some (hn : ma.isNon = false) (ha : PE X a (tE X C W P cl ma)) : PO X (some a) (tP X C W P cl ma) := (po_some ha).imp fun σ H Q ⟨F, R, phi, r, h, S, p⟩ => by
  unfold evP at p
  rw [hn, if_neg Bool.false_ne_true] at p
  refine (tR_bind S p).mono fun x H1 ⟨F1, phi1, dx, h1, s1, q1, S1, rx, _, p1⟩ => ?_
  obtain ⟨o, e, q⟩ := p1.now
  unfold partD at e
  split at e
  · rename_i i _
    cases e
    simp only [VRep] at rx
    exact ⟨i, rx, q F1 phi1 _ H1 (Sub.refl _) (Pre.refl _) S1 rfl⟩
  · cases e
theorem s_slc {lo hi : Option Expr} {ml mh : E} {p2 : Pos} (ha : PE X a (tE X C W P cl ma)) (hl : PO X lo (tP X C W P cl ml)) (hh : PO X hi (tP X C W P cl mh)) : PE X (.Subscript a (.Slice lo hi none p2) pos) (tE X C W P cl (.slc ma ml mh)) := by
  refine (pe_slice (sl_any (C := C)) ha hl hh).imp fun σ H Q ⟨F, R, phi, r, h, S, p⟩ => ?_
  rw [evE] at p
  refine (tR_bind S p).mono fun x H1 ⟨F1, phi1, dx, h1, s1, q1, S1, rx, _, p1⟩ => ?_
  refine (tR_bind (f := evP P cl ml) (rep := repO) S1 p1).mono fun lo H2 ⟨F2, phi2, l, h2, s2, q2, S2, rl, _, p2⟩ => ?_
  refine (tR_bind (f := evP P cl mh) (rep := repO) S2 p2).mono fun hi H3 ⟨F3, phi3, u, h3, s3, q3, S3, ru, _, p3⟩ => ?_
  obtain rfl : l = lo := rl
  obtain rfl : u = hi := ru
  obtain ⟨d, e, q⟩ := p3.now
  exact ⟨F3, phi3, h3, dx, d, S3.hr, VRep.mono (s2.trans s3) (q2.trans q3) _ _ rx, e, fun F' v H' g rv => q F' phi3 v H' (g.sub S3.hr.fH) (Pre.refl _) (S3.grow g) rv⟩
end
end MP


set_option Elab.async false
set_option linter.all false
set_option maxHeartbeats 1000000
/-! The state relation turned: new things, frames, slots, writes. -/
namespace MP
open PySem PySem.Spec PyProof.Rows L2
section
variable {K : PySem.W.Frag} {C : Stc} {F F' R R' : Hp} {phi phi' : List Addr} {r : Env} {h h' : Hh} {σ : L2.St} {H H' : Hp}
theorem ORep.monoF {a : Addr} {o : O} (s : Sub F F') (p : Pre phi phi') (x : ORep K C F phi H a o) : ORep K C F' phi' H a o := by
  cases o with
  | lst xs =>
    obtain ⟨vs, e, q⟩ := x
    exact ⟨vs, e, VReps.mono s p _ _ q⟩
  | dct kvs =>
    obtain ⟨vs, e, q⟩ := x
    exact ⟨vs, e, KReps.mono s p _ _ q⟩
  | ins c fs =>
    obtain ⟨dx, fl, e, q, n1, n2⟩ := x
    refine ⟨dx, fl, e, fun f => ?_, n1, n2⟩
    have q' := q f
    cases hf : fs.lookup f with
    | none =>
      rw [hf] at q'
      exact q'
    | some d =>
      rw [hf] at q'
      obtain ⟨v, e1, e2⟩ := q'
      exact ⟨v, e1, VRep.mono s p _ _ e2⟩
theorem ORep.heap {a : Addr} {o : O} (e : H' a = H a) (x : ORep K C F phi H a o) : ORep K C F phi H' a o := by
  cases o with
  | lst xs => obtain ⟨vs, q, y⟩ := x; exact ⟨vs, e.trans q, y⟩
  | dct xs => obtain ⟨vs, q, y⟩ := x; exact ⟨vs, e.trans q, y⟩
  | ins c fs => obtain ⟨dx, fl, q, y⟩ := x; exact ⟨dx, fl, e.trans q, y⟩
/-- nobody knows a -/
structure Apart (F R : Hp) (phi : List Addr) (r : Env) (σ : L2.St) (a : Addr) : Prop where
  nF : F a = none
  nR : R a = none
  nM : ∀ n : Nat, phi[n]? ≠ some a
  nO : ∀ i, ¬ Own r σ i a
theorem SR.apart (x : SR K C F R phi r h σ H) {a : Addr} (e : H a = none) : Apart F R phi r σ a where
  nF := by cases q : F a with | none => rfl | some o => rw [x.hr.fH a o q] at e; cases e
  nR := by cases q : R a with | none => rfl | some o => rw [x.rH a o q] at e; cases e
  nM := fun n q => by
    obtain ⟨o, _, t⟩ := x.hr.at q
    obtain ⟨u, t⟩ := t.there
    rw [t] at e; cases e
  nO := fun i ⟨⟨sv, e1, e2⟩, e3⟩ => by
    have := x.slot i sv e1 _ e3
    rcases e2 with ⟨xs, rfl⟩ | ⟨xs, rfl⟩
    · obtain ⟨b, vs, q, t, _⟩ := this
      cases q; rw [t] at e; cases e
    · obtain ⟨b, vs, q, t, _⟩ := this
      cases q; rw [t] at e; cases e
theorem Sub.updF {a : Addr} {o : HO} (e : F a = none) : Sub F (L2.upd F a o) := fun b u q => by
  rw [upd_ne (ne_of_none q e)]; exact q
theorem SRep.ne (x : SR K C F R phi r h σ H) {i : Nat} {sv : SV} {w : Option V} (e : r[i]? = some sv) (e2 : σ[i]? = some w) {a : Addr} (h1 : (∃ xs, sv = .ol xs) ∨ ∃ kvs, sv = .od kvs) (h2 : ∀ i, ¬ Own r σ i a) : ∃ b, w = some (.ref b) ∧ b ≠ a := by
  have := x.slot i sv e w e2
  have fin : ∀ b, w = some (.ref b) → b ≠ a := fun b q z => h2 i ⟨⟨sv, e, h1⟩, by rw [e2, q, z]⟩
  rcases h1 with ⟨xs, rfl⟩ | ⟨xs, rfl⟩
  · obtain ⟨b, vs, q, _⟩ := this
    exact ⟨b, q, fin b q⟩
  · obtain ⟨b, vs, q, _⟩ := this
    exact ⟨b, q, fin b q⟩
theorem setO_neC {w : World} {a c : Addr} {M : Int → Bool} {n : Nat} {q : Str} : SetO w a M n ≠ LamX.CodeO c q := fun z => by
  unfold SetO LamX.CodeO at z
  have e := congrFun (HO.ext.inj z) { objs := Array.replicate (c + 1) { cls := .none, data := .fields #[.none, .str q 0] } }
  have r : ∃ (oc : Obj) (vs : Array Value) (t : Tok), ({ objs := Array.replicate (c + 1) { cls := .none, data := .fields #[.none, .str q 0] } } : Heap).get? c = some oc ∧ oc.data = .fields vs ∧ vs[1]? = some (.str q t) := by
    refine ⟨{ cls := .none, data := .fields #[.none, .str q 0] }, _, 0, ?_, rfl, rfl⟩
    unfold Heap.get?
    simp
  obtain ⟨o, es, ep, t, ho, _, hd, _⟩ := (show SetR w _ a M n from e.mpr r)
  unfold Heap.get? at ho
  by_cases h : a < c + 1
  · simp [h] at ho
    subst ho
    cases hd
  · simp [h] at ho
/-- lists, dicts, instances, sets -/
def Pl (o : HO) : Prop := (∃ xs, o = .lst xs) ∨ (∃ kvs, o = .dK kvs) ∨ (∃ c d f, o = .ins c d f) ∨ ∃ w a M n, o = SetO w a M n
theorem Pl.noT {o : HO} (h : Pl o) (ps : Array Value) : o ≠ .tbl ps := by
  rcases h with ⟨_, rfl⟩ | ⟨_, rfl⟩ | ⟨_, _, _, rfl⟩ | ⟨_, _, _, _, rfl⟩ <;> exact fun z => by cases z
theorem Pl.noX {o : HO} (h : Pl o) (c : Addr) (q : Str) : o ≠ LamX.CodeO c q := by
  rcases h with ⟨_, rfl⟩ | ⟨_, rfl⟩ | ⟨_, _, _, rfl⟩ | ⟨_, _, _, _, rfl⟩
  · exact fun z => by cases z
  · exact fun z => by cases z
  · exact fun z => by cases z
  · exact setO_neC
theorem tabs_upd {T : List (Addr × Str)} {H : Hp} {a : Addr} {o' : HO} (t : LamX.Tabs T H) (hp : ∀ u, H a = some u → Pl u) : LamX.Tabs T (upd H a o') := fun q hq => by
  obtain ⟨ps, h1, h2, h3⟩ := t q hq
  have n1 : q.1 ≠ a := fun z => (hp _ (by rw [← z]; exact h1)).noT ps rfl
  refine ⟨ps, by rw [upd_ne n1]; exact h1, h2, fun pos cv hc => ?_⟩
  obtain ⟨c, e1, e2⟩ := h3 pos cv hc
  refine ⟨c, e1, ?_⟩
  have n2 : c ≠ a := fun z => (hp _ (by rw [← z]; exact e2)).noX _ _ rfl
  rw [upd_ne n2]
  exact e2
theorem ORep.pl {a : Addr} {o : O} (x : ORep K C F phi H a o) : ∀ u, H a = some u → Pl u := fun u e => by
  cases o with
  | lst xs => obtain ⟨vs, q, y⟩ := x; rw [e] at q; cases q; exact .inl ⟨_, rfl⟩
  | dct xs => obtain ⟨vs, q, y⟩ := x; rw [e] at q; cases q; exact .inr (.inl ⟨_, rfl⟩)
  | ins c fs => obtain ⟨dx, fl, q, y⟩ := x; rw [e] at q; cases q; exact .inr (.inr (.inl ⟨_, _, _, rfl⟩))
/-- what is known is put to what stands still -/
theorem SR.intoF (x : SR K C F R phi r h σ H) {a : Addr} {o : HO} (e : H a = some o) (p : Apart F R phi r σ a) (ho : ∀ ps, o ≠ .tbl ps := by intro ps h; cases h) : SR K C (upd F a o) R phi r h σ H where
  hr := {
    fH := fun b u q => by
      by_cases z : b = a
      · subst z; rw [upd_same] at q; rw [← q]; exact e
      · rw [upd_ne z] at q; exact x.hr.fH b u q
    len := x.hr.len
    obj := fun n b u e1 e2 => (x.hr.obj n b u e1 e2).monoF (Sub.updF p.nF) (Pre.refl _)
    mF := fun n b e1 => by rw [upd_ne (fun z => p.nM n (by rw [← z]; exact e1))]; exact x.hr.mF n b e1
    tb := x.hr.tb
    nF := fun b ps q => by
      by_cases z : b = a
      · subst z; rw [upd_same] at q; exact absurd (Option.some.inj q) (ho ps)
      · rw [upd_ne z] at q; exact absurd q (x.hr.nF b ps)
    nd := x.hr.nd }
  rH := x.rH
  rF := fun b u q => by rw [upd_ne (fun z => by rw [z, p.nR] at q; cases q)]; exact x.rF b u q
  rM := x.rM
  rO := x.rO
  nR := x.nR
  sl := x.sl
  slot := fun i sv e1 w e2 => by
    have y := x.slot i sv e1 w e2
    have sm : Sub F (upd F a o) := Sub.updF p.nF
    cases sv with
    | un => trivial
    | v d =>
      obtain ⟨v, q, t⟩ := y
      exact ⟨v, q, VRep.mono sm (Pre.refl _) _ _ t⟩
    | ol xs =>
      obtain ⟨b, hb, ne⟩ := SRep.ne x e1 e2 (.inl ⟨xs, rfl⟩) p.nO
      obtain ⟨b', vs, q, t, t2, t3, t4⟩ := y
      rw [hb] at q
      cases q
      exact ⟨b, vs, hb, t, VReps.mono sm (Pre.refl _) _ _ t2, by rw [upd_ne ne]; exact t3, t4⟩
    | od xs =>
      obtain ⟨b, hb, ne⟩ := SRep.ne x e1 e2 (.inr ⟨xs, rfl⟩) p.nO
      obtain ⟨b', vs, q, t, t2, t3, t4⟩ := y
      rw [hb] at q
      cases q
      exact ⟨b, vs, hb, t, KReps.mono sm (Pre.refl _) _ _ t2, by rw [upd_ne ne]; exact t3, t4⟩
  no := x.no
/-- what is known is put to the frame -/
theorem SR.intoR (x : SR K C F R phi r h σ H) {a : Addr} {o : HO} (e : H a = some o) (p : Apart F R phi r σ a) (ho : ∀ ps, o ≠ .tbl ps := by intro ps h; cases h) : SR K C F (upd R a o) phi r h σ H where
  hr := x.hr
  rH := fun b u q => by
    by_cases z : b = a
    · subst z; rw [upd_same] at q; rw [← q]; exact e
    · rw [upd_ne z] at q; exact x.rH b u q
  rF := fun b u q => by
    by_cases z : b = a
    · subst z; exact p.nF
    · rw [upd_ne z] at q; exact x.rF b u q
  rM := fun n b e1 => by rw [upd_ne (fun z => p.nM n (by rw [← z]; exact e1))]; exact x.rM n b e1
  rO := fun i b ow => by rw [upd_ne (fun z => p.nO i (by rw [← z]; exact ow))]; exact x.rO i b ow
  nR := fun b ps q => by
    by_cases z : b = a
    · subst z; rw [upd_same] at q; exact ho ps (Option.some.inj q)
    · rw [upd_ne z] at q; exact x.nR b ps q
  sl := x.sl
  slot := x.slot
  no := x.no
theorem SR.lessR (x : SR K C F R phi r h σ H) (s : Sub R' R) : SR K C F R' phi r h σ H where
  hr := x.hr
  rH := s.trans x.rH
  rF := fun a o e => x.rF a o (s a o e)
  rM := fun n a e => by cases q : R' a with | none => rfl | some o => have := x.rM n a e; rw [s a o q] at this; cases this
  rO := fun i a e => by cases q : R' a with | none => rfl | some o => have := x.rO i a e; rw [s a o q] at this; cases this
  nR := fun a ps q => x.nR a ps (s _ _ q)
  sl := x.sl
  slot := x.slot
  no := x.no
/-- a thing of the frame, told to stand apart -/
theorem SR.apartR (x : SR K C F (upd R a o) phi r h σ H) (e : R a = none) : Apart F R phi r σ a where
  nF := x.rF a o upd_same
  nR := e
  nM := fun n q => by have := x.rM n a q; rw [upd_same] at this; cases this
  nO := fun i q => by have := x.rO i a q; rw [upd_same] at this; cases this
/-- a thing of the frame is written -/
theorem SR.poke (x : SR K C F (upd R a o) phi r h σ H) (o' : HO) (hp : Pl o := by first | exact .inl ⟨_, rfl⟩ | exact .inr (.inl ⟨_, rfl⟩) | exact .inr (.inr (.inr ⟨_, _, _, _, rfl⟩))) (ho : ∀ ps, o' ≠ .tbl ps := by intro ps h; cases h) : SR K C F (upd R a o') phi r h σ (upd H a o') where
  hr := {
    fH := fun b u q => by
      have : F a = none := x.rF a o upd_same
      rw [upd_ne (ne_of_none q this)]; exact x.hr.fH b u q
    len := x.hr.len
    obj := fun n b u e1 e2 => (x.hr.obj n b u e1 e2).heap (upd_ne fun z => by have := x.rM n b e1; rw [z, upd_same] at this; cases this)
    mF := x.hr.mF
    tb := tabs_upd x.hr.tb fun u e => by
      rw [x.rH a o upd_same] at e
      cases e
      exact hp
    nF := x.hr.nF
    nd := x.hr.nd }
  rH := fun b u q => by
    by_cases z : b = a
    · subst z; rw [upd_same] at q ⊢; exact q
    · rw [upd_ne z] at q ⊢; exact x.rH b u (by rw [upd_ne z]; exact q)
  rF := fun b u q => by
    by_cases z : b = a
    · subst z; exact x.rF b o upd_same
    · rw [upd_ne z] at q; exact x.rF b u (by rw [upd_ne z]; exact q)
  rM := fun n b e1 => by
    have t := x.rM n b e1
    by_cases z : b = a
    · subst z; rw [upd_same] at t; cases t
    · rw [upd_ne z] at t ⊢; exact t
  rO := fun i b e1 => by
    have t := x.rO i b e1
    by_cases z : b = a
    · subst z; rw [upd_same] at t; cases t
    · rw [upd_ne z] at t ⊢; exact t
  nR := fun b ps q => by
    by_cases z : b = a
    · subst z; rw [upd_same] at q; exact ho ps (Option.some.inj q)
    · rw [upd_ne z] at q; exact x.nR b ps (by rw [upd_ne z]; exact q)
  sl := x.sl
  slot := fun i sv e1 w e2 => by
    have y := x.slot i sv e1 w e2
    have no : ∀ i, ¬ Own r σ i a := fun i q => by have := x.rO i a q; rw [upd_same] at this; cases this
    cases sv with
    | un => trivial
    | v d => exact y
    | ol xs =>
      obtain ⟨b, hb, ne⟩ := SRep.ne x e1 e2 (.inl ⟨xs, rfl⟩) no
      obtain ⟨b', vs, q, t, t2⟩ := y
      rw [hb] at q
      cases q
      exact ⟨b, vs, hb, by rw [upd_ne ne]; exact t, t2⟩
    | od xs =>
      obtain ⟨b, hb, ne⟩ := SRep.ne x e1 e2 (.inr ⟨xs, rfl⟩) no
      obtain ⟨b', vs, q, t, t2⟩ := y
      rw [hb] at q
      cases q
      exact ⟨b, vs, hb, by rw [upd_ne ne]; exact t, t2⟩
  no := x.no
/-- without the slots -/
theorem Own.nil {i : Nat} {a : Addr} {σ : L2.St} (q : Own [] σ i a) : False := by
  obtain ⟨⟨sv, e, _⟩, _⟩ := q
  simp at e
theorem SR.bare (x : SR K C F R phi r h σ H) : SR K C F R phi [] h [] H where
  hr := x.hr
  rH := x.rH
  rF := x.rF
  rM := x.rM
  rO := fun i a q => q.nil.elim
  nR := x.nR
  sl := rfl
  slot := fun i sv e => by simp at e
  no := fun i j a q => q.nil.elim
open Classical in
/-- what the slots own, put to the frame -/
noncomputable def frameOf (R : Hp) (r : Env) (σ : L2.St) (H : Hp) : Hp := fun a => if ∃ i, Own r σ i a then H a else R a
theorem frameOf_own {a : Addr} {i : Nat} (o : Own r σ i a) : frameOf R r σ H a = H a := if_pos ⟨i, o⟩
theorem frameOf_not {a : Addr} (o : ∀ i, ¬ Own r σ i a) : frameOf R r σ H a = R a := if_neg fun ⟨i, q⟩ => o i q
theorem SR.ownF (x : SR K C F R phi r h σ H) {i : Nat} {a : Addr} (q : Own r σ i a) : F a = none ∧ (∀ n : Nat, phi[n]? ≠ some a) ∧ ∃ o, H a = some o ∧ Pl o := by
  obtain ⟨⟨sv, e, e2⟩, e3⟩ := q
  have y := x.slot i sv e _ e3
  rcases e2 with ⟨xs, rfl⟩ | ⟨xs, rfl⟩
  · obtain ⟨b, vs, z, t, t2, t3, t4⟩ := y
    cases z
    exact ⟨t3, t4, _, t, .inl ⟨_, rfl⟩⟩
  · obtain ⟨b, vs, z, t, t2, t3, t4⟩ := y
    cases z
    exact ⟨t3, t4, _, t, .inr (.inl ⟨_, rfl⟩)⟩
theorem SR.frame (x : SR K C F R phi r h σ H) : SR K C F (frameOf R r σ H) phi [] h [] H ∧ Sub R (frameOf R r σ H) := by
  have key : ∀ a o, frameOf R r σ H a = some o → (∃ i, Own r σ i a) ∧ H a = some o ∨ R a = some o := fun a o q => by
    by_cases z : ∃ i, Own r σ i a
    · obtain ⟨i, z⟩ := z
      rw [frameOf_own z] at q
      exact .inl ⟨⟨i, z⟩, q⟩
    · rw [frameOf_not (fun i t => z ⟨i, t⟩)] at q
      exact .inr q
  refine ⟨⟨x.hr, fun a o q => ?_, fun a o q => ?_, fun n a q => ?_, fun i a q => q.nil.elim, fun a ps q => ?_, rfl, fun i sv e => by simp at e, fun i j a q => q.nil.elim⟩, fun a o q => ?_⟩
  · rcases key a o q with ⟨_, z⟩ | z
    · exact z
    · exact x.rH a o z
  · rcases key a o q with ⟨⟨i, z⟩, _⟩ | z
    · exact (x.ownF z).1
    · exact x.rF a o z
  · cases t : frameOf R r σ H a with
    | none => rfl
    | some o =>
      rcases key a o t with ⟨⟨i, z⟩, _⟩ | z
      · exact absurd q ((x.ownF z).2.1 n)
      · rw [x.rM n a q] at z; cases z
  · rcases key a _ q with ⟨⟨i, z⟩, z2⟩ | z
    · obtain ⟨_, _, o, e, pl⟩ := x.ownF z
      rw [z2] at e
      cases e
      exact pl.noT ps rfl
    · exact x.nR a ps z
  · rw [frameOf_not fun i z => by rw [x.rO i a z] at q; cases q]
    exact q
/-- behind a call: the slots are as they were -/
theorem SR.back (x : SR K C F R phi r h σ H) (s : Sub F F') (p : Pre phi phi') (y : SR K C F' (frameOf R r σ H) phi' [] h' [] H') : SR K C F' R phi' r h' σ H' where
  hr := y.hr
  rH := x.frame.2.trans y.rH
  rF := fun a o e => y.rF a o (x.frame.2 a o e)
  rM := fun n a e => by cases q : R a with | none => rfl | some o => have := y.rM n a e; rw [x.frame.2 a o q] at this; cases this
  rO := x.rO
  nR := x.nR
  sl := x.sl
  slot := fun i sv e1 w e2 => by
    have t := x.slot i sv e1 w e2
    cases sv with
    | un => trivial
    | v d =>
      obtain ⟨v, q, t⟩ := t
      exact ⟨v, q, VRep.mono s p _ _ t⟩
    | ol xs =>
      obtain ⟨b, vs, q, t1, t2, t3, t4⟩ := t
      have ow : Own r σ i b := ⟨⟨_, e1, .inl ⟨xs, rfl⟩⟩, by rw [e2, q]⟩
      have fr : frameOf R r σ H b = some (.lst vs) := by rw [frameOf_own ow]; exact t1
      exact ⟨b, vs, q, y.rH _ _ fr, VReps.mono s p _ _ t2, y.rF _ _ fr, fun n z => by have := y.rM n b z; rw [fr] at this; cases this⟩
    | od xs =>
      obtain ⟨b, vs, q, t1, t2, t3, t4⟩ := t
      have ow : Own r σ i b := ⟨⟨_, e1, .inr ⟨xs, rfl⟩⟩, by rw [e2, q]⟩
      have fr : frameOf R r σ H b = some (.dK vs) := by rw [frameOf_own ow]; exact t1
      exact ⟨b, vs, q, y.rH _ _ fr, KReps.mono s p _ _ t2, y.rF _ _ fr, fun n z => by have := y.rM n b z; rw [fr] at this; cases this⟩
  no := x.no
theorem SR.apartBack (x : SR K C F R phi r h σ H) {a : Addr} (p : Apart F' (frameOf R r σ H) phi' [] [] a) : Apart F' R phi' r σ a where
  nF := p.nF
  nR := by cases q : R a with | none => rfl | some o => have := x.frame.2 a o q; rw [p.nR] at this; cases this
  nM := p.nM
  nO := fun i q => by
    obtain ⟨_, _, o, e, _⟩ := x.ownF q
    have := frameOf_own (R := R) (H := H) q
    rw [p.nR, e] at this; cases this
/-- a def's slots at its start -/
theorem Own.args {ds : List D} {n i : Nat} {a : Addr} {τ : L2.St} (q : Own (ds.map .v ++ List.replicate n .un) τ i a) : False := by
  obtain ⟨⟨sv, e, e2⟩, _⟩ := q
  rw [List.getElem?_append] at e
  split at e
  · rw [List.getElem?_map] at e
    cases q : ds[i]? with
    | none => rw [q] at e; cases e
    | some d =>
      rw [q] at e
      cases e
      rcases e2 with ⟨_, z⟩ | ⟨_, z⟩ <;> cases z
  · rw [List.getElem?_replicate] at e
    split at e
    · cases e
      rcases e2 with ⟨_, z⟩ | ⟨_, z⟩ <;> cases z
    · cases e
theorem SR.enter {ds : List D} {vs : List V} {N : List Str} {n : Nat} (x : SR K C F R phi [] h [] H) (q : VReps K F phi ds vs) (hn : N.length = ds.length + n) : SR K C F R phi (ds.map .v ++ List.replicate n .un) h (L2.start N vs) H where
  hr := x.hr
  rH := x.rH
  rF := x.rF
  rM := x.rM
  rO := fun i a o => o.args.elim
  nR := x.nR
  sl := by
    unfold L2.start
    simp only [List.length_append, List.length_map, List.length_replicate]
    have := q.len
    omega
  slot := fun i sv e w e2 => by
    rw [List.getElem?_append] at e
    split at e
    · rename_i hi
      rw [List.getElem?_map] at e
      cases t : ds[i]? with
      | none => rw [t] at e; cases e
      | some d =>
        rw [t] at e
        cases e
        obtain ⟨v, hv, rv⟩ := q.at t
        unfold L2.start at e2
        have hl : i < (vs.map some).length := by
          rw [List.length_map]
          exact (List.getElem?_eq_some_iff.mp hv).1
        rw [List.getElem?_append_left hl, List.getElem?_map, hv] at e2
        cases e2
        exact ⟨v, rfl, rv⟩
    · rw [List.getElem?_replicate] at e
      split at e
      · cases e; trivial
      · cases e
  no := fun i j a o => o.args.elim
/-- a slot is set to a value -/
theorem SR.setV (x : SR K C F R phi r h σ H) {d : D} {v : V} (q : VRep K F phi d v) (i : Nat) : SR K C F R phi (r.set i (.v d)) h (σ.set i (some v)) H := by
  have ow : ∀ j a, Own (r.set i (.v d)) (σ.set i (some v)) j a → Own r σ j a := fun j a ⟨⟨sv, e, e2⟩, e3⟩ => by
    by_cases z : i = j
    · subst z
      have hl : i < r.length := by have := (List.getElem?_eq_some_iff.mp e).1; simpa using this
      rw [List.getElem?_set_self hl] at e
      cases e
      rcases e2 with ⟨_, z⟩ | ⟨_, z⟩ <;> cases z
    · rw [List.getElem?_set_ne z] at e e3
      exact ⟨⟨sv, e, e2⟩, e3⟩
  refine ⟨x.hr, x.rH, x.rF, x.rM, fun j a o => x.rO j a (ow j a o), x.nR, by rw [List.length_set, List.length_set]; exact x.sl, fun j sv e w e2 => ?_, fun j k a o1 o2 => x.no j k a (ow j a o1) (ow k a o2)⟩
  by_cases z : i = j
  · subst z
    have hl : i < r.length := by have := (List.getElem?_eq_some_iff.mp e).1; simpa using this
    rw [List.getElem?_set_self hl] at e
    rw [List.getElem?_set_self (by rw [← x.sl]; exact hl)] at e2
    cases e
    cases e2
    exact ⟨v, rfl, q⟩
  · rw [List.getElem?_set_ne z] at e e2
    exact x.slot j sv e w e2
/-- a slot forgotten -/
theorem SR.setU (x : SR K C F R phi r h σ H) (w0 : Option V) (i : Nat) : SR K C F R phi (r.set i .un) h (σ.set i w0) H := by
  have ow : ∀ j a, Own (r.set i .un) (σ.set i w0) j a → Own r σ j a := fun j a ⟨⟨sv, e, e2⟩, e3⟩ => by
    by_cases z : i = j
    · subst z
      have hl : i < r.length := by have := (List.getElem?_eq_some_iff.mp e).1; simpa using this
      rw [List.getElem?_set_self hl] at e
      cases e
      rcases e2 with ⟨_, z⟩ | ⟨_, z⟩ <;> cases z
    · rw [List.getElem?_set_ne z] at e e3
      exact ⟨⟨sv, e, e2⟩, e3⟩
  refine ⟨x.hr, x.rH, x.rF, x.rM, fun j a o => x.rO j a (ow j a o), x.nR, by rw [List.length_set, List.length_set]; exact x.sl, fun j sv e w e2 => ?_, fun j k a o1 o2 => x.no j k a (ow j a o1) (ow k a o2)⟩
  by_cases z : i = j
  · subst z
    have hl : i < r.length := by have := (List.getElem?_eq_some_iff.mp e).1; simpa using this
    rw [List.getElem?_set_self hl] at e
    cases e
    trivial
  · rw [List.getElem?_set_ne z] at e e2
    exact x.slot j sv e w e2
/-- a slot is given a new list -/
theorem SR.setOl (x : SR K C F R phi r h σ H) {xs : List D} {vs : List V} {a : Addr} (e0 : H a = some (.lst vs)) (q : VReps K F phi xs vs) (p : Apart F R phi r σ a) (i : Nat) : SR K C F R phi (r.set i (.ol xs)) h (σ.set i (some (.ref a))) H := by
  have ow : ∀ j b, Own (r.set i (.ol xs)) (σ.set i (some (.ref a))) j b → (j = i ∧ b = a) ∨ (j ≠ i ∧ Own r σ j b) := fun j b ⟨⟨sv, e, e2⟩, e3⟩ => by
    by_cases z : i = j
    · subst z
      have hl : i < r.length := by have := (List.getElem?_eq_some_iff.mp e).1; simpa using this
      rw [List.getElem?_set_self (by rw [← x.sl]; exact hl)] at e3
      cases e3
      exact .inl ⟨rfl, rfl⟩
    · rw [List.getElem?_set_ne z] at e e3
      exact .inr ⟨Ne.symm z, ⟨sv, e, e2⟩, e3⟩
  refine ⟨x.hr, x.rH, x.rF, x.rM, fun j b o => ?_, x.nR, by rw [List.length_set, List.length_set]; exact x.sl, fun j sv e w e2 => ?_, fun j k b o1 o2 => ?_⟩
  · rcases ow j b o with ⟨_, rfl⟩ | ⟨_, o⟩
    · exact p.nR
    · exact x.rO j b o
  · by_cases z : i = j
    · subst z
      have hl : i < r.length := by have := (List.getElem?_eq_some_iff.mp e).1; simpa using this
      rw [List.getElem?_set_self hl] at e
      rw [List.getElem?_set_self (by rw [← x.sl]; exact hl)] at e2
      cases e
      cases e2
      exact ⟨a, vs, rfl, e0, q, p.nF, p.nM⟩
    · rw [List.getElem?_set_ne z] at e e2
      exact x.slot j sv e w e2
  · rcases ow j b o1 with ⟨h1, h2⟩ | ⟨h1, o1⟩
    · rcases ow k b o2 with ⟨h3, h4⟩ | ⟨h3, o2⟩
      · rw [h1, h3]
      · exact absurd (h2 ▸ o2) (p.nO k)
    · rcases ow k b o2 with ⟨h3, h4⟩ | ⟨h3, o2⟩
      · exact absurd (h4 ▸ o1) (p.nO j)
      · exact x.no j k b o1 o2
theorem SR.setOd (x : SR K C F R phi r h σ H) {xs : List (Ky × D)} {vs : List (Key × V)} {a : Addr} (e0 : H a = some (.dK vs)) (q : KReps K F phi xs vs) (p : Apart F R phi r σ a) (i : Nat) : SR K C F R phi (r.set i (.od xs)) h (σ.set i (some (.ref a))) H := by
  have ow : ∀ j b, Own (r.set i (.od xs)) (σ.set i (some (.ref a))) j b → (j = i ∧ b = a) ∨ (j ≠ i ∧ Own r σ j b) := fun j b ⟨⟨sv, e, e2⟩, e3⟩ => by
    by_cases z : i = j
    · subst z
      have hl : i < r.length := by have := (List.getElem?_eq_some_iff.mp e).1; simpa using this
      rw [List.getElem?_set_self (by rw [← x.sl]; exact hl)] at e3
      cases e3
      exact .inl ⟨rfl, rfl⟩
    · rw [List.getElem?_set_ne z] at e e3
      exact .inr ⟨Ne.symm z, ⟨sv, e, e2⟩, e3⟩
  refine ⟨x.hr, x.rH, x.rF, x.rM, fun j b o => ?_, x.nR, by rw [List.length_set, List.length_set]; exact x.sl, fun j sv e w e2 => ?_, fun j k b o1 o2 => ?_⟩
  · rcases ow j b o with ⟨_, rfl⟩ | ⟨_, o⟩
    · exact p.nR
    · exact x.rO j b o
  · by_cases z : i = j
    · subst z
      have hl : i < r.length := by have := (List.getElem?_eq_some_iff.mp e).1; simpa using this
      rw [List.getElem?_set_self hl] at e
      rw [List.getElem?_set_self (by rw [← x.sl]; exact hl)] at e2
      cases e
      cases e2
      exact ⟨a, vs, rfl, e0, q, p.nF, p.nM⟩
    · rw [List.getElem?_set_ne z] at e e2
      exact x.slot j sv e w e2
  · rcases ow j b o1 with ⟨h1, h2⟩ | ⟨h1, o1⟩
    · rcases ow k b o2 with ⟨h3, h4⟩ | ⟨h3, o2⟩
      · rw [h1, h3]
      · exact absurd (h2 ▸ o2) (p.nO k)
    · rcases ow k b o2 with ⟨h3, h4⟩ | ⟨h3, o2⟩
      · exact absurd (h4 ▸ o1) (p.nO j)
      · exact x.no j k b o1 o2
end
end MP


set_option Elab.async false
set_option linter.all false
set_option maxHeartbeats 1000000
/-! New values, calls of defs, of built-ins. -/
namespace MP
open PySem PySem.Spec PyProof.Rows L2

/-- a value handed back: told by value, or new and nobody else's -/
def NewV (K : PySem.W.Frag) (F R : Hp) (phi : List Addr) (r : Env) (σ : L2.St) (H : Hp) : SV → V → Prop
  | .v d, v => VRep K F phi d v
  | .ol xs, v => ∃ a vs, v = .ref a ∧ H a = some (.lst vs) ∧ VReps K F phi xs vs ∧ Apart F R phi r σ a
  | .od kvs, v => ∃ a vs, v = .ref a ∧ H a = some (.dK vs) ∧ KReps K F phi kvs vs ∧ Apart F R phi r σ a
  | .un, _ => False
section
variable (K : PySem.W.Frag) (C : Stc)
def fPost (W : WX) (F R : Hp) (phi : List Addr) (r : Env) (σ : L2.St) (x : Res SV) (Q : VK) : Prop :=
  match x with
  | .ok sv h' => ∀ F' phi' v H', Sub F F' → Pre phi phi' → SR K C F' R phi' r h' σ H' → NewV K F' R phi' r σ H' sv v → Q v H'
  | .exc c h' => ∀ F' phi' H', Sub F F' → Pre phi phi' → SR K C F' R phi' r h' σ H' → W (.ref (evK K c)) none σ H'
  | .stk => False
def tF (W : WX) (f : Env → Hh → Res SV) : TE := fun σ H Q => ∃ F R phi r h, SR K C F R phi r h σ H ∧ fPost K C W F R phi r σ (f r h) Q
end
section
variable {K : PySem.W.Frag} {C : Stc} {W : WX} {α β γ δ : Type} {rep : Hp → List Addr → α → β → Prop} {F F' R : Hp} {phi phi' : List Addr} {r : Env} {h : Hh} {σ : L2.St} {H H' : Hp}
theorem fPost.mono {x : Res SV} {Q Q' : VK} (p : fPost K C W F R phi r σ x Q) (s : Sub F F') (q : Pre phi phi') (hq : ∀ b H, Q b H → Q' b H) : fPost K C W F' R phi' r σ x Q' := by
  cases x with
  | ok a h' => exact fun F2 phi2 b H2 s2 q2 S rp => hq _ _ (p F2 phi2 b H2 (s.trans s2) (q.trans q2) S rp)
  | exc c h' => exact fun F2 phi2 H2 s2 q2 S => p F2 phi2 H2 (s.trans s2) (q.trans q2) S
  | stk => exact p
theorem tF_bind {f : Env → Hh → Res α} {g : α → Hh → Res SV} {Q : VK} (S : SR K C F R phi r h σ H) (p : fPost K C W F R phi r σ ((f r h).bind g) Q) :
    tR K C W rep f σ H fun b H1 => ∃ F1 phi1 a h1, Sub F F1 ∧ Pre phi phi1 ∧ SR K C F1 R phi1 r h1 σ H1 ∧ rep F1 phi1 a b ∧ f r h = .ok a h1 ∧ fPost K C W F1 R phi1 r σ (g a h1) Q := by
  refine ⟨F, R, phi, r, h, S, ?_⟩
  cases e : f r h with
  | ok a h1 =>
    rw [e, Res.bind_ok] at p
    intro F' phi' b H' s q S' rp
    exact ⟨F', phi', a, h1, s, q, S', rp, rfl, p.mono s q fun _ _ z => z⟩
  | exc c h1 =>
    rw [e, Res.bind_exc] at p
    exact p
  | stk =>
    rw [e, Res.bind_stk] at p
    exact p
/-- a new value, taken as it stands -/
theorem fz_post {x : Res SV} {Q : VK} (p : ePost K C W (VRep K) F R phi r σ (x.bind fun v h1 => opt v.fz h1) Q) : fPost K C W F R phi r σ x Q := by
  cases x with
  | ok sv h' =>
    intro F' phi' v H' s q S n
    cases sv with
    | un => exact n.elim
    | v d => exact p F' phi' v H' s q S n
    | ol xs =>
      obtain ⟨a, vs, e, e2, rv, ap⟩ := n
      have sm : Sub F' (L2.upd F' a (.lst vs)) := Sub.updF ap.nF
      refine p _ phi' v H' (s.trans sm) q (S.intoF e2 ap) ?_
      simp only [VRep]
      exact ⟨a, vs, e, upd_same, VReps.mono sm (Pre.refl _) _ _ rv⟩
    | od xs =>
      obtain ⟨a, vs, e, e2, rv, ap⟩ := n
      have sm : Sub F' (L2.upd F' a (.dK vs)) := Sub.updF ap.nF
      refine p _ phi' v H' (s.trans sm) q (S.intoF e2 ap) ?_
      simp only [VRep]
      exact ⟨a, vs, e, upd_same, KReps.mono sm (Pre.refl _) _ _ rv⟩
  | exc c h' => exact p
  | stk => exact p
theorem tF_fz {f : Env → Hh → Res SV} {g : Env → Hh → Res D} (hg : ∀ r h, g r h = (f r h).bind fun v h1 => opt v.fz h1) {Q : VK} (p : tR K C W (VRep K) g σ H Q) : tF K C W f σ H Q := by
  obtain ⟨F, R, phi, r, h, S, p⟩ := p
  rw [hg] at p
  exact ⟨F, R, phi, r, h, S, fz_post p⟩
end

/-! ### what a def promises -/
section
variable (K : PySem.W.Frag) (C : Stc)
def cPost (F R : Hp) (phi : List Addr) (x : Res SV) (Q : VK) (E : XK) : Prop :=
  match x with
  | .ok sv h' => ∀ F' phi' v H', Sub F F' → Pre phi phi' → SR K C F' R phi' [] h' [] H' → NewV K F' R phi' [] [] H' sv v → Q v H'
  | .exc c h' => ∀ F' phi' H', Sub F F' → Pre phi phi' → SR K C F' R phi' [] h' [] H' → E (.ref (evK K c)) none H'
  | .stk => False
def spK (n : Nat) (g : List D → Hh → Res SV) : Sp := fun vs H Q E => vs.length = n ∧ ∃ F R phi h ds, SR K C F R phi [] h [] H ∧ VReps K F phi ds vs ∧ cPost K C F R phi (g ds h) Q E
end
/-- the call of a def, as a rule -/
def CallF (X : Cx) (C : Stc) (W : WX) (g : List D → Hh → Res SV) (a : Addr) : Prop :=
  ∀ (pins : List (Addr × Obj)) (s : Shared) (σ : L2.St) (H : Hp) (vs : List V) (us : List Value) (Q : VK), L2.Inv X pins σ H s → Vals vs us →
    (∃ F R phi r h ds, SR X.K C F R phi r h σ H ∧ VReps X.K F phi ds vs ∧ fPost X.K C W F R phi r σ (g ds h) Q) → wpAny (model X.prog X.w) X.A (call (.ref a) us) (EP X pins σ Q) X.xe s
/-- defaults: plain values -/
def D.sc : D → Option V
  | .non => some .non
  | .bl b => some (.bl b)
  | .int i => some (.int i)
  | .str s => some (.str (toStr s))
  | _ => none
theorem sc_rep {K : PySem.W.Frag} {F : Hp} {phi : List Addr} {d : D} {v : V} (e : d.sc = some v) : VRep K F phi d v := by
  cases d <;> simp only [D.sc, Option.some.injEq] at e <;> first | (simp only [VRep]; exact e.symm) | cases e
theorem scs_rep {K : PySem.W.Frag} {F : Hp} {phi : List Addr} : ∀ {ds : List D} {vs : List V}, ds.mapM D.sc = some vs → VReps K F phi ds vs
  | [], vs, e => by
    simp only [List.mapM_nil] at e
    cases e
    exact VReps.nil
  | d :: ds, vs, e => by
    rw [List.mapM_cons] at e
    cases e1 : d.sc with
    | none => rw [e1] at e; cases e
    | some v =>
      cases e2 : ds.mapM D.sc with
      | none => rw [e1, e2] at e; cases e
      | some ws =>
        rw [e1, e2] at e
        cases e
        exact VReps.cons (sc_rep e1) (scs_rep e2)
/-- what is known of the def at a place -/
structure DefAt (P : Program) (w : World) (K : PySem.W.Frag) (mg : Str → Option Value) (base : Heap) (C : Stc) (k : Nat) (g : List D → Hh → Res SV) (a : Addr) (d : Def) : Prop where
  ex : ∃ (fd : FuncData) (ps : List Str), ps.length = d.np ∧ FnG P w K mg base k a fd ps (spK K C d.np g) ∧ (∀ n m : Nat, n + m = d.np → m ≤ d.dfl.length → ∃ dv du, (d.dfl.drop (d.dfl.length - m)).mapM D.sc = some dv ∧ Vals dv du ∧ Binds K fd ps du)
theorem callF_of {X : Cx} {C : Stc} {W : WX} {k : Nat} {g gc : List D → Hh → Res SV} {a : Addr} {d : Def} (ok : Cok X C W k) (co : Cool X k) (D : DefAt X.prog X.w X.K X.mg X.base C k g a d)
    (hg : ∀ ds h, ds.length + d.dfl.length < d.np ∨ d.np < ds.length → gc ds h = .stk) (hg2 : ∀ ds h, gc ds h = g (ds ++ d.dfl.drop (ds.length + d.dfl.length - d.np)) h) : CallF X C W gc a := by
  intro pins s σ H vs us Q I rv ⟨F, R, phi, r, h, ds, S, rd, p⟩
  obtain ⟨fd, ps, hp, G, hb⟩ := D.ex
  by_cases hl : ds.length + d.dfl.length < d.np ∨ d.np < ds.length
  · rw [hg ds h hl] at p
    exact p.elim
  · have hl1 : d.np ≤ ds.length + d.dfl.length := by omega
    have hl2 : ds.length ≤ d.np := by omega
    obtain ⟨dv, du, e1, rdu, B⟩ := hb ds.length (d.np - ds.length) (by omega) (by omega)
    have e0 : d.dfl.length - (d.np - ds.length) = ds.length + d.dfl.length - d.np := by omega
    rw [e0] at e1
    rw [hg2] at p
    refine run_call G co.room ok.grd B rdu ok.tk I rv ?_
    have rall : VReps X.K F phi (ds ++ d.dfl.drop (ds.length + d.dfl.length - d.np)) (vs ++ dv) := rd.app (scs_rep e1)
    refine ⟨?_, F, _, phi, h, _, S.frame.1, rall, ?_⟩
    · rw [rall.len, List.length_append, List.length_drop]; omega
    · revert p
      cases g (ds ++ d.dfl.drop (ds.length + d.dfl.length - d.np)) h with
      | ok sv h' =>
        intro p F' phi' v H' s1 q1 S1 n
        refine p F' phi' v H' s1 q1 (S.back s1 q1 S1) ?_
        cases sv with
        | un => exact n
        | v d => exact n
        | ol xs => obtain ⟨b, ws, z, z1, z2, z3⟩ := n; exact ⟨b, ws, z, z1, z2, S.apartBack z3⟩
        | od xs => obtain ⟨b, ws, z, z1, z2, z3⟩ := n; exact ⟨b, ws, z, z1, z2, S.apartBack z3⟩
      | exc c h' => exact fun p F' phi' H' s1 q1 S1 => p F' phi' H' s1 q1 (S.back s1 q1 S1)
      | stk => exact fun p => p

/-! ### lists of arguments -/
def notStar : Expr → Bool
  | .Starred .. => false
  | _ => true
theorem starEach_cons {e : Expr} {es : List Expr} {env : PySem.Env} (h : notStar e = true) : starEach (e :: es) env = (false, eval e env) :: starEach es env := by
  cases e <;> first | rfl | (simp [notStar] at h)
theorem starEach_any {pos : Pos} {env : PySem.Env} : ∀ {es : List Expr}, es.all notStar = true → (backTo pos (starEach es env)).any (·.1) = false
  | [], _ => rfl
  | e :: es, h => by
    simp only [List.all_cons, Bool.and_eq_true] at h
    rw [starEach_cons h.1]
    have := starEach_any (pos := pos) (env := env) h.2
    unfold backTo at this ⊢
    rw [List.map_cons, List.any_cons, this]
    rfl
section
variable {X : Cx} {C : Stc} {W : WX} {k : Nat} {P : Prog} {cl : Nat → List D → Hh → Res SV} {a b c e : Expr} {es : List Expr} {ma mb mc : E} {mes : Es} {pos p : Pos} {x : Str}
theorem s_callF {f : Nat} {ad : Addr} (ok : Cok X C W k) (F : CallF X C W (cl f) ad) (hg : Gl X x) (hm : X.mg x = some (.ref ad)) (hk : PySem.W.keepIn X.K (.ref ad) = true) (ha : PA X (e :: es) (tEs X C W P cl mes))
    (hdb : (x == ("__debug__" : Str)) = false) (hs : (e :: es).all notStar = true) : PE X (.Call (.Name x p) (e :: es) [] pos) (tF X.K C W fun r h => (evEs P cl mes r h).bind fun ds h1 => cl f ds h1) := by
  refine ⟨fun pins s σ H Q I ⟨F0, R, phi, r, h, S, pp⟩ => ?_⟩
  simp only [List.all_cons, Bool.and_eq_true] at hs
  refine wpAny_Call_Name_kw (ld_glob I hg hm ?_ hdb)
  have ha' : PA X (e :: es) _ := ha
  refine PySem.W.callWith_K (h₀ := X.base) I.ok.mod.kin hk (thn (ha.run pos pins s σ H _ I (tF_bind (f := evEs P cl mes) (rep := VReps X.K) S pp)) fun us s1 ⟨vs, H1, I1, r1, q1⟩ => ⟨I1.kIn, ?_⟩) (starEach_cons hs.1) (starEach_any hs.2)
  obtain ⟨F1, phi1, ds, h1, s1', q1', S1, rx, _, p1⟩ := q1
  exact F pins s1 σ H1 vs us Q I1 r1 ⟨F1, R, phi1, r, h1, ds, S1, rx, p1⟩
theorem s_callF0 {f : Nat} {ad : Addr} (ok : Cok X C W k) (F : CallF X C W (cl f) ad) (hg : Gl X x) (hm : X.mg x = some (.ref ad)) (hk : PySem.W.keepIn X.K (.ref ad) = true)
    (hdb : (x == ("__debug__" : Str)) = false) : PE X (.Call (.Name x p) [] [] pos) (tF X.K C W fun r h => (evEs P cl .nil r h).bind fun ds h1 => cl f ds h1) := by
  refine ⟨fun pins s σ H Q I ⟨F0, R, phi, r, h, S, pp⟩ => ?_⟩
  refine wpAny_Call_Name_kw (ld_glob I hg hm ?_ hdb)
  refine PySem.W.callWith_K0 I.kIn hk ?_
  have pp : fPost X.K C W F0 R phi r σ (cl f [] h) Q := by simpa only [evEs, Res.bind_ok] using pp
  exact F pins s σ H [] [] Q I .nil ⟨F0, R, phi, r, h, [], S, VReps.nil, pp⟩
/-- a reading of a new value as a value that stands -/
theorem s_fz {m : E} {f : Env → Hh → Res SV} (hp : PE X e (tF X.K C W f)) (hg : ∀ r h, evE P cl m r h = (f r h).bind fun v h1 => opt v.fz h1) : PE X e (tE X C W P cl m) := hp.imp fun σ H Q q => tF_fz hg q

/-! ### built-ins -/
theorem s_blt {bl : Bl} {g : List D → Hh → Option D} {id : String} (hc : CallR X (.builtin id) (rN X.K C g)) (hl : ∀ ds h d, blt bl ds h = some d → g ds h = some d) (hg : Gl X x) (hm : X.mg x = none) (hv : bootBuiltins x = some (.builtin id)) (ha : PA X (e :: es) (tEs X C W P cl mes))
    (hn : x ≠ "__name__") (hdb : (x == ("__debug__" : Str)) = false) (hs : (e :: es).all notStar = true) : PE X (.Call (.Name x p) (e :: es) [] pos) (tE X C W P cl (.blt bl mes)) := by
  simp only [List.all_cons, Bool.and_eq_true] at hs
  refine (pe_callB hc hg hm hv ha hn hdb (starEach_cons hs.1) (starEach_any hs.2)).imp fun σ H Q ⟨F, R, phi, r, h, S, pp⟩ => ?_
  rw [evE] at pp
  refine (tR_bind S pp).mono fun vs H1 ⟨F1, phi1, ds, h1, s1, q1, S1, rx, _, p1⟩ => ?_
  obtain ⟨d, e2, q⟩ := p1.now
  exact ⟨F1, phi1, h1, ds, d, S1.hr, rx, hl ds h1 d e2, fun F' v H' g rv => q F' phi1 v H' (g.sub S1.hr.fH) (Pre.refl _) (S1.grow g) rv⟩
theorem s_bltT {bl : Bl} {g : List D → Hh → Option D} {id : String} (hc : CallR X (.type id) (rN X.K C g)) (hl : ∀ ds h d, blt bl ds h = some d → g ds h = some d) (hg : Gl X x) (hm : X.mg x = none) (hv : bootBuiltins x = some (.type id)) (ha : PA X (e :: es) (tEs X C W P cl mes))
    (hn : x ≠ "__name__") (hdb : (x == ("__debug__" : Str)) = false) (hs : (e :: es).all notStar = true) : PE X (.Call (.Name x p) (e :: es) [] pos) (tE X C W P cl (.blt bl mes)) := by
  simp only [List.all_cons, Bool.and_eq_true] at hs
  refine (pe_callTy hc hg hm hv ha hn hdb (starEach_cons hs.1) (starEach_any hs.2)).imp fun σ H Q ⟨F, R, phi, r, h, S, pp⟩ => ?_
  rw [evE] at pp
  refine (tR_bind S pp).mono fun vs H1 ⟨F1, phi1, ds, h1, s1, q1, S1, rx, _, p1⟩ => ?_
  obtain ⟨d, e2, q⟩ := p1.now
  exact ⟨F1, phi1, h1, ds, d, S1.hr, rx, hl ds h1 d e2, fun F' v H' g rv => q F' phi1 v H' (g.sub S1.hr.fH) (Pre.refl _) (S1.grow g) rv⟩
end
end MP


set_option Elab.async false
set_option linter.all false
set_option maxHeartbeats 1000000
/-! Targets, walks, comprehensions. -/
namespace MP
open PySem PySem.Spec PyProof.Rows L2
section
variable (K : PySem.W.Frag) (C : Stc)
/-- what a target does -/
def tT (t : Tg) : TG := fun v σ H Q => ∃ F R phi r h d r', SR K C F R phi r h σ H ∧ VRep K F phi d v ∧ bindTg t d r h = some r' ∧
  ∀ F' σ' H', Sub F F' → SR K C F' R phi r' h σ' H' → (∀ i, i ∉ t.slots → σ'[i]? = σ[i]?) → σ'.length = σ.length → Q σ' H'
def tTs (ts : List Tg) : TGs := fun vs σ H Q => ∃ F R phi r h ds r', SR K C F R phi r h σ H ∧ VReps K F phi ds vs ∧ bindTgs ts ds r h = some r' ∧
  ∀ F' σ' H', Sub F F' → SR K C F' R phi r' h σ' H' → (∀ i, i ∉ Tg.slotss ts → σ'[i]? = σ[i]?) → σ'.length = σ.length → Q σ' H'
end
section
variable {X : Cx} {C : Stc} {pos : Pos}
theorem PG.imp {e : Expr} {t t' : TG} (p : PG X e t) (h : ∀ v σ H Q, t' v σ H Q → t v σ H Q) : PG X e t' := ⟨fun pins s σ H v u Q I r q => p.run pins s σ H v u Q I r (h v σ H Q q)⟩
theorem PGs.imp {e : List Expr} {t t' : TGs} (p : PGs X e t) (h : ∀ v σ H Q, t' v σ H Q → t v σ H Q) : PGs X e t' := ⟨fun pins s σ H v u Q I r q => p.run pins s σ H v u Q I r (h v σ H Q q)⟩
theorem s_nm {i : Nat} {x : Str} (hN : X.N.Nodup) (hi : X.N[i]? = some x) (hx : Loc X.env.scope x) (hf : X.fn x = true ∨ X.env.scope.names.lookup x = some .local) : PG X (.Name x pos) (tT X.K C (.nm i)) := by
  refine PG.imp (pg_name hN hi hx hf) fun v σ H Q ⟨F, R, phi, r, h, d, r', S, rv, e, q⟩ => ?_
  simp only [bindTg] at e
  split at e
  · cases e
    refine q F _ H (Sub.refl _) (S.setV rv i) (fun j hj => ?_) (by rw [List.length_set])
    rw [List.getElem?_set_ne fun z => hj (by simp [Tg.slots, z])]
  · cases e
theorem assignEach_len {env : PySem.Env} : ∀ es : List Expr, (assignEach es env).length = es.length
  | [] => rfl
  | e :: es => by
    cases e <;> (unfold assignEach; rw [List.length_cons, List.length_cons, assignEach_len es])
theorem assignEach_cons {e : Expr} {es : List Expr} {env : PySem.Env} (h : notStar e = true) : assignEach (e :: es) env = (false, assign e env) :: assignEach es env := by
  cases e <;> first | rfl | (simp [notStar] at h)
theorem assignEach_star {env : PySem.Env} : ∀ {es : List Expr}, es.all notStar = true → (assignEach es env).findIdx? (·.1) = none
  | [], _ => rfl
  | e :: es, h => by
    simp only [List.all_cons, Bool.and_eq_true] at h
    rw [assignEach_cons h.1, List.findIdx?_cons, assignEach_star h.2]
    rfl
theorem s_tgNil : PGs X [] (tTs X.K C []) := PGs.imp pgs_nil fun vs σ H Q ⟨F, R, phi, r, h, ds, r', S, rv, e, q⟩ => by
  cases ds with
  | nil =>
    simp only [VReps] at rv
    simp only [bindTgs, Option.some.injEq] at e
    subst e
    exact ⟨rv, q F σ H (Sub.refl _) S (fun _ _ => rfl) rfl⟩
  | cons d ds => simp only [bindTgs] at e; cases e
theorem s_tgCons {e : Expr} {es : List Expr} {t : Tg} {ts : List Tg} (hs : notStar e = true) (h1 : PG X e (tT X.K C t)) (h2 : PGs X es (tTs X.K C ts)) : PGs X (e :: es) (tTs X.K C (t :: ts)) := by
  refine PGs.imp (pgs_cons h1 h2 (by rw [assignEach_cons hs]; rfl)) fun vs σ H Q ⟨F, R, phi, r, h, ds, r', S, rv, eb, q⟩ => ?_
  cases ds with
  | nil => simp only [bindTgs] at eb; cases eb
  | cons d ds =>
    simp only [VReps] at rv
    obtain ⟨v, ws, rfl, rv1, rv2⟩ := rv
    simp only [bindTgs] at eb
    cases e1 : bindTg t d r h with
    | none => rw [e1] at eb; cases eb
    | some r1 =>
      rw [e1] at eb
      refine ⟨v, ws, rfl, F, R, phi, r, h, d, r1, S, rv1, e1, fun F' σ' H' s S1 fr hl => ⟨F', R, phi, r1, h, ds, r', S1, VReps.mono s (Pre.refl _) _ _ rv2, eb, fun F2 σ2 H2 s2 S2 fr2 hl2 => ?_⟩⟩
      refine q F2 σ2 H2 (s.trans s2) S2 (fun i hi => ?_) (hl2.trans hl)
      simp only [Tg.slotss, List.mem_append, not_or] at hi
      rw [fr2 i hi.2, fr i hi.1]
theorem bindTgs_len : ∀ {ts : List Tg} {ds : List D} {r r' : Env} {h : Hh}, bindTgs ts ds r h = some r' → ds.length = ts.length
  | [], [], _, _, _, _ => rfl
  | [], _ :: _, _, _, _, e => by simp only [bindTgs] at e; cases e
  | _ :: _, [], _, _, _, e => by simp only [bindTgs] at e; cases e
  | t :: ts, d :: ds, r, r', h, e => by
    simp only [bindTgs] at e
    split at e
    · rw [List.length_cons, List.length_cons, bindTgs_len e]
    · cases e
theorem s_tupT {es : List Expr} {j : Nat} {ts : List Tg} (hc : X.calm = true) (h : PGs X es (tTs X.K C ts)) (hs : es.all notStar = true) (hl : es.length = ts.length) : PG X (.Tuple es j pos) (tT X.K C (.tup ts)) := by
  refine PG.imp (pg_tup (n := ts.length) hc h ((assignEach_len es).trans hl) (assignEach_star hs)) fun v σ H Q ⟨F, R, phi, r, hh, d, r', S, rv, e, q⟩ => ?_
  simp only [bindTg] at e
  split at e
  · rename_i xs
    split at e
    · rename_i hx
      simp only [VRep] at rv
      obtain ⟨a, vs, rfl, sq, rv⟩ := rv
      exact ⟨a, vs, rfl, S.hr.fH.seqT sq, by rw [rv.len, hx], F, R, phi, r, hh, xs, r', S, rv, e, q⟩
    · cases e
  · cases e
end

/-! ### the slots of a block -/
theorem wipe_get {σ : L2.St} : ∀ {is : List Nat} {i : Nat}, i ∈ is → i < σ.length → (wipe σ is)[i]? = some none
  | j :: is, i, h, hl => by
    unfold wipe
    by_cases z : j = i
    · subst z
      rw [List.getElem?_set_self (by rw [wipe_length]; exact hl)]
    · rw [List.getElem?_set_ne z]
      rcases List.mem_cons.mp h with h | h
      · exact absurd h.symm z
      · exact wipe_get h hl
theorem wipe_eq {σ τ : L2.St} {is : List Nat} (hl : τ.length = σ.length) (h : ∀ i, i ∉ is → τ[i]? = σ[i]?) : wipe τ is = wipe σ is := by
  refine List.ext_getElem? fun i => ?_
  by_cases hi : i ∈ is
  · by_cases hz : i < σ.length
    · rw [wipe_get hi hz, wipe_get hi (by omega)]
    · rw [List.getElem?_eq_none (by rw [wipe_length]; omega), List.getElem?_eq_none (by rw [wipe_length]; omega)]
  · rw [wipe_out hi, wipe_out hi, h i hi]
section
variable {K : PySem.W.Frag} {C : Stc} {W : WX} {F F' R R' : Hp} {phi phi' : List Addr} {r r' : Env} {h h' : Hh} {σ τ : L2.St} {H H' : Hp}
theorem SR.wipe (x : SR K C F R phi r h σ H) : ∀ {is : List Nat} {r0 : Env}, wipeE r is = some r0 → SR K C F R phi r0 h (L2.wipe σ is) H ∧ r0.length = r.length ∧ (∀ i, i ∉ is → r0[i]? = r[i]?) ∧ ∀ i, i ∈ is → ∀ sv, r[i]? = some sv → sv.owned = false
  | [], r0, e => by
    simp only [wipeE, Option.some.injEq] at e
    subst e
    exact ⟨x, rfl, fun _ _ => rfl, fun i hi => by simp at hi⟩
  | j :: is, r0, e => by
    simp only [wipeE] at e
    cases e1 : wipeE r is with
    | none => rw [e1] at e; cases e
    | some r1 =>
      rw [e1] at e
      obtain ⟨S, hl, fr, ow⟩ := SR.wipe x e1
      simp only at e
      cases e2 : r1[j]? with
      | none => rw [e2] at e; cases e
      | some sv =>
        rw [e2] at e
        simp only at e
        split at e
        · cases e
        · rename_i no
          cases e
          refine ⟨S.setU none j, by rw [List.length_set]; exact hl, fun i hi => ?_, fun i hi sv' e3 => ?_⟩
          · simp only [List.mem_cons, not_or] at hi
            rw [List.getElem?_set_ne (Ne.symm hi.1), fr i hi.2]
          · by_cases z : i ∈ is
            · exact ow i z sv' e3
            · rcases List.mem_cons.mp hi with rfl | hi
              · rw [fr i z, e3] at e2
                cases e2
                simpa using no
              · exact absurd hi z
/-- back from a block -/
theorem SR.unwipe (x : SR K C F R phi r h σ H) (y : SR K C F' R' phi' r' h' τ H') (s : Sub F F') (p : Pre phi phi') {is : List Nat} (hr : r'.length = r.length) (h1 : ∀ i, i ∉ is → r'[i]? = r[i]?) (h2 : ∀ i, i ∉ is → τ[i]? = σ[i]?)
    (ow : ∀ i, i ∈ is → ∀ sv, r[i]? = some sv → sv.owned = false) : SR K C F' R' phi' r h' σ H' := by
  have out : ∀ {i : Nat} {a : Addr}, Own r σ i a → i ∉ is ∧ Own r' τ i a := fun {i a} ⟨⟨sv, e, e2⟩, e3⟩ => by
    have hn : i ∉ is := fun z => by
      have := ow i z sv e
      rcases e2 with ⟨xs, rfl⟩ | ⟨xs, rfl⟩ <;> simp [SV.owned] at this
    exact ⟨hn, ⟨sv, by rw [h1 i hn]; exact e, e2⟩, by rw [h2 i hn]; exact e3⟩
  refine ⟨y.hr, y.rH, y.rF, y.rM, fun i a o => y.rO i a (out o).2, y.nR, x.sl, fun i sv e w e2 => ?_, x.no⟩
  have t := x.slot i sv e w e2
  cases sv with
  | un => trivial
  | v d =>
    obtain ⟨v, q, t⟩ := t
    exact ⟨v, q, VRep.mono s p _ _ t⟩
  | ol xs =>
    obtain ⟨b, vs, q, _⟩ := t
    have hn := (out (a := b) ⟨⟨_, e, .inl ⟨xs, rfl⟩⟩, by rw [e2, q]⟩).1
    exact y.slot i _ (by rw [h1 i hn]; exact e) w (by rw [h2 i hn]; exact e2)
  | od xs =>
    obtain ⟨b, vs, q, _⟩ := t
    have hn := (out (a := b) ⟨⟨_, e, .inr ⟨xs, rfl⟩⟩, by rw [e2, q]⟩).1
    exact y.slot i _ (by rw [h1 i hn]; exact e) w (by rw [h2 i hn]; exact e2)
mutual
theorem bindTg_out : ∀ (t : Tg) {d : D} {r r' : Env} {h : Hh}, bindTg t d r h = some r' → r'.length = r.length ∧ ∀ i, i ∉ t.slots → r'[i]? = r[i]?
  | .nm j, d, r, r', h, e => by
    simp only [bindTg] at e
    split at e
    · cases e
      exact ⟨by rw [List.length_set], fun i hi => by rw [List.getElem?_set_ne fun z => hi (by simp [Tg.slots, z])]⟩
    · cases e
  | .tup ts, d, r, r', h, e => by
    simp only [bindTg] at e
    split at e
    · split at e
      · exact bindTgs_out ts e
      · cases e
    · cases e
  | .star j l, d, r, r', h, e => by
    simp only [bindTg] at e
    split at e
    · split at e
      · cases e
        refine ⟨by rw [List.length_set, List.length_set], fun i hi => ?_⟩
        simp only [Tg.slots, List.mem_cons, not_or] at hi
        rw [List.getElem?_set_ne (Ne.symm hi.2.1), List.getElem?_set_ne (Ne.symm hi.1)]
      · cases e
    · cases e
  | .own j, d, r, r', h, e => by simp only [bindTg] at e; cases e
theorem bindTgs_out : ∀ (ts : List Tg) {ds : List D} {r r' : Env} {h : Hh}, bindTgs ts ds r h = some r' → r'.length = r.length ∧ ∀ i, i ∉ Tg.slotss ts → r'[i]? = r[i]?
  | [], [], r, r', h, e => by
    simp only [bindTgs, Option.some.injEq] at e
    subst e
    exact ⟨rfl, fun _ _ => rfl⟩
  | [], _ :: _, _, _, _, e => by simp only [bindTgs] at e; cases e
  | _ :: _, [], _, _, _, e => by simp only [bindTgs] at e; cases e
  | t :: ts, d :: ds, r, r', h, e => by
    simp only [bindTgs] at e
    cases e1 : bindTg t d r h with
    | none => rw [e1] at e; cases e
    | some r1 =>
      rw [e1] at e
      obtain ⟨a1, a2⟩ := bindTg_out t e1
      obtain ⟨b1, b2⟩ := bindTgs_out ts e
      refine ⟨b1.trans a1, fun i hi => ?_⟩
      simp only [Tg.slotss, List.mem_append, not_or] at hi
      rw [b2 i hi.2, a2 i hi.1]
end
end

/-! ### walks -/
structure IW (K : PySem.W.Frag) (F : Hp) (phi : List Addr) (J : L2.It) (xs : List D) : Prop where
  w : L2.Walk J xs.length (fun H => Sub F H) (fun i H x H' => ∃ d, xs[i]? = some d ∧ ∀ F2, Sub F F2 → Sub F2 H → ∃ F3, Grow F2 H F3 H' ∧ VRep K F3 phi d x)
  len : xs.length ≤ sizeLine
section
variable (K : PySem.W.Frag) (C : Stc)
def iPost (W : WX) (F R : Hp) (phi : List Addr) (r : Env) (σ : L2.St) (x : Res (List D)) (Q : L2.It → Hp → Prop) : Prop :=
  match x with
  | .ok xs h' => ∀ F' phi' J H', Sub F F' → Pre phi phi' → SR K C F' R phi' r h' σ H' → IW K F' phi' J xs → Q J H'
  | .exc c h' => ∀ F' phi' H', Sub F F' → Pre phi phi' → SR K C F' R phi' r h' σ H' → W (.ref (evK K c)) none σ H'
  | .stk => False
def tI (W : WX) (f : Env → Hh → Res (List D)) : TI := fun σ H Q => ∃ F R phi r h, SR K C F R phi r h σ H ∧ iPost K C W F R phi r σ (f r h) Q
end
section
variable {K : PySem.W.Frag} {C : Stc} {W : WX} {α β : Type} {rep : Hp → List Addr → α → β → Prop} {F F' R R' : Hp} {phi phi' : List Addr} {r r' : Env} {h h' : Hh} {σ τ : L2.St} {H H' : Hp}
theorem iPost.mono {x : Res (List D)} {Q : L2.It → Hp → Prop} (p : iPost K C W F R phi r σ x Q) (s : Sub F F') (q : Pre phi phi') : iPost K C W F' R phi' r σ x Q := by
  cases x with
  | ok a h' => exact fun F2 phi2 b H2 s2 q2 S rp => p F2 phi2 b H2 (s.trans s2) (q.trans q2) S rp
  | exc c h' => exact fun F2 phi2 H2 s2 q2 S => p F2 phi2 H2 (s.trans s2) (q.trans q2) S
  | stk => exact p
/-- one part of what is evaluated ahead of a walk -/
theorem tI_bind {f : Env → Hh → Res α} {g : α → Hh → Res (List D)} {Q : L2.It → Hp → Prop} (S : SR K C F R phi r h σ H) (p : iPost K C W F R phi r σ ((f r h).bind g) Q) :
    tR K C W rep f σ H fun b H1 => ∃ F1 phi1 a h1, Sub F F1 ∧ Pre phi phi1 ∧ SR K C F1 R phi1 r h1 σ H1 ∧ rep F1 phi1 a b ∧ f r h = .ok a h1 ∧ iPost K C W F1 R phi1 r σ (g a h1) Q := by
  refine ⟨F, R, phi, r, h, S, ?_⟩
  cases e : f r h with
  | ok a h1 =>
    rw [e, Res.bind_ok] at p
    intro F' phi' b H' s q S' rp
    exact ⟨F', phi', a, h1, s, q, S', rp, rfl, p.mono s q⟩
  | exc c h1 =>
    rw [e, Res.bind_exc] at p
    exact p
  | stk =>
    rw [e, Res.bind_stk] at p
    exact p
/-- a walk, and what is made of it -/
theorem tI_fbind {f : Env → Hh → Res (List D)} {g : List D → Hh → Res SV} {Q : VK} (S : SR K C F R phi r h σ H) (p : fPost K C W F R phi r σ ((f r h).bind g) Q) :
    tI K C W f σ H fun J H1 => ∃ F1 phi1 a h1, Sub F F1 ∧ Pre phi phi1 ∧ SR K C F1 R phi1 r h1 σ H1 ∧ IW K F1 phi1 J a ∧ f r h = .ok a h1 ∧ fPost K C W F1 R phi1 r σ (g a h1) Q := by
  refine ⟨F, R, phi, r, h, S, ?_⟩
  cases e : f r h with
  | ok a h1 =>
    rw [e, Res.bind_ok] at p
    intro F' phi' b H' s q S' rp
    exact ⟨F', phi', a, h1, s, q, S', rp, rfl, p.mono s q fun _ _ z => z⟩
  | exc c h1 =>
    rw [e, Res.bind_exc] at p
    exact p
  | stk =>
    rw [e, Res.bind_stk] at p
    exact p
end
/-- within a block no exception is wanted -/
def WN : WX := fun _ _ _ _ => False
section
variable {X : Cx} {C : Stc} {W : WX} {k : Nat} {P : Prog} {cl : Nat → List D → Hh → Res SV}
theorem cok_blk (ok : Cok X C W k) (s : Shared) (H : Hp) (scope : Scope) (env : PySem.Env) (fp : List Addr) : Cok (X.blk s H scope env fp) C WN k where
  nd := ok.nd
  hu := ok.hu
  grd := ok.grd
  tk := fun u s' ⟨_, _, _, _, _, _, _, _, _, _, _, _, _, _, _, _, z⟩ => z.elim
theorem cool_blk (co : Cool X k) (s : Shared) (H : Hp) (scope : Scope) (env : PySem.Env) (fp : List Addr) : Cool (X.blk s H scope env fp) k where
  calm := co.calm
  room := co.room
/-- the list comprehension's loop, by value -/
def lcV (P : Prog) (cl : Nat → List D → Hh → Res SV) (t : Tg) (it : It) (ifs : Es) (elt : E) (r : Env) (h : Hh) : Res SV :=
  (evIt P cl it r h).bind fun xs h1 => match wipeE r t.slots with
    | some r0 => (compGo (bindTg t · r0) (fun r' h' => (evIfs P cl ifs r' h').noX) (fun r' h' => (evE P cl elt r' h').noX) xs h1).bind fun ys h2 => .ok (.ol ys) h2
    | none => .stk
theorem lc_fz (t : Tg) (it : It) (ifs : Es) (elt : E) (r : Env) (h : Hh) : evE P cl (.lc t it ifs elt) r h = (lcV P cl t it ifs elt r h).bind fun v h1 => opt v.fz h1 := by
  rw [evE]
  unfold lcV
  cases evIt P cl it r h with
  | ok xs h1 =>
    simp only [Res.bind_ok]
    cases wipeE r t.slots with
    | none => rfl
    | some r0 =>
      simp only
      cases compGo (bindTg t · r0) (fun r' h' => (evIfs P cl ifs r' h').noX) (fun r' h' => (evE P cl elt r' h').noX) xs h1 <;> rfl
  | exc c h1 => rfl
  | stk => rfl
theorem lc_step {t : Tg} {ifs : Es} {elt : E} {r0 : Env} {x : D} {xs : List D} {h : Hh} : compGo (bindTg t · r0) (fun r' h' => (evIfs P cl ifs r' h').noX) (fun r' h' => (evE P cl elt r' h').noX) (x :: xs) h = match bindTg t x r0 h with
    | none => .stk
    | some r => (evIfs P cl ifs r h).noX.bind fun b h1 => if b = true then (evE P cl elt r h1).noX.bind fun y h2 => (compGo (bindTg t · r0) (fun r' h' => (evIfs P cl ifs r' h').noX) (fun r' h' => (evE P cl elt r' h').noX) xs h2).bind fun ys h3 => .ok (y :: ys) h3 else compGo (bindTg t · r0) (fun r' h' => (evIfs P cl ifs r' h').noX) (fun r' h' => (evE P cl elt r' h').noX) xs h1 := by
  first
    | (rw [compGo]; done)
    | (rw [compGo]; cases bindTg t x r0 h <;> rfl)
/-- a part within a block, and the rest -/
theorem tN_bind {K : PySem.W.Frag} {α β : Type} {rep : Hp → List Addr → α → β → Prop} {F R R0 : Hp} {phi : List Addr} {r r0 : Env} {h : Hh} {σ σ0 : L2.St} {H : Hp} {f : Env → Hh → Res α} {g : α → Hh → Res SV} {Q : VK} (S : SR K C F R phi r h σ H)
    (p : fPost K C W F R0 phi r0 σ0 ((f r h).noX.bind g) Q) :
    tR K C WN rep f σ H fun b H1 => ∃ F1 phi1 a h1, Sub F F1 ∧ Pre phi phi1 ∧ SR K C F1 R phi1 r h1 σ H1 ∧ rep F1 phi1 a b ∧ fPost K C W F1 R0 phi1 r0 σ0 (g a h1) Q := by
  refine ⟨F, R, phi, r, h, S, ?_⟩
  cases e : f r h with
  | ok a h1 =>
    rw [e] at p
    intro F' phi' b H' s q S' rp
    exact ⟨F', phi', a, h1, s, q, S', rp, p.mono s q fun _ _ z => z⟩
  | exc c h1 =>
    rw [e] at p
    exact p.elim
  | stk =>
    rw [e] at p
    exact p.elim
theorem Res.bind_assoc' {α β γ : Type} (x : Res α) (f : α → Hh → Res β) (g : β → Hh → Res γ) : (x.bind f).bind g = x.bind fun a h => (f a h).bind g := by
  cases x <;> rfl
/-- the reading of a comprehension -/
theorem lc_read {t : Tg} {it : It} {ifs : Es} {elt : E} {σ : L2.St} {H : Hp} {Q : VK} (q : tF X.K C W (lcV P cl t it ifs elt) σ H Q) :
    tLc (tI X.K C W (evIt P cl it)) (tT X.K C t) (tR X.K C WN repB (evIfs P cl ifs)) (tR X.K C WN (VRep X.K) (evE P cl elt)) t.slots σ H Q := by
  obtain ⟨F, R, phi, r, h, S, p⟩ := q
  unfold lcV at p
  obtain ⟨F0, R0, phi0, r0, h0, S0, p0⟩ := tI_fbind S p
  refine ⟨F0, R0, phi0, r0, h0, S0, ?_⟩
  revert p0
  refine fun p0 => (show iPost X.K C W F0 R0 phi0 r0 σ _ _ from ?_)
  cases e0 : evIt P cl it r0 h0 with
  | exc c h' => rw [e0] at p0; exact p0
  | stk => rw [e0] at p0; exact p0
  | ok xs' h' =>
    rw [e0] at p0
    intro Fa phia J H1 sa qa Sa iw D hD
    obtain ⟨F1, phi1, xs, h1, s1, q1, S1, w1, e1, p1⟩ := p0 Fa phia J H1 sa qa Sa iw
    cases ew : wipeE r t.slots with
    | none => rw [ew] at p1; exact p1.elim
    | some rw0 =>
      rw [ew] at p1
      simp only at p1
      generalize hG : (fun l h => compGo (bindTg t · rw0) (fun r' h' => (evIfs P cl ifs r' h').noX) (fun r' h' => (evE P cl elt r' h').noX) l h) = go at p1
      have p1 : fPost X.K C W F1 R phi1 r σ ((go xs h1).bind fun ys h2 => .ok (.ol ys) h2) Q := by rw [← hG]; exact p1
      have gnil : ∀ h, go [] h = .ok [] h := fun h => by rw [← hG]; rfl
      have gcons : ∀ x l h, go (x :: l) h = match bindTg t x rw0 h with
          | none => .stk
          | some r => (evIfs P cl ifs r h).noX.bind fun b h1 => if b = true then (evE P cl elt r h1).noX.bind fun y h2 => (go l h2).bind fun ys h3 => .ok (y :: ys) h3 else go l h1 := fun x l h => by rw [← hG]; exact lc_step
      have R1 : R D = none := (S1.apart hD).nR
      have gr : Grow F1 H1 F1 (upd H1 D (.lst [])) := ⟨Sub.updF hD, fun _ _ _ => rfl, S1.hr.fH.trans (Sub.updF hD), fun _ _ h => h⟩
      have S2 : SR X.K C F1 (upd R D (.lst [])) phi1 r h1 σ (upd H1 D (.lst [])) := (S1.grow gr).intoR upd_same (S1.apart hD)
      refine lc_it w1.w (fun i H => ∃ F2 phi2 h2 acc dacc, Sub F1 F2 ∧ Pre phi1 phi2 ∧ SR X.K C F2 (upd R D (.lst acc)) phi2 r h2 σ H ∧ VReps X.K F2 phi2 dacc acc ∧ acc.length ≤ i ∧
        fPost X.K C W F2 R phi2 r σ ((go (xs.drop i) h2).bind fun ys h3 => .ok (.ol (dacc ++ ys)) h3) Q) ?_ ?_ ?_ ?_
      · exact ⟨F1, phi1, h1, [], [], Sub.refl _, Pre.refl _, S2, VReps.nil, Nat.le_refl _, by simpa using p1⟩
      · rintro i H _ ⟨F2, phi2, h2, acc, dacc, s2, q2, S3, _⟩
        exact s2.trans S3.hr.fH
      · rintro i x H H' hi ⟨F2, phi2, h2, acc, dacc, s2, q2, S3, ra, hl, p2⟩ ⟨d, ed, hy⟩
        obtain ⟨F3, g3, rd⟩ := hy F2 s2 S3.hr.fH
        have rd := VRep.mono (Sub.refl F3) q2 _ _ rd
        have S4 := S3.grow g3
        have s3 := g3.sub S3.hr.fH
        obtain ⟨S5, hl5, fr5, ow5⟩ := S4.wipe ew
        have edrop : xs.drop i = d :: xs.drop (i + 1) := by
          rw [List.drop_eq_getElem_cons hi]
          have : xs[i] = d := by
            rw [List.getElem?_eq_getElem hi] at ed
            exact Option.some.inj ed
          rw [this]
        rw [edrop, gcons] at p2
        cases eb : bindTg t d rw0 h2 with
        | none => rw [eb] at p2; exact p2.elim
        | some r1 =>
          rw [eb] at p2
          simp only at p2
          obtain ⟨bl, bo⟩ := bindTg_out t eb
          refine ⟨F3, _, phi2, rw0, h2, d, r1, S5, rd, eb, fun F4 σ2 H2 s4 S6 fr hl2 => ?_⟩
          have hout : ∀ i, i ∉ t.slots → σ2[i]? = σ[i]? := fun i hi => by rw [fr i hi, wipe_out hi]
          have hlen : σ2.length = σ.length := by rw [hl2, wipe_length]
          refine ⟨wipe_eq hlen hout, ?_⟩
          have rout : ∀ i, i ∉ t.slots → r1[i]? = r[i]? := fun i hi => by rw [bo i hi, fr5 i hi]
          have rlen : r1.length = r.length := bl.trans hl5
          rw [Res.bind_assoc'] at p2
          have p3 := p2.mono (F' := F4) (s3.trans s4) (Pre.refl _) (fun _ _ z => z)
          refine (tN_bind (f := evIfs P cl ifs) (rep := repB) S6 p3).mono fun b H3 ⟨F5, phi5, b', h5, s5, q5, S7, eb', p4⟩ => ?_
          obtain rfl : b' = b := eb'
          cases b' with
          | false =>
            simp only [Bool.false_eq_true, if_false] at p4 ⊢
            have S8 := S4.unwipe S7 (s4.trans s5) q5 rlen rout hout ow5
            exact ⟨F5, phi5, h5, acc, dacc, s2.trans (s3.trans (s4.trans s5)), q2.trans q5, S8, VReps.mono (s3.trans (s4.trans s5)) q5 _ _ ra, Nat.le_succ_of_le hl, p4⟩
          | true =>
            simp only [if_true] at p4 ⊢
            rw [Res.bind_assoc'] at p4
            refine (tN_bind (f := evE P cl elt) (rep := VRep X.K) S7 p4).mono fun y H4 ⟨F6, phi6, dy, h6, s6, q6, S8, ry, p5⟩ => ?_
            have S9 := S4.unwipe S8 (s4.trans (s5.trans s6)) (q5.trans q6) rlen rout hout ow5
            refine ⟨acc, S9.rH _ _ upd_same, by have := w1.len; omega, F6, phi6, h6, acc ++ [y], dacc ++ [dy], s2.trans (s3.trans (s4.trans (s5.trans s6))), q2.trans (q5.trans q6), S9.poke _, VReps.app (VReps.mono (s3.trans (s4.trans (s5.trans s6))) (q5.trans q6) _ _ ra) (VReps.cons ry VReps.nil), by rw [List.length_append]; simp; omega, ?_⟩
            rw [Res.bind_assoc'] at p5
            simpa [List.append_assoc] using p5
      · rintro H ⟨F2, phi2, h2, acc, dacc, s2, q2, S3, ra, hl, p2⟩
        rw [List.drop_of_length_le (Nat.le_refl _), gnil] at p2
        simp only [Res.bind_ok, List.append_nil] at p2
        exact p2 F2 phi2 (.ref D) H (Sub.refl _) (Pre.refl _) (S3.lessR (Sub.updF R1)) ⟨D, acc, rfl, S3.rH _ _ upd_same, ra, S3.apartR R1⟩
end
end MP


set_option Elab.async false
set_option linter.all false
set_option maxHeartbeats 1000000
/-! What is walked: lists, tuples, texts, ranges, pairs. -/
namespace MP
open PySem PySem.Spec PyProof.Rows L2
section
variable {X : Cx} {C : Stc} {W : WX} {k : Nat} {P : Prog} {cl : Nat → List D → Hh → Res SV} {a b e tg : Expr} {me ma mb : E} {pos p : Pos}
theorem pie_len {pins : List (Addr × Obj)} {σ : L2.St} {s2 : Shared} {itv : Value} {R0 R : L2.It → Hp → Prop} (q : PIE X pins σ tg R0 itv s2) (h : ∀ J H' s, L2.Inv X pins σ H' s → R0 J H' → R J H') : PIE X pins σ tg R itv s2 := by
  obtain ⟨it, fp, tn, J, H', e, I, T, t0, f, r⟩ := q
  exact ⟨it, fp, tn, J, H', e, I, T, t0, f, h J H' s2 I r⟩
theorem pi_len {iter : Expr} {s : Shared} {pins : List (Addr × Obj)} {σ : L2.St} {R0 R : L2.It → Hp → Prop} (q : wpAny (model X.prog X.w) X.A (eval iter X.env) (fun v s1 => wpAny (model X.prog X.w) X.A (pyIter v) (PIE X pins σ tg R0) X.xe s1) X.xe s)
    (h : ∀ J H' s, L2.Inv X pins σ H' s → R0 J H' → R J H') : wpAny (model X.prog X.w) X.A (eval iter X.env) (fun v s1 => wpAny (model X.prog X.w) X.A (pyIter v) (PIE X pins σ tg R) X.xe s1) X.xe s :=
  thn q fun v s1 q1 => thn q1 fun itv s2 q2 => pie_len q2 h
theorem iw_list {K : PySem.W.Frag} {F : Hp} {phi : List Addr} {x : Addr} {vs : List V} {xs : List D} (e : F x = some (.lst vs)) (r : VReps K F phi xs vs) (hl : xs.length ≤ sizeLine) : IW K F phi (Itl K x) xs := by
  refine ⟨?_, hl⟩
  rw [← r.len]
  refine walk_list.mono (fun H s => .inl (.inl (s _ _ e))) fun i H y H' hi s ⟨e1, e2⟩ => ?_
  obtain ⟨d, ed, rd⟩ := r.get e2
  exact ⟨d, ed, fun F2 s2 s3 => ⟨F2, by rw [e1]; exact Grow.refl s3, VRep.mono s2 (Pre.refl _) _ _ rd⟩⟩
theorem iw_tup {K : PySem.W.Frag} {F : Hp} {phi : List Addr} {x : Addr} {vs : List V} {xs : List D} (e : SqT K F x vs) (r : VReps K F phi xs vs) (hl : xs.length ≤ sizeLine) : IW K F phi (Itt K x) xs := by
  refine ⟨?_, hl⟩
  rw [← r.len]
  refine walk_tup.mono (fun H s => s.seqT e) fun i H y H' hi s ⟨e1, e2⟩ => ?_
  obtain ⟨d, ed, rd⟩ := r.get e2
  exact ⟨d, ed, fun F2 s2 s3 => ⟨F2, by rw [e1]; exact Grow.refl s3, VRep.mono s2 (Pre.refl _) _ _ rd⟩⟩
theorem iw_str {K : PySem.W.Frag} {F : Hp} {phi : List Addr} {s : List Nat} (hl : s.length ≤ sizeLine) : IW K F phi (Its (toStr s)) (s.map fun c => .str [c]) := by
  refine ⟨?_, by rw [List.length_map]; exact hl⟩
  have e0 : (s.map fun c => D.str [c]).length = (toStr s).cps.size := by rw [List.length_map]; simp [toStr]
  rw [e0]
  refine walk_str.mono (fun _ _ => trivial) fun i H y H' hi _ ⟨e1, c, e2, e3⟩ => ?_
  refine ⟨.str [c], ?_, fun F2 s2 s3 => ⟨F2, by rw [e1]; exact Grow.refl s3, by rw [e3]; simp only [VRep]; rfl⟩⟩
  have e4 : s[i]? = some c := by simpa [toStr] using e2
  rw [List.getElem?_map, e4]
  rfl
theorem iw_range {K : PySem.W.Frag} {F : Hp} {phi : List Addr} {lo : Int} {n : Nat} (hl : n ≤ sizeLine) : IW K F phi (Itr lo n) (rangeL lo n 1) := by
  have e0 : (rangeL lo n 1).length = n := by simp [rangeL]
  refine ⟨?_, by rw [e0]; exact hl⟩
  rw [e0]
  refine walk_range.mono (fun _ _ => trivial) fun i H y H' hi _ ⟨e1, e2⟩ => ?_
  refine ⟨.int (lo + i), ?_, fun F2 s2 s3 => ⟨F2, by rw [e1]; exact Grow.refl s3, by rw [e2]; exact VRep.vint _⟩⟩
  simp [rangeL, List.getElem?_map, hi]
theorem s_itE (ha : PE X e (tE X C W P cl me)) : PI X tg e (tI X.K C W (evIt P cl (.e me))) := by
  refine ⟨fun pins s σ H R I ⟨F, Rf, phi, r, h, S, q⟩ => ?_⟩
  rw [evIt] at q
  have sz : lim = sizeLine := lim_eq
  cases e1 : evE P cl me r h with
  | exc c h1 =>
    rw [e1] at q
    exact (pi_list (tg := tg) ha).run pins s σ H R I ⟨F, Rf, phi, r, h, S, by rw [e1]; exact q⟩
  | stk => rw [e1] at q; exact q.elim
  | ok d h1 =>
    rw [e1, Res.bind_ok] at q
    cases d with
    | lst xs =>
      refine pi_len (R0 := fun J H' => (∃ x vs, SqL X.K H' x vs ∧ vs.length = xs.length) ∧ (xs.length ≤ sizeLine → R J H')) ((pi_list (tg := tg) ha).run pins s σ H _ I ⟨F, Rf, phi, r, h, S, ?_⟩) fun J H' s' I' ⟨⟨x, vs, sq, hl⟩, z⟩ => z ?_
      · rw [e1]
        intro F' phi' b H' s1 q1 S1 rv
        simp only [VRep] at rv
        obtain ⟨x, vs, rfl, e2, rv⟩ := rv
        have sq : SqL X.K H' x vs := .inl (.inl (S1.hr.fH _ _ e2))
        exact ⟨x, rfl, ⟨vs, sq⟩, ⟨x, vs, sq, rv.len⟩, fun hl => q F' phi' _ H' s1 q1 S1 (iw_list e2 rv hl)⟩
      · obtain ⟨its, rr, _, hz⟩ := I'.list sq
        rw [← hl]; exact hz
    | tup xs =>
      refine pi_len (R0 := fun J H' => (∃ x vs, SqT X.K H' x vs ∧ vs.length = xs.length) ∧ (xs.length ≤ sizeLine → R J H')) ((pi_tup (tg := tg) ha).run pins s σ H _ I ⟨F, Rf, phi, r, h, S, ?_⟩) fun J H' s' I' ⟨⟨x, vs, sq, hl⟩, z⟩ => z ?_
      · rw [e1]
        intro F' phi' b H' s1 q1 S1 rv
        simp only [VRep] at rv
        obtain ⟨x, vs, rfl, e2, rv⟩ := rv
        have sq : SqT X.K H' x vs := S1.hr.fH.seqT e2
        exact ⟨x, rfl, ⟨vs, sq⟩, ⟨x, vs, sq, rv.len⟩, fun hl => q F' phi' _ H' s1 q1 S1 (iw_tup e2 rv hl)⟩
      · obtain ⟨its, rr, _, hz⟩ := I'.tuple sq
        rw [← hl]; exact hz
    | str t =>
      simp only at q
      by_cases hl : t.length ≤ lim
      · rw [if_pos hl] at q
        refine (pi_str (tg := tg) ha).run pins s σ H _ I ⟨F, Rf, phi, r, h, S, ?_⟩
        rw [e1]
        intro F' phi' b H' s1 q1 S1 rv
        simp only [VRep] at rv
        exact ⟨toStr t, rv, q F' phi' _ H' s1 q1 S1 (iw_str (by omega))⟩
      · rw [if_neg hl] at q
        exact q.elim
    | non => exact q.elim
    | bl b => exact q.elim
    | int b => exact q.elim
    | dct b => exact q.elim
    | ref b => exact q.elim
    | exc b => exact q.elim
    | scr b => exact q.elim
theorem sz_eq : sizeLine = 16777216 := sizeLine_eq
theorem s_it1 (hg : Gl X "range") (hm : X.mg "range" = none) (hs : notStar a = true) (ha : PE X a (tE X C W P cl ma)) : PI X tg (.Call (.Name "range" p) [a] [] pos) (tI X.K C W (evIt P cl (.r1 ma))) := by
  have hz : starEach [a] X.env = [(false, eval a X.env)] := starEach_cons hs
  have pa : PA X [a] _ := pa_cons ha pa_nil hz
  refine ⟨fun pins s σ H R I ⟨F, Rf, phi, r, h, S, q⟩ => (pi_range1 (tg := tg) hg hm pa hz).run pins s σ H R I ?_⟩
  rw [evIt] at q
  refine (tI_bind S q).mono fun x H1 ⟨F1, phi1, d, h1, s1, q1, S1, rx, _, p1⟩ => ?_
  cases d with
  | int n =>
    simp only at p1
    by_cases hn : -1000000 ≤ n ∧ n ≤ 1000000
    · rw [if_pos hn] at p1
      simp only [VRep] at rx
      exact ⟨n, by rw [rx], by omega, by omega, p1 F1 phi1 _ H1 (Sub.refl _) (Pre.refl _) S1 (iw_range (by rw [sz_eq]; omega))⟩
    · rw [if_neg hn] at p1; exact p1.elim
  | _ => exact p1.elim
theorem s_it2 (hg : Gl X "range") (hm : X.mg "range" = none) (hs : notStar a = true) (hs2 : notStar b = true) (ha : PE X a (tE X C W P cl ma)) (hb : PE X b (tE X C W P cl mb)) : PI X tg (.Call (.Name "range" p) [a, b] [] pos) (tI X.K C W (evIt P cl (.r2 ma mb))) := by
  have hz2 : starEach [b] X.env = [(false, eval b X.env)] := starEach_cons hs2
  have hz : starEach [a, b] X.env = [(false, eval a X.env), (false, eval b X.env)] := by rw [starEach_cons hs, hz2]
  have pa : PA X [a, b] _ := pa_cons ha (pa_cons hb pa_nil hz2) (starEach_cons hs)
  refine ⟨fun pins s σ H R I ⟨F, Rf, phi, r, h, S, q⟩ => (pi_range2 (tg := tg) hg hm pa hz hz2).run pins s σ H R I ?_⟩
  rw [evIt] at q
  refine (tI_bind S q).mono fun x H1 ⟨F1, phi1, d, h1, s1, q1, S1, rx, _, p1⟩ => ?_
  refine (tI_bind S1 p1).mono fun y H2 ⟨F2, phi2, d2, h2, s2, q2, S2, ry, _, p2⟩ => ?_
  cases d with
  | int m =>
    cases d2 with
    | int n =>
      simp only at p2
      by_cases hn : (-1000000 ≤ m ∧ m ≤ 1000000) ∧ -1000000 ≤ n ∧ n ≤ 1000000
      · rw [if_pos hn] at p2
        simp only [VRep] at rx ry
        exact ⟨m, n, by rw [rx, ry], by omega, p2 F2 phi2 _ H2 (Sub.refl _) (Pre.refl _) S2 (iw_range (by rw [sz_eq]; omega))⟩
      · rw [if_neg hn] at p2; exact p2.elim
    | _ => exact p2.elim
  | _ => exact p2.elim
/-! ### pairs -/
theorem zip_get {xs ys : List D} {i : Nat} {x y : D} (hx : xs[i]? = some x) (hy : ys[i]? = some y) : (List.zipWith (fun x y => D.tup [x, y]) xs ys)[i]? = some (.tup [x, y]) := by
  rw [List.getElem?_zipWith, hx, hy]
theorem pair_rep {K : PySem.W.Frag} {F2 : Hp} {phi : List Addr} {H : Hp} {T : Addr} {d1 d2 : D} {x y : V} (s3 : Sub F2 H) (hT : H T = none) (r1 : VRep K F2 phi d1 x) (r2 : VRep K F2 phi d2 y) :
    ∃ F3, Grow F2 H F3 (upd H T (.tup [x, y])) ∧ VRep K F3 phi (.tup [d1, d2]) (.ref T) := by
  have g := Grow.one (o := .tup [x, y]) s3 hT
  refine ⟨_, g, ?_⟩
  exact new_tup s3 hT (VReps.cons r1 (VReps.cons r2 VReps.nil))
theorem iw_zip {K : PySem.W.Frag} {F : Hp} {phi : List Addr} {x y : Addr} {vs ws : List V} {xs ys : List D} (e1 : F x = some (.lst vs)) (e2 : F y = some (.lst ws)) (r1 : VReps K F phi xs vs) (r2 : VReps K F phi ys ws) (hl : xs.length ≤ sizeLine) :
    IW K F phi (Itz K x y) (List.zipWith (fun x y => .tup [x, y]) xs ys) := by
  have hn : (List.zipWith (fun x y => D.tup [x, y]) xs ys).length = min vs.length ws.length := by rw [List.length_zipWith, r1.len, r2.len]
  refine ⟨?_, by rw [List.length_zipWith]; omega⟩
  rw [hn]
  refine (walk_zip rfl).mono (fun H s => ⟨.inl (.inl (s _ _ e1)), .inl (.inl (s _ _ e2))⟩) fun i H v H' hi s ⟨T, a, b, ev, hT, eH, ea, eb⟩ => ?_
  obtain ⟨d1, ed1, rd1⟩ := r1.get ea
  obtain ⟨d2, ed2, rd2⟩ := r2.get eb
  refine ⟨_, zip_get ed1 ed2, fun F2 s2 s3 => ?_⟩
  rw [ev, eH]
  exact pair_rep s3 hT (VRep.mono s2 (Pre.refl _) _ _ rd1) (VRep.mono s2 (Pre.refl _) _ _ rd2)
theorem walk_zipT {K : PySem.W.Frag} {a b : Addr} {xs ys : List V} {n : Nat} (hn : n = min xs.length ys.length) : L2.Walk (RZ.ItzT K a b) n (fun H => SqT K H a xs ∧ SqT K H b ys) (YPair (fun i => xs[i]?) (fun i => ys[i]?)) := by
  subst hn
  refine ⟨fun i _ hi q => ?_, fun _ q => ⟨xs, ys, q.1, q.2, by omega⟩, fun i H v H' _ q y => ?_⟩
  · have h1 : i < xs.length ∧ i < ys.length := by omega
    exact ⟨xs, ys, xs[i], ys[i], q.1, q.2, by simp [h1.1], by simp [h1.2]⟩
  · obtain ⟨T, c, d, z1, z2, z3, z4, z5⟩ := y
    exact ⟨T, c, d, z1, z2, z3, z4 xs q.1, z5 ys q.2⟩
theorem iw_zipT {K : PySem.W.Frag} {F : Hp} {phi : List Addr} {x y : Addr} {vs ws : List V} {xs ys : List D} (e1 : SqT K F x vs) (e2 : SqT K F y ws) (r1 : VReps K F phi xs vs) (r2 : VReps K F phi ys ws) (hl : xs.length ≤ sizeLine) :
    IW K F phi (RZ.ItzT K x y) (List.zipWith (fun x y => .tup [x, y]) xs ys) := by
  have hn : (List.zipWith (fun x y => D.tup [x, y]) xs ys).length = min vs.length ws.length := by rw [List.length_zipWith, r1.len, r2.len]
  refine ⟨?_, by rw [List.length_zipWith]; omega⟩
  rw [hn]
  refine (walk_zipT rfl).mono (fun H s => ⟨s.seqT e1, s.seqT e2⟩) fun i H v H' hi s ⟨T, a, b, ev, hT, eH, ea, eb⟩ => ?_
  obtain ⟨d1, ed1, rd1⟩ := r1.get ea
  obtain ⟨d2, ed2, rd2⟩ := r2.get eb
  refine ⟨_, zip_get ed1 ed2, fun F2 s2 s3 => ?_⟩
  rw [ev, eH]
  exact pair_rep s3 hT (VRep.mono s2 (Pre.refl _) _ _ rd1) (VRep.mono s2 (Pre.refl _) _ _ rd2)
theorem s_itZ {elts : List Expr} {kk : Nat} {tpos : Pos} (hg : Gl X "zip") (hm : X.mg "zip" = none) (hs : notStar a = true) (hs2 : notStar b = true) (ha : PE X a (tE X C W P cl ma)) (hb : PE X b (tE X C W P cl mb)) :
    PI X (.Tuple elts kk tpos) (.Call (.Name "zip" p) [a, b] [] pos) (tI X.K C W (evIt P cl (.zip ma mb false))) := by
  have hz2 : starEach [b] X.env = [(false, eval b X.env)] := starEach_cons hs2
  have pa : PA X [a, b] _ := pa_cons ha (pa_cons hb pa_nil hz2) (starEach_cons hs)
  refine ⟨fun pins s σ H R I ⟨F, Rf, phi, r, h, S, q⟩ => ?_⟩
  refine pi_len (R0 := fun J H' => ∃ n, ((∃ x vs, (SqL X.K H' x vs ∨ SqT X.K H' x vs) ∧ vs.length = n)) ∧ (n ≤ sizeLine → R J H'))
    ((RZ.pi_zipA (elts := elts) (kk := kk) (tpos := tpos) hg hm pa (starEach_cons hs) (by rw [hz2]; rfl)).run pins s σ H _ I ?_) ?_
  · rw [evIt] at q
    refine (tI_bind S q).mono fun x H1 ⟨F1, phi1, d, h1, s1, q1, S1, rx, _, p1⟩ => ?_
    refine (tI_bind S1 p1).mono fun y H2 ⟨F2, phi2, d2, h2, s2, q2, S2, ry, _, p2⟩ => ?_
    have rx := VRep.mono s2 q2 _ _ rx
    cases d with
    | lst xs =>
      cases d2 with
      | lst ys =>
        simp only [true_or, if_true] at p2
        simp only [VRep] at rx ry
        obtain ⟨x, vs, rfl, e1, r1⟩ := rx
        obtain ⟨y, ws, rfl, e2, r2⟩ := ry
        have sx : SqL X.K H2 x vs := .inl (.inl (S2.hr.fH _ _ e1))
        exact ⟨x, y, vs, ws, rfl, .inl ⟨sx, .inl (.inl (S2.hr.fH _ _ e2)), xs.length, ⟨x, vs, .inl sx, r1.len⟩, fun hl => p2 F2 phi2 _ H2 (Sub.refl _) (Pre.refl _) S2 (iw_zip e1 e2 r1 r2 hl)⟩⟩
      | _ => exact p2.elim
    | tup xs =>
      cases d2 with
      | tup ys =>
        simp only [true_or, if_true] at p2
        simp only [VRep] at rx ry
        obtain ⟨x, vs, rfl, e1, r1⟩ := rx
        obtain ⟨y, ws, rfl, e2, r2⟩ := ry
        have sx : SqT X.K H2 x vs := S2.hr.fH.seqT e1
        exact ⟨x, y, vs, ws, rfl, .inr ⟨sx, S2.hr.fH.seqT e2, xs.length, ⟨x, vs, .inr sx, r1.len⟩, fun hl => p2 F2 phi2 _ H2 (Sub.refl _) (Pre.refl _) S2 (iw_zipT e1 e2 r1 r2 hl)⟩⟩
      | _ => exact p2.elim
    | _ => cases d2 <;> exact p2.elim
  · rintro J H' s' I' ⟨n, ⟨x, vs, sq, rfl⟩, z⟩
    refine z ?_
    rcases sq with sq | sq
    · obtain ⟨its, rr, _, hz⟩ := I'.list sq; exact hz
    · obtain ⟨its, rr, _, hz⟩ := I'.tuple sq; exact hz
end
end MP


set_option Elab.async false
set_option linter.all false
set_option maxHeartbeats 1000000
/-! Statements. -/
namespace MP
open PySem PySem.Spec PyProof.Rows L2
section
variable {K : PySem.W.Frag} {C : Stc} {F F' R R' : Hp} {phi phi' : List Addr} {r : Env} {h h' : Hh} {σ : L2.St} {H H' : Hp}
theorem set_self {σ : L2.St} {i : Nat} {w : Option V} (e : σ[i]? = some w) : σ.set i w = σ := by
  refine List.ext_getElem? fun j => ?_
  by_cases z : i = j
  · subst z
    rw [List.getElem?_set_self (List.getElem?_eq_some_iff.mp e).1, e]
  · rw [List.getElem?_set_ne z]
/-- the slot's own thing, alone -/
theorem SR.lone (x : SR K C F R phi r h σ H) {i : Nat} {a : Addr} (o : Own r σ i a) : SR K C F R phi (r.set i .un) h σ H ∧ Apart F R phi (r.set i .un) σ a ∧ i < r.length ∧ i < σ.length := by
  obtain ⟨⟨sv, e, e2⟩, e3⟩ := id o
  have hl := (List.getElem?_eq_some_iff.mp e).1
  have y := x.setU (some (.ref a)) i
  rw [set_self e3] at y
  refine ⟨y, ⟨(x.ownF o).1, x.rO i a o, (x.ownF o).2.1, fun j q => ?_⟩, hl, by rw [← x.sl]; exact hl⟩
  obtain ⟨⟨sw, f, f2⟩, f3⟩ := q
  by_cases z : i = j
  · subst z
    rw [List.getElem?_set_self hl] at f
    cases f
    rcases f2 with ⟨_, z⟩ | ⟨_, z⟩ <;> cases z
  · rw [List.getElem?_set_ne z] at f
    exact z (x.no i j a o ⟨⟨sw, f, f2⟩, f3⟩)
theorem SR.writeOl (x : SR K C F R phi r h σ H) {i : Nat} {a : Addr} (o : Own r σ i a) {xs : List D} {vs : List V} (rv : VReps K F phi xs vs) : SR K C F R phi (r.set i (.ol xs)) h σ (upd H a (.lst vs)) := by
  obtain ⟨y, p, hl, hl2⟩ := x.lone o
  obtain ⟨_, _, u, e, pl⟩ := x.ownF o
  have z := (y.intoR e p pl.noT).poke (.lst vs) pl
  have z2 := (z.lessR (Sub.updF p.nR)).setOl upd_same rv (z.apartR p.nR) i
  rw [List.set_set] at z2
  obtain ⟨_, e3⟩ := id o
  rw [set_self e3] at z2
  exact z2
theorem SR.writeOd (x : SR K C F R phi r h σ H) {i : Nat} {a : Addr} (o : Own r σ i a) {xs : List (Ky × D)} {vs : List (Key × V)} (rv : KReps K F phi xs vs) : SR K C F R phi (r.set i (.od xs)) h σ (upd H a (.dK vs)) := by
  obtain ⟨y, p, hl, hl2⟩ := x.lone o
  obtain ⟨_, _, u, e, pl⟩ := x.ownF o
  have z := (y.intoR e p pl.noT).poke (.dK vs) pl
  have z2 := (z.lessR (Sub.updF p.nR)).setOd upd_same rv (z.apartR p.nR) i
  rw [List.set_set] at z2
  obtain ⟨_, e3⟩ := id o
  rw [set_self e3] at z2
  exact z2
theorem SR.frzL (x : SR K C F R phi r h σ H) {i : Nat} {a : Addr} (o : Own r σ i a) {xs : List D} {vs : List V} (e : H a = some (.lst vs)) (rv : VReps K F phi xs vs) : SR K C (upd F a (.lst vs)) R phi (r.set i (.v (.lst xs))) h σ H := by
  obtain ⟨y, p, hl, hl2⟩ := x.lone o
  have z := (y.intoF e p).setV (d := .lst xs) (v := .ref a) (by
    simp only [VRep]
    exact ⟨a, vs, rfl, upd_same, VReps.mono (Sub.updF p.nF) (Pre.refl _) _ _ rv⟩) i
  rw [List.set_set] at z
  obtain ⟨_, e3⟩ := id o
  rw [set_self e3] at z
  exact z
theorem SR.frzD (x : SR K C F R phi r h σ H) {i : Nat} {a : Addr} (o : Own r σ i a) {xs : List (Ky × D)} {vs : List (Key × V)} (e : H a = some (.dK vs)) (rv : KReps K F phi xs vs) : SR K C (upd F a (.dK vs)) R phi (r.set i (.v (.dct xs))) h σ H := by
  obtain ⟨y, p, hl, hl2⟩ := x.lone o
  have z := (y.intoF e p).setV (d := .dct xs) (v := .ref a) (by
    simp only [VRep]
    exact ⟨a, vs, rfl, upd_same, KReps.mono (Sub.updF p.nF) (Pre.refl _) _ _ rv⟩) i
  rw [List.set_set] at z
  obtain ⟨_, e3⟩ := id o
  rw [set_self e3] at z
  exact z
/-- an object of the heap is written -/
theorem SR.writeH (x : SR K C F R phi r h σ H) {n : Nat} {a : Addr} {o : HO} {u : O} (e : phi[n]? = some a) (q : ORep K C F phi (upd H a o) a u) : SR K C F R phi r (h.set n u) σ (upd H a o) where
  hr := {
    fH := fun b w z => by rw [upd_ne (ne_of_none z (x.hr.mF n a e))]; exact x.hr.fH b w z
    len := by rw [List.length_set]; exact x.hr.len
    obj := fun m b w e1 e2 => by
      by_cases z : m = n
      · subst z
        rw [e] at e1
        cases e1
        have hl := (List.getElem?_eq_some_iff.mp e).1
        rw [List.getElem?_set_self (by rw [← x.hr.len]; exact hl)] at e2
        cases e2
        exact q
      · rw [List.getElem?_set_ne (Ne.symm z)] at e2
        exact (x.hr.obj m b w e1 e2).heap (upd_ne fun t => z (x.hr.nd m n a (by rw [← t]; exact e1) e))
    mF := x.hr.mF
    tb := tabs_upd x.hr.tb (by
      obtain ⟨o1, _, e1⟩ := x.hr.at e
      exact e1.pl)
    nF := x.hr.nF
    nd := x.hr.nd }
  rH := fun b w z => by
    rw [upd_ne fun t => by rw [t, x.rM n a e] at z; cases z]
    exact x.rH b w z
  rF := x.rF
  rM := x.rM
  rO := x.rO
  nR := x.nR
  sl := x.sl
  slot := fun i sv e1 w e2 => by
    have y := x.slot i sv e1 w e2
    cases sv with
    | un => trivial
    | v d => exact y
    | ol xs =>
      obtain ⟨b, vs, t1, t2, t3, t4, t5⟩ := y
      exact ⟨b, vs, t1, by rw [upd_ne fun t => t5 n (by rw [t]; exact e)]; exact t2, t3, t4, t5⟩
    | od xs =>
      obtain ⟨b, vs, t1, t2, t3, t4, t5⟩ := y
      exact ⟨b, vs, t1, by rw [upd_ne fun t => t5 n (by rw [t]; exact e)]; exact t2, t3, t4, t5⟩
  no := x.no
/-- a new object of the heap -/
theorem SR.intoM (x : SR K C F R phi r h σ H) {a : Addr} {u : O} (p : Apart F R phi r σ a) (q : ORep K C F phi H a u) : SR K C F R (phi ++ [a]) r (h ++ [u]) σ H := by
  have key : ∀ (n : Nat) (b : Addr), (phi ++ [a])[n]? = some b → phi[n]? = some b ∨ (n = phi.length ∧ b = a) := fun n b e => by
    rw [List.getElem?_append] at e
    split at e
    · exact .inl e
    · rename_i hn
      have : n - phi.length = 0 := by
        cases t : n - phi.length with
        | zero => rfl
        | succ m => rw [t] at e; simp at e
      rw [this] at e
      cases e
      exact .inr ⟨by omega, rfl⟩
  refine ⟨⟨x.hr.fH, by simp [x.hr.len], fun n b w e1 e2 => ?_, fun n b e1 => ?_, x.hr.tb, x.hr.nF, fun m n b e1 e2 => ?_⟩, x.rH, x.rF, fun n b e1 => ?_, x.rO, x.nR, x.sl, fun i sv e1 w e2 => ?_, x.no⟩
  · rcases key n b e1 with z | ⟨rfl, rfl⟩
    · have hl := (List.getElem?_eq_some_iff.mp z).1
      rw [List.getElem?_append_left (by rw [← x.hr.len]; exact hl)] at e2
      exact (x.hr.obj n b w z e2).monoF (Sub.refl _) (Pre.snoc _ _)
    · rw [x.hr.len, List.getElem?_append_right (Nat.le_refl _)] at e2
      simp at e2
      rw [← e2]
      exact q.monoF (Sub.refl _) (Pre.snoc _ _)
  · rcases key n b e1 with z | ⟨rfl, rfl⟩
    · exact x.hr.mF n b z
    · exact p.nF
  · rcases key m b e1 with z | ⟨z1, z2⟩
    · rcases key n b e2 with t | ⟨t1, t2⟩
      · exact x.hr.nd m n b z t
      · rw [t2] at z; exact absurd z (p.nM m)
    · rcases key n b e2 with t | ⟨t1, t2⟩
      · rw [z2] at t; exact absurd t (p.nM n)
      · omega
  · rcases key n b e1 with z | ⟨rfl, rfl⟩
    · exact x.rM n b z
    · exact p.nR
  · have y := x.slot i sv e1 w e2
    have nb : ∀ b, (∀ n : Nat, phi[n]? ≠ some b) → b ≠ a → ∀ n : Nat, (phi ++ [a])[n]? ≠ some b := fun b z1 z2 n z3 => by
      rcases key n b z3 with z | ⟨_, z⟩
      · exact z1 n z
      · exact z2 z
    cases sv with
    | un => trivial
    | v d => obtain ⟨v, t, t2⟩ := y; exact ⟨v, t, VRep.mono (Sub.refl _) (Pre.snoc _ _) _ _ t2⟩
    | ol xs =>
      obtain ⟨c, hb, ne⟩ := SRep.ne x e1 e2 (.inl ⟨xs, rfl⟩) p.nO
      obtain ⟨b, vs, t1, t2, t3, t4, t5⟩ := y
      rw [hb] at t1
      cases t1
      exact ⟨c, vs, hb, t2, VReps.mono (Sub.refl _) (Pre.snoc _ _) _ _ t3, t4, nb _ t5 ne⟩
    | od xs =>
      obtain ⟨c, hb, ne⟩ := SRep.ne x e1 e2 (.inr ⟨xs, rfl⟩) p.nO
      obtain ⟨b, vs, t1, t2, t3, t4, t5⟩ := y
      rw [hb] at t1
      cases t1
      exact ⟨c, vs, hb, t2, KReps.mono (Sub.refl _) (Pre.snoc _ _) _ _ t3, t4, nb _ t5 ne⟩
end

section
variable (K : PySem.W.Frag) (C : Stc)
def sPost (W : WX) (D : Ends) (F R : Hp) (phi : List Addr) (x : SRes) : Prop :=
  match x with
  | .nx r' h' => ∀ F' phi' σ' H', Sub F F' → Pre phi phi' → SR K C F' R phi' r' h' σ' H' → D.nx σ' H'
  | .bk r' h' => ∀ F' phi' σ' H', Sub F F' → Pre phi phi' → SR K C F' R phi' r' h' σ' H' → D.bk σ' H'
  | .ct r' h' => ∀ F' phi' σ' H', Sub F F' → Pre phi phi' → SR K C F' R phi' r' h' σ' H' → D.ct σ' H'
  | .rt v h' => ∀ F' phi' x H', Sub F F' → Pre phi phi' → SR K C F' R phi' [] h' [] H' → NewV K F' R phi' [] [] H' v x → D.rt x H'
  | .exc c h' => ∀ F' phi' σ' H', Sub F F' → Pre phi phi' → SR K C F' R phi' [] h' [] H' → W (.ref (evK K c)) none σ' H'
  | .stk => False
def tS (W : WX) (f : Env → Hh → SRes) : TS := fun D σ H => ∃ F R phi r h, SR K C F R phi r h σ H ∧ sPost K C W D F R phi (f r h)
end
section
variable {K : PySem.W.Frag} {C : Stc} {W : WX} {D D' : Ends} {α β : Type} {rep : Hp → List Addr → α → β → Prop} {F F' R R' : Hp} {phi phi' : List Addr} {r : Env} {h h' : Hh} {σ : L2.St} {H H' : Hp}
theorem sPost.mono {x : SRes} (p : sPost K C W D F R phi x) (s : Sub F F') (q : Pre phi phi') : sPost K C W D F' R phi' x := by
  cases x with
  | nx a h' => exact fun F2 phi2 b H2 s2 q2 S => p F2 phi2 b H2 (s.trans s2) (q.trans q2) S
  | bk a h' => exact fun F2 phi2 b H2 s2 q2 S => p F2 phi2 b H2 (s.trans s2) (q.trans q2) S
  | ct a h' => exact fun F2 phi2 b H2 s2 q2 S => p F2 phi2 b H2 (s.trans s2) (q.trans q2) S
  | rt a h' => exact fun F2 phi2 b H2 s2 q2 S => p F2 phi2 b H2 (s.trans s2) (q.trans q2) S
  | exc c h' => exact fun F2 phi2 b H2 s2 q2 S => p F2 phi2 b H2 (s.trans s2) (q.trans q2) S
  | stk => exact p
/-- a value first, then the rest of the statement -/
def rS {α : Type} (x : Res α) (g : α → Hh → SRes) : SRes :=
  match x with
  | .ok a h => g a h
  | .exc c h => .exc c h
  | .stk => .stk
theorem tS_bind {f : Env → Hh → Res α} {g : α → Hh → SRes} (S : SR K C F R phi r h σ H) (p : sPost K C W D F R phi (rS (f r h) g)) :
    tR K C W rep f σ H fun b H1 => ∃ F1 phi1 a h1, Sub F F1 ∧ Pre phi phi1 ∧ SR K C F1 R phi1 r h1 σ H1 ∧ rep F1 phi1 a b ∧ f r h = .ok a h1 ∧ sPost K C W D F1 R phi1 (g a h1) := by
  refine ⟨F, R, phi, r, h, S, ?_⟩
  cases e : f r h with
  | ok a h1 =>
    rw [e] at p
    intro F' phi' b H' s q S' rp
    exact ⟨F', phi', a, h1, s, q, S', rp, rfl, p.mono s q⟩
  | exc c h1 =>
    rw [e] at p
    exact fun F' phi' H' s q S' => p F' phi' σ H' s q S'.bare
  | stk =>
    rw [e] at p
    exact p
theorem tSF_bind {f : Env → Hh → Res SV} {g : SV → Hh → SRes} (S : SR K C F R phi r h σ H) (p : sPost K C W D F R phi (rS (f r h) g)) :
    tF K C W f σ H fun b H1 => ∃ F1 phi1 a h1, Sub F F1 ∧ Pre phi phi1 ∧ SR K C F1 R phi1 r h1 σ H1 ∧ NewV K F1 R phi1 r σ H1 a b ∧ f r h = .ok a h1 ∧ sPost K C W D F1 R phi1 (g a h1) := by
  refine ⟨F, R, phi, r, h, S, ?_⟩
  cases e : f r h with
  | ok a h1 =>
    rw [e] at p
    intro F' phi' b H' s q S' rp
    exact ⟨F', phi', a, h1, s, q, S', rp, rfl, p.mono s q⟩
  | exc c h1 =>
    rw [e] at p
    exact fun F' phi' H' s q S' => p F' phi' σ H' s q S'.bare
  | stk =>
    rw [e] at p
    exact p
theorem tSI_bind {f : Env → Hh → Res (List MP.D)} {g : List MP.D → Hh → SRes} (S : SR K C F R phi r h σ H) (p : sPost K C W D F R phi (rS (f r h) g)) :
    tI K C W f σ H fun J H1 => ∃ F1 phi1 a h1, Sub F F1 ∧ Pre phi phi1 ∧ SR K C F1 R phi1 r h1 σ H1 ∧ IW K F1 phi1 J a ∧ sPost K C W D F1 R phi1 (g a h1) := by
  refine ⟨F, R, phi, r, h, S, ?_⟩
  cases e : f r h with
  | ok a h1 =>
    rw [e] at p
    intro F' phi' b H' s q S' rp
    exact ⟨F', phi', a, h1, s, q, S', rp, p.mono s q⟩
  | exc c h1 =>
    rw [e] at p
    exact fun F' phi' H' s q S' => p F' phi' σ H' s q S'.bare
  | stk =>
    rw [e] at p
    exact p
theorem sPost.ends {x : SRes} (p : sPost K C W D F R phi x) (h1 : ∀ σ H, D.nx σ H → D'.nx σ H) (h2 : ∀ v H, D.rt v H → D'.rt v H) (h3 : ∀ σ H, D.bk σ H → D'.bk σ H) (h4 : ∀ σ H, D.ct σ H → D'.ct σ H) : sPost K C W D' F R phi x := by
  cases x with
  | nx a h' => exact fun F2 phi2 b H2 s2 q2 S => h1 _ _ (p F2 phi2 b H2 s2 q2 S)
  | bk a h' => exact fun F2 phi2 b H2 s2 q2 S => h3 _ _ (p F2 phi2 b H2 s2 q2 S)
  | ct a h' => exact fun F2 phi2 b H2 s2 q2 S => h4 _ _ (p F2 phi2 b H2 s2 q2 S)
  | rt a h' => exact fun F2 phi2 b H2 s2 q2 S n => h2 _ _ (p F2 phi2 b H2 s2 q2 S n)
  | exc c h' => exact p
  | stk => exact p
end
end MP


set_option Elab.async false
set_option linter.all false
set_option maxHeartbeats 1000000
/-! Statements: the rules. -/
namespace MP
open PySem PySem.Spec PyProof.Rows L2
section
variable {X : Cx} {C : Stc} {W : WX} {k : Nat} {P : Prog} {cl : Nat → List D → Hh → Res SV} {a b c e tg : Expr} {me ma mb mc : E} {pos p : Pos} {st : Stmt} {sts : List Stmt} {ms : S} {mss : Ss}
abbrev tSt (X : Cx) (C : Stc) (W : WX) (P : Prog) (cl : Nat → List D → Hh → Res SV) (s : S) : TS := tS X.K C W (evS P cl s)
abbrev tSs (X : Cx) (C : Stc) (W : WX) (P : Prog) (cl : Nat → List D → Hh → Res SV) (s : Ss) : TS := tS X.K C W (evSs P cl s)

theorem s_nilS : PSs X [] (tSs X C W P cl .nil) := pss_nil.imp fun D σ H ⟨F, R, phi, r, h, S, q⟩ => by
  rw [evSs] at q
  exact q F phi σ H (Sub.refl _) (Pre.refl _) S
theorem s_consS (h1 : PS X st (tSt X C W P cl ms)) (h2 : PSs X sts (tSs X C W P cl mss)) : PSs X (st :: sts) (tSs X C W P cl (.cons ms mss)) := (pss_cons h1 h2).imp fun D σ H ⟨F, R, phi, r, h, S, q⟩ => by
  rw [evSs] at q
  refine ⟨F, R, phi, r, h, S, ?_⟩
  cases e : evS P cl ms r h with
  | nx r1 h1 =>
    rw [e] at q
    exact fun F' phi' σ' H' s t S' => ⟨F', R, phi', r1, h1, S', sPost.mono q s t⟩
  | bk r1 h1 => rw [e] at q; exact q
  | ct r1 h1 => rw [e] at q; exact q
  | rt v h1 => rw [e] at q; exact q
  | exc c h1 => rw [e] at q; exact q
  | stk => rw [e] at q; exact q
theorem tF.mono {K : PySem.W.Frag} {f : Env → Hh → Res SV} {σ : L2.St} {H : Hp} {Q Q' : VK} (p : tF K C W f σ H Q) (hq : ∀ b H, Q b H → Q' b H) : tF K C W f σ H Q' := by
  obtain ⟨F, R, phi, r, h, S, q⟩ := p
  exact ⟨F, R, phi, r, h, S, q.mono (Sub.refl _) (Pre.refl _) hq⟩
/-! ### values and names -/
def noComp : Expr → Bool
  | .ListComp .. => false
  | .SetComp .. => false
  | .DictComp .. => false
  | _ => true
theorem swaps_no {e : Expr} {t : Option Expr} {l : Nat} {env : PySem.Env} (h : noComp e = true) : swapsWith e t l env = pure false := by
  cases e <;> first | rfl | (simp [noComp] at h)
theorem s_expr (hn : noComp e = true) (he : PE X e (tE X C W P cl me)) : PS X (.Expr e pos) (tSt X C W P cl (.expr me)) := (ps_expr he (swaps_no hn)).imp fun D σ H ⟨F, R, phi, r, h, S, q⟩ => by
  have eq : evS P cl (.expr me) r h = rS (evE P cl me r h) fun _ h1 => .nx r h1 := by
    rw [evS]; cases evE P cl me r h <;> rfl
  rw [eq] at q
  exact (tS_bind S q).mono fun x H1 ⟨F1, phi1, d, h1, s1, q1, S1, rx, _, p1⟩ => p1 F1 phi1 σ H1 (Sub.refl _) (Pre.refl _) S1
theorem asg_eq (t : Tg) (me : E) (r : Env) (h : Hh) : evS P cl (.asg t me) r h = rS (evE P cl me r h) fun d h1 => match bindTg t d r h1 with
    | some r1 => .nx r1 h1
    | none => .stk := by
  rw [evS]; cases evE P cl me r h <;> rfl
theorem s_asgT {t : Tg} {te : TE} (hp : PS X st (tAsg te (tT X.K C t))) (ht : ∀ σ H Q, tE X C W P cl me σ H Q → te σ H Q) : PS X st (tSt X C W P cl (.asg t me)) := hp.imp fun D σ H ⟨F, R, phi, r, h, S, q⟩ => by
  rw [asg_eq] at q
  refine ht _ _ _ ((tS_bind S q).mono fun x H1 ⟨F1, phi1, d, h1, s1, q1, S1, rx, _, p1⟩ => ?_)
  cases e1 : bindTg t d r h1 with
  | none => rw [e1] at p1; exact p1.elim
  | some r1 =>
    rw [e1] at p1
    exact ⟨F1, R, phi1, r, h1, d, r1, S1, rx, e1, fun F' σ' H' s2 S2 _ _ => p1 F' phi1 σ' H' s2 (Pre.refl _) S2⟩
theorem s_asgN {i : Nat} {te : TE} (hp : PS X st (tAsg te (gName i))) (ht : ∀ σ H Q, tE X C W P cl me σ H Q → te σ H Q) : PS X st (tSt X C W P cl (.asg (.nm i) me)) := hp.imp fun D σ H ⟨F, R, phi, r, h, S, q⟩ => by
  rw [asg_eq] at q
  refine ht _ _ _ ((tS_bind S q).mono fun x H1 ⟨F1, phi1, d, h1, s1, q1, S1, rx, _, p1⟩ => ?_)
  simp only [bindTg] at p1
  by_cases hl : i < r.length
  · rw [if_pos hl] at p1
    exact p1 F1 phi1 _ H1 (Sub.refl _) (Pre.refl _) (S1.setV rx i)
  · rw [if_neg hl] at p1; exact p1.elim
/-- to an own slot -/
theorem s_asgO {i : Nat} {te : TE} (hp : PS X st (tAsg te (gName i))) (ht : ∀ σ H Q, tF X.K C W (evF P cl me) σ H Q → te σ H Q) : PS X st (tSt X C W P cl (.asgO i me)) := hp.imp fun D σ H ⟨F, R, phi, r, h, S, q⟩ => by
  have eq : evS P cl (.asgO i me) r h = rS (evF P cl me r h) fun v h1 => match v with
      | .ol xs => if i < r.length then .nx (r.set i (.ol xs)) h1 else .stk
      | .od xs => if i < r.length then .nx (r.set i (.od xs)) h1 else .stk
      | _ => .stk := by
    rw [evS]
    cases evF P cl me r h with
    | ok v h1 => cases v <;> rfl
    | exc c h1 => rfl
    | stk => rfl
  rw [eq] at q
  refine ht _ _ _ (tF.mono (tSF_bind S q) fun x H1 ⟨F1, phi1, v, h1, s1, q1, S1, n, _, p1⟩ => ?_)
  cases v with
  | un => exact p1.elim
  | v d => exact p1.elim
  | ol xs =>
    simp only at p1
    by_cases hl : i < r.length
    · rw [if_pos hl] at p1
      obtain ⟨ad, vs, rfl, e2, rv, ap⟩ := n
      exact p1 F1 phi1 _ H1 (Sub.refl _) (Pre.refl _) (S1.setOl e2 rv ap i)
    · rw [if_neg hl] at p1; exact p1.elim
  | od xs =>
    simp only at p1
    by_cases hl : i < r.length
    · rw [if_pos hl] at p1
      obtain ⟨ad, vs, rfl, e2, rv, ap⟩ := n
      exact p1 F1 phi1 _ H1 (Sub.refl _) (Pre.refl _) (S1.setOd e2 rv ap i)
    · rw [if_neg hl] at p1; exact p1.elim

/-! ### two names, three names at once -/
theorem evEs2 (ma mb : E) (r : Env) (h : Hh) : evEs P cl (.cons ma (.cons mb .nil)) r h = (evE P cl ma r h).bind fun d h1 => (evE P cl mb r h1).bind fun d2 h2 => .ok [d, d2] h2 := by
  rw [evEs]
  cases evE P cl ma r h with
  | ok d h1 => simp only [Res.bind_ok, evEs]; cases evE P cl mb r h1 <;> rfl
  | _ => rfl
theorem evEs3 (ma mb mc : E) (r : Env) (h : Hh) : evEs P cl (.cons ma (.cons mb (.cons mc .nil))) r h = (evE P cl ma r h).bind fun d h1 => (evE P cl mb r h1).bind fun d2 h2 => (evE P cl mc r h2).bind fun d3 h3 => .ok [d, d2, d3] h3 := by
  rw [evEs]
  cases evE P cl ma r h with
  | ok d h1 =>
    simp only [Res.bind_ok, evEs2]
    cases evE P cl mb r h1 with
    | ok d2 h2 => simp only [Res.bind_ok]; cases evE P cl mc r h2 <;> rfl
    | _ => rfl
  | _ => rfl
theorem asgT_eq (t : Tg) (mes : Es) (r : Env) (h : Hh) : evS P cl (.asg t (.tup mes)) r h = rS (evEs P cl mes r h) fun ds h1 => match bindTg t (.tup ds) r h1 with
    | some r1 => .nx r1 h1
    | none => .stk := by
  rw [evS, evE]; cases evEs P cl mes r h <;> rfl
theorem s_par2 {i j : Nat} {st : Stmt} {ta : TA} (hp : PS X st (tPar i j ta)) (hij : i ≠ j) (ht : ∀ σ H Q, tEs X C W P cl (.cons ma (.cons mb .nil)) σ H Q → ta σ H Q) :
    PS X st (tSt X C W P cl (.asg (.tup [.nm i, .nm j]) (.tup (.cons ma (.cons mb .nil))))) := hp.imp fun D σ H ⟨F, R, phi, r, h, S, q⟩ => by
  rw [asgT_eq] at q
  refine ht _ _ _ ((tS_bind S q).mono fun vs H1 ⟨F1, phi1, ds, h1, s1, q1, S1, rx, eq, p1⟩ => ?_)
  rw [evEs2] at eq
  obtain ⟨d, h2, _, eq⟩ := bind_ok_inv eq
  obtain ⟨d2, h3, _, eq⟩ := bind_ok_inv eq
  cases eq
  obtain ⟨v, w, rfl, rv, rw'⟩ := vreps2 rx
  refine ⟨v, w, rfl, ?_⟩
  simp only [bindTg, bindTgs, List.length_cons, List.length_nil] at p1
  by_cases hi : i < r.length
  · by_cases hj : j < r.length
    · simp [hi, hj] at p1
      exact p1 F1 phi1 _ H1 (Sub.refl _) (Pre.refl _) ((S1.setV rv i).setV rw' j)
    · simp [hi, hj] at p1; exact p1.elim
  · simp [hi] at p1; exact p1.elim
theorem vreps3 {K : PySem.W.Frag} {F : Hp} {phi : List Addr} {d e f : D} {vs : List V} (q : VReps K F phi [d, e, f] vs) : ∃ v w u, vs = [v, w, u] ∧ VRep K F phi d v ∧ VRep K F phi e w ∧ VRep K F phi f u := by
  simp only [VReps] at q
  obtain ⟨v, ws, rfl, q1, w, us, rfl, q2, u, ts, rfl, q3, rfl⟩ := q
  exact ⟨v, w, u, rfl, q1, q2, q3⟩
theorem s_par3 {i j l : Nat} {st : Stmt} {ta : TA} (hp : PS X st (fun D σ H => ta σ H fun vs H1 => ∃ v w u, vs = [v, w, u] ∧ D.nx (((σ.set i (some v)).set j (some w)).set l (some u)) H1)) (ht : ∀ σ H Q, tEs X C W P cl (.cons ma (.cons mb (.cons mc .nil))) σ H Q → ta σ H Q) :
    PS X st (tSt X C W P cl (.asg (.tup [.nm i, .nm j, .nm l]) (.tup (.cons ma (.cons mb (.cons mc .nil)))))) := hp.imp fun D σ H ⟨F, R, phi, r, h, S, q⟩ => by
  rw [asgT_eq] at q
  refine ht _ _ _ ((tS_bind S q).mono fun vs H1 ⟨F1, phi1, ds, h1, s1, q1, S1, rx, eq, p1⟩ => ?_)
  rw [evEs3] at eq
  obtain ⟨d, h2, _, eq⟩ := bind_ok_inv eq
  obtain ⟨d2, h3, _, eq⟩ := bind_ok_inv eq
  obtain ⟨d3, h4, _, eq⟩ := bind_ok_inv eq
  cases eq
  obtain ⟨v, w, u, rfl, rv, rw', ru⟩ := vreps3 rx
  refine ⟨v, w, u, rfl, ?_⟩
  simp only [bindTg, bindTgs, List.length_cons, List.length_nil] at p1
  by_cases hi : i < r.length
  · by_cases hj : j < r.length
    · by_cases hl : l < r.length
      · simp [hi, hj, hl] at p1
        exact p1 F1 phi1 _ H1 (Sub.refl _) (Pre.refl _) (((S1.setV rv i).setV rw' j).setV ru l)
      · simp [hi, hj, hl] at p1; exact p1.elim
    · simp [hi, hj] at p1; exact p1.elim
  · simp [hi] at p1; exact p1.elim

/-! ### own lists -/
theorem s_freeze {i : Nat} (hp : PSs X sts (tSs X C W P cl mss)) : PSs X sts (tSs X C W P cl (.cons (.freeze i) mss)) := hp.imp fun D σ H ⟨F, R, phi, r, h, S, q⟩ => by
  rw [evSs, evS] at q
  cases e : r[i]? with
  | none => rw [e] at q; exact q.elim
  | some sv =>
    rw [e] at q
    have hl2 : i < σ.length := by rw [← S.sl]; exact (List.getElem?_eq_some_iff.mp e).1
    have e2 : σ[i]? = some σ[i] := by simp [hl2]
    have y := S.slot i sv e _ e2
    cases sv with
    | un => exact q.elim
    | v d => exact ⟨F, R, phi, r, h, S, q⟩
    | ol xs =>
      obtain ⟨ad, vs, z, z1, z2, z3, z4⟩ := y
      have o : Own r σ i ad := ⟨⟨_, e, .inl ⟨xs, rfl⟩⟩, by rw [e2, z]⟩
      exact ⟨_, R, phi, _, h, S.frzL o z1 z2, sPost.mono q (Sub.updF z3) (Pre.refl _)⟩
    | od xs =>
      obtain ⟨ad, vs, z, z1, z2, z3, z4⟩ := y
      have o : Own r σ i ad := ⟨⟨_, e, .inr ⟨xs, rfl⟩⟩, by rw [e2, z]⟩
      exact ⟨_, R, phi, _, h, S.frzD o z1 z2, sPost.mono q (Sub.updF z3) (Pre.refl _)⟩
theorem own_of {K : PySem.W.Frag} {F R : Hp} {phi : List Addr} {r : Env} {h : Hh} {σ : L2.St} {H : Hp} (S : SR K C F R phi r h σ H) {i : Nat} {xs : List D} (e : r[i]? = some (.ol xs)) : ∃ ad vs, σ[i]? = some (some (.ref ad)) ∧ H ad = some (.lst vs) ∧ VReps K F phi xs vs ∧ Own r σ i ad := by
  have hl2 : i < σ.length := by rw [← S.sl]; exact (List.getElem?_eq_some_iff.mp e).1
  have e2 : σ[i]? = some σ[i] := by simp [hl2]
  obtain ⟨ad, vs, z, z1, z2, z3, z4⟩ := S.slot i _ e _ e2
  exact ⟨ad, vs, by rw [e2, z], z1, z2, ⟨_, e, .inl ⟨xs, rfl⟩⟩, by rw [e2, z]⟩
theorem own_ofD {K : PySem.W.Frag} {F R : Hp} {phi : List Addr} {r : Env} {h : Hh} {σ : L2.St} {H : Hp} (S : SR K C F R phi r h σ H) {i : Nat} {xs : List (Ky × D)} (e : r[i]? = some (.od xs)) : ∃ ad vs, σ[i]? = some (some (.ref ad)) ∧ H ad = some (.dK vs) ∧ KReps K F phi xs vs ∧ Own r σ i ad := by
  have hl2 : i < σ.length := by rw [← S.sl]; exact (List.getElem?_eq_some_iff.mp e).1
  have e2 : σ[i]? = some σ[i] := by simp [hl2]
  obtain ⟨ad, vs, z, z1, z2, z3, z4⟩ := S.slot i _ e _ e2
  exact ⟨ad, vs, by rw [e2, z], z1, z2, ⟨_, e, .inr ⟨xs, rfl⟩⟩, by rw [e2, z]⟩
theorem evE_env {e : E} {r : Env} {h h1 : Hh} {d : D} (q : evE P cl e r h = .ok d h1) : True := trivial
theorem s_app {i : Nat} {x : Str} {p2 p3 p4 : Pos} (hN : X.N[i]? = some x) (hv : Vis X.env.scope x) (hd : (x == ("__debug__" : Str)) = false) (hcd : (x == ("__classdict__" : Str)) = false) (hs : notStar e = true) (he : PE X e (tE X C W P cl me)) (hli : (p2.endLine == p3.line) = true) :
    PS X (.Expr (.Call (.Attribute (.Name x p) "append" p2) [e] [] p3) p4) (tSt X C W P cl (.app i me)) := by
  have hz : starEach [e] X.env = (false, eval e X.env) :: starEach [] X.env := starEach_cons hs
  have pm := pe_bm (apos := p2) (cpos := p3) PySem.F.plainAttrs_list PySem.F.slot_list_append (by first | exact PySem.F.type_list_append | rfl) (mt_append (X := X)) (pe_var (pos := p) hN hv hd hcd) (pa_cons he pa_nil hz) rfl (by rw [hz]; rfl) hli hz rfl
  refine (ps_expr pm rfl).imp fun D σ H ⟨F, R, phi, r, h, S, q⟩ => ?_
  rw [evS] at q
  cases e0 : r[i]? with
  | none => rw [e0] at q; exact q.elim
  | some sv =>
    rw [e0] at q
    cases sv with
    | un => exact q.elim
    | v d => exact q.elim
    | od xs => exact q.elim
    | ol xs =>
      simp only at q
      have q : sPost X.K C W D F R phi (rS (evE P cl me r h) fun d h1 => if xs.length < lim then .nx (r.set i (.ol (xs ++ [d]))) h1 else .stk) := by
        revert q
        cases evE P cl me r h <;> exact fun q => q
      obtain ⟨ad, vs, z, z1, z2, o⟩ := own_of S e0
      refine ⟨.ref ad, z, .inl ⟨rfl, vs, .inl (.inl z1)⟩, ?_⟩
      refine (tS_bind S q).mono fun y H1 ⟨F1, phi1, d, h1, s1, q1, S1, rx, _, p1⟩ => ?_
      show ∃ l xs y', _
      obtain ⟨ad', vs', t, t1, t2, o'⟩ := own_of S1 e0
      rw [z] at t
      cases t
      by_cases hl : xs.length < lim
      · rw [if_pos hl] at p1
        exact ⟨ad, vs', y, rfl, rfl, t1, by rw [t2.len, ← lim_eq]; exact hl, p1 F1 phi1 σ _ (Sub.refl _) (Pre.refl _) (S1.writeOl o' (t2.app (VReps.cons rx VReps.nil)))⟩
      · rw [if_neg hl] at p1; exact p1.elim
end
end MP


set_option Elab.async false
set_option linter.all false
set_option maxHeartbeats 1000000
/-! Statements: writes to objects, branches, loops, ends. -/
namespace MP
open PySem PySem.Spec PyProof.Rows L2
section
variable {X : Cx} {C : Stc} {W : WX} {k : Nat} {P : Prog} {cl : Nat → List D → Hh → Res SV} {a b c e o tg : Expr} {me ma mb mc mo mi : E} {pos p : Pos} {st : Stmt} {sts sts2 : List Stmt} {ms : S} {mss mss2 : Ss}
def plainIx : Expr → Bool
  | .Slice .. => false
  | _ => true
theorem s_setH {i : Expr} (hn : noComp e = true) (hix : plainIx i = true) (he : PE X e (tE X C W P cl me)) (ho : PE X o (tE X C W P cl mo)) (hi : PE X i (tE X C W P cl mi)) :
    PS X (.Assign [.Subscript o i p] e pos) (tSt X C W P cl (.setH mo mi me)) := by
  refine (ps_asg he (pg_sub (pos := p) ho hi set_list (by intro v; cases i <;> first | rfl | (simp [plainIx] at hix))) (by simp only [swapsWithSole]; exact swaps_no hn) (by cases e <;> rfl) rfl).imp fun D σ H ⟨F, R, phi, r, h, S, q⟩ => ?_
  have eq : evS P cl (.setH mo mi me) r h = rS (evE P cl me r h) fun d h1 => rS (evE P cl mo r h1) fun x h2 => rS (evE P cl mi r h2) fun y h3 => match x, y with
      | .ref n, .int j => match h3[n]? with
        | some (.lst xs) => match L2.ixN xs.length j with
          | some k => .nx r (h3.set n (.lst (xs.set k d)))
          | none => .stk
        | _ => .stk
      | _, _ => .stk := by
    rw [evS, evEs3]
    cases evE P cl me r h with
    | ok d h1 =>
      simp only [Res.bind_ok, rS]
      cases evE P cl mo r h1 with
      | ok x h2 =>
        simp only [Res.bind_ok]
        cases evE P cl mi r h2 with
        | ok y h3 => cases x <;> cases y <;> rfl
        | _ => rfl
      | _ => rfl
    | _ => rfl
  rw [eq] at q
  refine (tS_bind S q).mono fun v H1 ⟨F1, phi1, d, h1, s1, q1, S1, rx, _, p1⟩ => ?_
  refine (tS_bind S1 p1).mono fun x H2 ⟨F2, phi2, dx, h2, s2, q2, S2, ry, _, p2⟩ => ?_
  refine (tS_bind S2 p2).mono fun y H3 ⟨F3, phi3, dy, h3, s3, q3, S3, rz, _, p3⟩ => ?_
  cases dx with
  | ref n =>
    cases dy with
    | int j =>
      simp only at p3
      cases e1 : h3[n]? with
      | none => rw [e1] at p3; exact p3.elim
      | some u =>
        rw [e1] at p3
        cases u with
        | lst xs =>
          simp only at p3
          cases e2 : L2.ixN xs.length j with
          | none => rw [e2] at p3; exact p3.elim
          | some k =>
            rw [e2] at p3
            simp only [VRep] at ry rz
            obtain ⟨ad, ex, ep⟩ := ry
            have ep := q3 n ad ep
            obtain ⟨vs, t1, t2⟩ := (show ∃ vs, H3 ad = some (.lst vs) ∧ VReps X.K F3 phi3 xs vs from S3.hr.obj n ad _ ep e1)
            refine ⟨ad, vs, j, k, ex, rz, t1, by rw [t2.len]; exact e2, ?_⟩
            refine p3 F3 phi3 σ _ (Sub.refl _) (Pre.refl _) (S3.writeH ep ?_)
            exact ⟨_, upd_same, VReps.set k t2 (VRep.mono (s2.trans s3) (q2.trans q3) _ _ rx)⟩
        | dct _ => exact p3.elim
        | ins _ _ => exact p3.elim
    | _ => exact p3.elim
  | _ => cases dy <;> exact p3.elim
theorem s_if {a b : List Stmt} (hc : PT X c (tC X C W P cl mc)) (ha : PSs X a (tSs X C W P cl mss)) (hb : PSs X b (tSs X C W P cl mss2)) : PS X (.If c a b pos) (tSt X C W P cl (.ifs mc mss mss2)) := (ps_if hc ha hb).imp fun D σ H ⟨F, R, phi, r, h, S, q⟩ => by
  have eq : evS P cl (.ifs mc mss mss2) r h = rS (evC P cl mc r h) fun k h1 => if k = true then evSs P cl mss r h1 else evSs P cl mss2 r h1 := by
    rw [evS]; cases evC P cl mc r h <;> rfl
  rw [eq] at q
  refine (tS_bind (rep := repB) S q).mono fun k H1 ⟨F1, phi1, k', h1, s1, q1, S1, rx, _, p1⟩ => ?_
  obtain rfl : k' = k := rx
  cases k' with
  | true => exact ⟨F1, R, phi1, r, h1, S1, p1⟩
  | false => exact ⟨F1, R, phi1, r, h1, S1, p1⟩
theorem s_while {body : List Stmt} (hp : PassesOwn (model X.prog X.w) X.A X.env X.xe) (hc : PT X c (tC X C W P cl mc)) (hb : PSs X body (tSs X C W P cl mss)) : PS X (.While c body [] pos) (tSt X C W P cl (.whl mc mss)) := (ps_while hp hc hb).imp fun D σ H ⟨F, R, phi, r, h, S, q⟩ => by
  rw [evS] at q
  generalize hfu : FU = fu at q
  refine ⟨fun m σ H => ∃ F' phi' r h, Sub F F' ∧ Pre phi phi' ∧ SR X.K C F' R phi' r h σ H ∧ sPost X.K C W D F' R phi' (whileGo (evC P cl mc) (fun r h => evSs P cl mss r h) m r h), ⟨fu, F, phi, r, h, Sub.refl _, Pre.refl _, S, q⟩, ?_⟩
  rintro m σ1 H1 ⟨F1, phi1, r1, h1, s1, q1, S1, w1⟩
  cases m with
  | zero => rw [whileGo] at w1; exact w1.elim
  | succ m =>
    have eq : whileGo (evC P cl mc) (fun r h => evSs P cl mss r h) (m + 1) r1 h1 = rS (evC P cl mc r1 h1) fun k h2 => if k = true then (match evSs P cl mss r1 h2 with
        | .nx r2 h3 => whileGo (evC P cl mc) (fun r h => evSs P cl mss r h) m r2 h3
        | .ct r2 h3 => whileGo (evC P cl mc) (fun r h => evSs P cl mss r h) m r2 h3
        | .bk r2 h3 => .nx r2 h3
        | .rt v h3 => .rt v h3
        | .exc c h3 => .exc c h3
        | .stk => .stk) else .nx r1 h2 := by
      rw [whileGo]
      cases evC P cl mc r1 h1 with
      | ok k h2 => cases k <;> rfl
      | _ => rfl
    rw [eq] at w1
    refine (tS_bind (rep := repB) S1 w1).mono fun k H2 ⟨F2, phi2, k', h2, s2, q2, S2, rx, _, p2⟩ => ?_
    obtain rfl : k' = k := rx
    cases k' with
    | false => exact p2 F2 phi2 σ1 H2 (Sub.refl _) (Pre.refl _) S2
    | true =>
      simp only [if_true] at p2 ⊢
      refine ⟨fun σ H => ∃ F' phi' r h, Sub F F' ∧ Pre phi phi' ∧ SR X.K C F' R phi' r h σ H ∧ sPost X.K C W D F' R phi' (whileGo (evC P cl mc) (fun r h => evSs P cl mss r h) m r h), fun σ' H' z => ⟨m, Nat.lt_succ_self m, z⟩, F2, R, phi2, r1, h2, S2, ?_⟩
      cases e : evSs P cl mss r1 h2 with
      | nx r2 h3 =>
        rw [e] at p2
        exact fun F' phi' σ' H' s t S' => ⟨F', phi', r2, h3, s1.trans (s2.trans s), q1.trans (q2.trans t), S', sPost.mono p2 s t⟩
      | ct r2 h3 =>
        rw [e] at p2
        exact fun F' phi' σ' H' s t S' => ⟨F', phi', r2, h3, s1.trans (s2.trans s), q1.trans (q2.trans t), S', sPost.mono p2 s t⟩
      | bk r2 h3 => rw [e] at p2; exact p2
      | rt v h3 => rw [e] at p2; exact p2
      | exc c h3 => rw [e] at p2; exact p2
      | stk => rw [e] at p2; exact p2
theorem s_for {t : Tg} {it : It} {iter : Expr} {body : List Stmt} (hit : ∀ r h, evS P cl (.for t it mss) r h = rS (evIt P cl it r h) fun xs h1 => forGo (bindTg t) (fun r h => evSs P cl mss r h) xs r h1)
    (hp : PassesOwn (model X.prog X.w) X.A X.env X.xe) (hc : X.calm = true) (hi : PI X tg iter (tI X.K C W (evIt P cl it))) (hg : PG X tg (tT X.K C t)) (hb : PSs X body (tSs X C W P cl mss)) (hs : ∀ x, foldedSetIterable iter X.env x = pure x) :
    PS X (.For tg iter body [] pos) (tSt X C W P cl (.for t it mss)) := (ps_for hp hc hi hg hb hs).imp fun D σ H ⟨F, R, phi, r, h, S, q⟩ => by
  rw [hit] at q
  obtain ⟨F0, R0, phi0, r0, h0, S0, p0⟩ := tSI_bind S q
  refine ⟨F0, R0, phi0, r0, h0, S0, ?_⟩
  cases e0 : evIt P cl it r0 h0 with
  | exc c h' => rw [e0] at p0; exact p0
  | stk => rw [e0] at p0; exact p0
  | ok xs' h' =>
    rw [e0] at p0
    intro Fa phia J H1 sa qa Sa iw
    obtain ⟨F1, phi1, xs, h1, s1, q1, S1, w1, p1⟩ := p0 Fa phia J H1 sa qa Sa iw
    refine for_it w1.w (fun i σ H => ∃ F' phi' r h, Sub F1 F' ∧ Pre phi1 phi' ∧ SR X.K C F' R phi' r h σ H ∧ sPost X.K C W D F' R phi' (forGo (bindTg t) (fun r h => evSs P cl mss r h) (xs.drop i) r h)) ?_ ?_ ?_ ?_
    · exact ⟨F1, phi1, r, h1, Sub.refl _, Pre.refl _, S1, by simpa using p1⟩
    · rintro i σ H _ ⟨F2, phi2, r2, h2, s2, _, S2, _⟩
      exact s2.trans S2.hr.fH
    · rintro i x σ2 H2 H' hi ⟨F2, phi2, r2, h2, s2, q2, S2, p2⟩ ⟨d, ed, hy⟩
      obtain ⟨F3, g3, rd⟩ := hy F2 s2 S2.hr.fH
      have rd := VRep.mono (Sub.refl F3) q2 _ _ rd
      have S3 := S2.grow g3
      have s3 := g3.sub S2.hr.fH
      have edrop : xs.drop i = d :: xs.drop (i + 1) := by
        rw [List.drop_eq_getElem_cons hi]
        have : xs[i] = d := by
          rw [List.getElem?_eq_getElem hi] at ed
          exact Option.some.inj ed
        rw [this]
      rw [edrop, forGo] at p2
      cases eb : bindTg t d r2 h2 with
      | none => rw [eb] at p2; exact p2.elim
      | some r3 =>
        rw [eb] at p2
        simp only at p2
        refine ⟨F3, R, phi2, r2, h2, d, r3, S3, rd, eb, fun F4 σ4 H4 s4 S4 _ _ => ⟨F4, R, phi2, r3, h2, S4, ?_⟩⟩
        have sm : Sub F1 F4 := s2.trans (s3.trans s4)
        cases e : evSs P cl mss r3 h2 with
        | nx r5 h5 =>
          rw [e] at p2
          exact fun F' phi' σ' H' s t S' => ⟨F', phi', r5, h5, sm.trans s, q2.trans t, S', sPost.mono p2 (s3.trans (s4.trans s)) t⟩
        | ct r5 h5 =>
          rw [e] at p2
          exact fun F' phi' σ' H' s t S' => ⟨F', phi', r5, h5, sm.trans s, q2.trans t, S', sPost.mono p2 (s3.trans (s4.trans s)) t⟩
        | bk r5 h5 => rw [e] at p2; exact sPost.mono p2 (s3.trans s4) (Pre.refl _)
        | rt v h3 => rw [e] at p2; exact sPost.mono p2 (s3.trans s4) (Pre.refl _)
        | exc c h3 => rw [e] at p2; exact sPost.mono p2 (s3.trans s4) (Pre.refl _)
        | stk => rw [e] at p2; exact p2
    · rintro σ2 H2 ⟨F2, phi2, r2, h2, s2, q2, S2, p2⟩
      rw [List.drop_of_length_le (Nat.le_refl _), forGo] at p2
      exact p2 F2 phi2 σ2 H2 (Sub.refl _) (Pre.refl _) S2
/-! ### ends -/
theorem NewV.bare {K : PySem.W.Frag} {F R : Hp} {phi : List Addr} {r : Env} {σ : L2.St} {H : Hp} : ∀ {sv : SV} {v : V}, NewV K F R phi r σ H sv v → NewV K F R phi [] [] H sv v
  | .v d, v, n => n
  | .ol xs, v, ⟨a, vs, e, e2, rv, p⟩ => ⟨a, vs, e, e2, rv, p.nF, p.nR, p.nM, fun i q => q.nil⟩
  | .od xs, v, ⟨a, vs, e, e2, rv, p⟩ => ⟨a, vs, e, e2, rv, p.nF, p.nR, p.nM, fun i q => q.nil⟩
theorem s_ret (he : PE X e (tE X C W P cl me)) : PS X (.Return (some e) pos) (tSt X C W P cl (.ret me)) := (ps_ret he).imp fun D σ H ⟨F, R, phi, r, h, S, q⟩ => by
  have eq : evS P cl (.ret me) r h = rS (evE P cl me r h) fun d h1 => .rt (.v d) h1 := by
    rw [evS]; cases evE P cl me r h <;> rfl
  rw [eq] at q
  exact (tS_bind S q).mono fun x H1 ⟨F1, phi1, d, h1, s1, q1, S1, rx, _, p1⟩ => p1 F1 phi1 x H1 (Sub.refl _) (Pre.refl _) S1.bare rx
theorem s_retF (he : PE X e (tF X.K C W (evF P cl me))) : PS X (.Return (some e) pos) (tSt X C W P cl (.retF me)) := (ps_ret he).imp fun D σ H ⟨F, R, phi, r, h, S, q⟩ => by
  have eq : evS P cl (.retF me) r h = rS (evF P cl me r h) fun d h1 => .rt d h1 := by
    rw [evS]; cases evF P cl me r h <;> rfl
  rw [eq] at q
  exact tF.mono (tSF_bind S q) fun x H1 ⟨F1, phi1, d, h1, s1, q1, S1, rx, _, p1⟩ => p1 F1 phi1 x H1 (Sub.refl _) (Pre.refl _) S1.bare rx.bare
theorem s_retN : PS X (.Return none pos) (tSt X C W P cl .retN) := ps_retN.imp fun D σ H ⟨F, R, phi, r, h, S, q⟩ => by
  rw [evS] at q
  exact q F phi .non H (Sub.refl _) (Pre.refl _) S.bare (VRep.vnon (K := X.K) (F := F) (phi := phi))
theorem s_retO {i : Nat} {x : Str} (hN : X.N[i]? = some x) (hv : Vis X.env.scope x) (hd : (x == ("__debug__" : Str)) = false) (hcd : (x == ("__classdict__" : Str)) = false) : PS X (.Return (some (.Name x p)) pos) (tSt X C W P cl (.retO i)) := (ps_ret (pe_var hN hv hd hcd)).imp fun D σ H ⟨F, R, phi, r, h, S, q⟩ => by
  rw [evS] at q
  cases e : r[i]? with
  | none => rw [e] at q; exact q.elim
  | some sv =>
    rw [e] at q
    have hl2 : i < σ.length := by rw [← S.sl]; exact (List.getElem?_eq_some_iff.mp e).1
    have e2 : σ[i]? = some σ[i] := by simp [hl2]
    have y := S.slot i sv e _ e2
    cases sv with
    | un => exact q.elim
    | v d =>
      obtain ⟨v, z, rv⟩ := y
      exact ⟨v, by rw [e2, z], q F phi v H (Sub.refl _) (Pre.refl _) S.bare rv⟩
    | ol xs =>
      obtain ⟨ad, vs, z, z1, z2, z3, z4⟩ := y
      have o : Own r σ i ad := ⟨⟨_, e, .inl ⟨xs, rfl⟩⟩, by rw [e2, z]⟩
      exact ⟨.ref ad, by rw [e2, z], q F phi _ H (Sub.refl _) (Pre.refl _) S.bare ⟨ad, vs, rfl, z1, z2, z3, S.rO i ad o, z4, fun j t => t.nil⟩⟩
    | od xs =>
      obtain ⟨ad, vs, z, z1, z2, z3, z4⟩ := y
      have o : Own r σ i ad := ⟨⟨_, e, .inr ⟨xs, rfl⟩⟩, by rw [e2, z]⟩
      exact ⟨.ref ad, by rw [e2, z], q F phi _ H (Sub.refl _) (Pre.refl _) S.bare ⟨ad, vs, rfl, z1, z2, z3, S.rO i ad o, z4, fun j t => t.nil⟩⟩
theorem s_brk : PS X (.Break pos) (tSt X C W P cl .brk) := ps_break.imp fun D σ H ⟨F, R, phi, r, h, S, q⟩ => by
  rw [evS] at q
  exact q F phi _ H (Sub.refl _) (Pre.refl _) S
theorem s_cont : PS X (.Continue pos) (tSt X C W P cl .cont) := ps_continue.imp fun D σ H ⟨F, R, phi, r, h, S, q⟩ => by
  rw [evS] at q
  exact q F phi _ H (Sub.refl _) (Pre.refl _) S
theorem s_pass : PS X (.Pass pos) (tSt X C W P cl .pass) := ps_pass.imp fun D σ H ⟨F, R, phi, r, h, S, q⟩ => by
  rw [evS] at q
  exact q F phi _ H (Sub.refl _) (Pre.refl _) S
/-- a raise that is never come to -/
theorem s_raiseN {c : Ex} (hz : P.rz = false) : PS X st (tSt X C W P cl (.raise c)) := ps_never.imp fun D σ H ⟨F, R, phi, r, h, S, q⟩ => by
  rw [evS, hz, if_neg Bool.false_ne_true] at q
  exact q.elim
/-! ### own slots read -/
theorem s_alloc (hp : PE X e (tF X.K C W (evF P cl me))) (hf : ∀ r h, me.fresh = true → evF P cl me r h = (evE P cl me r h).bind fun d h1 => match d with
      | .lst xs => .ok (.ol xs) h1
      | .dct kvs => .ok (.od kvs) h1
      | _ => .stk) : PE X e (tE X C W P cl (.alloc me)) := hp.imp fun σ H Q ⟨F, R, phi, r, h, S, q⟩ => by
  rw [evE] at q
  refine ⟨F, R, phi, r, h, S, ?_⟩
  by_cases fr : me.fresh = true
  · rw [hf r h fr]
    rw [if_pos fr] at q
    cases e1 : evE P cl me r h with
    | ok d h1 =>
      rw [e1] at q
      cases d with
      | lst xs =>
        intro F' phi' v H' s1 q1 S1 n
        obtain ⟨ad, vs, rfl, e2, rv, ap⟩ := n
        refine q F' (phi' ++ [ad]) (.ref ad) H' s1 (q1.trans (Pre.snoc _ _)) (S1.intoM ap ⟨vs, e2, rv⟩) ?_
        simp only [VRep]
        exact ⟨ad, rfl, by rw [← S1.hr.len]; simp⟩
      | dct xs =>
        intro F' phi' v H' s1 q1 S1 n
        obtain ⟨ad, vs, rfl, e2, rv, ap⟩ := n
        refine q F' (phi' ++ [ad]) (.ref ad) H' s1 (q1.trans (Pre.snoc _ _)) (S1.intoM ap ⟨vs, e2, rv⟩) ?_
        simp only [VRep]
        exact ⟨ad, rfl, by rw [← S1.hr.len]; simp⟩
      | _ => exact q.elim
    | exc c h1 => rw [e1] at q; exact q
    | stk => rw [e1] at q; exact q.elim
  · rw [if_neg fr] at q
    exact q.elim
end
end MP


set_option Elab.async false
set_option linter.all false
set_option maxHeartbeats 4000000
/-! sorted of a set comprehension of ints. -/
namespace MP
open PySem PySem.Spec PyProof.Rows L2
section
variable {X : Cx}
/-- a set made in turns: what is asked of the block -/
def tScI (w : World) (wi : TI) (g : TG) (tt : TT) (te : TE) (vs : List Nat) : TE := fun σ H Q => wi σ H fun J H1 => ∀ D, H1 D = none → ∃ W : Nat → Nat → Hp → Prop, (∃ m, W 0 m (upd H1 D (SetO w D (fun _ => false) 0))) ∧ ∀ i m H, W i m H → (J.stop i H ∧ Q (.ref D) H) ∨
  (J.go i H ∧ ∃ Z : Hp → Prop, (∀ H', Z H' → ∃ m', m' < m ∧ W (i + 1) m' H') ∧ ∀ x H', J.yld i H x H' → g x (wipe σ vs) H' fun σ2 H2 => wipe σ2 vs = wipe σ vs ∧ tt σ2 H2 fun b H3 =>
    if b = true then te σ2 H3 fun y H4 => ∃ (c : Int) (S : Int → Bool) (n : Nat), y = .int c ∧ H4 D = some (SetO w D S n) ∧ n + 1 < scanBound ∧ Z (upd H4 D (SetO w D (fun j => S j || decide (j = c)) (if S c = true then n else n + 1))) else Z H3)
theorem setI_add {pins : List (Addr × Obj)} {σ : L2.St} {H : Hp} {s : Shared} {E : Value → Shared → Prop} {D : Addr} {S : Int → Bool} {n : Nat} {y : Int} {tk : Tok} {Q : Value → Shared → Prop} (I : L2.Inv X pins σ H s) (hD : H D = some (SetO X.w D S n)) (room : n + 1 < scanBound)
    (k : ∀ s', L2.Inv X pins σ (upd H D (SetO X.w D (fun j => S j || decide (j = y)) (if S y = true then n else n + 1))) s' → Q .none s') : wpAny (model X.prog X.w) X.A (call (.builtin "set.add") [.ref D, .int y tk]) Q E s := by
  refine setR_add (setO_get I hD) room fun h' sb new => k _ (I.write (e := D) (t' := s.toks + 1) (by rw [hD]; trivial) (.inl rfl) (fun b u hb hu => (sb.2 b hb).trans hu) ?_ (setO_new new))
  obtain ⟨o, _, _, _, ho, _⟩ := new
  exact ⟨o, ho⟩
theorem scI_core {pins : List (Addr × Obj)} {s : Shared} {σ : L2.St} {H : Hp} {Q : VK} {elt tg iter : Expr} {ifs : List Expr} {sc : Scope} {own : List (PySem.Str × Nat)} {pos pos' : Pos} {wi : TI} {g : TG} {tt : TT} {te : TE} {use : Option (Value → Sem Unit)} {Qf : Value → Shared → Prop}
    (calm : X.calm = true) (nd : X.N.Nodup) (I : L2.Inv X pins σ H s) (hi : PI X tg iter wi) (ok : BlkOk X.N X.env.scope sc own)
    (hg : ∀ (s : Shared) (H : Hp) (L : Addr) (cl : List (PySem.Str × Addr)) (fp : List Addr), PG (X.blk s H sc (compEnvC sc cl L X.env) fp) tg g) (ht : ∀ (s : Shared) (H : Hp) (L : Addr) (cl : List (PySem.Str × Addr)) (fp : List Addr), PTs (X.blk s H sc (compEnvC sc cl L X.env) fp) ifs tt)
    (he : ∀ (s : Shared) (H : Hp) (L : Addr) (cl : List (PySem.Str × Addr)) (fp : List Addr), PE (X.blk s H sc (compEnvC sc cl L X.env) fp) elt te) (hs : ∀ x, foldedSetIterable iter X.env x = pure x) (h : tScI X.w wi g tt te (own.map (·.2)) σ H Q)
    (fin : ∀ D L s' m H', L2.Inv X pins σ H' s' → Q (.ref D) H' → s'.heap.Ns L m → FpOk X pins H' L → compPost (model X.prog X.w) X.A X.xe use Qf (.ref D) L (.ok .next) s') :
    wpAny (model X.prog X.w) X.A (comprehension (.SetComp elt [⟨tg, iter, ifs, 0⟩] sc pos) sc X.env pos' (newSet (.type "set")) false (eval iter X.env) use) Qf X.xe s := by
  have cells : ∀ y ∈ sc.names, y.2 = .free → ∃ c, X.env.cells.lookup y.1 = some c := fun y hy e => (ok.free y hy e).elim (fun k => I.ok.has _ (.inl k)) fun k => I.ok.has _ (.inr k)
  refine wpAny_comprehension_free (use := use) rfl hs (closure_ok cells) ok.kind (fun y hy e => by rw [ok.uniq y hy, e]) (thn (hi.run pins s σ H _ I h) fun xv s1 hx => thn hx fun itv s2 ⟨it, fp, tn, J, H2, e, I2, T, st2, f2, q⟩ => ?_)
  subst e
  refine PpSet.newSet_ok (newEnv_comp ?_)
  generalize hD : s2.heap.objs.size = D
  obtain ⟨W, ⟨m0, w0⟩, turn⟩ := q D (I2.hok.fresh (Nat.le_of_eq hD))
  generalize h3 : ({ s2 with heap := s2.heap.push { cls := .type "set", dict := none, data := .set #[] 0 (.fresh 0 0 (!X.w.params.followText "set-order")) } } : Shared) = s3
  have hp3 : s3.heap = s2.heap.push { cls := .type "set", dict := none, data := .set #[] 0 (.fresh 0 0 (!X.w.params.followText "set-order")) } := by rw [← h3]
  have keep3 : ∀ b o, s2.heap.get? b = some o → s3.heap.get? b = some o := fun b o e => by rw [hp3]; exact Heap.get?_push_of_some _ e
  have I3 : L2.Inv X pins σ (upd H2 D (SetO X.w D (fun _ => false) 0)) s3 := by
    rw [← h3]
    refine I2.laid (t' := s2.toks) (fun b o e => Heap.get?_push_of_some _ e) (Nat.le_of_eq hD) ?_
    rw [← hD]
    exact setO_new (setR_fresh X.w)
  have old : ∀ b ∈ fp, b < s2.heap.objs.size := fun b hb => by
    obtain ⟨o, e, _⟩ := T.obj _ _ st2 b hb
    exact Heap.lt_size e
  generalize hH3 : upd H2 D (SetO X.w D (fun _ => false) 0) = H3 at I3 w0
  have f3 : ∀ b ∈ fp, FpOk X pins H3 b ∧ b < s3.heap.objs.size := fun b hb => by
    refine ⟨⟨?_, (f2 b hb).2⟩, by rw [hp3, Heap.size_push]; exact Nat.lt_succ_of_lt (old b hb)⟩
    rw [← hH3, upd_ne (by rw [← hD]; exact Nat.ne_of_lt (old b hb))]
    exact (f2 b hb).1
  have I4 := block_start I3 ok nd f3
  have pg := hg s3 H3 s3.heap.objs.size (cellsFrom (s3.heap.objs.size + 1) sc.names (cloFrom X.env.cells sc.names [])) fp
  have pt := ht s3 H3 s3.heap.objs.size (cellsFrom (s3.heap.objs.size + 1) sc.names (cloFrom X.env.cells sc.names [])) fp
  have pe := he s3 H3 s3.heap.objs.size (cellsFrom (s3.heap.objs.size + 1) sc.names (cloFrom X.env.cells sc.names [])) fp
  show codeAny _ _ (.compStart (.SetComp elt [⟨tg, iter, ifs, 0⟩] sc pos) 0 (.ref it) (.ref D) (compEnvC sc (cellsFrom (s3.heap.objs.size + 1) sc.names (cloFrom X.env.cells sc.names [])) s3.heap.objs.size X.env)) (compPost (model X.prog X.w) X.A X.xe use Qf (.ref D) s3.heap.objs.size) { s3 with heap := pushCells (s3.heap.push { cls := .type "dict", data := .dict #[] }) sc.names }
  generalize hce : compEnvC sc (cellsFrom (s3.heap.objs.size + 1) sc.names (cloFrom X.env.cells sc.names [])) s3.heap.objs.size X.env = ce at I4 pg pt pe ⊢
  have ceL : ce.locals = s3.heap.objs.size := by subst hce; rfl
  generalize h4 : ({ s3 with heap := pushCells (s3.heap.push { cls := .type "dict", data := .dict #[] }) sc.names } : Shared) = s4 at I4 ⊢
  have st4 : tn 0 s4.heap := T.keep _ _ _ (T.keep _ _ _ st2 fun b _ o e => keep3 b o e) fun b _ o e => by rw [← h4]; exact pushCells_keeps _ _ _ _ (Heap.get?_push_of_some _ e)
  have stat : ∀ {τ : L2.St} {H' : Hp} {s' : Shared}, L2.Inv (X.blk s3 H3 sc ce fp) [] τ H' s' → (∀ b ∈ fp, H' b = none) → ∀ b ∈ fp, FpOk (X.blk s3 H3 sc ce fp) [] H' b := fun {τ H' s'} I' hn b hb =>
    ⟨hn b hb, (I'.ok.exf b hb).1, I'.ok.exfs b hb, .inl hb, fun x c e => (I'.ok.exf b hb).2 x c e, fun p hp => absurd (show p ∈ ([] : List (Addr × Obj)) ++ [] from hp) (by simp)⟩
  refine PpSet.codeAny_compStart_set (?loop : codeAny _ _ (.compLoop (.SetComp elt [⟨tg, iter, ifs, 0⟩] sc pos) 0 (.ref it) (.ref D) ce) _ s4) (T.self X.A 0 _ _ _ st4 ?loop)
  refine PpSet.compLoopS_any (fun n s' => ∃ i H', L2.Inv (X.blk s3 H3 sc ce fp) [] (wipe σ (own.map (·.2))) H' s' ∧ tn i s'.heap ∧ (∀ b ∈ fp, H' b = none) ∧ W i n H') ?_ m0 ⟨0, H3, I4, st4, fun b hb => (f3 b hb).1.1, w0⟩
  rintro n s5 ⟨i, H5, I5, st5, n5, w5⟩
  rcases turn i n H5 w5 with ⟨stop, qq⟩ | ⟨go, Z, hZ, step⟩
  · refine thnF (T.done (X.blk s3 H3 sc ce fp) rfl rfl rfl calm i [] s5 _ H5 (fun _ _ => False) I5 (stat I5 n5) st5 stop) fun r s6 ⟨hr, I6⟩ => ?_
    subst hr
    have I7 : L2.Inv X pins σ H5 s6 := I3.call' (ch := fp) I6.os I6.base I6.hok I6.bare fun b hb => ⟨(f3 b hb).1.2.2.2.1, (f3 b hb).1.2.1, (f3 b hb).1.2.2.2.2.1, (f3 b hb).1.2.2.2.2.2⟩
    have nL : H5 ce.locals = none := I6.free
    obtain ⟨m, hn, _⟩ := I6.loc
    have hn : s6.heap.Ns ce.locals m := hn
    rw [ceL] at hn nL
    exact fin D s3.heap.objs.size s6 m H5 I7 qq hn (I3.fpOk (Nat.le_refl _) nL)
  · refine thnF (T.item (X.blk s3 H3 sc ce fp) rfl rfl rfl calm i [] s5 _ H5 (fun _ _ => False) I5 (stat I5 n5) st5 go) fun r s6 ⟨u, hr, h6⟩ => ?_
    subst hr
    refine thnF h6 fun _ s7 ⟨x, H7, I7, r7, y7, st7, n7⟩ => ?_
    have I7' := I7.pinned (stat I7 n7) (T.obj _ _ st7)
    refine thnF (pg.run _ s7 _ H7 x u _ I7' r7 (step x H7 y7)) fun _ s8 ⟨τ, H8, I8, hw8, q8⟩ => thnF (pt.run _ s8 τ H8 _ I8 q8) fun b s9 ⟨H9, I9, q9⟩ => ?_
    have back : ∀ {s' : Shared} {H' : Hp}, L2.Inv (X.blk s3 H3 sc ce fp) ([] ++ pinsAt fp s7.heap) τ H' s' → Z H' → ∃ m, m < n ∧ ∃ i H', L2.Inv (X.blk s3 H3 sc ce fp) [] (wipe σ (own.map (·.2))) H' s' ∧ tn i s'.heap ∧ (∀ b ∈ fp, H' b = none) ∧ W i m H' := fun {s' H'} I' z => by
      obtain ⟨m', hm, w'⟩ := hZ H' z
      have pin : ∀ b ∈ fp, ∀ o, s7.heap.get? b = some o → s'.heap.get? b = some o ∧ H' b = none := fun b hb o e => by
        have y := I'.pin (b, o) (List.mem_append_right _ (List.mem_append_right _ (mem_pinsAt hb e)))
        exact ⟨y.1, y.2.1⟩
      refine ⟨m', hm, i + 1, H', (I'.unpinned (pins := [])).weak (by rw [← hw8, wipe_length]) (fun j v e => by rw [← hw8] at e; exact (wipe_some e).1), T.keep _ _ _ st7 fun b hb o e => (pin b hb o e).1, fun b hb => ?_, w'⟩
      obtain ⟨o, e, _⟩ := T.obj _ _ st7 b hb
      exact (pin b hb o e).2
    cases b with
    | false =>
      simp only [Bool.false_eq_true, if_false] at q9 ⊢
      exact back I9 q9
    | true =>
      simp only [if_true] at q9 ⊢
      refine thnF (pe.run _ s9 τ H9 _ I9 q9) fun z s10 ⟨yv, H10, I10, r10, c, S0, n0, ey, hD10, hz10, nx⟩ => ?_
      subst ey
      obtain ⟨tk, rfl⟩ := (show ∃ tk, z = Value.int c tk from r10)
      exact setI_add (X := X.blk s3 H3 sc ce fp) I10 hD10 hz10 fun s11 I11 => back I11 nx
theorem pe_scI {elt tg iter : Expr} {ifs : List Expr} {sc : Scope} {own : List (PySem.Str × Nat)} {pos : Pos} {wi : TI} {g : TG} {tt : TT} {te : TE} (calm : X.calm = true) (nd : X.N.Nodup) (hi : PI X tg iter wi) (ok : BlkOk X.N X.env.scope sc own)
    (hg : ∀ (s : Shared) (H : Hp) (L : Addr) (cl : List (PySem.Str × Addr)) (fp : List Addr), PG (X.blk s H sc (compEnvC sc cl L X.env) fp) tg g) (ht : ∀ (s : Shared) (H : Hp) (L : Addr) (cl : List (PySem.Str × Addr)) (fp : List Addr), PTs (X.blk s H sc (compEnvC sc cl L X.env) fp) ifs tt)
    (he : ∀ (s : Shared) (H : Hp) (L : Addr) (cl : List (PySem.Str × Addr)) (fp : List Addr), PE (X.blk s H sc (compEnvC sc cl L X.env) fp) elt te) (hs : ∀ x, foldedSetIterable iter X.env x = pure x) :
    PE X (.SetComp elt [⟨tg, iter, ifs, 0⟩] sc pos) (tScI X.w wi g tt te (own.map (·.2))) := by
  refine ⟨fun pins s σ H Q I h => ?_⟩
  rw [PpSet.eval_SetComp]
  refine scI_core calm nd I hi ok hg ht he hs h fun D L s' m H' I' q hn ⟨f0, f1, f2, f3, f4, f5⟩ => ⟨m, hn, fun h'' sb => ?_⟩
  exact ⟨.ref D, H', I'.turned (t' := s'.toks) (fun b o hb e => (sb.2 b hb).trans e) f0 f1 f3 f4 f5, rfl, q⟩
end
end MP


set_option Elab.async false
set_option linter.all false
set_option maxHeartbeats 4000000
/-! sorted({..}) is what the evaluator says. -/
namespace MP
open PySem PySem.Spec PyProof.Rows L2
theorem insU_mem (i k : Int) : ∀ l : List Int, k ∈ insU i l ↔ k = i ∨ k ∈ l
  | [] => by simp [insU]
  | j :: l => by
    unfold insU
    split
    · simp
    · split
      · rename_i e
        subst e
        simp
      · simp [insU_mem i k l]
        constructor <;> (rintro (h | h | h) <;> simp [h])
theorem insU_pw (i : Int) : ∀ l : List Int, l.Pairwise (· < ·) → (insU i l).Pairwise (· < ·)
  | [], _ => by simp [insU]
  | j :: l, h => by
    rw [List.pairwise_cons] at h
    unfold insU
    split
    · rename_i c
      rw [List.pairwise_cons]
      refine ⟨fun a ha => ?_, by rw [List.pairwise_cons]; exact h⟩
      rcases List.mem_cons.mp ha with rfl | ha
      · exact c
      · have := h.1 a ha
        omega
    · split
      · rw [List.pairwise_cons]; exact h
      · rw [List.pairwise_cons]
        refine ⟨fun a ha => ?_, insU_pw i l h.2⟩
        rcases (insU_mem i a l).mp ha with rfl | ha
        · omega
        · exact h.1 a ha
theorem sortU_mem (k : Int) : ∀ l : List Int, k ∈ sortU l ↔ k ∈ l
  | [] => by simp [sortU]
  | j :: l => by simp [sortU, insU_mem, sortU_mem k l]
theorem sortU_pw : ∀ l : List Int, (sortU l).Pairwise (· < ·)
  | [] => by simp [sortU]
  | j :: l => insU_pw j _ (sortU_pw l)
theorem rising_eq : ∀ {l m : List Int}, l.Pairwise (· < ·) → m.Pairwise (· < ·) → (∀ k, k ∈ l ↔ k ∈ m) → l = m
  | [], [], _, _, _ => rfl
  | [], b :: m, _, _, h => by simp at h; exact absurd rfl (h b).1
  | a :: l, [], _, _, h => by simp at h; exact absurd rfl (h a).1
  | a :: l, b :: m, hl, hm, h => by
    rw [List.pairwise_cons] at hl hm
    have e : a = b := by
      have h1 := (h a).mp (by simp)
      have h2 := (h b).mpr (by simp)
      rcases List.mem_cons.mp h1 with z | z
      · exact z
      · rcases List.mem_cons.mp h2 with y | y
        · exact y.symm
        · have := hl.1 b y
          have := hm.1 a z
          omega
    subst e
    congr 1
    refine rising_eq hl.2 hm.2 fun k => ?_
    have hk := h k
    simp only [List.mem_cons] at hk
    constructor
    · intro z
      rcases hk.mp (.inr z) with y | y
      · have := hl.1 k z
        omega
      · exact y
    · intro z
      rcases hk.mpr (.inr z) with y | y
      · have := hm.1 k z
        omega
      · exact y
section
variable {X : Cx} {C : Stc} {W : WX} {k : Nat} {P : Prog} {cl : Nat → List D → Hh → Res SV}
/-- a part within a block, and the rest: of a value -/
theorem tB_bind {K : PySem.W.Frag} {α β γ δ : Type} {rep : Hp → List Addr → α → β → Prop} {rep2 : Hp → List Addr → γ → δ → Prop} {F R R0 : Hp} {phi : List Addr} {r r0 : Env} {h : Hh} {σ σ0 : L2.St} {H : Hp} {f : Env → Hh → Res α} {z : Res α} {g : α → Hh → Res γ} {Q : δ → Hp → Prop} (S : SR K C F R phi r h σ H)
    (hz : ∀ c h', z ≠ .exc c h') (hf : ∀ a h', z = .ok a h' → f r h = .ok a h') (p : ePost K C W rep2 F R0 phi r0 σ0 (z.bind g) Q) :
    tR K C WN rep f σ H fun b H1 => ∃ F1 phi1 a h1, Sub F F1 ∧ Pre phi phi1 ∧ SR K C F1 R phi1 r h1 σ H1 ∧ rep F1 phi1 a b ∧ z = .ok a h1 ∧ ePost K C W rep2 F1 R0 phi1 r0 σ0 (g a h1) Q := by
  refine ⟨F, R, phi, r, h, S, ?_⟩
  cases e : z with
  | ok a h1 =>
    rw [hf a h1 e]
    rw [e] at p
    intro F' phi' b H' s q S' rp
    exact ⟨F', phi', a, h1, s, q, S', rp, rfl, p.mono s q fun _ _ z => z⟩
  | exc c h1 => exact absurd e (hz c h1)
  | stk => rw [e] at p; exact p.elim
/-- a walk, and a value of it -/
theorem tI_ebind {f : Env → Hh → Res (List D)} {g : List D → Hh → Res D} {F R : Hp} {phi : List Addr} {r : Env} {h : Hh} {σ : L2.St} {H : Hp} {K : PySem.W.Frag} {Q : VK} (S : SR K C F R phi r h σ H) (p : ePost K C W (VRep K) F R phi r σ ((f r h).bind g) Q) :
    tI K C W f σ H fun J H1 => ∃ F1 phi1 a h1, Sub F F1 ∧ Pre phi phi1 ∧ SR K C F1 R phi1 r h1 σ H1 ∧ IW K F1 phi1 J a ∧ f r h = .ok a h1 ∧ ePost K C W (VRep K) F1 R phi1 r σ (g a h1) Q := by
  refine ⟨F, R, phi, r, h, S, ?_⟩
  cases e : f r h with
  | ok a h1 =>
    rw [e, Res.bind_ok] at p
    intro F' phi' b H' s q S' rp
    exact ⟨F', phi', a, h1, s, q, S', rp, rfl, p.mono s q fun _ _ z => z⟩
  | exc c h1 =>
    rw [e, Res.bind_exc] at p
    exact p
  | stk =>
    rw [e, Res.bind_stk] at p
    exact p
/-- what is made of the items -/
def sscEnd (ys : List D) (h : Hh) : Res D := match intsD ys with
  | some ns => if ns.length < 64 then .ok (.lst ((sortU ns).map .int)) h else .stk
  | none => .stk
theorem intsD_map (l : List Int) : intsD (l.map D.int) = some l := by
  induction l with
  | nil => rfl
  | cons x l ih => rw [List.map_cons, intsD, ih]; rfl
theorem set_it {J : L2.It} {n : Nat} {G : Hp → Prop} {Y : Nat → Hp → V → Hp → Prop} (w : Walk J n G Y) {wd : World} {g : TG} {tt : TT} {te : TE} {vs : List Nat} {σ : L2.St} {H1 : Hp} {D : Addr} {Qd : Hp → Prop} (I : Nat → Hp → Prop) (h0 : I 0 (upd H1 D (SetO wd D (fun _ => false) 0))) (hG : ∀ i H, i ≤ n → I i H → G H)
    (hs : ∀ i x H H', i < n → I i H → Y i H x H' → g x (wipe σ vs) H' fun σ2 H2 => wipe σ2 vs = wipe σ vs ∧ tt σ2 H2 fun b H3 => if b = true then te σ2 H3 fun y H4 => ∃ (c : Int) (S : Int → Bool) (n : Nat), y = .int c ∧ H4 D = some (SetO wd D S n) ∧ n + 1 < scanBound ∧
      I (i + 1) (upd H4 D (SetO wd D (fun j => S j || decide (j = c)) (if S c = true then n else n + 1))) else I (i + 1) H3) (hd : ∀ H, I n H → Qd H) :
    ∃ W : Nat → Nat → Hp → Prop, (∃ m, W 0 m (upd H1 D (SetO wd D (fun _ => false) 0))) ∧ ∀ i m H, W i m H → (J.stop i H ∧ Qd H) ∨
      (J.go i H ∧ ∃ Z : Hp → Prop, (∀ H', Z H' → ∃ m', m' < m ∧ W (i + 1) m' H') ∧ ∀ x H', J.yld i H x H' → g x (wipe σ vs) H' fun σ2 H2 => wipe σ2 vs = wipe σ vs ∧ tt σ2 H2 fun b H3 =>
        if b = true then te σ2 H3 fun y H4 => ∃ (c : Int) (S : Int → Bool) (n : Nat), y = .int c ∧ H4 D = some (SetO wd D S n) ∧ n + 1 < scanBound ∧ Z (upd H4 D (SetO wd D (fun j => S j || decide (j = c)) (if S c = true then n else n + 1))) else Z H3) := by
  refine ⟨fun i m H => m = n - i ∧ i ≤ n ∧ I i H, ⟨n, by simp, Nat.zero_le _, h0⟩, ?_⟩
  rintro i m H ⟨rfl, hi, p⟩
  by_cases hlt : i < n
  · exact .inr ⟨w.goes i H hlt (hG i H hi p), I (i + 1), fun H' p' => ⟨n - (i + 1), by omega, rfl, hlt, p'⟩, fun x H' y => hs i x H H' hlt p (w.yields i H x H' hlt (hG i H hi p) y)⟩
  · obtain rfl : i = n := by omega
    exact .inl ⟨w.stops H (hG i H hi p), hd H p⟩
theorem ssc_read {t : Tg} {it : It} {ifs : Es} {elt : E} {σ : L2.St} {H : Hp} {Q : VK} (q : tE X C W P cl (.ssc t it ifs elt) σ H Q) :
    tScI X.w (tI X.K C W (evIt P cl it)) (tT X.K C t) (tR X.K C WN repB (evIfs P cl ifs)) (tR X.K C WN (VRep X.K) (evE P cl elt)) t.slots σ H fun x H1 => rSortedSet X.w [x] H1 Q := by
  obtain ⟨F, R, phi, r, h, S, p⟩ := q
  rw [evE] at p
  obtain ⟨F0, R0, phi0, r0, h0, S0, p0⟩ := tI_ebind S p
  refine ⟨F0, R0, phi0, r0, h0, S0, ?_⟩
  revert p0
  refine fun p0 => (show iPost X.K C W F0 R0 phi0 r0 σ _ _ from ?_)
  cases e0 : evIt P cl it r0 h0 with
  | exc c h' => rw [e0] at p0; exact p0
  | stk => rw [e0] at p0; exact p0
  | ok xs' h' =>
    rw [e0] at p0
    intro Fa phia J H1 sa qa Sa iw D hD
    obtain ⟨F1, phi1, xs, h1, s1, q1, S1, w1, e1, p1⟩ := p0 Fa phia J H1 sa qa Sa iw
    cases ew : wipeE r t.slots with
    | none => rw [ew] at p1; exact p1.elim
    | some rw0 =>
      rw [ew] at p1
      simp only at p1
      by_cases hx : xs.length < 4000
      case neg => rw [if_neg hx] at p1; exact p1.elim
      rw [if_pos hx] at p1
      generalize hG : (fun l h => compGo (bindTg t · rw0) (fun r' h' => (evIfs P cl ifs r' h').noX) (fun r' h' => (evE P cl elt r' h').intX) l h) = go at p1
      have p1 : ePost X.K C W (VRep X.K) F1 R phi1 r σ ((go xs h1).bind fun ys h2 => sscEnd ys h2) Q := by rw [← hG]; exact p1
      have gnil : ∀ h, go [] h = .ok [] h := fun h => by rw [← hG]; rfl
      have gcons : ∀ x l h, go (x :: l) h = match bindTg t x rw0 h with
          | none => .stk
          | some r => (evIfs P cl ifs r h).noX.bind fun b h1 => if b = true then (evE P cl elt r h1).intX.bind fun y h2 => (go l h2).bind fun ys h3 => .ok (y :: ys) h3 else go l h1 := fun x l h => by
        rw [← hG]
        show compGo (bindTg t · rw0) _ _ (x :: l) h = _
        first
          | (rw [compGo]; done)
          | (rw [compGo]; cases bindTg t x rw0 h <;> rfl)
      have R1 : R D = none := (S1.apart hD).nR
      have gr : Grow F1 H1 F1 (upd H1 D (SetO X.w D (fun _ => false) 0)) := ⟨Sub.updF hD, fun _ _ _ => rfl, S1.hr.fH.trans (Sub.updF hD), fun _ _ h => h⟩
      have S2 := (S1.grow gr).intoR upd_same (S1.apart hD)
      refine set_it w1.w (fun i H => ∃ F2 phi2 h2, ∃ acc : List Int, ∃ M, ∃ n : Nat, Sub F1 F2 ∧ Pre phi1 phi2 ∧ SR X.K C F2 (upd R D (SetO X.w D M n)) phi2 r h2 σ H ∧ (∀ k : Int, M k = true ↔ k ∈ acc) ∧ n ≤ acc.length ∧ acc.length ≤ i ∧
        ePost X.K C W (VRep X.K) F2 R phi2 r σ ((go (xs.drop i) h2).bind fun ys h3 => sscEnd (acc.map .int ++ ys) h3) Q) ?_ ?_ ?_ ?_
      · exact ⟨F1, phi1, h1, [], _, 0, Sub.refl _, Pre.refl _, S2, by simp, Nat.le_refl _, Nat.le_refl _, by simpa using p1⟩
      · rintro i H _ ⟨F2, phi2, h2, acc, M, n, s2, q2, S3, _⟩
        exact s2.trans S3.hr.fH
      · rintro i x H H' hi ⟨F2, phi2, h2, acc, M, n, s2, q2, S3, ra, hl1, hl, p2⟩ ⟨d, ed, hy⟩
        obtain ⟨F3, g3, rd⟩ := hy F2 s2 S3.hr.fH
        have rd := VRep.mono (Sub.refl F3) q2 _ _ rd
        have S4 := S3.grow g3
        have s3 := g3.sub S3.hr.fH
        obtain ⟨S5, hl5, fr5, ow5⟩ := S4.wipe ew
        have edrop : xs.drop i = d :: xs.drop (i + 1) := by
          rw [List.drop_eq_getElem_cons hi, show xs[i] = d from Option.some.inj ((List.getElem?_eq_getElem hi).symm.trans ed)]
        rw [edrop, gcons] at p2
        cases eb : bindTg t d rw0 h2 with
        | none => rw [eb] at p2; exact p2.elim
        | some r1 =>
          rw [eb] at p2
          simp only at p2
          obtain ⟨bl, bo⟩ := bindTg_out t eb
          refine ⟨F3, _, phi2, rw0, h2, d, r1, S5, rd, eb, fun F4 σ2 H2 s4 S6 fr hl2 => ?_⟩
          have hout : ∀ i, i ∉ t.slots → σ2[i]? = σ[i]? := fun i hi => by rw [fr i hi, wipe_out hi]
          refine ⟨wipe_eq (hl2.trans (wipe_length ..)) hout, ?_⟩
          have rout : ∀ i, i ∉ t.slots → r1[i]? = r[i]? := fun i hi => by rw [bo i hi, fr5 i hi]
          have rlen : r1.length = r.length := bl.trans hl5
          have as : ∀ {α β γ : Type} (x : Res α) (f : α → Hh → Res β) (g : β → Hh → Res γ), (x.bind f).bind g = x.bind fun a h => (f a h).bind g := fun x f g => by cases x <;> rfl
          rw [as] at p2
          have p3 := p2.mono (F' := F4) (s3.trans s4) (Pre.refl _) (fun _ _ z => z)
          refine (tB_bind (f := evIfs P cl ifs) (rep := repB) S6 (fun c h' e => by cases q : evIfs P cl ifs r1 h2 <;> rw [q] at e <;> cases e) (fun a h' e => by cases q : evIfs P cl ifs r1 h2 <;> rw [q] at e <;> first | exact e | cases e) p3).mono fun b H3 ⟨F5, phi5, b', h5, s5, q5, S7, eb', _, p4⟩ => ?_
          obtain rfl : b' = b := eb'
          cases b' with
          | false =>
            simp only [Bool.false_eq_true, if_false] at p4 ⊢
            exact ⟨F5, phi5, h5, acc, M, n, s2.trans (s3.trans (s4.trans s5)), q2.trans q5, S4.unwipe S7 (s4.trans s5) q5 rlen rout hout ow5, ra, hl1, Nat.le_succ_of_le hl, p4⟩
          | true =>
            simp only [if_true] at p4 ⊢
            rw [as] at p4
            refine (tB_bind (f := evE P cl elt) (rep := VRep X.K) S7 (fun c h' e => by cases q : evE P cl elt r1 h5 with
                | ok d _ => rw [q] at e; cases d <;> cases e
                | _ => rw [q] at e; cases e) (fun a h' e => by cases q : evE P cl elt r1 h5 with
                | ok d _ => rw [q] at e; cases d <;> first | exact e | cases e
                | _ => rw [q] at e; cases e) p4).mono fun y H4 ⟨F6, phi6, dy, h6, s6, q6, S8, ry, ez, p5⟩ => ?_
            have S9 := S4.unwipe S8 (s4.trans (s5.trans s6)) (q5.trans q6) rlen rout hout ow5
            obtain ⟨c, rfl⟩ : ∃ c, dy = .int c := by
              cases q : evE P cl elt r1 h5 with
              | ok d _ => rw [q] at ez; cases d <;> first | (cases ez; exact ⟨_, rfl⟩) | cases ez
              | _ => rw [q] at ez; cases ez
            simp only [VRep] at ry
            refine ⟨c, M, n, ry, S9.rH _ _ upd_same, by have : scanBound = 4096 := rfl; omega, F6, phi6, h6, acc ++ [c], _, _, s2.trans (s3.trans (s4.trans (s5.trans s6))), q2.trans (q5.trans q6), S9.poke _, fun k => ?_, ?_, by rw [List.length_append]; simp; omega, ?_⟩
            · simp [ra k]
            · rw [List.length_append]
              split <;> simp <;> omega
            rw [as] at p5
            simpa [List.append_assoc] using p5
      · rintro H ⟨F2, phi2, h2, acc, M, n, s2, q2, S3, ra, hl1, hl, p2⟩
        rw [List.drop_of_length_le (Nat.le_refl _), gnil] at p2
        simp only [Res.bind_ok, List.append_nil] at p2
        unfold sscEnd at p2
        rw [intsD_map] at p2
        simp only at p2
        by_cases h64 : acc.length < 64
        case neg => rw [if_neg h64] at p2; exact p2.elim
        rw [if_pos h64] at p2
        refine ⟨D, M, n, rfl, S3.rH _ _ upd_same, by omega, fun ns pa hpw hm hn hp => ?_⟩
        have en : ns = sortU acc := rising_eq hpw (sortU_pw acc) fun k => by rw [hm, ra, sortU_mem]
        subst en
        have S4 := S3.lessR (Sub.updF R1)
        have g := Grow.one (o := .lst ((sortU acc).map V.int)) S4.hr.fH hp
        refine p2 _ phi2 _ _ (Sub.upd (Sub.refl _) (by cases q : F2 pa with | none => rfl | some o => rw [S4.hr.fH _ _ q] at hp; cases hp)) (Pre.refl _) (S4.grow g) ?_
        simp only [VRep]
        exact ⟨pa, _, rfl, upd_same, VReps.map MP.D.int V.int VRep.vint _⟩
end
end MP


set_option Elab.async false
set_option linter.all false
set_option maxHeartbeats 2000000
/-! methods of lists: count, index, pop; a list made new; sorted({..}). -/
namespace MP
open PySem PySem.Spec PyProof.Rows L2
/-! ### of truth values -/
def eqB (b : Bool) (v : Value) : Bool := match v with
  | .bool c => c == b
  | _ => false
theorem vals_bools : ∀ {bs : List Bool} {us : List Value}, Vals (bs.map V.bl) us → us = bs.map Value.bool
  | [], us, h => by cases h; rfl
  | b :: bs, us, h => by
    cases h with
    | cons r t =>
      cases r
      rw [vals_bools t]
      rfl
section
variable {X : Cx}
theorem eqB_at {A : Around} {s : Shared} {bs : List Bool} {b : Bool} : ∀ y ∈ bs.map Value.bool, SeqAt.EqAt A s y (.bool b) (eqB b y) := fun y hy => by
  obtain ⟨c, _, rfl⟩ := List.mem_map.mp hy
  exact SeqAt.EqAt.bool_bool c b
theorem mt_countB : MtR X "list.count" (fun x xs H Q => ∃ (p : Addr) (bs : List Bool) (b : Bool), x = .ref p ∧ xs = [.bl b] ∧ SqL X.K H p (bs.map V.bl) ∧ Q (.int (bs.count b : Nat)) H) := by
  intro pins s σ H x xs v us Q I rx rxs ⟨p, bs, b, e1, e2, hs, q⟩
  subst e1 e2
  cases rx
  obtain ⟨u, rfl, ru⟩ := rxs.one
  obtain rfl : u = .bool b := ru
  obtain ⟨its, rv, ⟨⟨cls, dd, data, sl⟩, n, ho, hc, hdn, hd⟩, _⟩ := I.list hs
  simp only at hc hd
  subst hc hd
  obtain rfl := vals_bools rv
  refine call_meets PySem.F.slot_list_count ⟨_, ho, rfl⟩ PySem.F.entry_list_count (PySem.F.args_list_count_2 _ _) (SeqAt.list_countAt p (bs.map Value.bool).toArray n dd sl (.bool b) (eqB b)) ⟨ho, fun y hy => eqB_at y (by simpa using hy), ?_⟩
  have e : ((bs.map Value.bool).toArray.toList.countP (eqB b) : Nat) = bs.count b := by
    show (bs.map Value.bool).countP (eqB b) = _
    rw [List.countP_map]
    rfl
  exact ⟨.int (bs.count b : Nat), H, I.tok _, ⟨s.toks, by show Value.int _ _ = _; rw [e]⟩, q⟩
theorem mt_indexB : MtR X "list.index" (fun x xs H Q => ∃ (p : Addr) (bs : List Bool) (b : Bool) (j : Nat), x = .ref p ∧ xs = [.bl b] ∧ SqL X.K H p (bs.map V.bl) ∧ bs.findIdx? (· == b) = some j ∧ Q (.int (j : Nat)) H) := by
  intro pins s σ H x xs v us Q I rx rxs ⟨p, bs, b, j, e1, e2, hs, hj, q⟩
  subst e1 e2
  cases rx
  obtain ⟨u, rfl, ru⟩ := rxs.one
  obtain rfl : u = .bool b := ru
  obtain ⟨its, rv, ⟨⟨cls, dd, data, sl⟩, n, ho, hc, hdn, hd⟩, hz⟩ := I.list hs
  simp only at hc hd
  subst hc hd
  obtain rfl := vals_bools rv
  rw [List.findIdx?_eq_some_iff_getElem] at hj
  obtain ⟨hl, e3, e4⟩ := hj
  have sz : sizeLine = 16777216 := sizeLine_eq
  rw [List.length_map] at hz
  refine call_meets PySem.F.slot_list_index ⟨_, ho, rfl⟩ PySem.F.entry_list_index (PySem.F.args_list_index_2 _ _) (SeqAt.list_indexAt p (bs.map Value.bool).toArray n dd sl (.bool b) (eqB b) j (by simpa using hl) (by omega) (by simpa [eqB] using e3) (fun m hm hmj => by
    have := e4 m hmj
    simpa [eqB] using this)) ⟨ho, fun y hy => eqB_at y (by simpa using hy), ?_⟩
  exact ⟨.int (j : Nat), H, I.tok _, ⟨s.toks, rfl⟩, q⟩
end
/-- a call's own marks on the expression that a method is asked of -/
def abB : Expr → Bool
  | .Call (.Name ..) [] [] _ => false
  | _ => true
theorem abB_ok {o : Expr} {n : Str} {env : PySem.Env} (h : abB o = true) : attributeBase o n env (eval o env) = eval o env := by
  cases o with
  | Call f args kws p =>
    cases f with
    | Name y q =>
      cases args with
      | nil =>
        cases kws with
        | nil => cases h
        | cons _ _ => rfl
      | cons _ _ => rfl
    | _ => rfl
  | _ => rfl
section
variable {X : Cx} {C : Stc} {W : WX} {k : Nat} {P : Prog} {cl : Nat → List D → Hh → Res SV} {o e : Expr} {mo me : E} {apos cpos : Pos}
theorem s_bm1 {bm : Bm} {name : Str} {T id : String} {r : V → List V → Hp → VK → Prop} (pa : PlainAttrs T) (slot : Slot T name id) (hty : typeOf (.builtin id) = pure (.type "method_descriptor")) (hm : MtR X id r)
    (ht : ∀ {F : Hp} {phi : List Addr} {h : Hh} {H : Hp} {d : D} {v : V}, HR X.K C F phi h H → VRep X.K F phi d v → bmOk bm d h = true → tyV X.K T v H)
    (hr : ∀ {F R : Hp} {phi : List Addr} {rr : Env} {h : Hh} {σ : L2.St} {H : Hp} {d a : D} {v u : V} {Q : VK}, SR X.K C F R phi rr h σ H → VRep X.K F phi d v → VRep X.K F phi a u → ePost X.K C W (VRep X.K) F R phi rr σ (bmGo bm d [a] h) Q → r v [u] H Q)
    (hb : abB o = true) (hs : notStar e = true) (hli : (apos.endLine == cpos.line) = true) (ho : PE X o (tE X C W P cl mo)) (he : PE X e (tE X C W P cl me)) :
    PE X (.Call (.Attribute o name apos) [e] [] cpos) (tE X C W P cl (.bm mo bm (.cons me .nil))) := by
  have hz : starEach [e] X.env = (false, eval e X.env) :: starEach [] X.env := starEach_cons hs
  refine (pe_bm (apos := apos) (cpos := cpos) pa slot hty hm ho (pa_cons he pa_nil hz) (abB_ok hb) (by rw [hz]; rfl) hli hz rfl).imp fun σ H Q ⟨F, R, phi, rr, h, S, p⟩ => ?_
  rw [evE] at p
  refine (tR_bind S p).mono fun x H1 ⟨F1, phi1, d, h1, s1, q1, S1, rx, _, p1⟩ => ?_
  by_cases c : bmOk bm d h1 = true
  case neg => rw [if_neg c] at p1; exact p1.elim
  rw [if_pos c] at p1
  refine ⟨ht S1.hr rx c, ?_⟩
  have e1 : evEs P cl (.cons me .nil) rr h1 = (evE P cl me rr h1).bind fun d h1 => .ok [d] h1 := by
    rw [evEs]
    cases evE P cl me rr h1 <;> simp [evEs]
  rw [e1] at p1
  have as : ∀ {α β γ : Type} (x : Res α) (f : α → Hh → Res β) (g : β → Hh → Res γ), (x.bind f).bind g = x.bind fun a h => (f a h).bind g := fun x f g => by cases x <;> rfl
  rw [as] at p1
  refine (tR_bind S1 p1).mono fun y H2 ⟨F2, phi2, a, h2, s2, q2, S2, ry, _, p2⟩ => ?_
  exact hr S2 (VRep.mono s2 q2 _ _ rx) ry p2
theorem ty_lst {K : PySem.W.Frag} {F : Hp} {phi : List Addr} {h : Hh} {H : Hp} {xs : List D} {v : V} (hr : HR K C F phi h H) (rv : VRep K F phi (.lst xs) v) : tyV K "list" v H := by
  simp only [VRep] at rv
  obtain ⟨a, vs, rfl, e, _⟩ := rv
  exact .inl ⟨rfl, vs, .inl (.inl (hr.fH _ _ e))⟩
theorem s_count (hb : abB o = true) (hs : notStar e = true) (hli : (apos.endLine == cpos.line) = true) (ho : PE X o (tE X C W P cl mo)) (he : PE X e (tE X C W P cl me)) :
    PE X (.Call (.Attribute o "count" apos) [e] [] cpos) (tE X C W P cl (.bm mo .count (.cons me .nil))) := by
  refine s_bm1 PySem.F.plainAttrs_list PySem.F.slot_list_count (by first | exact PySem.F.type_list_count | rfl) mt_countB (fun {F phi h H d v} hr rv c => ?_) (fun {F R phi rr h σ H d a v u Q} S rd ra p => ?_) hb hs hli ho he
  · cases d <;> simp [bmOk] at c
    exact ty_lst hr rv
  · have p : ePost X.K C W (VRep X.K) F R phi rr σ (opt (bmeth .count d [a] h) h) Q := p
    obtain ⟨z, ez, q⟩ := p.now
    cases d <;> simp [bmeth] at ez
    rename_i xs
    cases a <;> simp at ez
    rename_i b
    obtain ⟨bs, eb, rfl⟩ := ez
    simp only [VRep] at rd ra
    obtain ⟨l, vs, rfl, e1, rv⟩ := rd
    subst ra
    obtain rfl := rv.ofBools eb
    exact ⟨l, bs, b, rfl, rfl, .inl (.inl (S.hr.fH _ _ e1)), q F phi _ H (Sub.refl _) (Pre.refl _) S (VRep.vint _)⟩
theorem s_index (hb : abB o = true) (hs : notStar e = true) (hli : (apos.endLine == cpos.line) = true) (ho : PE X o (tE X C W P cl mo)) (he : PE X e (tE X C W P cl me)) :
    PE X (.Call (.Attribute o "index" apos) [e] [] cpos) (tE X C W P cl (.bm mo .index (.cons me .nil))) := by
  refine s_bm1 PySem.F.plainAttrs_list PySem.F.slot_list_index (by first | exact PySem.F.type_list_index | rfl) mt_indexB (fun {F phi h H d v} hr rv c => ?_) (fun {F R phi rr h σ H d a v u Q} S rd ra p => ?_) hb hs hli ho he
  · cases d <;> simp [bmOk] at c
    exact ty_lst hr rv
  · have p : ePost X.K C W (VRep X.K) F R phi rr σ (opt (bmeth .index d [a] h) h) Q := p
    obtain ⟨z, ez, q⟩ := p.now
    cases d <;> simp [bmeth] at ez
    rename_i ys _
    cases a <;> simp at ez
    rename_i b _
    cases eb : boolsD ys with
    | none => rw [eb] at ez; cases ez
    | some bs =>
      rw [eb] at ez
      simp only [Option.map_eq_some_iff] at ez
      obtain ⟨j, ej, rfl⟩ := ez
      simp only [VRep] at rd ra
      obtain ⟨l, vs, rfl, e1, rv⟩ := rd
      subst ra
      obtain rfl := rv.ofBools eb
      exact ⟨l, bs, b, j, rfl, rfl, .inl (.inl (S.hr.fH _ _ e1)), ej, q F phi _ H (Sub.refl _) (Pre.refl _) S (VRep.vint _)⟩
theorem s_hpop (hb : abB o = true) (hs : notStar e = true) (hli : (apos.endLine == cpos.line) = true) (ho : PE X o (tE X C W P cl mo)) (he : PE X e (tE X C W P cl me)) :
    PE X (.Call (.Attribute o "pop" apos) [e] [] cpos) (tE X C W P cl (.bm mo .hpop (.cons me .nil))) := by
  refine s_bm1 PySem.F.plainAttrs_list PySem.F.slot_list_pop (by first | exact PySem.F.type_list_pop | rfl) mt_popAt (fun {F phi h H d v} hr rv c => ?_) (fun {F R phi rr h σ H d a v u Q} S rd ra p => ?_) hb hs hli ho he
  · cases d <;> simp [bmOk] at c
    rename_i n
    split at c <;> rename_i e0
    · simp only [VRep] at rv
      obtain ⟨ad, rfl, e1⟩ := rv
      obtain ⟨vs, e2, _⟩ := hr.obj _ _ _ e1 e0
      exact .inl ⟨rfl, vs, .inl (.inl e2)⟩
    · exact absurd c (by simp)
  · cases d with
    | ref n =>
      cases a with
      | int i =>
        simp only [bmGo] at p
        cases e0 : h[n]? with
        | none => rw [e0] at p; exact p.elim
        | some ob =>
          rw [e0] at p
          cases ob with
          | lst xs =>
            simp only at p
            cases e1 : L2.ixN xs.length i with
            | none => rw [e1] at p; exact p.elim
            | some j =>
              rw [e1] at p
              simp only at p
              cases e2 : xs[j]? with
              | none => rw [e2] at p; exact p.elim
              | some y =>
                rw [e2] at p
                simp only at p
                simp only [VRep] at rd ra
                obtain ⟨ad, rfl, e3⟩ := rd
                obtain ⟨vs, e4, rv⟩ := S.hr.obj _ _ _ e3 e0
                obtain ⟨w, e5, rw'⟩ := rv.at e2
                obtain ⟨q1, q2, q3, q4⟩ := ixN_seq e1
                have hz : xs.length ≤ xs.length := Nat.le_refl _
                subst ra
                by_cases big : xs.length ≤ lim
                case neg => rw [if_neg big] at p; exact p.elim
                rw [if_pos big] at p
                have : lim = 16777216 := rfl
                refine ⟨ad, vs, i, j, w, rfl, rfl, e4, by omega, by omega, by rw [rv.len]; exact q1, e5, ?_⟩
                exact p F phi w _ (Sub.refl _) (Pre.refl _) (S.writeH e3 ⟨vs.eraseIdx j, upd_same, rv.erase j⟩) rw'
          | _ => exact p.elim
      | _ => simp only [bmGo, bmeth] at p; exact p.elim
    | _ => simp only [bmGo, bmeth] at p; exact p.elim
/-- list(x), new -/
theorem cr_either {v : Value} {r r' : List V → Hp → VK → Prop} (a : CallR X v r) (b : CallR X v r') : CallR X v (fun xs H Q => r xs H Q ∨ r' xs H Q) := fun pins s σ H xs us Q I rv q => q.elim (fun q => a pins s σ H xs us Q I rv q) fun q => b pins s σ H xs us Q I rv q
theorem s_listF (hc : X.calm = true) {x : Str} {p pos : Pos} (hx : x = ("list" : Str)) (hg : Gl X x) (hm : X.mg x = none) (hs : notStar e = true) (he : PE X e (tE X C W P cl me)) : PE X (.Call (.Name x p) [e] [] pos) (tF X.K C W (evF P cl (.blt .list (.cons me .nil)))) := by
  subst hx
  have hz : starEach [e] X.env = (false, eval e X.env) :: starEach [] X.env := starEach_cons hs
  refine (pe_callTy (cr_either call_list_of (call_listD hc)) hg hm rfl (pa_cons he pa_nil hz) (by decide) (by decide) hz rfl).imp fun σ H Q ⟨F, R, phi, r, h, S, p⟩ => ?_
  have e1 : evF P cl (.blt .list (.cons me .nil)) r h = (evE P cl me r h).bind fun d h1 => (opt (blt .list [d] h1) h1).bind fun d h1 => match d with
      | .lst xs => .ok (.ol xs) h1
      | .dct kvs => .ok (.od kvs) h1
      | _ => .stk := by
    simp only [evF, E.fresh, if_true, evE, evEs]
    cases evE P cl me r h <;> rfl
  rw [e1] at p
  refine (tF_bind S p).mono fun x H1 ⟨F1, phi1, d, h1, s1, q1, S1, rx, _, p1⟩ => ?_
  cases ei : items d h1 with
  | none =>
    have : ∀ z, blt .list [d] h1 = some z → (∃ kvs, d = .dct kvs) := fun z hz => by
      cases d <;> simp [blt, ei] at hz ⊢
    cases eb : blt .list [d] h1 with
    | none => rw [eb] at p1; exact p1.elim
    | some z =>
      obtain ⟨kvs, rfl⟩ := this z eb
      simp only [blt, opt_some, Res.bind_ok] at p1
      simp only [VRep] at rx
      obtain ⟨a, kws, rfl, e3, e4⟩ := rx
      refine .inr ⟨a, kws, rfl, .inl (S1.hr.fH _ _ e3), fun t ht => ?_⟩
      have gr : Grow F1 H1 F1 (upd H1 t (.lst (kws.map fun kv => kV kv.1))) := ⟨Sub.updF ht, fun _ _ _ => rfl, S1.hr.fH.trans (Sub.updF ht), fun _ _ h => h⟩
      exact p1 F1 phi1 _ _ (Sub.refl _) (Pre.refl _) (S1.grow gr) ⟨t, _, rfl, upd_same, e4.keys, S1.apart ht⟩
  | some ys =>
    have eb : blt .list [d] h1 = some (.lst ys) := by
      cases d <;> simp [blt, ei] <;> (simp [items] at ei)
    rw [eb] at p1
    obtain ⟨a, vs, rfl, e3, e4⟩ := items_rep S1.hr rx ei
    refine .inl ⟨a, vs, rfl, e4.imp (fun z => .inl (.inl z)) id, fun t ht => ?_⟩
    have gr : Grow F1 H1 F1 (upd H1 t (.lst vs)) := ⟨Sub.updF ht, fun _ _ _ => rfl, S1.hr.fH.trans (Sub.updF ht), fun _ _ h => h⟩
    exact p1 F1 phi1 _ _ (Sub.refl _) (Pre.refl _) (S1.grow gr) ⟨t, vs, rfl, upd_same, e3, S1.apart ht⟩
/-- append to a heap's list -/
theorem s_appH {p4 : Pos} (hb : abB o = true) (hs : notStar e = true) (hli : (apos.endLine == cpos.line) = true) (ho : PE X o (tE X C W P cl mo)) (he : PE X e (tE X C W P cl me)) :
    PS X (.Expr (.Call (.Attribute o "append" apos) [e] [] cpos) p4) (tSt X C W P cl (.appH mo me)) := by
  have hz : starEach [e] X.env = (false, eval e X.env) :: starEach [] X.env := starEach_cons hs
  have pm := pe_bm (apos := apos) (cpos := cpos) PySem.F.plainAttrs_list PySem.F.slot_list_append (by first | exact PySem.F.type_list_append | rfl) (mt_append (X := X)) ho (pa_cons he pa_nil hz) (abB_ok hb) (by rw [hz]; rfl) hli hz rfl
  refine (ps_expr pm rfl).imp fun D σ H ⟨F, R, phi, r, h, S, q⟩ => ?_
  have eq : evS P cl (.appH mo me) r h = rS (evE P cl mo r h) fun x h1 => if bmOk .hpop x h1 = true then rS (evE P cl me r h1) fun d h2 => match x with
      | .ref n => match h2[n]? with
        | some (.lst xs) => if xs.length < lim then .nx r (h2.set n (.lst (xs ++ [d]))) else .stk
        | _ => .stk
      | _ => .stk
    else .stk := by
    rw [evS]
    cases evE P cl mo r h with
    | ok x h1 =>
      simp only [rS]
      cases evE P cl me r h1 <;> rfl
    | _ => rfl
  rw [eq] at q
  refine (tS_bind S q).mono fun x H1 ⟨F1, phi1, d0, h1, s1, q1, S1, rx, _, p1⟩ => ?_
  by_cases c : bmOk .hpop d0 h1 = true
  case neg => rw [if_neg c] at p1; exact p1.elim
  rw [if_pos c] at p1
  cases d0 <;> simp [bmOk] at c
  rename_i n _
  simp only [VRep] at rx
  obtain ⟨ad, rfl, ep⟩ := rx
  refine ⟨?_, ?_⟩
  · split at c <;> rename_i e0
    · obtain ⟨vs, e2, _⟩ := S1.hr.obj _ _ _ ep e0
      exact .inl ⟨rfl, vs, .inl (.inl e2)⟩
    · exact absurd c (by simp)
  · refine (tS_bind S1 p1).mono fun y H2 ⟨F2, phi2, d, h2, s2, q2, S2, ry, _, p2⟩ => ?_
    have ep := q2 n ad ep
    simp only at p2
    cases e1 : h2[n]? with
    | none => rw [e1] at p2; exact p2.elim
    | some u =>
      rw [e1] at p2
      cases u with
      | lst xs =>
        simp only at p2
        obtain ⟨vs, t1, t2⟩ := (show ∃ vs, H2 ad = some (.lst vs) ∧ VReps X.K F2 phi2 xs vs from S2.hr.obj n ad _ ep e1)
        by_cases hl : xs.length < lim
        · rw [if_pos hl] at p2
          refine ⟨ad, vs, y, rfl, rfl, t1, by rw [t2.len, ← lim_eq]; exact hl, ?_⟩
          refine p2 F2 phi2 σ _ (Sub.refl _) (Pre.refl _) (S2.writeH ep ?_)
          exact ⟨_, upd_same, t2.app (VReps.cons ry VReps.nil)⟩
        · rw [if_neg hl] at p2; exact p2.elim
      | dct _ => exact p2.elim
      | ins _ _ => exact p2.elim
end
end MP


set_option Elab.async false
set_option linter.all false
set_option maxHeartbeats 2000000
/-! displays of dicts. -/
namespace MP
open PySem PySem.Spec PyProof.Rows L2
def inter : List (Option Expr) → List Expr → Option (List Expr)
  | [], [] => some []
  | some k :: ks, v :: vs => (inter ks vs).map fun l => k :: v :: l
  | _, _ => none
section
variable {X : Cx} {C : Stc} {W : WX} {P : Prog} {cl : Nat → List D → Hh → Res SV}
inductive EachP (X : Cx) (C : Stc) (W : WX) (P : Prog) (cl : Nat → List D → Hh → Res SV) : Es → List Expr → Prop
  | nil : EachP X C W P cl .nil []
  | cons {m : E} {ms : Es} {e : Expr} {l : List Expr} : PE X e (tE X C W P cl m) → EachP X C W P cl ms l → EachP X C W P cl (.cons m ms) (e :: l)
def trsOf (X : Cx) (C : Stc) (W : WX) (P : Prog) (cl : Nat → List D → Hh → Res SV) : Es → List (TE × TE)
  | .cons mk (.cons mv ms) => (tE X C W P cl mk, tE X C W P cl mv) :: trsOf X C W P cl ms
  | _ => []
theorem pps_of {pos : Pos} : ∀ (keys : List (Option Expr)) (vals : List Expr) {kvs : Es} {l : List Expr}, inter keys vals = some l → EachP X C W P cl kvs l → PPs X pos keys vals (trsOf X C W P cl kvs) ∧ keys.all (·.isSome) = true ∧ keys.length = vals.length ∧ (trsOf X C W P cl kvs).length = keys.length
  | [], [], kvs, l, h, e => by
    cases h
    cases e
    exact ⟨pps_nil, rfl, rfl, rfl⟩
  | [], v :: vs, kvs, l, h, e => by cases h
  | none :: ks, _, kvs, l, h, e => by cases h
  | some k :: ks, [], kvs, l, h, e => by cases h
  | some k :: ks, v :: vs, kvs, l, h, e => by
    rw [inter, Option.map_eq_some_iff] at h
    obtain ⟨l', h1, rfl⟩ := h
    cases e with
    | cons p1 e =>
    cases e with
    | cons p2 e =>
      obtain ⟨q1, q2, q3, q4⟩ := pps_of ks vs h1 e
      refine ⟨pps_cons p1 p2 q1, by simpa using q2, by simp [q3], by simp [trsOf, q4]⟩
theorem evEs_cons2 (ma mb : E) (ms : Es) (r : Env) (h : Hh) : evEs P cl (.cons ma (.cons mb ms)) r h = (evE P cl ma r h).bind fun d h1 => (evE P cl mb r h1).bind fun d2 h2 => (evEs P cl ms r h2).bind fun ds h3 => .ok (d :: d2 :: ds) h3 := by
  rw [evEs]
  cases evE P cl ma r h with
  | ok d h1 =>
    simp only [Res.bind_ok]
    rw [evEs]
    cases evE P cl mb r h1 with
    | ok d2 h2 =>
      simp only [Res.bind_ok]
      cases evEs P cl ms r h2 <;> rfl
    | _ => rfl
  | _ => rfl
def flatP (ps : List (V × V)) : List V := ps.flatMap fun p => [p.1, p.2]
theorem flatP_inj : ∀ {ps qs : List (V × V)}, flatP ps = flatP qs → ps = qs
  | [], [], _ => rfl
  | [], q :: qs, h => by simp [flatP] at h
  | p :: ps, [], h => by simp [flatP] at h
  | p :: ps, q :: qs, h => by
    simp only [flatP, List.flatMap_cons, List.cons_append, List.nil_append, List.cons.injEq] at h
    obtain ⟨h1, h2, h3⟩ := h
    rw [flatP_inj (ps := ps) (qs := qs) h3, show p = q from Prod.ext h1 h2]
theorem tPairs_mono : ∀ (kvs : Es) {σ : L2.St} {H : Hp} {Q Q' : List (V × V) → Hp → Prop}, (∀ ps H, Q ps H → Q' ps H) → tPairs (trsOf X C W P cl kvs) σ H Q → tPairs (trsOf X C W P cl kvs) σ H Q'
  | .nil, σ, H, Q, Q', m, p => m _ _ p
  | .cons _ .nil, σ, H, Q, Q', m, p => m _ _ p
  | .cons mk (.cons mv ms), σ, H, Q, Q', m, p => by
    simp only [trsOf, tPairs] at p ⊢
    exact tR.mono p fun x H1 p1 => tR.mono p1 fun y H2 p2 => tPairs_mono ms (fun ps H z => m _ _ z) p2
theorem tPairs_of : ∀ (kvs : Es) {keys : List (Option Expr)} {vals l : List Expr} {F R : Hp} {phi : List Addr} {r : Env} {h : Hh} {σ : L2.St} {H : Hp} {Q : List V → Hp → Prop}, inter keys vals = some l → EachP X C W P cl kvs l → SR X.K C F R phi r h σ H →
    ePost X.K C W (VReps X.K) F R phi r σ (evEs P cl kvs r h) Q → tPairs (trsOf X C W P cl kvs) σ H fun ps H' => ps.length = (trsOf X C W P cl kvs).length ∧ Q (flatP ps) H'
  | kvs, [], [], l, F, R, phi, r, h, σ, H, Q, hi, e, S, p => by
    cases hi
    cases e
    rw [evEs] at p
    exact ⟨rfl, p F phi [] H (Sub.refl _) (Pre.refl _) S VReps.nil⟩
  | kvs, [], v :: vs, l, F, R, phi, r, h, σ, H, Q, hi, e, S, p => by cases hi
  | kvs, none :: ks, _, l, F, R, phi, r, h, σ, H, Q, hi, e, S, p => by cases hi
  | kvs, some k :: ks, [], l, F, R, phi, r, h, σ, H, Q, hi, e, S, p => by cases hi
  | kvs, some k :: ks, v :: vs, l, F, R, phi, r, h, σ, H, Q, hi, e, S, p => by
    rw [inter, Option.map_eq_some_iff] at hi
    obtain ⟨l', h1, rfl⟩ := hi
    cases e with
    | cons p1 e =>
    cases e with
    | cons p2 e =>
      rw [evEs_cons2] at p
      simp only [trsOf, tPairs]
      refine (tR_bind S p).mono fun x H1 ⟨F1, phi1, d, h1', s1, q1, S1, rx, _, p1⟩ => ?_
      refine (tR_bind S1 p1).mono fun y H2 ⟨F2, phi2, d2, h2, s2, q2, S2, ry, _, p2⟩ => ?_
      have ih := tPairs_of _ (Q := fun vs H => Q (x :: y :: vs) H) h1 e S2 (by
        revert p2
        cases evEs P cl _ r h2 with
        | ok ds h3 =>
          intro p2 F' phi' b H' s q S' rp
          exact p2 F' phi' (x :: y :: b) H' s q S' (VReps.cons (VRep.mono (s2.trans s) (q2.trans q) _ _ rx) (VReps.cons (VRep.mono s q _ _ ry) rp))
        | exc c h3 => exact fun p2 => p2
        | stk => exact fun p2 => p2)
      exact tPairs_mono _ (fun ps H' z => ⟨by simp [z.1], by simpa [flatP] using z.2⟩) ih
/-- the pairs, as keys and values -/
theorem pairUp_rep {K : PySem.W.Frag} {F : Hp} {phi : List Addr} : ∀ {ds : List D} {kvs : List (Ky × D)} {vs : List V}, pairUp ds = some kvs → VReps K F phi ds vs → ∃ kws, KReps K F phi kvs kws ∧ vs = flatP (kws.map fun kv => (kV kv.1, kv.2))
  | [], kvs, vs, e, q => by
    cases e
    simp only [VReps] at q
    subst q
    exact ⟨[], KReps.nil, rfl⟩
  | [_], kvs, vs, e, q => by simp [pairUp] at e
  | k :: v :: ds, kvs, vs, e, q => by
    simp only [pairUp] at e
    split at e
    · rename_i k' kvs' e1 e2
      cases e
      simp only [VReps] at q
      obtain ⟨x, ws, rfl, q1, y, us, rfl, q2, q3⟩ := q
      obtain ⟨kws, r1, r2⟩ := pairUp_rep e2 q3
      refine ⟨(kyK k', y) :: kws, KReps.cons q2 r1, ?_⟩
      have ex : x = kV (kyK k') := by
        cases k <;> simp only [D.ky] at e1 <;> try contradiction
        · cases e1
          simp only [VRep] at q1
          exact q1
        · cases e1
          simp only [VRep] at q1
          exact q1
      subst ex r2
      rfl
    · cases e
theorem fold_rep {K : PySem.W.Frag} {F : Hp} {phi : List Addr} : ∀ {kvs acc : List (Ky × D)} {kws accw : List (Key × V)}, KReps K F phi kvs kws → KReps K F phi acc accw → KReps K F phi (kvs.foldl (fun m p => putK m p.1 p.2) acc) (mergeK accw kws)
  | [], acc, kws, accw, q, a => by
    simp only [KReps] at q
    subst q
    exact a
  | (k, d) :: kvs, acc, kws, accw, q, a => by
    simp only [KReps] at q
    obtain ⟨v, ws, rfl, q1, q2⟩ := q
    rw [List.foldl_cons]
    show KReps K F phi _ (mergeK (L2.putK accw (kyK k) v) ws)
    exact fold_rep q2 (a.put k q1)
theorem s_dct {pos : Pos} {kvs : Es} {keys : List (Option Expr)} {vals l : List Expr} (hi : inter keys vals = some l) (h15 : keys.length ≤ 15) (e : EachP X C W P cl kvs l) : PE X (.Dict keys vals pos) (tE X C W P cl (.dct kvs)) := by
  obtain ⟨q1, q2, q3, q4⟩ := pps_of (pos := pos) keys vals hi e
  by_cases h0 : keys = []
  · subst h0
    cases vals with
    | cons _ _ => cases hi
    | nil =>
      cases hi
      cases e
      refine pe_dnewK.imp fun σ H Q ⟨F, R, phi, r, h, S, p⟩ => ?_
      intro a ha
      rw [evE, evEs] at p
      exact p (upd F a (.dK [])) phi (.ref a) _ (Sub.upd S.hr.fH ha) (Pre.refl _) (S.grow (Grow.one S.hr.fH ha)) (by simp only [VRep]; exact ⟨a, [], rfl, upd_same, KReps.nil⟩)
  · refine (pe_disp q1 q2 q3 h0 h15).imp fun σ H Q ⟨F, R, phi, r, h, S, p⟩ => ?_
    intro a ha
    have ap := S.apart ha
    have hR : R a = none := by
      cases hh : R a with
      | none => rfl
      | some o =>
        have := S.rH a o hh
        rw [ha] at this
        cases this
    have S1 : SR X.K C F R phi r h σ (upd H a (.dK [])) := S.grow ⟨fun b o q => by rw [upd_ne (ne_of_none q ha)]; exact q, fun _ _ _ => rfl, Sub.trans S.hr.fH fun b o q => by rw [upd_ne (ne_of_none q ha)]; exact q, fun _ _ h => h⟩
    have S2 := S1.intoR upd_same ap
    have main := tPairs_of kvs (Q := fun vs H2 => H2 a = some (.dK []) ∧ ∃ kws : List (Key × V), vs = flatP (kws.map fun kv => (kV kv.1, kv.2)) ∧ Q (.ref a) (upd H2 a (.dK (mergeK [] kws)))) hi e S2 (by
      rw [evE] at p
      revert p
      cases evEs P cl kvs r h with
      | ok ds h1 =>
        intro p F' phi' b H' s q S' rp
        have p : ePost X.K C W (VRep X.K) F R phi r σ (opt ((pairUp ds).map fun kvs => .dct (kvs.foldl (fun m p => putK m p.1 p.2) [])) h1) Q := p
        cases eu : pairUp ds with
        | none => rw [eu] at p; exact p.elim
        | some kvsD =>
          rw [eu] at p
          obtain ⟨kws, r1, r2⟩ := pairUp_rep eu rp
          refine ⟨S'.rH a _ upd_same, kws, r2, ?_⟩
          have S3 := S'.poke (.dK (mergeK [] kws))
          have ap' := S3.apartR hR
          have S5 := (S3.lessR (Sub.updF hR)).intoF upd_same ap'
          have hF : F' a = none := S'.rF a _ upd_same
          exact p _ phi' (.ref a) _ (s.trans (Sub.updF hF)) q S5 (by
            simp only [VRep]
            exact ⟨a, _, rfl, upd_same, KReps.mono (Sub.updF hF) (Pre.refl _) _ _ (fold_rep r1 KReps.nil)⟩)
      | exc c h1 =>
        intro p F' phi' H' s q S'
        exact p F' phi' H' s q (S'.lessR (Sub.updF hR))
      | stk => exact fun p => p)
    refine tPairs_mono kvs (fun ps H2 z => ?_) main
    obtain ⟨z1, z2, kws, z3, z4⟩ := z
    have := flatP_inj z3
    refine ⟨z2, kws, this, ?_, z4⟩
    rw [this, List.length_map] at z1
    omega
end
end MP


set_option Elab.async false
set_option linter.all false
set_option maxRecDepth 100000
set_option maxHeartbeats 2000000
/-! zip of two lists or two tuples that says strict=True. -/
namespace MP
open PySem PySem.Spec PyProof.Rows L2
/-- an iterator over a list (false) or a tuple (true); what stands there -/
def ItH (t : Bool) (h : Heap) (a l : Addr) (i : Nat) : Prop := match t with
  | false => h.IsListIter a l i
  | true => h.IsTupleIter a l i
def SqH (t : Bool) (h : Heap) (l : Addr) (its : Array Value) : Prop := match t with
  | false => h.IsList l its
  | true => h.IsTuple l its
def itOb (t : Bool) (l : Addr) : Obj := match t with
  | false => { cls := .type "list_iterator", data := .fields #[.ref l, .int 0 0] }
  | true => { cls := .type "tuple_iterator", data := .fields #[.ref l, .int 0 0] }
section
variable {t : Bool} {h h' : Heap} {a l : Addr} {i : Nat} {its : Array Value}
theorem ItH.up (x : ItH t h a l i) (k : ∀ o, h.get? a = some o → h'.get? a = some o) : ItH t h' a l i := by
  cases t with
  | false => exact Heap.IsListIter.at x k
  | true => exact Heap.IsTupleIter.at x k
theorem SqH.up (x : SqH t h l its) (k : ∀ o, h.get? l = some o → h'.get? l = some o) : SqH t h' l its := by
  cases t with
  | false => obtain ⟨o, e, r⟩ := x; exact ⟨o, k o e, r⟩
  | true => obtain ⟨o, e, r⟩ := x; exact ⟨o, k o e, r⟩
theorem SqH.there (x : SqH t h l its) : l < h.objs.size := by
  cases t with
  | false => obtain ⟨o, e, r⟩ := x; exact Heap.lt_size e
  | true => obtain ⟨o, e, r⟩ := x; exact Heap.lt_size e
theorem ItH.ob (x : ItH t h a l i) : ∃ o, h.get? a = some o ∧ ∀ v, o.data ≠ .cell v := by
  cases t with
  | false => obtain ⟨o, e, _, d⟩ := x; exact ⟨o, e, fun v q => by rw [d] at q; cases q⟩
  | true => obtain ⟨o, e, _, d⟩ := x; exact ⟨o, e, fun v q => by rw [d] at q; cases q⟩
theorem ItH.new (e : h.get? a = some (itOb t l)) : ItH t h a l 0 := by
  cases t with
  | false => exact ⟨_, e, rfl, rfl⟩
  | true => exact ⟨_, e, rfl, rfl⟩
theorem itOb_free : (itOb t l).isFreed = false := by cases t <;> rfl
end
section
variable {prog : Program} {w : World} {A : Around} {E : Value → Shared → Prop} {s : Shared} {t : Bool}
theorem iter_sq {l : Addr} {its : Array Value} {Q : Value → Shared → Prop} (x : SqH t s.heap l its) (q : Q (.ref s.heap.objs.size) { s with heap := s.heap.push (itOb t l) }) : wpAny (model prog w) A (pyIter (.ref l)) Q E s := by
  cases t with
  | false => exact wpAny_pyIter_list x q
  | true => exact wpAny_pyIter_tuple x q
theorem wpn {α : Type} {M : Model} {c : Prop} [Decidable c] {x y : Sem α} {Q : α → Shared → Prop} (hc : ¬ c) (h : wpAny M A y Q E s) : wpAny M A (if c then x else y) Q E s := (if_neg hc : (if c then x else y) = y).symm ▸ h
/-- the next item, or the end -/
theorem end_item {it l : Addr} {i : Nat} {its : Array Value} {x : Value} {Q : Option Value → Shared → Prop} (hi : ItH t s.heap it l i) (hs : SqH t s.heap l its) (hx : its[i]? = some x)
    (q : ∀ h', ItH t h' it l (i + 1) → Heap.SameBut it s.heap h' → Q (some x) { s with heap := h' }) : wpAny (model prog w) A (Builtin.SmallTypes.nextOrEnd (.ref it)) Q E s := by
  unfold Builtin.SmallTypes.nextOrEnd
  refine wpAny_bind (wpAny_attempt ?_)
  cases t with
  | false => exact wpAny_nextOf_list_item hi hs hx fun h' z1 z2 => wpAny_pure (q h' z1 z2)
  | true => exact RZ.nextOf_tuple_item hi hs hx fun h' z1 z2 => wpAny_pure (q h' z1 z2)
theorem end_none {it l : Addr} {i : Nat} {its : Array Value} {Q : Option Value → Shared → Prop} (hh : A.handled = none) (hi : ItH t s.heap it l i) (hs : SqH t s.heap l its) (hx : its[i]? = none)
    (q : ∀ h', Heap.ExtBut it s.heap h' → Q none { s with heap := h' }) : wpAny (model prog w) A (Builtin.SmallTypes.nextOrEnd (.ref it)) Q E s := by
  unfold Builtin.SmallTypes.nextOrEnd
  refine wpAny_bind (wpAny_attempt ?_)
  have go : ∀ h' e, Heap.ExtBut it s.heap h' → (∃ o, h'.get? e = some o ∧ o.cls = .type "StopIteration") → wpAny (model prog w) A (do if ← isInstance (.ref e) (.type "StopIteration") then pure none else throw (.ref e)) Q E { s with heap := h' } :=
    fun h' e k ⟨o, ho, hc⟩ => wpAny_bind (wpAny_isInstance (T := "StopIteration") (b := true) ⟨o, ho, hc⟩ isSubtype_stop (wpAny_pure (q h' k)))
  cases t with
  | false => exact wpAny_nextOf_list_end hh hi hs hx fun h' e k z => go h' e k z
  | true => exact RZ.nextOf_tuple_end hh hi hs hx fun h' e k z => go h' e k z
end
/-- a zip that is strict -/
abbrev ZipS (h : Heap) (z p q : Addr) (f : Value) : Prop := h.get? z = some { cls := .type "zip", dict := none, data := .fields #[f, .bool false, .bool true, .ref p, .ref q], slots := #[] }
section
variable {prog : Program} {w : World} {A : Around} {E : Value → Shared → Prop} {s : Shared} {t : Bool} {z p q i1 i2 l1 l2 : Addr} {k : Nat} {xs ys : Array Value} {x y a b : Value}
theorem zipS_item {Q : Value → Shared → Prop} (D : ZipApart z p q i1 i2 l1 l2) (hz : ZipS s.heap z p q .none) (hp : IsPair s.heap p (.ref i1) (.ref i2)) (hq : IsPair s.heap q a b) (h1 : ItH t s.heap i1 l1 k) (h2 : ItH t s.heap i2 l2 k)
    (s1 : SqH t s.heap l1 xs) (s2 : SqH t s.heap l2 ys) (hx : xs[k]? = some x) (hy : ys[k]? = some y)
    (go : ∀ h', ZipS h' z p q (rawInt s.heap.objs.size) → IsPair h' q x y → ItH t h' i1 l1 (k + 1) → ItH t h' i2 l2 (k + 1) → IsPair h' s.heap.objs.size x y → h'.objs.size = s.heap.objs.size + 1 →
      (∀ c o, c ≠ z → c ≠ q → c ≠ i1 → c ≠ i2 → s.heap.get? c = some o → h'.get? c = some o) → Q (.ref s.heap.objs.size) { s with heap := h' }) :
    wpAny (model prog w) A (Builtin.«zip.__next__» ⟨[.ref z], []⟩) (fun fin s' => ∃ v, fin = .done (.ret v) ∧ Q v s') E s := by
  show wpAny _ _ (field (.ref z) 2 >>= _) _ _ _
  refine wpAny_bind (wpAny_field hz rfl (x := .bool true) rfl ?_); show wpAny _ _ (field (.ref z) 3 >>= _) _ _ _
  refine wpAny_bind (wpAny_field hz rfl (x := .ref p) rfl (wpAny_bind (wpAny_seqItems hp rfl ?_)))
  show wpAny _ _ (Builtin.SmallTypes.ownedTupleIsFree (.ref z) >>= _) _ _ _
  refine wpAny_bind ?_; unfold Builtin.SmallTypes.ownedTupleIsFree
  refine wpAny_bind (wpAny_field hz rfl (x := .none) rfl (wpAny_pure ?_)); simp only [if_true]
  refine wpAny_bind (wpAny_rule (wpAny_bind (wpAny_field hz rfl (x := .ref q) rfl (wpAny_bind (wpAny_setField_rec hz (by simp) fun g1 z1 b1 => ?_)))))
  replace z1 : ZipS g1 z p q .ellipsis := z1
  have up1 : ∀ {c o}, c ≠ z → s.heap.get? c = some o → g1.get? c = some o := fun c1 e => b1.extBut _ _ c1 e
  refine wpAny_bind ?_; simp only [List.zipIdx_cons, List.zipIdx_nil, List.forIn_cons, List.forIn_nil]
  refine wpAny_bind (wpAny_bind (wpAny_onRaise ?_)); show wpAny _ _ (Builtin.SmallTypes.nextOrEnd (.ref i1)) _ _ _
  refine end_item (h1.up fun o e => up1 D.i1z e) (s1.up fun o e => up1 D.l1z e) hx fun g2 j1 b2 => ?_
  have up2 : ∀ {c o}, c ≠ z → c ≠ i1 → s.heap.get? c = some o → g2.get? c = some o := fun c1 c2 e => b2.extBut _ _ c2 (up1 c1 e)
  have hq2 : IsPair g2 q a b := up2 D.TOz D.TOi1 hq
  refine wpAny_bind (wpAny_seqItems hq2 rfl (wpAny_bind (wpAny_updateSeq_pair hq2 fun g3 hq3 b3 => ?_)))
  replace hq3 : IsPair g3 q x b := hq3
  have up3 : ∀ {c o}, c ≠ z → c ≠ i1 → c ≠ q → s.heap.get? c = some o → g3.get? c = some o := fun c1 c2 c3 e => b3.extBut _ _ c3 (up2 c1 c2 e)
  refine wpAny_bind (wpAny_letGo (wpAny_pure (wpAny_bind (wpAny_bind (wpAny_onRaise ?_))))); show wpAny _ _ (Builtin.SmallTypes.nextOrEnd (.ref i2)) _ _ _
  refine end_item (h2.up fun o e => up3 D.i2z D.i12.symm D.TOi2.symm e) (s2.up fun o e => up3 D.l2z D.l2i1 D.l2TO e) hy fun g4 j2 b4 => ?_
  have hq4 : IsPair g4 q x b := b4.extBut _ _ D.TOi2 hq3
  refine wpAny_bind (wpAny_seqItems hq4 rfl (wpAny_bind (wpAny_updateSeq_pair hq4 fun g5 hq5 b5 => ?_)))
  replace hq5 : IsPair g5 q x y := hq5
  have up5 : ∀ {c o}, c ≠ z → c ≠ i1 → c ≠ q → c ≠ i2 → s.heap.get? c = some o → g5.get? c = some o := fun c1 c2 c3 c4 e => b5.extBut _ _ c3 (b4.extBut _ _ c4 (up3 c1 c2 c3 e))
  refine wpAny_bind (wpAny_letGo (wpAny_pure (wpAny_pure (wpAny_bind (wpAny_seqItems hq5 rfl (wpAny_bind (wpAny_newTuple ?_)))))))
  have sz : g5.objs.size = s.heap.objs.size := by rw [b5.1, b4.1, b3.1, b2.1, b1.1]
  have z5 : ZipS g5 z p q .ellipsis := b5.extBut _ _ D.TOz.symm (b4.extBut _ _ D.i2z.symm (b3.extBut _ _ D.TOz.symm (b2.extBut _ _ D.i1z.symm z1)))
  have j15 : ItH t g5 i1 l1 (k + 1) := j1.up fun o e => b5.extBut _ _ D.TOi1.symm (b4.extBut _ _ D.i12 (b3.extBut _ _ D.TOi1.symm e))
  have j25 : ItH t g5 i2 l2 (k + 1) := j2.up fun o e => b5.extBut _ _ D.TOi2.symm e
  have zl : z < g5.objs.size := Heap.lt_size z5
  show wpAny _ _ (Builtin.SmallTypes.ownedTupleHandOut (.ref z) (.ref g5.objs.size) >>= _) _ _ _
  refine wpAny_bind ?_; unfold Builtin.SmallTypes.ownedTupleHandOut
  have z6 : ZipS (g5.push { cls := .type "tuple", data := .seq #[x, y] }) z p q .ellipsis := Heap.get?_push_of_some _ z5
  refine wpAny_bind (wpAny_setField_rec z6 (by simp) fun g7 z7 b7 => ?_)
  replace z7 : ZipS g7 z p q (rawInt g5.objs.size) := z7
  refine wpAny_setField_rec z7 (by simp) fun g8 z8 b8 => ?_
  replace z8 : ZipS g8 z p q (rawInt g5.objs.size) := z8
  have up : ∀ c o, c ≠ z → g5.get? c = some o → g8.get? c = some o := fun c o c1 e => b8.extBut _ _ c1 (b7.extBut _ _ c1 (Heap.get?_push_of_some _ e))
  have nw : IsPair g8 g5.objs.size x y := b8.extBut _ _ (Nat.ne_of_gt zl) (b7.extBut _ _ (Nat.ne_of_gt zl) (Heap.get?_push_size _ rfl))
  have s8 : g8.objs.size = g5.objs.size + 1 := by rw [b8.1, b7.1, Heap.size_push]
  rw [sz] at z8 nw s8
  refine wpAny_pure ⟨_, rfl, ?_⟩
  show Q (.ref g5.objs.size) _
  rw [sz]
  exact go g8 z8 (up _ _ D.TOz hq5) (j15.up fun o e => up _ o D.i1z e) (j25.up fun o e => up _ o D.i2z e) nw s8 fun c o c1 c2 c3 c4 e => up c o c1 (up5 c1 c3 c2 c4 e)
theorem zipS_end {Q : Fin → Shared → Prop} (hh : A.handled = none) (D : ZipApart z p q i1 i2 l1 l2) (hz : ZipS s.heap z p q .none) (hp : IsPair s.heap p (.ref i1) (.ref i2)) (hq : IsPair s.heap q a b) (h1 : ItH t s.heap i1 l1 k) (h2 : ItH t s.heap i2 l2 k)
    (s1 : SqH t s.heap l1 xs) (s2 : SqH t s.heap l2 ys) (hx : xs[k]? = none) (hy : ys[k]? = none)
    (hE : ∀ h' e, (∀ c o, c ≠ z → c ≠ i1 → c ≠ i2 → s.heap.get? c = some o → h'.get? c = some o) → (∃ o, h'.get? e = some o ∧ o.cls = .type "StopIteration") → E (.ref e) { s with heap := h' }) :
    wpAny (model prog w) A (Builtin.«zip.__next__» ⟨[.ref z], []⟩) Q E s := by
  show wpAny _ _ (field (.ref z) 2 >>= _) _ _ _
  refine wpAny_bind (wpAny_field hz rfl (x := .bool true) rfl ?_); show wpAny _ _ (field (.ref z) 3 >>= _) _ _ _
  refine wpAny_bind (wpAny_field hz rfl (x := .ref p) rfl (wpAny_bind (wpAny_seqItems hp rfl ?_)))
  show wpAny _ _ (Builtin.SmallTypes.ownedTupleIsFree (.ref z) >>= _) _ _ _
  refine wpAny_bind ?_; unfold Builtin.SmallTypes.ownedTupleIsFree
  refine wpAny_bind (wpAny_field hz rfl (x := .none) rfl (wpAny_pure ?_)); simp only [if_true]
  refine wpAny_bind (wpAny_rule (wpAny_bind (wpAny_field hz rfl (x := .ref q) rfl (wpAny_bind (wpAny_setField_rec hz (by simp) fun g1 z1 b1 => ?_)))))
  replace z1 : ZipS g1 z p q .ellipsis := z1
  have up1 : ∀ {c o}, c ≠ z → s.heap.get? c = some o → g1.get? c = some o := fun c1 e => b1.extBut _ _ c1 e
  refine wpAny_bind ?_; simp only [List.zipIdx_cons, List.zipIdx_nil, List.forIn_cons, List.forIn_nil]
  refine wpAny_bind (wpAny_bind (wpAny_onRaise ?_)); show wpAny _ _ (Builtin.SmallTypes.nextOrEnd (.ref i1)) _ _ _
  refine end_none hh (h1.up fun o e => up1 D.i1z e) (s1.up fun o e => up1 D.l1z e) hx fun g2 b2 => ?_
  have z2 : ZipS g2 z p q .ellipsis := b2 _ _ D.i1z.symm z1
  refine wpAny_bind (wpAny_setField_rec z2 (by simp) fun g3 z3 b3 => ?_)
  have up3 : ∀ {c o}, c ≠ z → c ≠ i1 → s.heap.get? c = some o → g3.get? c = some o := fun c1 c2 e => b3.extBut _ _ c1 (b2 _ _ c2 (up1 c1 e))
  refine wpAny_bind ?_
  refine wpAny_bind ?_
  simp only [List.drop_succ_cons, List.drop_zero, List.zipIdx_cons, List.zipIdx_nil, List.forIn_cons, List.forIn_nil]
  refine wpAny_bind (wpAny_bind (end_none hh (h2.up fun o e => up3 D.i2z D.i12.symm e) (s2.up fun o e => up3 D.l2z D.l2i1 e) hy fun g4 b4 => ?_))
  rw [if_neg (show ¬ ((none : Option Value).isSome = true) by simp)]
  refine wpAny_pure (wpAny_pure (wpAny_bind (wpAny_rule ?_)))
  show wpAny _ _ (newExc (.type "StopIteration") [] >>= _) _ _ _
  refine wpAny_bind ?_; simp only [newExc, newTuple]
  refine wpAny_bind (wpAny_newObj_type (wpAny_bind (m := firstArgMember _ _) (wpAny_of_eq (a := Value.none) (by first | rfl | (simp only [firstArgMember]; rfl)) (wpAny_newObj_type ?_ (by size_fits)))) (by size_fits))
  simp only [raiseNew]; refine wpAny_bind (wpAny_handled ?_); rw [hh]
  refine wpAny_bind (wpAny_pure (wpAny_throw ?_))
  exact hE _ _ (fun c o c1 c2 c3 e => Heap.get?_push_of_some _ (Heap.get?_push_of_some _ (b4 _ _ c3 (up3 c1 c2 e)))) ⟨_, Heap.get?_push_size _ rfl, rfl⟩
/-- asked for the next pair -/
theorem ask_zip {f : Value} {Q : Option Value → Shared → Prop} (hz : ZipS s.heap z p q f) (go : ∀ E', wpAny (model prog w) A.in1 (Builtin.«zip.__next__» ⟨[.ref z], []⟩) (fun fin s' => ∃ v, fin = .done (.ret v) ∧ Q (some v) s') E' s ∨
      (∀ {R : Fin → Shared → Prop}, (∀ h' e, (∃ o, h'.get? e = some o ∧ o.cls = .type "StopIteration") → Q none { s with heap := h' } → E' (.ref e) { s with heap := h' }) → wpAny (model prog w) A.in1 (Builtin.«zip.__next__» ⟨[.ref z], []⟩) R E' s)) : wpAny (model prog w) A (pyNext (.ref z)) Q E s := by
  have hT : s.TypeIs (.ref z) "zip" := ⟨_, hz, rfl⟩
  unfold pyNext
  refine wpAny_bind (wpAny_attempt (wpAny_callSpecial?_slot (name := Str.ofString "__next__") hT F.slot_zip_next (wpAny_call_entry F.slot_zip_next hT F.entry_zip_next ?_ (F.args_zip_next_1 _))))
  rcases go _ with g | g
  · exact wpAny_mono g (fun fin s' ⟨v, e, r⟩ => ⟨v, e, wpAny_pure r⟩) fun _ _ x => x
  · refine g fun h' e ⟨o, ho, hc⟩ r => ?_
    exact wpAny_bind (wpAny_isInstance (T := "StopIteration") (b := true) ⟨o, ho, hc⟩ isSubtype_stop (wpAny_pure r))
theorem go_zipS {elts : List Expr} {n : Nat} {pos : Pos} {T : Addr} {Q : Unit → Shared → Prop} (hz : ZipS s.heap z p q (rawInt T)) (hQ : ∀ h', ZipS h' z p q .none → Heap.SameBut z s.heap h' → Q () { s with heap := h' }) :
    wpAny (model prog w) A (letOwnedTupleGo (.Tuple elts n pos) (.ref z) (.ref T)) Q E s := by
  unfold letOwnedTupleGo
  refine wpAny_bind (wpAny_load hz ?_)
  show wpAny _ _ (if (["enumerate", "zip", "dict_itemiterator", "dict_reverseitemiterator", "odict_iterator", "itertools.zip_longest", "itertools.pairwise"].contains "zip" && (#[rawInt T, .bool false, .bool true, .ref p, .ref q] : Array Value)[0]? == some (rawInt T)) = true then _ else _) Q E s
  rw [if_pos (by simp)]
  refine wpAny_bind (wpAny_rule ?_); show wpAny _ _ (setField (.ref z) 0 .none) Q E s
  exact wpAny_setField_rec hz (by simp) fun h' a1 a2 => hQ h' a1 a2
theorem self_zipS {f : Value} {Q : Value → Shared → Prop} (hz : ZipS s.heap z p q f) (h : Q (.ref z) s) : wpAny (model prog w) A (pyIter (.ref z)) Q E s := by
  have hT : s.TypeIs (.ref z) "zip" := ⟨_, hz, rfl⟩
  refine wpAny_pyIter_slot hT F.slot_zip_iter (wpAny_call_entry F.slot_zip_iter hT F.entry_zip_iter ?_ (F.args_zip_iter_1 _))
  show wpAny _ _ (ret (.ref z)) _ _ s; exact wpAny_pure ⟨_, rfl, "zip", _, hT, F.slot_zip_next.lookup, h⟩
end
/-! ### made -/
theorem zs_type (a b c : Value) : checkTypeCall "zip" ⟨[a, b], [(Str.ofString "strict", c)]⟩ = pure () := by kernel_rfl
theorem zs_call (a b c : Value) : checkBuiltinCall "zip.__new__" ⟨[.type "zip", a, b], [(Str.ofString "strict", c)]⟩ = pure () := by kernel_rfl
theorem zs_init (a b c d : Value) : argsOk "object.__init__" ⟨[a, b, c], [(Str.ofString "strict", d)]⟩ := by unfold argsOk; kernel_rfl
section
variable (t : Bool) (g : Heap) (l1 l2 : Addr)
abbrev zs1 : Heap := g.push (itOb t l1)
abbrev zs2 : Heap := (zs1 t g l1).push (itOb t l2)
abbrev zs3 : Heap := (zs2 t g l1 l2).push { cls := .type "tuple", data := .seq #[.ref g.objs.size, .ref (zs1 t g l1).objs.size] }
abbrev zs4 : Heap := (zs3 t g l1 l2).push { cls := .type "tuple", data := .seq #[.none, .none] }
abbrev zs5 : Heap := (zs4 t g l1 l2).push { cls := .type "zip", data := .fields #[.none, .bool false, .bool true, .ref (zs2 t g l1 l2).objs.size, .ref (zs3 t g l1 l2).objs.size] }
end
theorem zs_new (t : Bool) (l1 l2 : Addr) (xs ys : Array Value) : Meets (Builtin.«zip.__new__» ⟨[.type "zip", .ref l1, .ref l2], [(Str.ofString "strict", .bool true)]⟩) (fun _ R s => SqH t s.heap l1 xs ∧ SqH t s.heap l2 ys ∧
      R (.ok (.ret (.ref (zs4 t s.heap l1 l2).objs.size))) { s with heap := zs5 t s.heap l1 l2 }) :=
  .of_wp fun prog w A R s h => by
    obtain ⟨hp, g, d, tk, os⟩ := s; obtain ⟨a1, a2, h⟩ := h
    have hsub := sub_zip
    have k1 : SqH t (Shared.heap ⟨hp, g, d, tk, os⟩) l1 xs := a1
    have k2 : SqH t (Shared.heap ⟨hp.push (itOb t l1), g, d, tk, os⟩) l2 ys := a2.up fun o e => Heap.get?_push_of_some _ e
    have e1 : (Str.ofString "strict" == ("strict" : Str)) = true := by decide +kernel
    have e2 : (Str.ofString "strict" != ("strict" : Str)) = false := by decide +kernel
    wp_walk using iter_sq k1, iter_sq k2
    exact ⟨_, rfl, h⟩
section
variable {prog : Program} {w : World} {A : Around} {E : Value → Shared → Prop} {s : Shared} {t : Bool}
theorem call_zipS {l1 l2 : Addr} {xs ys : Array Value} {Q : Value → Shared → Prop} (s1 : SqH t s.heap l1 xs) (s2 : SqH t s.heap l2 ys)
    (h : ∀ h', ZipS h' (s.heap.objs.size + 4) (s.heap.objs.size + 2) (s.heap.objs.size + 3) .none → IsPair h' (s.heap.objs.size + 2) (.ref s.heap.objs.size) (.ref (s.heap.objs.size + 1)) → IsPair h' (s.heap.objs.size + 3) .none .none →
      ItH t h' s.heap.objs.size l1 0 → ItH t h' (s.heap.objs.size + 1) l2 0 → (∀ c o, s.heap.get? c = some o → h'.get? c = some o) → Q (.ref (s.heap.objs.size + 4)) { s with heap := h' }) :
    wpAny (model prog w) A (call (.type "zip") [.ref l1, .ref l2] [(Str.ofString "strict", .bool true)]) Q E s := by
  refine callType_newKw F.called_zip (by decide) (zs_type _ _ _) (zs_call _ _ _) (fun obj => zs_init obj _ _ _) F.entry_zip_new (zs_new t l1 l2 xs ys) ⟨s1, s2, ?_⟩
  have e1 : (zs1 t s.heap l1).objs.size = s.heap.objs.size + 1 := Heap.size_push ..
  have e2 : (zs2 t s.heap l1 l2).objs.size = s.heap.objs.size + 2 := (Heap.size_push ..).trans (by rw [e1])
  have e3 : (zs3 t s.heap l1 l2).objs.size = s.heap.objs.size + 3 := (Heap.size_push ..).trans (by rw [e2])
  have e4 : (zs4 t s.heap l1 l2).objs.size = s.heap.objs.size + 4 := (Heap.size_push ..).trans (by rw [e3])
  have up : ∀ {h : Heap} {c : Addr} {o u : Obj}, h.get? c = some o → (h.push u).get? c = some o := fun q => Heap.get?_push_of_some _ q
  have q5 : (zs5 t s.heap l1 l2).get? (zs4 t s.heap l1 l2).objs.size = some _ := Heap.get?_push_size _ rfl
  have q4 : (zs5 t s.heap l1 l2).get? (zs3 t s.heap l1 l2).objs.size = some _ := up (Heap.get?_push_size _ rfl)
  have q3 : (zs5 t s.heap l1 l2).get? (zs2 t s.heap l1 l2).objs.size = some _ := up (up (Heap.get?_push_size _ rfl))
  have q2 : (zs5 t s.heap l1 l2).get? (zs1 t s.heap l1).objs.size = some (itOb t l2) := up (up (up (Heap.get?_push_size _ itOb_free)))
  have q1 : (zs5 t s.heap l1 l2).get? s.heap.objs.size = some (itOb t l1) := up (up (up (up (Heap.get?_push_size _ itOb_free))))
  show _ ∧ _
  rw [e2, e3, e4] at q5
  rw [e1, e2] at q3
  rw [e3] at q4
  rw [e1] at q2
  rw [e4]
  exact ⟨⟨_, q5, rfl⟩, h _ q5 q3 q4 (ItH.new q1) (ItH.new q2) fun c o x => up (up (up (up (up x))))⟩
end
/-! ### walked -/
def SqK (K : PySem.W.Frag) (t : Bool) (H : Hp) (a : Addr) (xs : List V) : Prop := match t with
  | false => SqL K H a xs
  | true => SqT K H a xs
def Itq (K : PySem.W.Frag) (t : Bool) (a b : Addr) : L2.It :=
  ⟨fun i H => ∃ (xs ys : List V) (x y : V), SqK K t H a xs ∧ SqK K t H b ys ∧ xs[i]? = some x ∧ ys[i]? = some y,
    fun i H v H' => ∃ T x y, v = .ref T ∧ H T = none ∧ H' = upd H T (.tup [x, y]) ∧ (∀ xs, SqK K t H a xs → xs[i]? = some x) ∧ ∀ ys, SqK K t H b ys → ys[i]? = some y,
    fun i H => ∃ xs ys : List V, SqK K t H a xs ∧ SqK K t H b ys ∧ xs.length ≤ i ∧ ys.length ≤ i⟩
section
variable {X : Cx} {pins : List (Addr × Obj)} {σ : L2.St} {H : Hp} {s : Shared} {t : Bool} {a b : Addr} {xs ys : List V}
theorem sqk_at (I : L2.Inv X pins σ H s) (h : SqK X.K t H a xs) : ∃ its : List Value, Vals xs its ∧ SqH t s.heap a its.toArray ∧ xs.length ≤ sizeLine := by
  cases t with
  | false =>
    obtain ⟨its, r, p, z⟩ := I.list h
    exact ⟨its, r, p.isList, z⟩
  | true =>
    obtain ⟨its, r, p, z⟩ := I.tuple h
    exact ⟨its, r, p, z⟩
theorem sqk_inj (I : L2.Inv X pins σ H s) (h : SqK X.K t H a xs) (k : SqK X.K t H a ys) : xs = ys := by
  cases t with
  | false => exact I.list_inj h k
  | true => exact I.tuple_inj h k
end
theorem turn_zipS {P : Program} {w : World} {K : PySem.W.Frag} {t : Bool} {elts : List Expr} {kk : Nat} {tpos : Pos} {a b z p q i1 i2 : Addr} (D : ZipApart z p q i1 i2 a b) :
    Turn P w K (.Tuple elts kk tpos) (Itq K t a b) [z, p, q, i1, i2] z (fun i h => ZipS h z p q .none ∧ IsPair h p (.ref i1) (.ref i2) ∧ (∃ x y, IsPair h q x y) ∧ ItH t h i1 a i ∧ ItH t h i2 b i) where
  mem := by simp
  obj := fun i h ⟨hz, hp, ⟨x, y, hq⟩, h1, h2⟩ c hc => by
    have e' : c = z ∨ c = p ∨ c = q ∨ c = i1 ∨ c = i2 := by simpa using hc
    rcases e' with e | e | e | e | e <;> subst e
    · exact ⟨_, hz, fun v q => nomatch q⟩
    · exact ⟨_, hp, fun v q => nomatch q⟩
    · exact ⟨_, hq, fun v q => nomatch q⟩
    · exact h1.ob
    · exact h2.ob
  keep := fun i h h' ⟨hz, hp, ⟨x, y, hq⟩, h1, h2⟩ k => ⟨k z (by simp) _ hz, k p (by simp) _ hp, ⟨x, y, k q (by simp) _ hq⟩, h1.up fun o e => k i1 (by simp) o e, h2.up fun o e => k i2 (by simp) o e⟩
  item := by
    rintro X rfl rfl rfl hc i pins s σ H E I hf ⟨hz, hp, ⟨x0, y0, hq⟩, h1, h2⟩ ⟨xs, ys, x, y, qx, qy, hx, hy⟩
    obtain ⟨its, rv, s1, _⟩ := sqk_at I qx
    obtain ⟨jts, rw', s2, _⟩ := sqk_at I qy
    obtain ⟨u, hu, ru⟩ := rv.get hx
    obtain ⟨v, hv, rv'⟩ := rw'.get hy
    have zl : z < s.heap.objs.size := Heap.lt_size hz
    refine ask_zip hz fun E' => .inl (zipS_item D hz hp hq h1 h2 s1 s2 (x := u) (y := v) (by simpa using hu) (by simpa using hv) fun h' z' q' h1' h2' hT hsz hk => ?_)
    refine ⟨_, rfl, go_zipS (s := { s with heap := h' }) z' fun h'' z'' sb => ?_⟩
    have oth : ∀ {c o}, c ≠ z → h'.get? c = some o → h''.get? c = some o := fun c1 e => (sb.2 _ c1).trans e
    have new : ObjOk X.prog X.w (upd H s.heap.objs.size (.tup [x, y])) h'' s.heap.objs.size (.tup [x, y]) := ⟨by show 2 ≤ sizeLine; decide, [u, v], .cons ru (.cons rv' .nil), ⟨_, oth (Nat.ne_of_gt zl) hT, rfl, _, rfl⟩⟩
    have I1 : L2.Inv X pins σ (upd H s.heap.objs.size (.tup [x, y])) { s with heap := h'' } := I.turnedNew (t' := s.toks) (ch := [z, p, q, i1, i2])
      (fun c o hb e => oth (fun z1 => hb (by simp [z1])) (hk c o (fun z1 => hb (by simp [z1])) (fun z1 => hb (by simp [z1])) (fun z1 => hb (by simp [z1])) (fun z1 => hb (by simp [z1])) e)) hf (Nat.le_refl _) new
    refine ⟨.ref s.heap.objs.size, _, I1, rfl, ⟨_, x, y, rfl, I.hok.fresh (Nat.le_refl _), rfl, fun l hl => sqk_inj I hl qx ▸ hx, fun l hl => sqk_inj I hl qy ▸ hy⟩, ⟨z'', oth D.TIz (hk _ _ D.TIz D.TITO D.TIi1 D.TIi2 hp), ⟨u, v, oth D.TOz q'⟩, h1'.up fun o e => oth D.i1z e, h2'.up fun o e => oth D.i2z e⟩, fun c hcm => ?_⟩
    have hlt : c < s.heap.objs.size := by
      have e' : c = z ∨ c = p ∨ c = q ∨ c = i1 ∨ c = i2 := by simpa using hcm
      rcases e' with e | e | e | e | e <;> subst e
      · exact zl
      · exact Heap.lt_size hp
      · exact Heap.lt_size hq
      · obtain ⟨_, e, _⟩ := h1.ob; exact Heap.lt_size e
      · obtain ⟨_, e, _⟩ := h2.ob; exact Heap.lt_size e
    rw [upd_ne (Nat.ne_of_lt hlt)]
    exact (hf c hcm).1
  done := by
    rintro X rfl rfl rfl hc i pins s σ H E I hf ⟨hz, hp, ⟨x0, y0, hq⟩, h1, h2⟩ ⟨xs, ys, qx, qy, e1, e2⟩
    obtain ⟨its, rv, s1, _⟩ := sqk_at I qx
    obtain ⟨jts, rw', s2, _⟩ := sqk_at I qy
    have n1 := rv.length
    have n2 := rw'.length
    refine ask_zip hz fun E' => .inr fun {R} fin => zipS_end (by exact I.ok.hd hc) D hz hp hq h1 h2 s1 s2 (by simp; omega) (by simp; omega) fun h' e hk he => fin h' e he ⟨rfl, I.turnedL (t' := s.toks) (ch := [z, p, q, i1, i2]) (fun c o hb q =>
      hk c o (fun z1 => hb (by simp [z1])) (fun z1 => hb (by simp [z1])) (fun z1 => hb (by simp [z1])) q) hf⟩
  self := fun A i s Q E st h => self_zipS st.1 h
end MP


set_option Elab.async false
set_option linter.all false
set_option maxRecDepth 100000
set_option maxHeartbeats 2000000
/-! zip(.., .., strict=True) walked. -/
namespace MP
open PySem PySem.Spec PyProof.Rows L2
theorem cw_typeKw {M : Model} {A : Around} {E : Value → Shared → Prop} {s : Shared} {pos : Pos} {T : String} {args : List (Bool × Sem Value)} {kws : List (Option Str × Sem Value)} {Q : Value → Shared → Prop} (h1 : args.any (·.1) = false) (h2 : kws.any (·.1.isNone) = false)
    (h : wpAny M A (evalArgs (.type T) true args kws) (fun a s₁ => wpAny M A (call (.type T) a.pos a.kw) Q E s₁) E s) : wpAny M A (callWith pos (.type T) [] args kws) Q E s := by
  unfold callWith
  refine wpAny_bind (wpAny_holding (wpAny_mono h (fun a s₁ z => wpAny_bind (wpAny_standAt ?_)) fun _ _ x => x))
  simp only [h1, h2, Bool.or_false]
  exact wpAny_bind (wpAny_pure (wpAny_bind (wpAny_mono z (fun r s₂ hr => wpAny_bind (wpAny_holding (wpAny_point (wpAny_pure hr)))) fun _ _ x => x)))
def iZipS (K : PySem.W.Frag) (ta : TA) : TI := fun σ H R => ta σ H fun vs H1 => ∃ a b, vs = [.ref a, .ref b] ∧ ∃ t xs ys, SqK K t H1 a xs ∧ SqK K t H1 b ys ∧ R (Itq K t a b) H1
theorem pi_zipS {X : Cx} {e e2 : Expr} {ta : TA} {p pos tpos cp kp : Pos} {elts : List Expr} {kk j : Nat} (hg : Gl X "zip") (hm : X.mg "zip" = none) (ha : PA X [e, e2] ta)
    (hs : starEach [e, e2] X.env = (false, eval e X.env) :: starEach [e2] X.env := by rfl) (hpl : (backTo pos (starEach [e2] X.env)).any (·.1) = false := by rfl) :
    PI X (.Tuple elts kk tpos) (.Call (.Name "zip" p) [e, e2] [⟨some "strict", .Constant (.bool true) j cp, kp⟩] pos) (iZipS X.K ta) := by
  refine ⟨fun pins s σ H R I h => ?_⟩
  show wpAny _ _ (eval (.Name "zip" p) X.env >>= _) _ _ s
  refine wpAny_bind (ld_blt I hg hm PyProof.Rows.boot_zip (cw_typeKw ?_ rfl ?_))
  · rw [hs]
    show (false || (backTo pos (starEach [e2] X.env)).any (·.1)) = false
    rw [hpl]; rfl
  refine evalArgs_kw2 rfl (thn (ha.run pos pins s σ H _ I h) fun us s1 ⟨vs, H1, I1, r1, a, b, ex, q1⟩ => kwAll_cons (wpAny_pure (kwAll_nil ?_))) hs
  subst ex
  cases r1 with
  | cons r rr =>
    cases rr with
    | cons r' rr =>
      cases rr
      cases r
      cases r'
      obtain ⟨t, xs, ys, qx, qy, q⟩ := q1
      obtain ⟨its, _, s1', _⟩ := sqk_at I1 qx
      obtain ⟨jts, _, s2', _⟩ := sqk_at I1 qy
      have nw : ∀ c, c ∈ [s1.heap.objs.size + 4, s1.heap.objs.size + 2, s1.heap.objs.size + 3, s1.heap.objs.size, s1.heap.objs.size + 1] → FpOk X pins H1 c := fun c hc => by
        have hle : s1.heap.objs.size ≤ c := by
          simp at hc
          omega
        exact I1.fpOk hle (I1.hok.fresh hle)
      refine call_zipS (t := t) s1' s2' fun h' hz hp hq h1 h2 hk => self_zipS hz ?_
      exact ⟨s1.heap.objs.size + 4, _, _, _, H1, rfl, I1.kept (t' := s1.toks) hk, turn_zipS (PySem.W.ktu_apart s1.heap.objs.size a b s1'.there s2'.there), ⟨hz, hp, ⟨_, _, hq⟩, h1, h2⟩, nw, q⟩
theorem walk_zipS {K : PySem.W.Frag} {t : Bool} {a b : Addr} {xs ys : List V} {n : Nat} (h1 : xs.length = n) (h2 : ys.length = n) : L2.Walk (Itq K t a b) n (fun H => SqK K t H a xs ∧ SqK K t H b ys) (YPair (fun i => xs[i]?) (fun i => ys[i]?)) := by
  refine ⟨fun i _ hi q => ⟨xs, ys, xs[i]'(by omega), ys[i]'(by omega), q.1, q.2, by simp, by simp⟩, fun _ q => ⟨xs, ys, q.1, q.2, by omega, by omega⟩, fun i H v H' _ q ⟨T, c, d, z1, z2, z3, z4, z5⟩ => ⟨T, c, d, z1, z2, z3, z4 xs q.1, z5 ys q.2⟩⟩
theorem iw_zipS {K : PySem.W.Frag} {F : Hp} {phi : List Addr} {t : Bool} {x y : Addr} {vs ws : List V} {xs ys : List D} (e1 : ∀ H, Sub F H → SqK K t H x vs) (e2 : ∀ H, Sub F H → SqK K t H y ws) (r1 : VReps K F phi xs vs) (r2 : VReps K F phi ys ws) (he : xs.length = ys.length) (hl : xs.length ≤ sizeLine) :
    IW K F phi (Itq K t x y) (List.zipWith (fun x y => .tup [x, y]) xs ys) := by
  have hn : (List.zipWith (fun x y => D.tup [x, y]) xs ys).length = xs.length := by rw [List.length_zipWith, ← he, Nat.min_self]
  refine ⟨?_, by rw [hn]; exact hl⟩
  rw [hn]
  refine (walk_zipS r1.len (r2.len.trans he.symm)).mono (fun H s => ⟨e1 H s, e2 H s⟩) fun i H v H' hi s ⟨T, a, b, ev, hT, eH, ea, eb⟩ => ?_
  obtain ⟨d1, ed1, rd1⟩ := r1.get ea
  obtain ⟨d2, ed2, rd2⟩ := r2.get eb
  refine ⟨_, zip_get ed1 ed2, fun F2 s2 s3 => ?_⟩
  rw [ev, eH]
  exact pair_rep s3 hT (VRep.mono s2 (Pre.refl _) _ _ rd1) (VRep.mono s2 (Pre.refl _) _ _ rd2)
section
variable {X : Cx} {C : Stc} {W : WX} {P : Prog} {cl : Nat → List D → Hh → Res SV} {a b : Expr} {ma mb : E} {pos p : Pos}
theorem s_itZS {elts : List Expr} {kk j : Nat} {tpos cp kp : Pos} (hg : Gl X "zip") (hm : X.mg "zip" = none) (hs : notStar a = true) (hs2 : notStar b = true) (ha : PE X a (tE X C W P cl ma)) (hb : PE X b (tE X C W P cl mb)) :
    PI X (.Tuple elts kk tpos) (.Call (.Name "zip" p) [a, b] [⟨some "strict", .Constant (.bool true) j cp, kp⟩] pos) (tI X.K C W (evIt P cl (.zip ma mb true))) := by
  have hz2 : starEach [b] X.env = [(false, eval b X.env)] := starEach_cons hs2
  refine ⟨fun pins s σ H R I ⟨F, Rf, phi, r, h, S, q⟩ => ?_⟩
  refine pi_len (R0 := fun J H' => ∃ n, (∃ t x vs, SqK X.K t H' x vs ∧ vs.length = n) ∧ (n ≤ sizeLine → R J H')) ((pi_zipS (elts := elts) (kk := kk) (tpos := tpos) hg hm (pa_cons ha (pa_cons hb pa_nil hz2) (starEach_cons hs)) (starEach_cons hs) (by rw [hz2]; rfl)).run pins s σ H _ I ?_) ?_
  · rw [evIt] at q
    refine (tI_bind S q).mono fun x H1 ⟨F1, phi1, d, h1, s1, q1, S1, rx, _, p1⟩ => ?_
    refine (tI_bind S1 p1).mono fun y H2 ⟨F2, phi2, d2, h2, s2, q2, S2, ry, _, p2⟩ => ?_
    have rx := VRep.mono s2 q2 _ _ rx
    cases d with
    | lst xs =>
      cases d2 with
      | lst ys =>
        simp only [Bool.true_eq_false, false_or] at p2
        by_cases he : xs.length = ys.length
        · rw [if_pos he] at p2
          simp only [VRep] at rx ry
          obtain ⟨x, vs, rfl, e1, r1⟩ := rx
          obtain ⟨y, ws, rfl, e2, r2⟩ := ry
          have u1 : ∀ H, Sub F2 H → SqK X.K false H x vs := fun H s => .inl (.inl (s _ _ e1))
          have u2 : ∀ H, Sub F2 H → SqK X.K false H y ws := fun H s => .inl (.inl (s _ _ e2))
          exact ⟨x, y, rfl, false, vs, ws, u1 _ S2.hr.fH, u2 _ S2.hr.fH, xs.length, ⟨false, x, vs, u1 _ S2.hr.fH, r1.len⟩, fun hl => p2 F2 phi2 _ H2 (Sub.refl _) (Pre.refl _) S2 (iw_zipS u1 u2 r1 r2 he hl)⟩
        · rw [if_neg he] at p2; exact p2.elim
      | _ => exact p2.elim
    | tup xs =>
      cases d2 with
      | tup ys =>
        simp only [Bool.true_eq_false, false_or] at p2
        by_cases he : xs.length = ys.length
        · rw [if_pos he] at p2
          simp only [VRep] at rx ry
          obtain ⟨x, vs, rfl, e1, r1⟩ := rx
          obtain ⟨y, ws, rfl, e2, r2⟩ := ry
          have u1 : ∀ H, Sub F2 H → SqK X.K true H x vs := fun H s => s.seqT e1
          have u2 : ∀ H, Sub F2 H → SqK X.K true H y ws := fun H s => s.seqT e2
          exact ⟨x, y, rfl, true, vs, ws, u1 _ S2.hr.fH, u2 _ S2.hr.fH, xs.length, ⟨true, x, vs, u1 _ S2.hr.fH, r1.len⟩, fun hl => p2 F2 phi2 _ H2 (Sub.refl _) (Pre.refl _) S2 (iw_zipS u1 u2 r1 r2 he hl)⟩
        · rw [if_neg he] at p2; exact p2.elim
      | _ => exact p2.elim
    | _ => cases d2 <;> exact p2.elim
  · rintro J H' s' I' ⟨n, ⟨t, x, vs, sq, rfl⟩, z⟩
    obtain ⟨its, rr, _, hz⟩ := sqk_at I' sq
    exact z hz
end
end MP


set_option Elab.async false
set_option linter.all false
set_option maxRecDepth 100000
set_option maxHeartbeats 2000000
/-! enumerate of a list or a tuple, walked. -/
namespace MP
open PySem PySem.Spec PyProof.Rows L2
abbrev enOb (n : Addr) : Obj := { cls := .type "enumerate", data := .fields #[.none, .bool false, .ref n, rawInt 0, .none, .none] }
abbrev en2 (t : Bool) (g : Heap) (l : Addr) : Heap := (g.push (itOb t l)).push (enOb g.objs.size)
theorem en_new (t : Bool) (l : Addr) (xs : Array Value) : Meets (Builtin.«enumerate.__new__» ⟨[.type "enumerate", .ref l], []⟩) (fun _ R s => SqH t s.heap l xs ∧ R (.ok (.ret (.ref (s.heap.push (itOb t l)).objs.size))) { s with heap := en2 t s.heap l }) :=
  .of_wp fun prog w A R s h => by
    obtain ⟨hp, g, d, tk, os⟩ := s; obtain ⟨a1, h⟩ := h
    have hsub := sub_enumerate
    have k1 : SqH t (Shared.heap ⟨hp, g, d, tk, os⟩) l xs := a1
    wp_walk using iter_sq k1
    refine wpAny_stack_any fun st => wpAny_pure ?_
    split
    · rename_i c _ _ _ _ _
      cases (c == Value.type "enumerate") <;> (wp_walk using iter_sq k1; exact ⟨_, rfl, h⟩)
    · wp_walk using iter_sq k1
      exact ⟨_, rfl, h⟩
section
variable {prog : Program} {w : World} {A : Around} {E : Value → Shared → Prop} {s : Shared} {t : Bool}
theorem call_enumS {l : Addr} {xs : Array Value} {Q : Value → Shared → Prop} (s1 : SqH t s.heap l xs)
    (h : ∀ h', IsEnum h' (s.heap.objs.size + 1) s.heap.objs.size 0 .none → ItH t h' s.heap.objs.size l 0 → (∀ c o, s.heap.get? c = some o → h'.get? c = some o) → Q (.ref (s.heap.objs.size + 1)) { s with heap := h' }) :
    wpAny (model prog w) A (call (.type "enumerate") [.ref l]) Q E s := by
  refine callType_new F.called_enumerate (by decide) (F.typeCall_enumerate_1 _) (F.newCall_enumerate_1 _) (fun obj => F.args_object_init_2 obj _) F.entry_enumerate_new (en_new t l xs) ⟨s1, ?_⟩
  have e1 : (s.heap.push (itOb t l)).objs.size = s.heap.objs.size + 1 := Heap.size_push ..
  have up : ∀ {h : Heap} {c : Addr} {o u : Obj}, h.get? c = some o → (h.push u).get? c = some o := fun q => Heap.get?_push_of_some _ q
  have q2 : (en2 t s.heap l).get? (s.heap.push (itOb t l)).objs.size = some (enOb s.heap.objs.size) := Heap.get?_push_size _ rfl
  have q1 : (en2 t s.heap l).get? s.heap.objs.size = some (itOb t l) := up (Heap.get?_push_size _ itOb_free)
  show _ ∧ _
  rw [e1] at q2
  rw [e1]
  exact ⟨⟨_, q2, rfl⟩, h _ q2 (ItH.new q1) fun c o x => up (up x)⟩
theorem drawsH (hh : A.handled = none) (it l : Addr) (hne : l ≠ it) (its : Array Value) : Draws prog w A it [it, l] its.size (fun i v => its[i]? = some v) (fun i h => ItH t h it l i ∧ SqH t h l its) := by
  cases t with
  | false => exact Draws.list hh it l hne its
  | true => exact Draws.tuple hh it l hne its
end
/-- the list or tuple at a as it stands at each turn, each item in a new pair -/
def Iten (K : PySem.W.Frag) (t : Bool) (a : Addr) : L2.It :=
  ⟨fun i H => ∃ (xs : List V) (x : V), SqK K t H a xs ∧ xs[i]? = some x, fun i H v H' => ∃ T x, v = .ref T ∧ H T = none ∧ H' = upd H T (.tup [.int (i : Nat), x]) ∧ ∀ xs, SqK K t H a xs → xs[i]? = some x, fun i H => ∃ xs : List V, SqK K t H a xs ∧ xs.length = i⟩
theorem turn_en {P : Program} {w : World} {K : PySem.W.Frag} {t : Bool} {elts : List Expr} {kk : Nat} {tpos : Pos} {a e it : Addr} (hei : e ≠ it) (hea : e ≠ a) (hia : a ≠ it) :
    Turn P w K (.Tuple elts kk tpos) (Iten K t a) [e, it] e (fun i h => (∃ old, IsEnum h e it ((i : Nat) : Int) old) ∧ ItH t h it a i) where
  mem := by simp
  obj := fun i h ⟨⟨old, he⟩, h1⟩ c hc => by
    have e' : c = e ∨ c = it := by simpa using hc
    rcases e' with z | z <;> subst z
    · exact ⟨_, he, fun v q => nomatch q⟩
    · exact h1.ob
  keep := fun i h h' ⟨⟨old, he⟩, h1⟩ k => ⟨⟨old, k e (by simp) _ he⟩, h1.up fun o q => k it (by simp) o q⟩
  item := by
    rintro X rfl rfl rfl hc i pins s σ H E I hf ⟨⟨old, he⟩, h1⟩ ⟨xs, x, hq, hx⟩
    obtain ⟨its, rv, s1, hz⟩ := sqk_at I hq
    obtain ⟨u, hu, ru⟩ := rv.get hx
    have hel : e < s.heap.objs.size := Heap.lt_size he
    have hil : it < s.heap.objs.size := by obtain ⟨_, q, _⟩ := h1.ob; exact Heap.lt_size q
    have hi : i < its.toArray.size := by
      have := (List.getElem?_eq_some_iff.mp hu).1
      simpa using this
    have dr := drawsH (prog := X.prog) (w := X.w) (A := X.A.in1) (t := t) (show X.A.in1.handled = none from I.ok.hd hc) it a hia its.toArray
    refine wpAny_pyNext_enum_itemD dr he ⟨h1, s1⟩ hi hei (by simp [hei, hea]) fun y h' tk hy ho st' hT hsz hk => ?_
    have ey : y = u := by
      have hy : its[i]? = some y := by simpa using hy
      rw [hu] at hy
      exact (Option.some.inj hy).symm
    subst ey
    refine ⟨_, rfl, wpAny_letOwnedTupleGo_enum (s := { s with heap := h', toks := tk + 1 }) ho fun h'' he' sb => ?_⟩
    have oth : ∀ {c o}, c ≠ e → h'.get? c = some o → h''.get? c = some o := fun c1 z => (sb.2 _ c1).trans z
    have new : ObjOk X.prog X.w (upd H s.heap.objs.size (.tup [.int (i : Nat), x])) h'' s.heap.objs.size (.tup [.int (i : Nat), x]) := ⟨by show 2 ≤ sizeLine; decide, [.int i tk, y], .cons ⟨_, rfl⟩ (.cons ru .nil), ⟨_, oth (Nat.ne_of_gt hel) hT, rfl, _, rfl⟩⟩
    have I1 : L2.Inv X pins σ (upd H s.heap.objs.size (.tup [.int (i : Nat), x])) { s with heap := h'', toks := tk + 1 } := I.turnedNew (t' := tk + 1) (ch := [e, it])
      (fun c o hb q => oth (fun z => hb (by simp [z])) (hk c o (fun z => hb (by simp [z])) (fun z => hb (by simp [z])) q)) hf (Nat.le_refl _) new
    refine ⟨.ref s.heap.objs.size, _, I1, rfl, ⟨_, x, rfl, I.hok.fresh (Nat.le_refl _), rfl, fun l hl => sqk_inj I hl hq ▸ hx⟩, ⟨⟨y, ?_⟩, st'.1.up fun o q => oth hei.symm q⟩, fun c hcm => ?_⟩
    · rw [show ((i + 1 : Nat) : Int) = (i : Int) + 1 by omega]
      exact he'
    · have hlt : c < s.heap.objs.size := by
        have e' : c = e ∨ c = it := by simpa using hcm
        rcases e' with z | z <;> subst z
        · exact hel
        · exact hil
      rw [upd_ne (Nat.ne_of_lt hlt)]
      exact (hf c hcm).1
  done := by
    rintro X rfl rfl rfl hc i pins s σ H E I hf ⟨⟨old, he⟩, h1⟩ ⟨xs, hq, hx⟩
    obtain ⟨its, rv, s1, hz⟩ := sqk_at I hq
    have hl := rv.length
    obtain ⟨f0, f1, f2, f3, f4, f5⟩ := hf it (by simp)
    have hn : its.toArray.size = i := by simp; omega
    have dr := drawsH (prog := X.prog) (w := X.w) (A := X.A.in1) (t := t) (show X.A.in1.handled = none from I.ok.hd hc) it a hia its.toArray
    exact wpAny_pyNext_enum_endD dr he (by rw [hn]; exact ⟨h1, s1⟩) fun h' eb => ⟨rfl, I.turned (t' := s.toks) (fun b o hb q => eb b o hb q) f0 f1 f3 f4 f5⟩
  self := fun A i s Q E st h => by
    obtain ⟨⟨old, he⟩, _⟩ := st
    exact wpAny_pyIter_enum he h
def iEn (K : PySem.W.Frag) (ta : TA) : TI := fun σ H R => ta σ H fun vs H1 => ∃ a t xs, vs = [.ref a] ∧ SqK K t H1 a xs ∧ R (Iten K t a) H1
theorem pi_en {X : Cx} {e : Expr} {ta : TA} {p pos tpos : Pos} {elts : List Expr} {kk : Nat} (hg : Gl X "enumerate") (hm : X.mg "enumerate" = none) (ha : PA X [e] ta) (hs : starEach [e] X.env = [(false, eval e X.env)]) :
    PI X (.Tuple elts kk tpos) (.Call (.Name "enumerate" p) [e] [] pos) (iEn X.K ta) := by
  refine ⟨fun pins s σ H R I h => ?_⟩
  refine Call_ (ld_blt I hg hm boot_enumerate (PyProof.Rows.callWith_type1 (thn (ha.run pos pins s σ H _ I h) fun us s1 ⟨vs, H1, I1, r1, a, t, xs, ex, hq, q⟩ => ?_) hs rfl))
  subst ex
  cases r1 with
  | cons r rr =>
    cases rr
    cases r
    obtain ⟨its, rv, sq, hz⟩ := sqk_at I1 hq
    have la := sq.there
    refine call_enumS (t := t) sq fun h' he hit hk => wpAny_pyIter_enum he ?_
    refine ⟨s1.heap.objs.size + 1, [s1.heap.objs.size + 1, s1.heap.objs.size], _, _, H1, rfl, I1.kept (t' := s1.toks) hk, turn_en (t := t) (a := a) (Nat.succ_ne_self _) (Nat.ne_of_gt (Nat.lt_succ_of_lt la)) (Nat.ne_of_lt la), ⟨⟨.none, he⟩, hit⟩, fun c hc => ?_, q⟩
    have hle : s1.heap.objs.size ≤ c := by
      rcases List.mem_cons.mp hc with z | z
      · rw [z]
        exact Nat.le_succ _
      · rw [List.mem_singleton.mp z]
        exact Nat.le_refl _
    exact I1.fpOk hle (I1.hok.fresh hle)
end MP


set_option Elab.async false
set_option linter.all false
set_option maxRecDepth 100000
set_option maxHeartbeats 2000000
namespace MP
open PySem PySem.Spec PyProof.Rows L2
theorem enumD_len (xs : List D) : (enumD xs).length = xs.length := by simp [enumD]
theorem enumD_get {xs : List D} {i : Nat} {x : D} (h : xs[i]? = some x) : (enumD xs)[i]? = some (.tup [.int (i : Nat), x]) := by
  have hi := (List.getElem?_eq_some_iff.mp h).1
  unfold enumD
  rw [List.getElem?_zipWith, h, List.getElem?_range hi]
theorem iw_en {K : PySem.W.Frag} {F : Hp} {phi : List Addr} {t : Bool} {x : Addr} {vs : List V} {xs : List D} (e1 : ∀ H, Sub F H → SqK K t H x vs) (r1 : VReps K F phi xs vs) (hl : xs.length ≤ sizeLine) :
    IW K F phi (Iten K t x) (enumD xs) := by
  refine ⟨?_, by rw [enumD_len]; exact hl⟩
  rw [enumD_len]
  have wk : L2.Walk (Iten K t x) xs.length (fun H => SqK K t H x vs) (fun i H v H' => ∃ T a, v = .ref T ∧ H T = none ∧ H' = upd H T (.tup [.int (i : Nat), a]) ∧ vs[i]? = some a) := by
    refine ⟨fun i _ hi q => ?_, fun _ q => ⟨vs, q, r1.len⟩, fun i H v H' _ q ⟨T, c, z1, z2, z3, z4⟩ => ⟨T, c, z1, z2, z3, z4 vs q⟩⟩
    have : i < vs.length := by rw [r1.len]; exact hi
    exact ⟨vs, vs[i], q, by simp⟩
  refine wk.mono (fun H s => e1 H s) fun i H v H' hi s ⟨T, a, ev, hT, eH, ea⟩ => ?_
  obtain ⟨d1, ed1, rd1⟩ := r1.get ea
  refine ⟨_, enumD_get ed1, fun F2 s2 s3 => ?_⟩
  rw [ev, eH]
  exact pair_rep s3 hT (VRep.vint _) (VRep.mono s2 (Pre.refl _) _ _ rd1)
section
variable {X : Cx} {C : Stc} {W : WX} {P : Prog} {cl : Nat → List D → Hh → Res SV} {a : Expr} {ma : E} {pos p : Pos}
theorem s_itEn {elts : List Expr} {kk : Nat} {tpos : Pos} (hg : Gl X "enumerate") (hm : X.mg "enumerate" = none) (hs : notStar a = true) (ha : PE X a (tE X C W P cl ma)) :
    PI X (.Tuple elts kk tpos) (.Call (.Name "enumerate" p) [a] [] pos) (tI X.K C W (evIt P cl (.enum ma))) := by
  refine ⟨fun pins s σ H R I ⟨F, Rf, phi, r, h, S, q⟩ => ?_⟩
  refine pi_len (R0 := fun J H' => ∃ n, (∃ t x vs, SqK X.K t H' x vs ∧ vs.length = n) ∧ (n ≤ sizeLine → R J H')) ((pi_en (elts := elts) (kk := kk) (tpos := tpos) hg hm (pa_cons ha pa_nil (starEach_cons hs)) (starEach_cons hs)).run pins s σ H _ I ?_) ?_
  · rw [evIt] at q
    refine (tI_bind S q).mono fun x H1 ⟨F1, phi1, d, h1, s1, q1, S1, rx, _, p1⟩ => ?_
    cases d with
    | lst xs =>
      simp only [VRep] at rx
      obtain ⟨x, vs, rfl, e1, r1⟩ := rx
      have u1 : ∀ H, Sub F1 H → SqK X.K false H x vs := fun H s => .inl (.inl (s _ _ e1))
      exact ⟨x, false, vs, rfl, u1 _ S1.hr.fH, xs.length, ⟨false, x, vs, u1 _ S1.hr.fH, r1.len⟩, fun hl => p1 F1 phi1 _ H1 (Sub.refl _) (Pre.refl _) S1 (iw_en u1 r1 hl)⟩
    | tup xs =>
      simp only [VRep] at rx
      obtain ⟨x, vs, rfl, e1, r1⟩ := rx
      have u1 : ∀ H, Sub F1 H → SqK X.K true H x vs := fun H s => s.seqT e1
      exact ⟨x, true, vs, rfl, u1 _ S1.hr.fH, xs.length, ⟨true, x, vs, u1 _ S1.hr.fH, r1.len⟩, fun hl => p1 F1 phi1 _ H1 (Sub.refl _) (Pre.refl _) S1 (iw_en u1 r1 hl)⟩
    | _ => exact p1.elim
  · rintro J H' s' I' ⟨n, ⟨t, x, vs, sq, rfl⟩, z⟩
    obtain ⟨its, rr, _, hz⟩ := sqk_at I' sq
    exact z hz
end
end MP


set_option Elab.async false
set_option linter.all false
set_option maxRecDepth 100000
set_option maxHeartbeats 2000000
/-! [::-1] of tuples and lists. -/
namespace MP
open PySem PySem.Spec PyProof.Rows L2
theorem rev_adjust (n : Nat) : Builtin.Slice.sliceAdjust none none (-1) (n : Int) = ((n : Int) - 1, -1) := by
  have h1 : (-1 : Int) < 0 := by decide
  unfold Builtin.Slice.sliceAdjust
  simp [h1]
theorem rev_places (n : Nat) : Builtin.Slice.slicePlaces ((n : Int) - 1) (-1) (-1) = n := by
  unfold Builtin.Slice.slicePlaces
  have h1 : ¬ (-1 : Int) > 0 := by decide
  simp only [h1, if_false]
  split <;> simp <;> omega
theorem fm_congr {α β : Type} {f g : α → Option β} : ∀ {l : List α}, (∀ m ∈ l, f m = g m) → l.filterMap f = l.filterMap g
  | [], _ => rfl
  | a :: l, h => by
    rw [List.filterMap_cons, List.filterMap_cons, h a (by simp), fm_congr fun m hm => h m (by simp [hm])]
theorem rev_pick (xs : List Value) : (List.range xs.length).filterMap (fun (m : Nat) => xs.toArray[(((xs.length : Nat) : Int) - 1 + (m : Int) * (-1)).toNat]?) = xs.reverse := by
  have : ∀ m ∈ List.range xs.length, xs.toArray[(((xs.length : Nat) : Int) - 1 + (m : Int) * (-1)).toNat]? = xs.reverse[m]? := fun m hm => by
    have hm := List.mem_range.mp hm
    rw [List.getElem?_reverse hm, show (((xs.length : Nat) : Int) - 1 + (m : Int) * (-1)).toNat = xs.length - 1 - m by omega]
    simp
  rw [fm_congr this]
  have := pick_run xs.reverse.toArray 0 xs.length
  rw [List.filterMap_map] at this
  have e : ((fun x => xs.reverse.toArray[x]?) ∘ fun x => 0 + x) = fun m => xs.reverse[m]? := by
    funext m
    simp
  rw [e] at this
  rw [this]
  simp
  exact List.take_of_length_le (by simp)
section
variable {prog : Program} {w : World} {A : Around} {E : Value → Shared → Prop} {s : Shared}
theorem rev_applied {sl : Addr} {n : Nat} {t : Tok} {Q : Int × Int × Nat → Shared → Prop} (hs : s.heap.IsSliceOf sl .none .none (.int (-1) t)) (h : Q ((n : Int) - 1, -1, n) s) :
    wpAny (model prog w) A (Builtin.Slice.sliceApplied (.ref sl) (pure (n : Int))) Q E s := by
  obtain ⟨ob, e1, e2, e3⟩ := id hs
  unfold Builtin.Slice.sliceApplied Builtin.Slice.sliceFields
  refine wpAny_bind (wpAny_bind (wpAny_field e1 e3 (x := .none) rfl (wpAny_bind (wpAny_field e1 e3 (x := .none) rfl (wpAny_bind (wpAny_field e1 e3 (x := .int (-1) t) rfl (wpAny_pure ?_)))))))
  refine wpAny_bind (slicePart_int ?_)
  show wpAny _ _ (if ((-1 : Int) == 0) = true then _ else _) _ _ s
  rw [if_neg (by decide)]
  refine wpAny_bind (slicePart_none (wpAny_bind (slicePart_none (wpAny_bind (wpAny_pure ?_)))))
  show wpAny _ _ (match Builtin.Slice.sliceAdjust none none (-1) (n : Int) with | (lo, hi) => pure (lo, (-1 : Int), Builtin.Slice.slicePlaces lo hi (-1))) _ _ s
  rw [rev_adjust n]
  show wpAny _ _ (pure ((n : Int) - 1, (-1 : Int), Builtin.Slice.slicePlaces ((n : Int) - 1) (-1) (-1))) _ _ s
  rw [rev_places]
  exact wpAny_pure h
theorem get_tuple_rev {a sl : Addr} {xs : List Value} {t : Tok} {Q : Value → Shared → Prop} (ht : IsTup s.heap a xs.toArray) (hs : s.heap.IsSliceOf sl .none .none (.int (-1) t))
    (h : Q (.ref s.heap.objs.size) { s with heap := s.heap.push { cls := .type "tuple", data := .seq xs.reverse.toArray } }) (hz : xs.length ≤ sizeLine) : wpAny (model prog w) A (getItem (.ref a) (.ref sl)) Q E s := by
  have hk : sizeOk (.seq xs.reverse.toArray) := by
    show xs.reverse.toArray.size ≤ sizeLine
    simpa using hz
  obtain ⟨ob, e1, e2, e3⟩ := id hs
  have hT : s.TypeIs (.ref sl) "slice" := ⟨ob, e1, e2⟩
  unfold getItem
  try with_reducible refine wpAny_holding ?_
  first | refine wpAny_bind (wpAny_pure ?_) | skip
  refine wpAny_bind (wpAny_sequenceKey ht.typeIs (by decide) ?_)
  refine wpAny_bind (wpAny_callSpecial?_slot (name := Str.ofString "__getitem__") ht.typeIs PyProof.Rows.slot_tuple_getitem (wpAny_call_entry PyProof.Rows.slot_tuple_getitem ht.typeIs entry_tuple_getitem ?_ (args_tuple_getitem _ _)))
  show wpAny _ _ (Builtin.Tuple.tupleItemsOf (.ref a) >>= _) _ _ s
  refine wpAny_bind (tupleItemsOf_ ht ?_)
  refine wpAny_bind (wpAny_typeOf hT ?_)
  rw [if_pos (by decide)]
  have e : xs.toArray.size = xs.length := by simp
  rw [e]
  refine wpAny_bind (rev_applied hs ?_)
  have no : ¬ ((((xs.length : Nat) : Int) - 1 == 0 && (-1 : Int) == 1 && xs.length == xs.length) = true) := by
    intro q
    simp at q
  show wpAny _ _ (if (((xs.length : Nat) : Int) - 1 == 0 && (-1 : Int) == 1 && xs.length == xs.length) = true then _ else _) _ _ s
  rw [if_neg no, rev_pick]
  first
    | exact wpAny_bind (m := Builtin.Tuple.tupleExact _) (wpAny_newObj_type (wpAny_pure ⟨_, rfl, wpAny_pure h⟩) hk)
    | exact wpAny_bind (wpAny_bind (m := Builtin.Tuple.tupleExact _) (wpAny_newObj_type (wpAny_pure ⟨_, rfl, wpAny_pure h⟩) hk))
end
section
variable {X : Cx} {C : Stc} {W : WX} {P : Prog} {cl : Nat → List D → Hh → Res SV}
theorem s_rev {e : Expr} {me : E} {k : Nat} {p1 p2 p3 pos : Pos} (he : PE X e (tE X C W P cl me)) : PE X (.Subscript e (.Slice none none (some (.UnaryOp .USub (.Constant (.int 1) k p1) p2)) p3) pos) (tE X C W P cl (.rev me)) := by
  refine ⟨fun pins s σ H Q I ⟨F, R, phi, r, h, S, q⟩ => ?_⟩
  rw [evE] at q
  refine Subscript_ (thn (he.run pins s σ H _ I (tR_bind S q)) fun v s1 ⟨x, H1, I1, r1, F1, phi1, d, h1, g1, g2, S1, rx, _, w1⟩ => ?_)
  have hst : PO X (some (.UnaryOp .USub (.Constant (.int 1) k p1) p2)) (tPart (tUn (rU fun i => .int (-i)) (L2.tC (.int 1)))) := po_some (pe_un un_neg pe_int)
  refine wpAny_Slice (thn (po_none.run pins s1 σ H1 (fun o H2 => o = none ∧ H2 = H1) I1 ⟨rfl, rfl⟩) fun vl s2 ⟨l, H2, I2, pl, el, e2⟩ => ?_)
  subst el e2
  refine thn (po_none.run pins s2 σ H2 (fun o H3 => o = none ∧ H3 = H2) I2 ⟨rfl, rfl⟩) fun vu s3 ⟨u, H3, I3, pu, eu, e3⟩ => ?_
  subst eu e3
  refine thn (hst.run pins s3 σ H3 (fun o H4 => o = some (-1) ∧ H4 = H3) I3 ⟨1, rfl, -1, rfl, rfl, rfl⟩) fun vs s4 ⟨o, H4, I4, ps, eo, e4⟩ => ?_
  subst eo e4
  have I5 : L2.Inv X pins σ H4 { s4 with heap := s4.heap.push { cls := .type "slice", data := .fields #[vl, vu, vs] } } := I4.kept (t' := s4.toks) fun b ob q => Heap.get?_push_of_some _ q
  have w1 : ePost X.K C W (VRep X.K) F1 R phi1 r σ (opt (revD d h1) h1) Q := w1
  cases ev : revD d h1 with
  | none => rw [ev] at w1; exact w1.elim
  | some z =>
    rw [ev] at w1
    have list : ∀ ys : List D, itemsL d h1 = some ys → z = .lst ys.reverse → wpAny (model X.prog X.w) X.A (subscriptTail e (.Slice none none (some (.UnaryOp .USub (.Constant (.int 1) k p1) p2)) p3) v (.ref s4.heap.objs.size)) (EP X pins σ Q) X.xe { s4 with heap := s4.heap.push { cls := .type "slice", data := .fields #[vl, vu, vs] } } := fun ys ey ez => by
      obtain ⟨a, xs, ex, e1, rv⟩ := itemsL_rep S1.hr rx ey
      subst ex ez
      cases r1
      obtain ⟨its, rr, ht, hz⟩ := I5.list (.inl (.inl e1))
      have hl := rr.length
      refine tail_any (ops := [.ref a, .ref s4.heap.objs.size]) ht.isList.typeIs PySem.slot_list_getitem.lookup ?_ (by with_unfolding_all rfl)
      refine wpAny_getItem_list_slice ht.isList (Heap.IsSliceOf.new _ vl vu vs) pl pu ps (by decide) ?_ (by rw [List.size_toArray]; omega)
      rw [PySem.W.krv_pick]
      have hn := I5.hok.fresh (Nat.le_refl _)
      refine ⟨.ref _, _, I5.laid (t' := s4.toks) (o := .lst xs.reverse) (fun b ob q => Heap.get?_push_of_some _ q) (Nat.le_refl _) ?_, rfl, ?_⟩
      · exact ⟨by rw [List.length_reverse]; exact hz, _, 0, rr.reverse, Heap.get?_push_size _ rfl⟩
      · exact w1 _ phi1 _ _ (Sub.upd S1.hr.fH hn) (Pre.refl _) (S1.grow (Grow.one S1.hr.fH hn)) (new_lst S1.hr.fH hn rv.rev)
    show wpAny (model X.prog X.w) X.A (subscriptTail e (.Slice none none (some (.UnaryOp .USub (.Constant (.int 1) k p1) p2)) p3) v (.ref s4.heap.objs.size)) (EP X pins σ Q) X.xe { s4 with heap := s4.heap.push { cls := .type "slice", data := .fields #[vl, vu, vs] } }
    cases d with
    | tup ys =>
      cases ev
      simp only [VRep] at rx
      obtain ⟨a, xs, ex, e1, rv⟩ := rx
      subst ex
      cases r1
      cases pl
      cases pu
      cases ps
      obtain ⟨its, rr, ht, hz⟩ := I5.tuple (S1.hr.fH.seqT e1)
      have hl := rr.length
      refine tail_any (ops := [.ref a, .ref s4.heap.objs.size]) ht.typeIs PyProof.Rows.slot_tuple_getitem.lookup ?_ (by with_unfolding_all rfl)
      refine get_tuple_rev ht (Heap.IsSliceOf.new _ .none .none (.int (-1) _)) ?_ (by omega)
      have hn := I5.hok.fresh (Nat.le_refl _)
      refine ⟨.ref _, _, I5.laid (t' := s4.toks) (o := .tup xs.reverse) (fun b ob q => Heap.get?_push_of_some _ q) (Nat.le_refl _) ?_, rfl, ?_⟩
      · exact ⟨by rw [List.length_reverse]; exact hz, _, rr.reverse, ⟨_, Heap.get?_push_size _ rfl, rfl, _, rfl⟩⟩
      · exact w1 _ phi1 _ _ (Sub.upd S1.hr.fH hn) (Pre.refl _) (S1.grow (Grow.one S1.hr.fH hn)) (new_tup S1.hr.fH hn rv.rev)
    | lst ys => cases ev; exact list ys rfl rfl
    | ref n =>
      cases e0 : h1[n]? with
      | none => simp [revD, deref, e0] at ev
      | some ob =>
        cases ob with
        | lst ys =>
          simp [revD, deref, e0] at ev
          exact list ys (by simp [itemsL, e0]) ev.symm
        | _ => simp [revD, deref, e0] at ev
    | _ => cases ev
end
end MP


set_option Elab.async false
set_option linter.all false
set_option maxRecDepth 100000
set_option maxHeartbeats 3200000
/-! sorted(set(xs)), xs a list of ints. -/
namespace MP
open PySem PySem.Spec PyProof.Rows L2
/-- a set that is new -/
abbrev nilS (w : World) : Obj := { cls := .type "set", dict := none, data := .set #[] 0 (.fresh 0 0 (!w.params.followText "set-order")) }
section
variable {P : Program} {w : World} {A : Around} {E : Value → Shared → Prop} {s : Shared}
theorem set_of_list {l : Addr} {its : Array Value} (ns : List Int) {Q : Value → Shared → Prop} (hh : A.handled = none) (hl : s.heap.IsList l its) (hi : IntsAre its.toList ns) (hb : ns.length + 1 < scanBound)
    (q : ∀ (g : Heap) (k c : Nat), SetR w g s.heap.objs.size (fun j => decide (j ∈ ns)) c → c ≤ ns.length → (∀ b o, s.heap.get? b = some o → g.get? b = some o) → Q (.ref s.heap.objs.size) { s with heap := g, toks := k }) : wpAny (model P w) A (call (.type "set") [.ref l]) Q E s := by
  have nz : its.size = ns.length := by simpa using IntsAre.length hi
  have ll : l < s.heap.objs.size := by obtain ⟨_, e, _⟩ := hl; exact Heap.lt_size e
  obtain ⟨c0, tl, mro⟩ := F.called_set.mro
  have z1 := F.called_set.made
  have z2 := F.called_set.sub
  have z3 := F.called_set.notType
  have z4 := F.called_set.canCreate
  have z5 := F.typeCall_set_1 (.ref l)
  refine wpAny_call (codeAny_of_tree ?_)
  show wpAny _ _ (callAny (.type "set") _) _ _ _
  refine wpAny_pure ⟨Code.quiet_builtin _ (by decide +kernel), codeAny_builtin F.entry_type_call ?_⟩
  rw [Around.under_plain (weight_type_call_type "set" [.ref l] []) rfl]
  repeat (any_goals (first | assumption | wp_step))
  refine codeAny_mono (code_set_led1 (w := w) (.ref l) (E := E) (Q₁ := fun o t => o = .ref s.heap.objs.size ∧ t = { s with heap := s.heap.push (nilS w) }) ⟨rfl, rfl⟩) fun r t hr => ?_
  cases r with
  | error _ => exact hr
  | ok fl =>
    cases fl with
    | ret o =>
      obtain ⟨eo, et⟩ := hr
      subst eo et
      have g0 : (s.heap.push (nilS w)).get? s.heap.objs.size = some (nilS w) := Heap.get?_push_size _ rfl
      have ty : Shared.TypeIs { s with heap := s.heap.push (nilS w) } (.ref s.heap.objs.size) "set" := ⟨_, g0, rfl⟩
      have z6 := F.called_set.init.lookup
      have z7 := F.called_set.init.bind (.ref s.heap.objs.size)
      repeat (any_goals (first | assumption | wp_step))
      refine codeAny_mono (codeAny_call_builtin (R := wants (fun r t => r = .none ∧ ∃ g k c, t = { s with heap := g, toks := k } ∧ SetR w g s.heap.objs.size (fun j => decide (j ∈ ns)) c ∧ c ≤ ns.length ∧ ∀ b o, s.heap.get? b = some o → g.get? b = some o) E) F.called_set.init.plain F.entry_set_init (check_set_init_1 ty ?_)) fun r2 t2 hr2 => ?_
      · obtain ⟨⟨cl, dc, dt, sl⟩, e1, e2, n, e3⟩ := hl
        simp only at e2 e3
        subst e2 e3
        have g1 : (s.heap.push (nilS w)).get? l = some { cls := .type "list", dict := dc, data := .seq its n, slots := sl } := Heap.get?_push_of_some _ e1
        have y1 := F.sub_list_set
        have y2 := F.sub_list_frozenset
        have y3 : (Value.type "list" == Value.type "dict") = false := by decide
        have l1 : (s.heap.push (nilS w)).IsList l its := ⟨_, g1, rfl, n, rfl⟩
        unfold Builtin.«set.__init__» noKeywords Builtin.Frozenset.updateFrom
        generalize hp : pyIter = PI
        wp_walk
        subst hp
        refine wpAny_pyIter_list l1 ?_
        refine wpAny_bind (wpAny_runValue ?_)
        have k3 : A.in1.in1.in1.handled = none := by simp [hh]
        have sz : (s.heap.push (nilS w)).objs.size = s.heap.objs.size + 1 := Heap.size_push ..
        have d1 : l ≠ (s.heap.push (nilS w)).objs.size := by rw [sz]; exact Nat.ne_of_lt (Nat.lt_succ_of_lt ll)
        have d2 : s.heap.objs.size ∉ [(s.heap.push (nilS w)).objs.size, l] := by
          rw [sz]
          intro hm
          rcases List.mem_cons.mp hm with e | e
          · exact absurd e (Nat.ne_of_lt (Nat.lt_succ_self _))
          · exact absurd (List.mem_singleton.mp e) (Nat.ne_of_gt ll)
        have vals : ∀ (i : Nat) (v : Value), its[i]? = some v → ∃ k t, ns[i]? = some k ∧ v = .int k t := fun i v hv => by
          have hi2 : i < ns.length := by rw [← nz]; exact (Array.getElem?_eq_some_iff.mp hv).1
          obtain ⟨t, e⟩ := PyProof.Rows.IntsAre.int_at hi i v (by rw [Array.getElem?_toList]; exact hv)
          have e5 : ns[i]? = some ns[i] := List.getElem?_eq_getElem hi2
          exact ⟨ns[i], t, e5, by rw [e, List.getD_eq_getElem?_getD, e5]; rfl⟩
        refine set_update_ints ((Walks.list k3 _ l d1 its).toS) s.heap.objs.size d2 ns nz hb vals (its.size - 0) 0 _ (by omega) (Nat.zero_le _) ⟨⟨_, Heap.get?_push_size _ rfl, rfl, rfl⟩, l1.push _⟩ ⟨0, Nat.le_refl 0, setR_new_at (Heap.get?_push_of_some _ g0)⟩ fun s' c mv hc hS => ?_
        obtain ⟨g, g2, d', tk', os'⟩ := s'
        have a1 : g2 = s.gens := mv.gens
        have a2 : d' = s.drawn := mv.drawn
        have a3 : os' = s.os := mv.os
        subst a1 a2 a3
        show wpAny _ _ _ _ _ _
        refine wpAny_pure ?_
        show wpAny _ _ (ret Value.none) _ _ _
        refine wpAny_pure ⟨rfl, g, tk', c, rfl, hS, by omega, fun b o e => ?_⟩
        have lb : b < s.heap.objs.size := Heap.lt_size e
        refine mv.heap b o ?_ (Heap.get?_push_of_some _ (Heap.get?_push_of_some _ e))
        rw [sz]
        intro hm
        rcases List.mem_cons.mp hm with e | e
        · rw [e] at lb
          exact Nat.lt_irrefl _ lb
        · rw [List.mem_singleton.mp e] at lb
          exact Nat.lt_irrefl _ (Nat.lt_of_succ_lt lb)
      · cases r2 with
        | error _ => exact hr2
        | ok fl2 =>
          cases fl2 with
          | ret _ =>
            obtain ⟨rfl, g, k, c, rfl, b1, b2, b3⟩ := hr2
            repeat (any_goals (first | assumption | wp_step))
            exact q _ _ _ b1 b2 b3
          | _ => exact hr2.elim
    | _ => exact hr.elim
end
/-- sorted(set(xs)) -/
theorem cr_setL {X : Cx} (hc : X.calm = true) : CallR X (.type "set") (fun vs H Q => ∃ (a : Addr) (ns : List Int), vs = [.ref a] ∧ SqL X.K H a (ns.map V.int) ∧ ns.length < 64 ∧
    ∀ (p : Addr) (S : Int → Bool) (n : Nat), H p = none → (∀ k, S k = true ↔ k ∈ ns) → n ≤ ns.length → Q (.ref p) (upd H p (SetO X.w p S n))) := by
  intro pins s σ H vs us Q I r ⟨a, ns, ex, hs, hl, q⟩
  subst ex
  rw [Vals.ref1 r]
  obtain ⟨its, rv, pl, hz⟩ := I.list hs
  refine set_of_list (its := its.toArray) ns (I.ok.hd hc) pl.isList (by simpa using rv.ints) (by have : scanBound = 4096 := rfl; omega) fun g k c hS hn hk => ?_
  have fr := I.hok.fresh (Nat.le_refl s.heap.objs.size)
  refine ⟨.ref s.heap.objs.size, _, I.laid (t' := k) hk (Nat.le_refl _) (setO_new hS), rfl, q _ _ c fr (fun j => by simp) hn⟩
end MP


set_option Elab.async false
set_option linter.all false
set_option maxHeartbeats 2000000
namespace MP
open PySem PySem.Spec PyProof.Rows L2
section
variable {X : Cx} {C : Stc} {W : WX} {P : Prog} {cl : Nat → List D → Hh → Res SV} {e : Expr} {me : E} {p1 p2 p3 p4 : Pos}
theorem s_sset (hc : X.calm = true) (hg : Gl X "sorted") (hm : X.mg "sorted" = none) (hg2 : Gl X "set") (hm2 : X.mg "set" = none) (hs : notStar e = true) (he : PE X e (tE X C W P cl me)) :
    PE X (.Call (.Name "sorted" p1) [.Call (.Name "set" p2) [e] [] p3] [] p4) (tE X C W P cl (.sset me)) := by
  have inner := pe_callTy (p := p2) (pos := p3) (cr_setL hc) hg2 hm2 (by rfl) (pa_cons he pa_nil (starEach_cons hs)) (by decide) (by decide) (starEach_cons hs) (starEach_any rfl)
  refine (pe_callB (p := p1) (pos := p4) (cr_sortedSet hc) hg hm rfl (pa_cons inner pa_nil)).imp fun σ H Q ⟨F, R, phi, r, h, S, p⟩ => ?_
  rw [evE] at p
  refine (tR_bind S p).mono fun v H1 ⟨F1, phi1, d, h1, s1, q1, S1, rx, _, w1⟩ => ?_
  cases ei : itemsL d h1 with
  | none => rw [ei] at w1; exact w1.elim
  | some xs =>
    rw [ei] at w1
    simp only at w1
    cases en : intsD xs with
    | none => rw [en] at w1; exact w1.elim
    | some ns =>
      rw [en] at w1
      simp only at w1
      by_cases h64 : ns.length < 64
      case neg => rw [if_neg h64] at w1; exact w1.elim
      rw [if_pos h64] at w1
      obtain ⟨a, vs, ev, e1, rv⟩ := itemsL_rep S1.hr rx ei
      have evs := VReps.ofInts rv en
      subst ev evs
      refine ⟨a, ns, rfl, .inl (.inl e1), h64, fun p M n hp hM hn => ?_⟩
      refine ⟨p, M, n, rfl, upd_same, by omega, fun ms pa hpw hm hlen hpa => ?_⟩
      have em : ms = sortU ns := rising_eq hpw (sortU_pw ns) fun k => by rw [hm, hM, sortU_mem]
      subst em
      have gr : Grow F1 H1 F1 (upd H1 p (SetO X.w p M n)) := ⟨Sub.updF hp, fun _ _ _ => rfl, S1.hr.fH.trans (Sub.updF hp), fun _ _ h => h⟩
      have S2 := S1.grow gr
      have g := Grow.one (o := .lst ((sortU ns).map V.int)) S2.hr.fH hpa
      refine w1 _ phi1 _ _ (Sub.upd (Sub.refl _) (by cases q : F1 pa with | none => rfl | some o => rw [S2.hr.fH _ _ q] at hpa; cases hpa)) (Pre.refl _) (S2.grow g) ?_
      simp only [VRep]
      exact ⟨pa, _, rfl, upd_same, VReps.map MP.D.int V.int VRep.vint _⟩
end
end MP


set_option Elab.async false
set_option linter.all false
set_option maxRecDepth 100000
set_option maxHeartbeats 2000000
/-! list(range(a, b, c)) of numbers that stand there. -/
namespace MP
open PySem PySem.Spec PyProof.Rows L2
def lrgOk (a b c : Int) : Bool := decide (0 ≤ a) && decide (a ≤ 100000) && decide (0 ≤ b) && decide (b ≤ 100000) && decide (1 ≤ c) && decide (c ≤ 1000) && Builtin.Range.small a b c && decide (0 ≤ Builtin.Range.rangeSize a b c) && decide (Builtin.Range.rangeSize a b c ≤ 100000) && decide (Builtin.divisionGoesByPylong (b - a) c = false)
section
variable {X : Cx} {C : Stc} {W : WX} {P : Prog} {cl : Nat → List D → Hh → Res SV}
theorem s_lrg {a b c : Int} {k1 k2 k3 : Nat} {q1 q2 q3 p1 p2 p3 p4 : Pos} (ok : lrgOk a b c = true) (hc : X.calm = true) (hg : Gl X "list") (hm : X.mg "list" = none) (hg2 : Gl X "range") (hm2 : X.mg "range" = none) :
    PE X (.Call (.Name "list" p1) [.Call (.Name "range" p2) [.Constant (.int a) k1 q1, .Constant (.int b) k2 q2, .Constant (.int c) k3 q3] [] p3] [] p4) (tE X C W P cl (.lrg a b c)) := by
  simp only [lrgOk, Bool.and_eq_true, decide_eq_true_eq] at ok
  obtain ⟨⟨⟨⟨⟨⟨⟨⟨⟨o1, o2⟩, o3⟩, o4⟩, o5⟩, o6⟩, o7⟩, o8⟩, o9⟩, o10⟩ := ok
  obtain ⟨n, hn⟩ : ∃ n : Nat, Builtin.Range.rangeSize a b c = (n : Int) := ⟨(Builtin.Range.rangeSize a b c).toNat, by omega⟩
  refine ⟨fun pins s σ H Q I ⟨F, R, phi, r, h, S, w⟩ => ?_⟩
  have w : ePost X.K C W (VRep X.K) F R phi r σ (.ok (.lst (rangeL a n c)) h) Q := by
    rw [evE, hn] at w
    exact w
  have pa : PA X [.Constant (.int a) k1 q1, .Constant (.int b) k2 q2, .Constant (.int c) k3 q3] _ := pa_cons pe_int (pa_cons pe_int (pa_cons pe_int pa_nil))
  refine Call_ (ld_blt I hg hm boot_list (PyProof.Rows.callWith_type1 (args_cons (Call_ (ld_blt I hg2 hm2 boot_range (PyProof.Rows.callWith_type1 (thn (pa.run p3 pins s σ H (fun vs H1 => vs = [.int a, .int b, .int c] ∧ H1 = H) I ⟨rfl, rfl⟩) fun us s1 ⟨vs, H1, I1, r1, ev, eH⟩ => ?_) rfl rfl))) rfl) rfl))
  subst ev eH
  cases r1 with
  | cons x1 r1 =>
  cases r1 with
  | cons x2 r1 =>
  cases r1 with
  | cons x3 r1 =>
  cases r1
  obtain ⟨t1, rfl⟩ := x1
  obtain ⟨t2, rfl⟩ := x2
  obtain ⟨t3, rfl⟩ := x3
  refine call_range_3 (by omega) ?_ (.inl o10)
  refine args_nil ?_
  have I2 : L2.Inv X pins σ H1 { s1 with heap := s1.heap.push { cls := .type "range", data := .fields #[.int a t1, .int b t2, .int c t3] }, toks := s1.toks } := I1.kept fun b u e => Heap.get?_push_of_some _ e
  refine call_list_range (n := n) (I2.ok.hd hc) (IsRange.new _ _ _ _ _ _ _) o7 hn (by omega) fun h' tk acc c' hk e' hi => ?_
  have fr := I2.hok.fresh (Nat.le_refl (s1.heap.push { cls := .type "range", data := .fields #[.int a t1, .int b t2, .int c t3] }).objs.size)
  have la : acc.toList.length = n := by rw [Array.length_toList]; exact hi.1
  have vs : Vals ((List.range n).map fun i : Nat => V.int (a + (i : Int) * c)) acc.toList := by
    rw [← la]
    refine vals_of_get acc.toList _ fun j u hj => ?_
    obtain ⟨t, rfl⟩ := hi.2 j u (by rw [← hj, Array.getElem?_toList])
    exact ⟨t, rfl⟩
  refine ⟨.ref _, _, I2.laid hk (Nat.le_refl _) (show ObjOk X.prog X.w _ _ _ (.lst ((List.range n).map fun i : Nat => V.int (a + (i : Int) * c))) from ⟨?_, acc.toList, c', vs, ?_⟩), rfl, w _ phi _ _ (Sub.upd S.hr.fH fr) (Pre.refl _) (S.grow (Grow.one S.hr.fH fr)) (new_lst S.hr.fH fr (VReps.map (fun i : Nat => MP.D.int (a + (i : Int) * c)) (fun i : Nat => V.int (a + (i : Int) * c)) (fun _ => VRep.vint _) _))⟩
  · rw [List.length_map, List.length_range, sizeLine_eq]
    omega
  · rw [Array.toArray_toList]
    exact e'
end
end MP


set_option Elab.async false
set_option linter.all false
set_option maxHeartbeats 1000000
/-! isinstance; new lists. -/
namespace MP
open PySem PySem.Spec PyProof.Rows L2
def Ty.nm : Ty → Option String
  | .int => some "int"
  | .bool => some "bool"
  | .str => some "str"
  | .tuple => some "tuple"
  | .list => some "list"
  | _ => none
def D.tyn (d : D) (h : Hh) : Option String :=
  match d with
  | .non => some "NoneType"
  | .bl _ => some "bool"
  | .int _ => some "int"
  | .str _ => some "str"
  | .tup _ => some "tuple"
  | .lst _ => some "list"
  | .dct _ => some "dict"
  | .ref n => match h[n]? with
    | some (.lst _) => some "list"
    | _ => none
  | .exc _ => none
  | .scr _ => none
theorem kit_int : kitB "int" "int" = some true ∧ kitB "int" "bool" = some false ∧ kitB "int" "str" = some false ∧ kitB "int" "tuple" = some false ∧ kitB "int" "list" = some false := by decide +kernel
theorem kit_bool : kitB "bool" "int" = some true ∧ kitB "bool" "bool" = some true ∧ kitB "bool" "str" = some false ∧ kitB "bool" "tuple" = some false ∧ kitB "bool" "list" = some false := by decide +kernel
theorem kit_str : kitB "str" "int" = some false ∧ kitB "str" "bool" = some false ∧ kitB "str" "str" = some true ∧ kitB "str" "tuple" = some false ∧ kitB "str" "list" = some false := by decide +kernel
theorem kit_tuple : kitB "tuple" "int" = some false ∧ kitB "tuple" "bool" = some false ∧ kitB "tuple" "str" = some false ∧ kitB "tuple" "tuple" = some true ∧ kitB "tuple" "list" = some false := by decide +kernel
theorem kit_list : kitB "list" "int" = some false ∧ kitB "list" "bool" = some false ∧ kitB "list" "str" = some false ∧ kitB "list" "tuple" = some false ∧ kitB "list" "list" = some true := by decide +kernel
theorem kit_dict : kitB "dict" "int" = some false ∧ kitB "dict" "bool" = some false ∧ kitB "dict" "str" = some false ∧ kitB "dict" "tuple" = some false ∧ kitB "dict" "list" = some false := by decide +kernel
theorem kit_non : kitB "NoneType" "int" = some false ∧ kitB "NoneType" "bool" = some false ∧ kitB "NoneType" "str" = some false ∧ kitB "NoneType" "tuple" = some false ∧ kitB "NoneType" "list" = some false := by decide +kernel
theorem isi_kit {d : D} {t : Ty} {h : Hh} {b : Bool} {y0 : String} (hy : t.nm = some y0) (e : isiD d t h = some b) : ∃ x y, d.tyn h = some x ∧ t.nm = some y ∧ kitB x y = some b := by
  obtain ⟨i1, i2, i3, i4, i5⟩ := kit_int
  obtain ⟨b1, b2, b3, b4, b5⟩ := kit_bool
  obtain ⟨s1, s2, s3, s4, s5⟩ := kit_str
  obtain ⟨t1, t2, t3, t4, t5⟩ := kit_tuple
  obtain ⟨l1, l2, l3, l4, l5⟩ := kit_list
  obtain ⟨d1, d2, d3, d4, d5⟩ := kit_dict
  obtain ⟨n1, n2, n3, n4, n5⟩ := kit_non
  cases d with
  | exc c => cases t <;> first | (cases hy; done) | (simp [isiD] at e)
  | scr c => simp [isiD] at e
  | ref n =>
    simp only [isiD] at e
    cases e1 : h[n]? with
    | none => rw [e1] at e; cases e
    | some o =>
      rw [e1] at e
      cases o with
      | lst xs => cases t <;> simp only at e <;> first | (cases e; exact ⟨"list", _, by simp [D.tyn, e1], rfl, by assumption⟩) | cases e
      | _ => cases e
  | _ => cases t <;> simp only [isiD] at e <;> first | (cases e; exact ⟨_, _, rfl, rfl, by assumption⟩) | cases e
theorem tyx_of {K : PySem.W.Frag} {C : Stc} {F : Hp} {phi : List Addr} {h : Hh} {H : Hp} (x : HR K C F phi h H) {d : D} {v : V} {n : String} (q : VRep K F phi d v) (e : d.tyn h = some n) : TyX K H v (.type n) := by
  cases d with
  | non => cases e; simp only [VRep] at q; rw [q]; exact .base .non
  | bl b => cases e; simp only [VRep] at q; rw [q]; exact .base (.bl b)
  | int b => cases e; simp only [VRep] at q; rw [q]; exact .base (.int b)
  | str b => cases e; simp only [VRep] at q; rw [q]; exact .base (.str _)
  | tup xs =>
    cases e
    simp only [VRep] at q
    obtain ⟨a, vs, rfl, sq, _⟩ := q
    rcases x.fH.seqT sq with sq | ⟨o, its, m, z, z1, _⟩
    · rcases sq with z | ⟨o, z⟩
      · exact .base (.tup z)
      · exact .fTuple z
    · exact .kTuple z z1
  | lst xs =>
    cases e
    simp only [VRep] at q
    obtain ⟨a, vs, rfl, sq, _⟩ := q
    exact .base (.lst (x.fH _ _ sq))
  | dct xs =>
    cases e
    simp only [VRep] at q
    obtain ⟨a, vs, rfl, sq, _⟩ := q
    exact .base (.dK (x.fH _ _ sq))
  | ref m =>
    simp only [D.tyn] at e
    split at e
    · rename_i xs e1
      cases e
      simp only [VRep] at q
      obtain ⟨a, rfl, ep⟩ := q
      obtain ⟨vs, z, _⟩ := (show ∃ vs, H a = some (.lst vs) ∧ VReps K F phi xs vs from x.obj m a _ ep e1)
      exact .base (.lst z)
    · cases e
  | exc c => cases e
  | scr c => cases e
section
variable {X : Cx} {C : Stc} {W : WX} {k : Nat} {P : Prog} {cl : Nat → List D → Hh → Res SV} {a b c e o tg : Expr} {es : List Expr} {me ma mb mc mo mi : E} {mes : Es} {pos p p2 : Pos}
theorem s_isi {t : Ty} {n : String} {y : Str} (hn : t.nm = some n) (hg : Gl X "isinstance") (hm : X.mg "isinstance" = none) (hg2 : Gl X y) (hm2 : X.mg y = none) (hv : bootBuiltins y = some (.type n)) (hy : y ≠ "__name__") (hyd : (y == ("__debug__" : Str)) = false)
    (hs : notStar a = true) (ha : PE X a (tE X C W P cl ma)) : PE X (.Call (.Name "isinstance" p) [a, .Name y p2] [] pos) (tE X C W P cl (.isi ma t)) := by
  have hz2 : starEach [Expr.Name y p2] X.env = (false, eval (.Name y p2) X.env) :: starEach [] X.env := rfl
  have pb := pe_bltn (pos := p2) (v := V.ty n) hg2 hm2 hv rfl hy hyd
  refine (pe_callB call_isi hg hm rfl (pa_cons ha (pa_cons pb pa_nil hz2) (starEach_cons hs)) (by decide) (by decide) (starEach_cons hs) rfl).imp fun σ H Q ⟨F, R, phi, r, h, S, q⟩ => ?_
  rw [evE] at q
  refine (tR_bind S q).mono fun x H1 ⟨F1, phi1, d, h1, s1, q1, S1, rx, _, p1⟩ => ?_
  obtain ⟨d', e1, q2⟩ := p1.now
  simp only [Option.map_eq_some_iff] at e1
  obtain ⟨bb, e1, rfl⟩ := e1
  obtain ⟨x', y', z1, z2, z3⟩ := isi_kit hn e1
  rw [hn] at z2
  cases z2
  exact ⟨x, .ty n, _, _, bb, rfl, .ty n, tyx_of S1.hr rx z1, kit_ty z3, q2 F1 phi1 _ H1 (Sub.refl _) (Pre.refl _) S1 (VRep.vbl _)⟩
/-! ### new lists -/
theorem evF_lst (mes : Es) (r : Env) (h : Hh) : evF P cl (.lst mes) r h = (evEs P cl mes r h).bind fun ds h1 => .ok (.ol ds) h1 := by
  simp only [evF, E.fresh, if_true, evE]
  cases evEs P cl mes r h <;> rfl
theorem s_lstF (hl : mes.len ≤ 1000) (h : PA X es (tEs X C W P cl mes)) : PE X (.List es pos) (tF X.K C W (evF P cl (.lst mes))) := by
  refine (pe_lst h).imp fun σ H Q ⟨F, R, phi, r, h, S, p⟩ => ?_
  rw [evF_lst] at p
  refine (tF_bind S p).mono fun x H1 ⟨F1, phi1, ds, h1, s1, q1, S1, rx, e1, p1⟩ => ⟨?_, fun t ht => ?_⟩
  · rw [rx.len, Es_len mes r h ds h1 e1 _ rfl, sizeLine_eq]; omega
  · have ap := S1.apart ht
    have gr : Grow F1 H1 F1 (upd H1 t (.lst x)) := ⟨Sub.updF ht, fun _ _ _ => rfl, S1.hr.fH.trans (Sub.updF ht), fun _ _ h => h⟩
    exact p1 F1 phi1 _ _ (Sub.refl _) (Pre.refl _) (S1.grow gr) ⟨t, x, rfl, upd_same, rx, ap⟩
theorem evF_call (f : Nat) (mes : Es) (r : Env) (h : Hh) : evF P cl (.call f mes) r h = (evEs P cl mes r h).bind fun ds h1 => cl f ds h1 := rfl
theorem evF_lc (t : Tg) (it : It) (ifs : Es) (elt : E) (r : Env) (h : Hh) : evF P cl (.lc t it ifs elt) r h = lcV P cl t it ifs elt r h := by
  simp only [evF, E.fresh, if_true, evE]
  unfold lcV
  cases evIt P cl it r h with
  | ok xs h1 =>
    simp only [Res.bind_ok]
    cases wipeE r t.slots with
    | none => rfl
    | some r0 =>
      simp only
      cases compGo (bindTg t · r0) (fun r' h' => (evIfs P cl ifs r' h').noX) (fun r' h' => (evE P cl elt r' h').noX) xs h1 <;> rfl
  | exc c h1 => rfl
  | stk => rfl
theorem call_fz (f : Nat) (mes : Es) (r : Env) (h : Hh) : evE P cl (.call f mes) r h = (evF P cl (.call f mes) r h).bind fun v h1 => opt v.fz h1 := by
  rw [evE, evF_call]
  cases evEs P cl mes r h with
  | ok ds h1 => simp only [Res.bind_ok]
  | _ => rfl
/-! ### IfExp as a test -/
theorem st_ifx (hc : PT X c (tC X C W P cl mc)) (ha : PT X a (tC X C W P cl ma)) (hb : PT X b (tC X C W P cl mb)) : PT X (.IfExp c a b pos) (tC X C W P cl (.ifx mc ma mb)) := by
  refine ⟨fun pins s σ H Q I ⟨F, R, phi, r, h, S, q⟩ => ?_⟩
  have eq : evC P cl (.ifx mc ma mb) r h = (evC P cl mc r h).bind fun k h1 => if k = true then evC P cl ma r h1 else evC P cl mb r h1 := by
    rw [evC_eq, evE, evC_eq]
    cases evE P cl mc r h with
    | ok d h1 =>
      simp only [Res.bind_ok]
      cases truth d h1 with
      | none => rfl
      | some k => cases k <;> rfl
    | _ => rfl
  rw [eq] at q
  have run := hc.run pins s σ H _ I (tR_bind (f := evC P cl mc) (rep := repB) S q)
  have ei : isTrue (.IfExp c a b pos) X.env (eval (.IfExp c a b pos) X.env) = (do if ← isTrue c X.env (eval c X.env) then isTrue a X.env (eval a X.env) else isTrue b X.env (eval b X.env)) := by rw [PySem.isTrue]
  rw [ei]
  refine wpAny_bind (thn run fun kk s1 ⟨H1, I1, F1, phi1, k', h1, s1', q1, S1, rk, _, p1⟩ => ?_)
  obtain rfl : k' = kk := rk
  cases k' with
  | true =>
    rw [if_pos rfl] at p1 ⊢
    exact ha.run pins s1 σ H1 Q I1 ⟨F1, R, phi1, r, h1, S1, p1⟩
  | false =>
    rw [if_neg Bool.false_ne_true] at p1 ⊢
    exact hb.run pins s1 σ H1 Q I1 ⟨F1, R, phi1, r, h1, S1, p1⟩
end
end MP


set_option Elab.async false
set_option linter.all false
set_option maxHeartbeats 1000000
/-! Exceptions: the classes, raise, isinstance of one that is known. -/
namespace MP
open PySem PySem.Spec PyProof.Rows L2
abbrev veT : List Value := [.type "ValueError", .type "Exception", .type "BaseException", .type "object"]
def exs : List Ex := [.noBook, .noTime, .noShare, .noParts, .noPlain, .noKind, .noMarks, .noWord, .noFull, .noNumber, .noBand, .noName, .noDay, .noDeed, .noFraction, .noText, .noLine]
theorem exs_mem {c : Ex} (h : c.okc = true) : c ∈ exs := by cases c <;> first | (cases h; done) | (simp [exs])
def exsB : List Ex := .spanError :: .tooMany :: exs
theorem exsB_mem (c : Ex) : c ∈ exsB := by cases c <;> simp [exsB, exs]
/-- what the written part says of a class -/
def exOne (K : PySem.W.Frag) (c : Ex) : Bool :=
  PySem.W.excIn K (evK K c) veT "ValueError.__new__" && PySem.W.keepIn K (.ref (evK K c)) && (PySem.W.subIn K (.ref (evK K c)) (.type "BaseException") == some true) && (PySem.W.typeIn K (.ref (evK K c)) == some (.type "type")) &&
  (PySem.W.findIn K (.ref (evK K c)) "__getattribute__" == some (some (.builtin "BaseException.__getattribute__"))) && (PySem.W.findIn K (.ref (evK K c)) "__getattr__" == some none) && PySem.W.hasDictIn K (evK K c) &&
  (PySem.W.findIn K (.ref (evK K c)) "__class__" == some (some (.builtin "object.__class__"))) && (PySem.W.mroIn K (evK K c) (.type "object") == some true) && (PySem.W.exmOne K (.ref (evK K c)) (.ref (evK K .spanError)) == some true) &&
  (PySem.W.kitOne K (.ref (evK K c)) (.type "ValueError") == some true) && (PySem.W.kitAny K (.ref (evK K c)) [.type "LookupError", .type "TypeError"] == some false) && K.all fun p => !(p.2.cls == .ref (evK K c))
def exPair (K : PySem.W.Frag) (c e : Ex) : Bool := PySem.W.kitOne K (.ref (evK K c)) (.ref (evK K e)) == some (decide (c = e))
def exChk (K : PySem.W.Frag) : Bool := (exsB.all fun c => PySem.W.nsIn K mainGlobals c.nm == some (some (.ref (evK K c)))) && (exs.all (exOne K)) && (exs.all fun c => (.tooMany :: exs).all (exPair K c)) &&
  (PySem.W.specialIn K (.builtin "object.__class__") "__get__" == some (some (.builtin "getset_descriptor.__get__"))) && (PySem.W.takesIn K (.builtin "object.__class__") == some true)
theorem mem_lk {α : Type} {a : Nat} {o : α} : ∀ {l : List (Nat × α)}, l.lookup a = some o → (a, o) ∈ l
  | [], h => by cases h
  | (b, x) :: l, h => by
    rw [List.lookup_cons] at h
    by_cases z : a = b
    · subst z
      simp at h
      subst h
      simp
    · have : (a == b) = false := by simpa using z
      rw [this] at h
      exact List.mem_cons_of_mem _ (mem_lk h)
/-- what is known of the classes -/
structure ExAll (K : PySem.W.Frag) (mg : Str → Option Value) : Prop where
  g : ∀ c, mg c.nm = some (.ref (evK K c))
  x : ∀ c, c.okc = true → PySem.W.excIn K (evK K c) veT "ValueError.__new__" = true
  k : ∀ c, c.okc = true → PySem.W.keepIn K (.ref (evK K c)) = true
  b : ∀ c, c.okc = true → PySem.W.subIn K (.ref (evK K c)) (.type "BaseException") = some true
  t : ∀ c, c.okc = true → PySem.W.typeIn K (.ref (evK K c)) = some (.type "type")
  c : ∀ c, c.okc = true → ExcC K (evK K c)
  s : ∀ c, c.okc = true → PySem.W.exmOne K (.ref (evK K c)) (.ref (evK K .spanError)) = some true
  v : ∀ c, c.okc = true → PySem.W.kitOne K (.ref (evK K c)) (.type "ValueError") = some true
  l : ∀ c, c.okc = true → PySem.W.kitAny K (.ref (evK K c)) [.type "LookupError", .type "TypeError"] = some false
  n : ∀ c, c.okc = true → ∀ a o, K.lookup a = some o → o.cls ≠ .ref (evK K c)
  p : ∀ c e, c.okc = true → e ≠ .spanError → PySem.W.kitOne K (.ref (evK K c)) (.ref (evK K e)) = some (decide (c = e))
theorem exAll_of {K : PySem.W.Frag} {h : Heap} {mg : Str → Option Value} (X : K.In h) (G : h.Ns mainGlobals mg) (e : exChk K = true) : ExAll K mg := by
  unfold exChk at e
  simp only [Bool.and_eq_true, List.all_eq_true] at e
  obtain ⟨⟨⟨⟨e1, e2⟩, e3⟩, e4⟩, e5⟩ := e
  have one : ∀ c, c.okc = true → exOne K c = true := fun c hc => e2 c (exs_mem hc)
  simp only [exOne, Bool.and_eq_true] at one
  refine ⟨fun c => PySem.W.mg_of X G (beq_iff_eq.mp (e1 c (exsB_mem c))), fun c hc => ?_, fun c hc => ?_, fun c hc => ?_, fun c hc => ?_, fun c hc => ?_, fun c hc => ?_, fun c hc => ?_, fun c hc => ?_, fun c hc => ?_, fun c d hc hd => ?_⟩
  · exact (one c hc).1.1.1.1.1.1.1.1.1.1.1.1
  · exact (one c hc).1.1.1.1.1.1.1.1.1.1.1.2
  · exact beq_iff_eq.mp (one c hc).1.1.1.1.1.1.1.1.1.1.2
  · exact beq_iff_eq.mp (one c hc).1.1.1.1.1.1.1.1.1.2
  · obtain ⟨⟨⟨⟨⟨⟨⟨⟨⟨⟨⟨⟨_, _⟩, h3⟩, _⟩, h5⟩, h6⟩, h7⟩, h8⟩, h9⟩, _⟩, _⟩, _⟩, _⟩ := one c hc
    exact ⟨beq_iff_eq.mp h5, beq_iff_eq.mp h6, beq_iff_eq.mp h3, h7, beq_iff_eq.mp h8, beq_iff_eq.mp e4, beq_iff_eq.mp e5, beq_iff_eq.mp h9⟩
  · exact beq_iff_eq.mp (one c hc).1.1.1.2
  · exact beq_iff_eq.mp (one c hc).1.1.2
  · exact beq_iff_eq.mp (one c hc).1.2
  · intro a o ho hz
    have := List.all_eq_true.mp (one c hc).2 (a, o) (mem_lk ho)
    rw [hz] at this
    simp at this
  · refine beq_iff_eq.mp (e3 c (exs_mem hc) d ?_)
    have := exsB_mem d
    rcases List.mem_cons.mp this with z | z
    · exact absurd z hd
    · exact z
/-! ### raise -/
section
variable {X : Cx} {C : Stc} {W : WX} {k : Nat} {P : Prog} {cl : Nat → List D → Hh → Res SV} {pos p p2 : Pos}
/-- X(), X an own class without an own __init__ -/
theorem pmk_bare {x : Str} {a : Addr} (q : PySem.W.excIn X.K a veT "ValueError.__new__" = true) (kp : PySem.W.keepIn X.K (.ref a) = true) (r : Raises X (.ref a)) (hm : X.mg x = some (.ref a)) (hg : Gl X x) (hd : (x == ("__debug__" : Str)) = false) :
    PMk X (.Call (.Name x p) [] [] pos) (fun _ H Q => Q (.ref a) none H) := fun pins s σ H Q I want => by
  refine wpAny_Call_Name_kw (ld_glob I hg hm ?_ hd)
  refine PySem.W.callWith_K0 I.kIn kp ?_
  obtain ⟨mro, ns, _, _, _, _, _, _, _, _, _, _, _, _, _, _, nsm, at0, hns, noInit, tl⟩ := exc_obj I.kIn q
  exact wpAny_call_exc_subT PySem.F.excBase_ValueError tl at0 hns noInit (fun h' e md => mk_of I md r want (I.hok.gone md.new)) (Nat.zero_le _)
theorem s_raise (hc : X.calm = true) (tk : Takes X W) {c : Ex} {x : Str} (E : ExAll X.K X.mg) (ok : c.okc = true) (hx : x = c.nm) (hg : Gl X x) (hd : (x == ("__debug__" : Str)) = false) (hz : P.rz = true) :
    PS X (.Raise (some (.Call (.Name x p) [] [] p2)) none pos) (tSt X C W P cl (.raise c)) := by
  subst hx
  refine (ps_raise hc tk (pmk_bare (E.x c ok) (E.k c ok) (raises_own (E.b c ok) (E.t c ok)) (E.g c) hg hd)).imp fun D σ H ⟨F, R, phi, r, h, S, q⟩ => ?_
  rw [evS, if_pos hz] at q
  exact q F phi σ H (Sub.refl _) (Pre.refl _) S.bare
/-! ### isinstance of an exception that is known -/
theorem exo_at {P : Program} {w : World} {H : Hp} {h : Heap} {a : Addr} {o : Obj} (k : HOk P w H h) (e : H a = some (ExO a o)) : h.get? a = some o := by
  obtain ⟨q, _⟩ := (show ObjOk P w H h a (.ext fun h => h.get? a = some o) from k a _ e)
  exact q
theorem exo_ok {P : Program} {w : World} {H : Hp} {h : Heap} {a : Addr} {o : Obj} (e : h.get? a = some o) : ObjOk P w H h a (ExO a o) := ⟨e, ⟨o, e⟩, fun _ _ x st => st _ x⟩
theorem exo_inst {K : PySem.W.Frag} {c : Ex} {h : Heap} {a : Addr} {o : Obj} (e : h.get? a = some o) (i : ExIs K c o) : PySem.W.InstAt h a o (evK K c) none := by
  obtain ⟨i1, i2, fs, i3⟩ := i
  obtain ⟨oc, od, dt, sl⟩ := o
  dsimp only at i1 i2 i3
  subst i1 i2 i3
  exact ⟨e, rfl, rfl, trivial⟩
def rIsX (K : PySem.W.Frag) : List V → Hp → VK → Prop := fun xs H Q => ∃ (a : Addr) (o : Obj) (c : Ex) (y : V) (u : Value) (b : Bool), xs = [.ref a, y] ∧ H a = some (ExO a o) ∧ ExIs K c o ∧ ExcC K (evK K c) ∧ ClsV y u ∧ PySem.W.kitOne K (.ref (evK K c)) u = some b ∧ Q (.bl b) H
def rIsXT (K : PySem.W.Frag) : List V → Hp → VK → Prop := fun xs H Q => ∃ (a t : Addr) (o : Obj) (c : Ex) (ys : List V) (us : List Value) (b : Bool), xs = [.ref a, .ref t] ∧ H a = some (ExO a o) ∧ ExIs K c o ∧ ExcC K (evK K c) ∧ H t = some (.tup ys) ∧ Paired ClsV ys us ∧ PySem.W.kitAny K (.ref (evK K c)) us = some b ∧ Q (.bl b) H
theorem call_isX : CallR X (.builtin "isinstance") (rIsX X.K) := fun pins s σ H xs us Q I r want => by
  obtain ⟨a, o, c, y, u, b, rfl, ha, i, Z, cv, e, q⟩ := want
  obtain ⟨u1, u2, rfl, r1, r2⟩ := vals2 r
  obtain rfl := cv.eq r2
  obtain rfl : u1 = Value.ref a := r1
  exact PySem.W.kia_one (PySem.W.handS_kitx_exc Z.hg Z.hk Z.hs Z.hd Z.ha Z.hn Z.ht Z.hm) I.kIn (exo_inst (exo_at I.hok ha) i) e (fun z => nomatch z) fun tk => ⟨.bl b, H, I.tok tk, rfl, q⟩
theorem call_isXT : CallR X (.builtin "isinstance") (rIsXT X.K) := fun pins s σ H xs us Q I r want => by
  obtain ⟨a, t, o, c, ys, ws, b, rfl, ha, i, Z, ht, cv, e, q⟩ := want
  obtain ⟨u1, u2, rfl, r1, r2⟩ := vals2 r
  obtain rfl : u1 = Value.ref a := r1
  obtain rfl : u2 = Value.ref t := r2
  obtain ⟨_, its, rv, ot, h1, h2, n, h3⟩ := (show ObjOk X.prog X.w H s.heap t (.tup ys) from I.hok t _ ht)
  obtain rfl := ClsV.all cv rv
  obtain ⟨oc, od, dt, sl⟩ := ot
  dsimp only at h2 h3
  subst h2 h3
  exact PySem.W.kia_tup (PySem.W.handS_kitx_exc Z.hg Z.hk Z.hs Z.hd Z.ha Z.hn Z.ht Z.hm) I.kIn (exo_inst (exo_at I.hok ha) i) h1 e (fun z => nomatch z) fun tk => ⟨.bl b, H, I.tok tk, rfl, q⟩
variable {a : Expr} {ma : E}
/-- only exceptions answer such a question -/
theorem isi_exc {d : D} {t : Ty} {h : Hh} {b : Bool} (e : isiD d t h = some b) (hn : t.nm = none) : ∃ c, d = .exc c ∧ ((∃ f, t = .ex f ∧ f ≠ .spanError ∧ c.okc = true ∧ b = decide (c = f)) ∨ (t = .valueError ∧ c.okc = true ∧ b = true) ∨ (t = .lookType ∧ c.okc = true ∧ b = false)) := by
  cases d with
  | exc c =>
    refine ⟨c, rfl, ?_⟩
    cases t <;> first | (cases hn; done) | skip
    · simp only [isiD] at e
      split at e
      · rename_i z
        exact .inr (.inl ⟨rfl, z, (Option.some.inj e).symm⟩)
      · cases e
    · simp only [isiD] at e
      split at e
      · rename_i z
        exact .inr (.inr ⟨rfl, z, (Option.some.inj e).symm⟩)
      · cases e
    · simp only [isiD] at e
      split at e
      · rename_i z
        exact .inl ⟨_, rfl, z.2, z.1, (Option.some.inj e).symm⟩
      · cases e
    · simp only [isiD] at e
      cases e
  | ref n =>
    simp only [isiD] at e
    split at e
    · cases t <;> first | (cases hn; done) | (cases e; done)
    · cases e
  | scr ns => simp only [isiD] at e; cases e
  | _ => cases t <;> first | (cases hn; done) | (simp only [isiD] at e; cases e; done)
/-- isinstance(x, C), x an exception; the class by its name -/
theorem s_isx {t : Ty} {y : Str} {cv : V} {u : Value} (hn : t.nm = none) (E : ExAll X.K X.mg) (ht : ∀ c b h, isiD (.exc c) t h = some b → PySem.W.kitOne X.K (.ref (evK X.K c)) u = some b) (cu : ClsV cv u) (hg : Gl X "isinstance") (hm : X.mg "isinstance" = none) (hy : PE X (.Name y p2) (L2.tC cv))
    (hs : notStar a = true) (ha : PE X a (tE X C W P cl ma)) : PE X (.Call (.Name "isinstance" p) [a, .Name y p2] [] pos) (tE X C W P cl (.isi ma t)) := by
  have hz2 : starEach [Expr.Name y p2] X.env = (false, eval (.Name y p2) X.env) :: starEach [] X.env := rfl
  refine (pe_callB call_isX hg hm rfl (pa_cons ha (pa_cons hy pa_nil hz2) (starEach_cons hs)) (by decide) (by decide) (starEach_cons hs) rfl).imp fun σ H Q ⟨F, R, phi, r, h, S, q⟩ => ?_
  rw [evE] at q
  refine (tR_bind S q).mono fun x H1 ⟨F1, phi1, d, h1, s1, q1, S1, rx, _, p1⟩ => ?_
  obtain ⟨d', e1, q2⟩ := p1.now
  simp only [Option.map_eq_some_iff] at e1
  obtain ⟨bb, e1, rfl⟩ := e1
  obtain ⟨c, rfl, hc⟩ := isi_exc e1 hn
  have okc : c.okc = true := by rcases hc with ⟨_, _, _, z, _⟩ | ⟨_, z, _⟩ | ⟨_, z, _⟩ <;> exact z
  simp only [VRep] at rx
  obtain ⟨ad, o, rfl, e2, i⟩ := rx
  exact ⟨ad, o, c, cv, u, bb, rfl, S1.hr.fH _ _ e2, i, E.c c okc, cu, ht c bb h1 e1, q2 F1 phi1 _ H1 (Sub.refl _) (Pre.refl _) S1 (VRep.vbl _)⟩
/-- isinstance(x, (LookupError, TypeError)) -/
theorem s_isxT {y z : Str} {q2 q3 : Pos} {j : Nat} {q4 : Pos} (hy : y = ("LookupError" : Str)) (hz : z = ("TypeError" : Str)) (E : ExAll X.K X.mg) (hg : Gl X "isinstance") (hm : X.mg "isinstance" = none) (gy : Gl X y) (my : X.mg y = none) (gz : Gl X z) (mz : X.mg z = none)
    (hs : notStar a = true) (ha : PE X a (tE X C W P cl ma)) : PE X (.Call (.Name "isinstance" p) [a, .Tuple [.Name y q2, .Name z q3] j q4] [] pos) (tE X C W P cl (.isi ma .lookType)) := by
  subst hy hz
  have p1 : PE X (.Name "LookupError" q2) (L2.tC (V.ty "LookupError")) := pe_bltn (u := .type "LookupError") gy my (by rfl) rfl (by decide) (by decide)
  have p2 : PE X (.Name "TypeError" q3) (L2.tC (V.ty "TypeError")) := pe_bltn (u := .type "TypeError") gz mz (by rfl) rfl (by decide) (by decide)
  have pt := pe_tup (x1 := j) (pos := q4) (pa_cons p1 (pa_cons p2 pa_nil rfl) rfl)
  have hz2 : starEach [Expr.Tuple [.Name "LookupError" q2, .Name "TypeError" q3] j q4] X.env = (false, eval (Expr.Tuple [.Name "LookupError" q2, .Name "TypeError" q3] j q4) X.env) :: starEach [] X.env := rfl
  refine (pe_callB call_isXT hg hm rfl (pa_cons ha (pa_cons pt pa_nil hz2) (starEach_cons hs)) (by decide) (by decide) (starEach_cons hs) rfl).imp fun σ H Q ⟨F, R, phi, r, h, S, q⟩ => ?_
  rw [evE] at q
  refine (tR_bind S q).mono fun x H1 ⟨F1, phi1, d, h1, s1, q1, S1, rx, _, p1⟩ => ?_
  obtain ⟨d', e1, q2⟩ := p1.now
  simp only [Option.map_eq_some_iff] at e1
  obtain ⟨bb, e1, rfl⟩ := e1
  obtain ⟨c, rfl, hc⟩ := isi_exc e1 rfl
  have hb : c.okc = true ∧ bb = false := by
    rcases hc with ⟨_, z, _⟩ | ⟨z, _⟩ | ⟨_, z1, z2⟩
    · cases z
    · cases z
    · exact ⟨z1, z2⟩
  obtain ⟨okc, rfl⟩ := hb
  simp only [VRep] at rx
  obtain ⟨ad, o, rfl, e2, i⟩ := rx
  refine ⟨by show 2 ≤ sizeLine; rw [sizeLine_eq]; omega, fun t ht => ?_⟩
  have e3 := S1.hr.fH _ _ e2
  have g : Grow F1 H1 F1 (upd H1 t (.tup [.ty "LookupError", .ty "TypeError"])) := ⟨Sub.updF ht, fun _ _ _ => rfl, S1.hr.fH.trans (Sub.updF ht), fun _ _ h => h⟩
  refine ⟨ad, t, o, c, _, [.type "LookupError", .type "TypeError"], false, rfl, ?_, i, E.c c okc, upd_same, .cons (.ty _) (.cons (.ty _) .nil), E.l c okc, q2 F1 phi1 _ _ (Sub.refl _) (Pre.refl _) (S1.grow g) (VRep.vbl _)⟩
  rw [upd_ne (ne_of_none e3 ht)]
  exact e3
end
end MP


set_option Elab.async false
set_option linter.all false
set_option maxHeartbeats 1000000
/-! A def that is called with the exception that is handled: its promise. -/
namespace MP
open PySem PySem.Spec PyProof.Rows L2
/-- what a refusal's word is -/
def wdD (tw : Bool) (c : Ex) : D := if tw = true then .tup [.str (exW c)] else .str (exW c)
/-- told by new things alone -/
def New (K : PySem.W.Frag) (H H' : Hp) (d : D) (v : V) : Prop := ∃ G : Hp, (∀ b o, G b = some o → H b = none) ∧ Sub G H' ∧ (∀ b ps, G b ≠ some (.tbl ps)) ∧ VRep K G [] d v
/-- without the thing at a -/
def drop (H : Hp) (a : Addr) : Hp := fun b => if b = a then none else H b
theorem drop_same {H : Hp} {a : Addr} : drop H a a = none := if_pos rfl
theorem drop_ne {H : Hp} {a b : Addr} (h : b ≠ a) : drop H a b = H b := if_neg h
theorem drop_some {H : Hp} {a b : Addr} {o : HO} (h : drop H a b = some o) : b ≠ a ∧ H b = some o := by
  by_cases z : b = a
  · rw [z, drop_same] at h
    cases h
  · rw [drop_ne z] at h
    exact ⟨z, h⟩
theorem exO_neC {a c : Addr} {o : Obj} {q : Str} : ExO a o ≠ LamX.CodeO c q := fun z => by
  unfold ExO LamX.CodeO at z
  have hz := HO.ext.inj z
  have key : ∀ t : Tok, ({ objs := Array.replicate (a + c + 1) { cls := .none, data := .fields #[.none, .str q t] } } : Heap).get? a = some o := fun t => by
    have e := congrFun hz { objs := Array.replicate (a + c + 1) { cls := .none, data := .fields #[.none, .str q t] } }
    have r : ∃ (oc : Obj) (vs : Array Value) (t' : Tok), ({ objs := Array.replicate (a + c + 1) { cls := .none, data := .fields #[.none, .str q t] } } : Heap).get? c = some oc ∧ oc.data = .fields vs ∧ vs[1]? = some (.str q t') := by
      refine ⟨{ cls := .none, data := .fields #[.none, .str q t] }, _, t, ?_, rfl, rfl⟩
      unfold Heap.get?
      have : c < a + c + 1 := Nat.lt_succ_of_le (Nat.le_add_left c a)
      simp [this]
    exact e.mpr r
  have at_ : ∀ t : Tok, o = { cls := .none, data := .fields #[.none, .str q t] } := fun t => by
    have k := key t
    unfold Heap.get? at k
    have : a < a + c + 1 := Nat.lt_succ_of_le (Nat.le_add_right a c)
    simp [this] at k
    exact k.symm
  have e2 := (at_ 0).symm.trans (at_ 1)
  simp at e2
/-- the promise -/
structure FnX (P : Program) (w : World) (K : PySem.W.Frag) (mg : Str → Option Value) (T : List (Addr × Str)) (f : Addr) (fd : FuncData) (x : Str) (tw : Bool) : Prop where
  run : ∀ (base : Heap) (A : Around) (outer : List PySem.Env) (s : Shared) (H : Hp) (args : Args) (Q : VK) (a : Addr) (oe : Obj) (c : Ex), L2H.RoomH 1 A → A.guards = some [] → L2H.PinOk outer H s (a, oe) → ExIs K c oe → c.okc = true → LamX.Tabs T H →
    Env0 P w K mg base A outer s H → BindsTo s fd args [(x, .ref a)] → (∀ v H', LamX.ExtN H H' → (∀ b, H' b = none → H b = none) → LamX.Tabs T H' → New K H H' (wdD tw c) v → Q v H') → codeAny (model P w) A (.call (.ref f) args) (CR C8.CX0 outer P w H s Q C8.E0) s
/-- a value that is new, known from now on -/
theorem SR.known {K : PySem.W.Frag} {C : Stc} {F R : Hp} {phi : List Addr} {r : Env} {h : Hh} {σ : L2.St} {H H' : Hp} {d : D} {v : V} (x : SR K C F R phi r h σ H) (e : LamX.ExtN H H') (t : LamX.Tabs C.tabs H') (n : New K H H' d v) :
    ∃ F', Sub F F' ∧ SR K C F' R phi r h σ H' ∧ VRep K F' phi d v := by
  obtain ⟨G, g1, g2, g3, g4⟩ := n
  have y := x.growN e t
  have gN : ∀ b u, H b = some u → G b = none := fun b u q => by
    cases z : G b with
    | none => rfl
    | some o =>
      rw [g1 b o z] at q
      cases q
  let F' : Hp := fun b => (F b).or (G b)
  have fl : ∀ b o, F' b = some o → F b = some o ∨ G b = some o := fun b o q => by
    have q : (F b).or (G b) = some o := q
    cases z : F b with
    | none => rw [z] at q; exact .inr q
    | some u => rw [z] at q; exact .inl q
  have fn : ∀ b, F b = none → G b = none → F' b = none := fun b z1 z2 => by
    show (F b).or (G b) = none
    rw [z1, z2]
    rfl
  have sF : Sub F F' := fun b o q => by
    show (F b).or (G b) = some o
    rw [q]
    rfl
  have sG : Sub G F' := fun b o q => by
    show (F b).or (G b) = some o
    cases z : F b with
    | none => exact q
    | some u =>
      have := gN b u (x.hr.fH b u z)
      rw [q] at this
      cases this
  refine ⟨F', sF, ⟨⟨fun b o q => ?_, y.hr.len, fun n b o q1 q2 => (y.hr.obj n b o q1 q2).monoF sF (Pre.refl _), fun n b q => ?_, y.hr.tb, fun b ps q => ?_, y.hr.nd⟩, y.rH, fun b o q => ?_, y.rM, y.rO, y.nR, y.sl, fun i sv q w q2 => ?_, y.no⟩, VRep.mono sG (fun n b q => by simp at q) _ _ g4⟩
  · rcases fl b o q with z | z
    · exact y.hr.fH b o z
    · exact g2 b o z
  · obtain ⟨u, _, z⟩ := x.hr.at q
    obtain ⟨o, z⟩ := z.there
    exact fn b (x.hr.mF n b q) (gN b o z)
  · rcases fl b _ q with z | z
    · exact x.hr.nF b ps z
    · exact g3 b ps z
  · exact fn b (x.rF b o q) (gN b o (x.rH b o q))
  · have k := x.slot i sv q w q2
    have k2 := y.slot i sv q w q2
    cases sv with
    | un => trivial
    | v d =>
      obtain ⟨v, z1, z2⟩ := k2
      exact ⟨v, z1, VRep.mono sF (Pre.refl _) _ _ z2⟩
    | ol xs =>
      obtain ⟨b, vs, z1, z2, z3, z4, z5⟩ := k2
      obtain ⟨b', vs', y1, y2, _⟩ := k
      rw [z1] at y1
      cases y1
      exact ⟨b, vs, z1, z2, VReps.mono sF (Pre.refl _) _ _ z3, fn b z4 (gN b _ y2), z5⟩
    | od xs =>
      obtain ⟨b, vs, z1, z2, z3, z4, z5⟩ := k2
      obtain ⟨b', vs', y1, y2, _⟩ := k
      rw [z1] at y1
      cases y1
      exact ⟨b, vs, z1, z2, KReps.mono sF (Pre.refl _) _ _ z3, fn b z4 (gN b _ y2), z5⟩
end MP


set_option Elab.async false
set_option linter.all false
set_option maxHeartbeats 1000000
/-! What is said of a call: a lambda handed to the def that tries it. -/
namespace MP
open PySem PySem.Spec PyProof.Rows L2
/-- no parameters -/
def noArgs : Arguments → Bool
  | ⟨[], [], none, [], [], none, []⟩ => true
  | _ => false
theorem noArgs_ok {p : Arguments} (h : noArgs p = true) : p = ⟨[], [], none, [], [], none, []⟩ := by
  unfold noArgs at h
  split at h
  · rfl
  · cases h
/-- try: return ("told", a()) / except SpanError as e: return (r(e),) -/
def saidB (tw : Bool) (a e r : Str) : List Stmt → Bool
  | [.Try [.Return (some (.Tuple [.Constant (.str t) _ _, .Call (.Name a1 _) [] [] _] _ _)) _] [.ExceptHandler (some (.Name c _)) (some e1) [.Return (some y) _] _] [] [] _] =>
    decide (t = ("told" : Str)) && decide (a1 = a) && decide (c = ("SpanError" : Str)) && decide (e1 = e) && (match tw, y with
      | true, .Call (.Name r1 _) [.Name e2 _] [] _ => decide (r1 = r) && decide (e2 = e)
      | false, .Tuple [.Call (.Name r1 _) [.Name e2 _] [] _] _ _ => decide (r1 = r) && decide (e2 = e)
      | _, _ => false)
  | _ => false
section
variable {X : Cx} {C : Stc} {W : WX} {k : Nat} {P : Prog} {cl : Nat → List D → Hh → Res SV} {pos p p2 : Pos}
/-! ### the lambda is called -/
theorem act_g {pins : List (Addr × Obj)} {σ : L2.St} {H : Hp} {s : Shared} (I : L2.Inv X pins σ H s) {sco : Scope} (L : LamX.LamS X.env.scope sco) {fa ca : Addr} {prm : Arguments} {bd : Expr} {pm ctv : Value} {tb : TE} {Ng : List Str} {x : Str} {sg : Scope} {g : Addr} {cdg : Value} {pn : List (Addr × Obj)}
    {xe : Value → Shared → Prop} {Wt : WX} {Eb : XK} {i : Nat} {a : Str} {q1 q2 : Pos} (at0 : s.heap.get? fa = some (PySem.W.kla_obj "<lambda>" (X.env.qual ++ "<lambda>") prm bd sco (cloFrom X.env.cells sco.names []) pm ca ctv)) (un : H fa = none) (nf : fa ∉ frs X.stack)
    (bnd : bindArgs (PySem.W.kla_fn "<lambda>" (X.env.qual ++ "<lambda>") prm bd sco (cloFrom X.env.cells sco.names []) pm (.ref ca) ctv) ⟨[], []⟩ = pure []) (tk : Takes ((cxOf C8.CX0 X.prog X.w X.K X.mg X.base Ng x sg g cdg X.A X.stack s H C8.E0).tr pn xe) Wt)
    (hW : ∀ cls d σ' H', Eb cls d H' → Wt cls d σ' H') (rm : Room (k + 1) (X.A.deeper (envOfC x sg s.heap.objs.size g cdg))) (gu : X.A.guards = some [])
    (run : ∀ (A : Around) (out : List PySem.Env) (s : Shared) (H : Hp), Room k (A.deeper (LamX.lamEnv X sco s.heap.objs.size fa ca)) → A.guards = some [] → PE (LamX.lamCx X A out s H Eb sco fa ca) bd tb) (hN : Ng[i]? = some a) (vs : Vis sg a) (d1 : (a == ("__debug__" : Str)) = false)
    (d2 : (a == ("__classdict__" : Str)) = false) :
    PE ((cxOf C8.CX0 X.prog X.w X.K X.mg X.base Ng x sg g cdg X.A X.stack s H C8.E0).tr pn xe) (.Call (.Name a q1) [] [] q2) (fun τ G Q => τ[i]? = some (some (.ref fa)) ∧ G ca = some (LamX.CodeO ca (X.env.qual ++ "<lambda>")) ∧ tb σ G Q) := by
  refine ⟨fun pins' t τ G Q J ⟨w1, w2, w3⟩ => ?_⟩
  have nm := (pe_var (pos := q1) (i := i) hN vs d1 d2).run pins' t τ G (fun v G' => v = .ref fa ∧ G' = G) J ⟨.ref fa, w1, rfl, rfl⟩
  refine wpAny_Call_Name_kw (thn nm fun u t1 ⟨v, G1, J1, rv, e1, e2⟩ => ?_)
  subst e1 e2
  obtain rfl : u = Value.ref fa := rv
  have at1 := J1.base.keep fa _ at0 un nf (List.not_mem_nil)
  refine PySem.W.callWith_F0 ⟨_, _, _, _, at1⟩ ?_
  have un1 : Un (frs X.stack) [] H G1 s.heap t1.heap := J1.base
  have ic := (show ∃ (oc : Obj) (vs : Array Value) (tt : Tok), t1.heap.get? ca = some oc ∧ oc.data = .fields vs ∧ vs[1]? = some (.str (X.env.qual ++ "<lambda>") tt) from (J1.hok ca _ w2).1)
  obtain ⟨oc, fs, tt, c1, c2, c3⟩ := ic
  have inner : codeAny (model X.prog X.w) (X.A.deeper (envOfC x sg s.heap.objs.size g cdg)) (.call (.ref fa) ⟨[], []⟩) (CR (L2.CX X.prog X.w) (envOfC x sg s.heap.objs.size g cdg :: X.stack) X.prog X.w G1 t1 Q Eb) t1 := by
    refine PySem.W.kla_callFunE rm.depth at1 rfl L.co L.gen rfl ⟨ca, oc, fs, tt, rfl, c1, c2, c3⟩ ?_
    rw [bnd]
    refine wpAny_pure (wpAny_newFunctionEnv (fun y hy => (L.own y hy).2) (fun y hy => (List.not_mem_nil hy).elim) (fun h1 ns1 sb => ⟨J1.nolimit.fresh _ sb, ?_⟩) L.kind)
    have kept : ∀ b o, t1.heap.get? b = some o → h1.get? b = some o := fun b o e => sb.extBut b o (Nat.ne_of_lt (Heap.lt_size e)) (Heap.get?_push_of_some _ e)
    have st := LamX.lam_start2 (E := Eb) (f := fa) (c' := ca) (tk := t1.toks + ([] : List (Str × Value)).length) I L J1.env0 rm.hd un1 ns1 kept
    have go := (run _ _ t1 G1 (rm.deeper _) (by rw [deeper_guards]; exact gu)).run [] _ _ G1 Q st w3
    exact PySem.W.kla_codeExpr (wpAny_mono go (fun v s' ⟨w', G', J', rv, q⟩ => ⟨w', G', J'.os, J'.bare, J'.base, J'.hok, rv, q⟩) fun e s' z => z)
  have out : Passes (L2.CX X.prog X.w) ((cxOf C8.CX0 X.prog X.w X.K X.mg X.base Ng x sg g cdg X.A X.stack s H C8.E0).tr pn xe) Eb := passes_call tk hW
  refine wpAny_call (codeAny_mono inner fun r s' z => ?_)
  match r, z with
  | .error e, z => exact out pins' τ G1 t1 e s' J1 z
  | .ok (.ret u), z => exact J1.after z
  | .ok .next, z => exact z.elim
  | .ok .brk, z => exact z.elim
  | .ok .cont, z => exact z.elim
/-! ### the refusal's def is called within the suite -/
theorem pe_ref {T : List (Addr × Str)} {rf : Addr} {fd : FuncData} {rx r e : Str} {tw : Bool} {a : Addr} {oe : Obj} {pn : List (Addr × Obj)} {i : Nat} {q1 q2 q3 : Pos} (Fx : FnX X.prog X.w X.K X.mg T rf fd rx tw) (hm : X.mg r = some (.ref rf)) (kp : PySem.W.keepIn X.K (.ref rf) = true) (hg : Gl X r) (hd : (r == ("__debug__" : Str)) = false)
    (hb : L2.Binds X.K fd [rx] []) (hN : X.N[i]? = some e) (ve : Vis X.env.scope e) (d1 : (e == ("__debug__" : Str)) = false) (d2 : (e == ("__classdict__" : Str)) = false) (rm : Room 1 X.A) (gu : X.A.guards = some []) :
    PE (X.suite a ((a, oe) :: pn)) (.Call (.Name r q1) [.Name e q2] [] q3) (fun σ H Q => σ[i]? = some (some (.ref a)) ∧ LamX.Tabs T H ∧ ∃ c, ExIs X.K c oe ∧ c.okc = true ∧ ∀ v H', LamX.ExtN H H' → (∀ b, H' b = none → H b = none) → LamX.Tabs T H' → New X.K H H' (wdD tw c) v → Q v H') := by
  refine ⟨fun pins s σ H Q I ⟨w1, tb, c, ie, ok, w2⟩ => ?_⟩
  have hgl : Gl (X.suite a ((a, oe) :: pn)) r := hg
  refine wpAny_Call_Name_kw (ld_glob I hgl hm ?_ hd)
  have nm := (pa_cons (pe_var (X := X.suite a ((a, oe) :: pn)) (pos := q2) (i := i) hN ve d1 d2) pa_nil rfl).run q3 pins s σ H (fun vs H1 => vs = [.ref a] ∧ H1 = H) I ⟨.ref a, w1, rfl, rfl⟩
  refine PySem.W.callWith_K (h₀ := X.base) I.ok.mod.kin kp (thn nm fun us s1 ⟨vs, H1, I1, rv, e1, e2⟩ => ⟨I1.kIn, ?_⟩) rfl rfl
  subst e1 e2
  obtain ⟨u, rfl, ru⟩ : ∃ u, us = [u] ∧ RelV (.ref a) u := by
    cases rv with
    | cons r rr => cases rr; exact ⟨_, rfl, r⟩
  obtain rfl : u = Value.ref a := ru
  have pin := I1.pin (a, oe) (List.mem_append_left _ (List.mem_cons_self ..))
  have pk : L2H.PinOk (X.suite a ((a, oe) :: pn)).stack H1 s1 (a, oe) := ⟨pin.1, pin.2.1, fun hm => (List.mem_cons.mp (I1.stkSub a hm)).elim pin.2.2.1 pin.2.2.2.1, pin.2.2.2.2⟩
  have go := Fx.run X.base (X.suite a ((a, oe) :: pn)).A (X.suite a ((a, oe) :: pn)).stack s1 H1 ⟨[.ref a], []⟩ Q a oe c ⟨rm.dp, rm.un⟩ gu pk ie ok tb I1.env0 (by simpa using hb s1 [.ref a] I1.kIn rfl) w2
  refine wpAny_call (codeAny_mono go fun r s' z => ?_)
  match r, z with
  | .error e, z => exact (show False from z).elim
  | .ok (.ret u), z => exact I1.after z
  | .ok .next, z => exact z.elim
  | .ok .brk, z => exact z.elim
  | .ok .cont, z => exact z.elim
end
end MP


set_option Elab.async false
set_option linter.all false
set_option maxHeartbeats 1000000
/-! What is said of a call: the whole rule. -/
namespace MP
open PySem PySem.Spec PyProof.Rows L2
/-- what is known of the def that says it -/
structure SaidR (pr : Program) (w : World) (K : PySem.W.Frag) (mg : Str → Option Value) (T : List (Addr × Str)) (x : Str) : Prop where
  ex : ∃ (g : Addr) (fd : FuncData) (st : Stmt) (a e r : Str) (tw : Bool) (rf : Addr) (rd : FuncData) (rx : Str), mg x = some (.ref g) ∧ Fun K x x st g fd ∧ FnScope [a, e] [a] (defScope st) ∧ L2.Binds K fd [a] [] ∧ saidB tw a e r (defBody st) = true ∧
    (defScope st).names.lookup a = some .local ∧ (defScope st).names.lookup e = some .local ∧ (defScope st).names.lookup ("SpanError" : Str) = some .globalImplicit ∧ (defScope st).names.lookup r = some .globalImplicit ∧ (a == ("__debug__" : Str)) = false ∧ (a == ("__classdict__" : Str)) = false ∧ (e == ("__debug__" : Str)) = false ∧ (e == ("__classdict__" : Str)) = false ∧ (r == ("__debug__" : Str)) = false ∧
    mg r = some (.ref rf) ∧ PySem.W.keepIn K (.ref rf) = true ∧ L2.Binds K rd [rx] [] ∧ FnX pr w K mg T rf rd rx tw ∧ ExAll K mg
/-- where lambdas are made -/
structure LamOk (X : Cx) (C : Stc) (k : Nat) : Prop where
  ex : ∃ c P, X.env.code = .ref c ∧ LamX.TabB X.base X.mg c P ∧ (P, X.env.qual ++ "<lambda>") ∈ C.tabs ∧ ∀ p ∈ C.tabs, p.1 = P → p.2 = X.env.qual ++ "<lambda>"
  room : Room (k + 2) X.A
section
variable {X : Cx} {C : Stc} {W : WX} {k : Nat} {P : Prog} {cl : Nat → List D → Hh → Res SV} {pos p p2 : Pos}
/-- the def's body, told of the lambda at fa -/
theorem said_body {prog : Program} {w : World} {K : PySem.W.Frag} {mg : Str → Option Value} {base : Heap} {A : Around} {out : List PySem.Env} {s : Shared} {H : Hp} {Q : VK} {x : Str} {sg : Scope} {g : Addr} {cdg : Value} {a e r q : Str} {tw : Bool} {b : List Stmt} {rf : Addr} {rd : FuncData} {rx : Str} {fa ca : Addr} {tl : XK → Hp → VK → Prop}
    (hb : saidB tw a e r b = true) (S : FnScope [a, e] [a] sg) (la : sg.names.lookup a = some .local) (le : sg.names.lookup e = some .local) (ls : sg.names.lookup ("SpanError" : Str) = some .globalImplicit) (lr : sg.names.lookup r = some .globalImplicit)
    (d1 : (a == ("__debug__" : Str)) = false) (d2 : (a == ("__classdict__" : Str)) = false) (d3 : (e == ("__debug__" : Str)) = false) (d4 : (e == ("__classdict__" : Str)) = false) (d5 : (r == ("__debug__" : Str)) = false)
    (hm : mg r = some (.ref rf)) (kp : PySem.W.keepIn K (.ref rf) = true) (bd : L2.Binds K rd [rx] []) (Fx : FnX prog w K mg C.tabs rf rd rx tw) (E : ExAll K mg) (rm : Room 1 (A.deeper (envOfC x sg s.heap.objs.size g cdg))) (gu : A.guards = some [])
    (act : ∀ (Wt : WX) (pn : List (Addr × Obj)) (xe : Value → Shared → Prop) (Eb : XK) (q1 q2 : Pos), Takes ((cxOf C8.CX0 prog w K mg base [a, e] x sg g cdg A out s H C8.E0).tr pn xe) Wt → (∀ cls d σ' H', Eb cls d H' → Wt cls d σ' H') →
      PE ((cxOf C8.CX0 prog w K mg base [a, e] x sg g cdg A out s H C8.E0).tr pn xe) (.Call (.Name a q1) [] [] q2) (fun τ G Q => τ[0]? = some (some (.ref fa)) ∧ G ca = some (LamX.CodeO ca q) ∧ tl Eb G Q))
    (mono : ∀ Eb G Q Q', (∀ v H, Q v H → Q' v H) → tl Eb G Q → tl Eb G Q') (hca : H ca = some (LamX.CodeO ca q))
    (want : tl (fun cls d H1 => ∃ c, c.okc = true ∧ cls = .ref (evK K c) ∧ d = none ∧ LamX.Tabs C.tabs H1 ∧ ∀ v H2, LamX.ExtN H1 H2 → LamX.Tabs C.tabs H2 → New K H1 H2 (.tup [.str (exW c)]) v → Q v H2) H fun v H1 => ∀ t, H1 t = none → Q (.ref t) (upd H1 t (.tup [.str (toStr wTold), v]))) :
    ∃ t, PSs (cxOf C8.CX0 prog w K mg base [a, e] x sg g cdg A out s H C8.E0) b t ∧ t { nx := fun _ H' => Q .non H', rt := Q } (L2.start [a, e] [.ref fa]) H := by
  unfold saidB at hb
  split at hb
  case h_2 => cases hb
  rename_i t j1 q3 a1 q4 q5 j2 q6 q7 c q8 e1 y q9 q10 q11
  simp only [Bool.and_eq_true, decide_eq_true_eq] at hb
  obtain ⟨⟨⟨⟨rfl, rfl⟩, rfl⟩, rfl⟩, hy⟩ := hb
  have suite : ∀ (ad : Addr) (oe : Obj) (cls : Value) (d : Option Addr) (pn : List (Addr × Obj)), Zc cls d oe → (∃ vs, oe.data = .fields vs) → PSs ((cxOf C8.CX0 prog w K mg base [a1, e1] x sg g cdg A out s H C8.E0).suite ad ((ad, oe) :: pn)) [.Return (some y) q9]
      (fun D σ H => (∃ τ : L2.St, σ = τ.set 1 (some (.ref ad))) ∧ LamX.Tabs C.tabs H ∧ ∃ c, c.okc = true ∧ cls = .ref (evK K c) ∧ d = none ∧ ∀ v H2, LamX.ExtN H H2 → LamX.Tabs C.tabs H2 → New K H H2 (.tup [.str (exW c)]) v → D.rt v H2) := fun ad oe cls d pn z fs => by
    have call := fun (q1 q2 q3 : Pos) => pe_ref (X := cxOf C8.CX0 prog w K mg base [a1, e1] x sg g cdg A out s H C8.E0) (i := 1) (q1 := q1) (q2 := q2) (q3 := q3) (a := ad) (oe := oe) (pn := pn) (T := C.tabs) (e := e1) Fx hm kp lr d5 bd rfl (.inl le) d3 d4 rm gu
    have slot : ∀ {σ : L2.St}, (∃ τ : L2.St, σ = τ.set 1 (some (.ref ad))) → σ.length = 2 → σ[1]? = some (some (.ref ad)) := fun {σ} ⟨τ, e⟩ l => by
      rw [e, List.length_set] at l
      rw [e, List.getElem?_set_self (by omega)]
    split at hy
    · simp only [Bool.and_eq_true, decide_eq_true_eq] at hy
      obtain ⟨rfl, rfl⟩ := hy
      refine ⟨fun pins s σ H D I ⟨w1, tb, c, ok, e1, e2, w2⟩ => ?_⟩
      subst e1 e2
      exact (pss_one (ps_ret (call _ _ _))).run pins s σ H D I ⟨slot w1 I.len, tb, c, ⟨z.1, z.2, fs⟩, ok, fun v H' x1 _ x3 x4 => w2 v H' x1 x3 x4⟩
    · simp only [Bool.and_eq_true, decide_eq_true_eq] at hy
      obtain ⟨rfl, rfl⟩ := hy
      refine ⟨fun pins s σ H D I ⟨w1, tb, c, ok, e1, e2, w2⟩ => ?_⟩
      subst e1 e2
      refine (pss_one (ps_ret (pe_tup (pa_cons (call _ _ _) pa_nil rfl)))).run pins s σ H D I ⟨slot w1 I.len, tb, c, ⟨z.1, z.2, fs⟩, ok, fun v H' x1 x2 x3 x4 => ⟨by show 1 ≤ sizeLine; rw [sizeLine_eq]; omega, fun t ht => ?_⟩⟩
      obtain ⟨G, g1, g2, g3, g4⟩ := x4
      have ev : v = .str (toStr (exW c)) := by
        have g4 : VRep K G [] (.str (exW c)) v := g4
        simpa only [VRep] using g4
      subst ev
      have pl : ∀ u, H' t = some u → Pl u := fun u hu => by rw [ht] at hu; cases hu
      refine w2 _ _ (fun b o q n => ?_) (tabs_upd x3 pl) ⟨fun b => if b = t then some (.tup [.str (toStr (exW c))]) else none, fun b o q => ?_, fun b o q => ?_, fun b ps q => ?_, ?_⟩
      · have := x1 b o q n
        rw [upd_ne (ne_of_none this ht)]
        exact this
      · by_cases h : b = t
        · rw [h]; exact x2 t ht
        · dsimp only at q; rw [if_neg h] at q; cases q
      · by_cases h : b = t
        · dsimp only at q; rw [if_pos h] at q; rw [h, upd_same]; exact q
        · dsimp only at q; rw [if_neg h] at q; cases q
      · by_cases h : b = t
        · dsimp only at q; rw [if_pos h] at q; cases q
        · dsimp only at q; rw [if_neg h] at q; cases q
      · simp only [VRep]
        exact ⟨t, _, rfl, .inl (.inl (if_pos rfl)), VReps.cons (VRep.vstr _) VReps.nil⟩
    · cases hy
  refine ⟨_, pss_one (ps_try_as (X := cxOf C8.CX0 prog w K mg base [a1, e1] x sg g cdg A out s H C8.E0) (c := .ref (evK K .spanError)) (i := 1)
    (tb := fun Wt D σ G => ∃ Eb : XK, (∀ cls d σ' H', Eb cls d H' → Wt cls d σ' H') ∧ σ[0]? = some (some (.ref fa)) ∧ G ca = some (LamX.CodeO ca q) ∧ tl Eb G fun v H1 => ∀ t, H1 t = none → D.rt (.ref t) (upd H1 t (.tup [.str (toStr wTold), v])))
    rfl rfl S.nd rfl le ⟨ls, by decide, .inl (E.g .spanError)⟩ LamX.takes0 (fun Wt pn xe tk _ => ?_) suite), ?_⟩
  · refine ⟨fun pins s' σ H' D I ⟨Eb, hW, w1, w2, w3⟩ => ?_⟩
    have go := pss_one (ps_ret (pos := q7) (pe_tup (x1 := j2) (pos := q6) (pa_cons (pe_str (x := ("told" : Str)) (j := j1) (pos := q3)) (pa_cons (act Wt pn xe Eb q4 q5 tk hW) pa_nil rfl) rfl)))
    refine go.run pins s' σ H' D I ⟨w1, w2, mono _ _ _ _ (fun v H1 z => ⟨by show 2 ≤ sizeLine; rw [sizeLine_eq]; omega, z⟩) w3⟩
  · refine ⟨_, fun cls d σ' H' z => ?_, rfl, hca, want⟩
    obtain ⟨c, ok, rfl, rfl, tb, z⟩ := z
    exact ⟨true, E.s c ok, fun _ ad na => ⟨⟨σ', rfl⟩, tb, c, ok, rfl, rfl, z⟩, fun z => nomatch z⟩
/-- what is said of a call -/
theorem s_said {m : E} {x : Str} {prm : Arguments} {bd : Expr} {sco : Scope} {lp : Pos} (gu : X.A.guards = some []) (Sd : SaidR X.prog X.w X.K X.mg C.tabs x) (Lm : LamOk X C k) (hg : Gl X x) (hd : (x == ("__debug__" : Str)) = false) (L : LamX.LamS X.env.scope sco) (hp : noArgs prm = true)
    (hbody : ∀ (A : Around) (out : List PySem.Env) (s : Shared) (H : Hp) (E : XK) (f c' : Addr), Room k (A.deeper (LamX.lamEnv X sco s.heap.objs.size f c')) → A.guards = some [] → PE (LamX.lamCx X A out s H E sco f c') bd (tR X.K C (fun cls d _ H => E cls d H) (VRep X.K) (evE P cl m))) :
    PE X (.Call (.Name x p) [.Lambda prm bd sco lp] [] pos) (tE X C W P cl (.said m)) := by
  refine ⟨fun pins s σ H Q I ⟨F, R, phi, rr, hh, S, want⟩ => ?_⟩
  obtain ⟨g, fd, st, a, e, r, tw, rf, rd, rx, hm, Fn, Sg, B, sb, la, le, ls, lr, d1, d2, d3, d4, d5, hmr, kpr, Br, Fx, EA⟩ := Sd.ex
  obtain ⟨oc, od, kV, doc, pmv, an, cdv, ct, osl, rfl, lk, hcd⟩ := Fn.ex
  obtain ⟨cA, PA', hcode, TB, hmT, hu⟩ := Lm.ex
  refine wpAny_Call_Name_kw (ld_glob I hg hm ?_ hd)
  refine PySem.W.callWith_K (h₀ := X.base) I.ok.mod.kin Fn.kp ?_ rfl rfl
  show wpAny _ _ (spliced ((false, eval (.Lambda prm bd sco lp) X.env) :: backTo pos (starEach [] X.env))) _ _ s
  have hpar := noArgs_ok hp
  subst hpar
  refine Calls.spliced_cons (LamX.lam_make2 I TB hcode hmT hu S.hr.tb rfl (L.has I.ok) fun fa ca pm' ctv H1 s1 I1 eN T1 at0 un nf hca => ?_)
  refine Calls.spliced_nil ⟨I1.kIn, ?_⟩
  have S1 := S.growN eN T1
  have run : codeAny (model X.prog X.w) X.A (.call (.ref g) ⟨[.ref fa], []⟩) (CR C8.CX0 X.stack X.prog X.w H1 s1 Q C8.E0) s1 := by
    refine LamX.run_ofS (N := [a, e]) (ps := [a]) (us := [.ref fa]) (vs := [.ref fa]) lk hcd Sg (Lm.room) I1.env0 (hb := B s1 [.ref fa] I1.kIn rfl) (.cons rfl .nil) rfl fun rm => ?_
    refine said_body (C := C) (tl := fun Eb G Q' => tR X.K C (fun cls d _ H => Eb cls d H) (VRep X.K) (evE P cl m) σ G Q') (ca := ca) (q := X.env.qual ++ "<lambda>") sb Sg la le ls lr d1 d2 d3 d4 d5 hmr kpr Br Fx EA (rm.mono (by omega)) gu (fun Wt pn xe Eb q1 q2 tk hW => ?_) (fun Eb G Q Q' z w => w.mono z) hca ?_
    · exact act_g (k := k) (i := 0) I1 L at0 un nf rfl tk hW rm gu (fun A out s H r2 g2 => hbody A out s H Eb fa ca r2 g2) rfl (.inl la) d1 d2
    · refine ⟨F, R, phi, rr, hh, S1, ?_⟩
      rw [evE] at want
      cases ev : evE P cl m rr hh with
      | ok d h1 =>
        rw [ev] at want
        intro F' phi' v H' s1' q1 S' rv t ht
        have gr := Grow.one (o := .tup [.str (toStr wTold), v]) S'.hr.fH ht
        refine want _ phi' (.ref t) _ (s1'.trans (gr.sub S'.hr.fH)) q1 (S'.grow gr) ?_
        exact new_tup S'.hr.fH ht (VReps.cons (VRep.vstr _) (VReps.cons rv VReps.nil))
      | exc c h1 =>
        rw [ev] at want
        by_cases ok : c.okc = true
        case neg => dsimp only at want; rw [if_neg ok] at want; exact want.elim
        dsimp only at want
        rw [if_pos ok] at want
        intro F' phi' H' s1' q1 S'
        refine ⟨c, ok, rfl, rfl, S'.hr.tb, fun v H2 x1 x2 x3 => ?_⟩
        obtain ⟨F2, y1, y2, y3⟩ := S'.known x1 x2 x3
        exact want F2 phi' v H2 (s1'.trans y1) q1 y2 y3
      | stk =>
        rw [ev] at want
        exact want.elim
  refine wpAny_call (codeAny_mono run fun r s' z => ?_)
  match r, z with
  | .error e, z => exact (show False from z).elim
  | .ok (.ret u), z => exact I1.after z
  | .ok .next, z => exact z.elim
  | .ok .brk, z => exact z.elim
  | .ok .cont, z => exact z.elim
end
end MP


set_option Elab.async false
set_option linter.all false
set_option maxHeartbeats 2000000
/-! The text against the evaluator's text. -/
namespace MP
open PySem PySem.Spec PyProof.Rows L2

/-- what the names of the top mean -/
structure Tb where
  fn : Str → Option Nat
  gl : Str → Option Nat
  bt : Str → Bool
  /-- the defs that say what a call ends with -/
  sd : Str → Bool := fun _ => false
  /-- something is raised -/
  rz : Bool := false
def visB (sc : Scope) (x : Str) : Bool := match sc.names.lookup x with
  | some .local => true
  | some .cell => true
  | some .free => true
  | _ => false
def glB (sc : Scope) (x : Str) : Bool := match sc.names.lookup x with
  | some .globalImplicit => true
  | _ => false
def locB (sc : Scope) (fb : Str → Bool) (x : Str) : Bool := match sc.names.lookup x with
  | some .local => true
  | some .cell => fb x && !decide (x = ("" : Str))
  | _ => false
/-- names whose cells are a comprehension's own; at no name: lambdas are let -/
def cfb (fb : Str → Bool) (scope : Scope) : Str → Bool := fun x => if x = ("" : Str) then fb x else scope.names.lookup x == some .cell
/-- the same of a def -/
def dfb (lam : Bool) : Str → Bool := fun x => if x = ("" : Str) then lam else true
def dunB (x : Str) : Bool := !(x == ("__debug__" : Str)) && !(x == ("__classdict__" : Str))
def Bl.nm : Bl → Option (String × Bool)
  | .len => some ("len", true)
  | .abs => some ("abs", true)
  | .all => some ("all", true)
  | .any => some ("any", true)
  | .max => some ("max", true)
  | .min => some ("min", true)
  | .repr => some ("repr", true)
  | .sorted => some ("sorted", true)
  | .sum => some ("sum", true)
  | .int => some ("int", false)
  | .tuple => some ("tuple", false)
  | .list => some ("list", false)
  | _ => none
def noSet : Expr → Bool
  | .Set .. => false
  | _ => true
def strOf (s : List Nat) (z : Str) : Bool := decide (z.cps.toList = s)
def isSlice : Expr → Bool
  | .Slice .. => true
  | _ => false
/-- the names of methods -/
def bmNm : Bm → Str → Bool
  | .count, n => decide (n = ("count" : Str))
  | .index, n => decide (n = ("index" : Str))
  | .hpop, n => decide (n = ("pop" : Str))
  | _, _ => false
/-- the word strict of a zip -/
def kwB : Bool → List Keyword → Bool
  | false, [] => true
  | true, [⟨some k, .Constant (.bool true) _ _, _⟩] => decide (k = ("strict" : Str))
  | _, _ => false
mutual
def okTg (N : List Str) (sc : Scope) (fb : Str → Bool) : Tg → Expr → Bool
  | .nm i, e => match e with
    | .Name x _ => decide (N[i]? = some x) && locB sc fb x
    | _ => false
  | .tup ts, e => match e with
    | .Tuple es _ _ => okTgs N sc fb ts es
    | _ => false
  | .star _ _, _ => false
  | .own _, _ => false
def okTgs (N : List Str) (sc : Scope) (fb : Str → Bool) : List Tg → List Expr → Bool
  | [], es => match es with
    | [] => true
    | _ => false
  | t :: ts, es => match es with
    | e :: es => notStar e && okTg N sc fb t e && okTgs N sc fb ts es
    | _ => false
end
section
variable (T : Tb) (N : List Str)
mutual
def okE : E → Scope → (Str → Bool) → Expr → Bool
  | .var i, sc, fb, e => match e with
    | .Name x _ => decide (N[i]? = some x) && visB sc x && dunB x
    | _ => false
  | .glob g, sc, fb, e => match e with
    | .Name x _ => decide (T.gl x = some g) && glB sc x && dunB x
    | _ => false
  | .int i, sc, fb, e => match e with
    | .Constant (.int j) _ _ => decide (i = j)
    | _ => false
  | .bl i, sc, fb, e => match e with
    | .Constant (.bool j) _ _ => i == j
    | _ => false
  | .non, sc, fb, e => match e with
    | .Constant .none _ _ => true
    | _ => false
  | .str s, sc, fb, e => match e with
    | .Constant (.str z) _ _ => strOf s z
    | _ => false
  | .tup es, sc, fb, e => match e with
    | .Tuple l _ _ => decide (es.len ≤ 1000) && okEs es sc fb l
    | _ => false
  | .lst es, sc, fb, e => match e with
    | .List l _ => decide (es.len ≤ 1000) && okEs es sc fb l
    | _ => false
  | .dct kvs, sc, fb, e => match e with
    | .Dict keys vals _ => (match inter keys vals with
        | some l => decide (keys.length ≤ 15) && okEs kvs sc fb l
        | none => false)
    | _ => false
  | .alloc m, sc, fb, e => match m, e with
    | .lst es, .List l _ => decide (es.len ≤ 1000) && okEs es sc fb l
    | .blt .list (.cons me .nil), .Call (.Name y _) [x] [] _ => decide (y = ("list" : Str)) && T.bt y && glB sc y && notStar x && okE me sc fb x
    | _, _ => false
  | .bin op a b, sc, fb, e => match e with
    | .BinOp x o y _ => decide (o = op.op) && okE a sc fb x && okE b sc fb y
    | _ => false
  | .neg a, sc, fb, e => match e with
    | .UnaryOp .USub x _ => okE a sc fb x
    | _ => false
  | .not a, sc, fb, e => match e with
    | .UnaryOp .Not x _ => okE a sc fb x
    | _ => false
  | .cmp op a b, sc, fb, e => match e with
    | .Compare x [o] [y] _ => decide (o = op.op) && noSet y && okE a sc fb x && okE b sc fb y
    | _ => false
  | .cmp2 o1 o2 a b c, sc, fb, e => match e with
    | .Compare x [p1, p2] [y, z] _ => decide (p1 = o1.op) && decide (p2 = o2.op) && noSet z && okE a sc fb x && okE b sc fb y && okE c sc fb z
    | _ => false
  | .and es, sc, fb, e => match e with
    | .BoolOp .And l _ => !l.isEmpty && okEs es sc fb l
    | _ => false
  | .or es, sc, fb, e => match e with
    | .BoolOp .Or l _ => !l.isEmpty && okEs es sc fb l
    | _ => false
  | .ifx c a b, sc, fb, e => match e with
    | .IfExp z x y _ => okE c sc fb z && okE a sc fb x && okE b sc fb y
    | _ => false
  | .sub a i, sc, fb, e => match e with
    | .Subscript x y _ => !isSlice y && okE a sc fb x && okE i sc fb y
    | _ => false
  | .slc a lo hi, sc, fb, e => match e with
    | .Subscript x (.Slice l u none _) _ => okE a sc fb x && (match l with
        | none => lo.isNon
        | some y => !lo.isNon && okE lo sc fb y) && (match u with
        | none => hi.isNon
        | some y => !hi.isNon && okE hi sc fb y)
    | _ => false
  | .rev a, sc, fb, e => match e with
    | .Subscript x (.Slice none none (some (.UnaryOp .USub (.Constant (.int 1) _ _) _)) _) _ => okE a sc fb x
    | _ => false
  | .call f es, sc, fb, e => match e with
    | .Call (.Name x _) l [] _ => decide (T.fn x = some f) && glB sc x && dunB x && l.all notStar && okEs es sc fb l
    | _ => false
  | .blt b es, sc, fb, e => match e with
    | .Call (.Name x _) l [] _ => (match b.nm with
        | some (n, _) => decide (x = (n : Str))
        | none => false) && T.bt x && glB sc x && l.all notStar && !l.isEmpty && okEs es sc fb l
    | _ => false
  | .isi a t, sc, fb, e => match e with
    | .Call (.Name z _) [x, .Name y _] [] _ => decide (z = ("isinstance" : Str)) && T.bt z && glB sc z && (match t.nm with
        | some n => decide (y = (n : Str))
        | none => false) && T.bt y && glB sc y && notStar x && okE a sc fb x
    | _ => false
  | .lc t it ifs elt, sc, fb, e => match e with
    | .ListComp elt' [⟨tg, iter, ifs', z⟩] scope _ => decide (z = 0) && noSet iter && blkC N sc scope (t.slots.map fun i => (N.getD i default, i)) && okIt it sc fb tg iter && okTg N (relS scope sc) (cfb fb scope) t tg &&
        decide (ifs'.length ≤ 1) && okEs ifs (relS scope sc) (cfb fb scope) ifs' && okE elt (relS scope sc) (cfb fb scope) elt'
    | _ => false
  | .ssc t it ifs elt, sc, fb, e => match e with
    | .Call (.Name y _) [.SetComp elt' [⟨tg, iter, ifs', z⟩] scope _] [] _ => decide (y = ("sorted" : Str)) && T.bt y && glB sc y && decide (z = 0) && noSet iter && blkC N sc scope (t.slots.map fun i => (N.getD i default, i)) && okIt it sc fb tg iter && okTg N (relS scope sc) (cfb fb scope) t tg &&
        decide (ifs'.length ≤ 1) && okEs ifs (relS scope sc) (cfb fb scope) ifs' && okE elt (relS scope sc) (cfb fb scope) elt'
    | _ => false
  | .lrg a b c, sc, fb, e => match e with
    | .Call (.Name y _) [.Call (.Name z _) [.Constant (.int a') _ _, .Constant (.int b') _ _, .Constant (.int c') _ _] [] _] [] _ => decide (y = ("list" : Str)) && T.bt y && glB sc y && decide (z = ("range" : Str)) && T.bt z && glB sc z && decide (a' = a) && decide (b' = b) && decide (c' = c) && lrgOk a b c
    | _ => false
  | .sset a, sc, fb, e => match e with
    | .Call (.Name y _) [.Call (.Name z _) [x] [] _] [] _ => decide (y = ("sorted" : Str)) && T.bt y && glB sc y && decide (z = ("set" : Str)) && T.bt z && glB sc z && notStar x && okE a sc fb x
    | _ => false
  | .said m, sc, fb, e => match e with
    | .Call (.Name x _) [.Lambda prm body sco _] [] _ => T.sd x && glB sc x && dunB x && fb "" && noArgs prm && LamX.lamSB sc sco && okE m sco (fun _ => false) body
    | _ => false
  | .bm o m es, sc, fb, e => match es, e with
    | .cons me .nil, .Call (.Attribute x n p2) [y] [] p3 => bmNm m n && abB x && notStar y && (p2.endLine == p3.line) && okE o sc fb x && okE me sc fb y
    | _, _ => false
  | _, _, _, _ => false
def okEs : Es → Scope → (Str → Bool) → List Expr → Bool
  | .nil, sc, fb, l => match l with
    | [] => true
    | _ => false
  | .cons m ms, sc, fb, l => match l with
    | e :: es => notStar e && okE m sc fb e && okEs ms sc fb es
    | _ => false
def okIt : It → Scope → (Str → Bool) → Expr → Expr → Bool
  | .e m, sc, fb, tg, e => okE m sc fb e
  | .r1 a, sc, fb, tg, e => match e with
    | .Call (.Name z _) [x] [] _ => decide (z = ("range" : Str)) && T.bt z && glB sc z && notStar x && okE a sc fb x
    | _ => false
  | .r2 a b, sc, fb, tg, e => match e with
    | .Call (.Name z _) [x, y] [] _ => decide (z = ("range" : Str)) && T.bt z && glB sc z && notStar x && notStar y && okE a sc fb x && okE b sc fb y
    | _ => false
  | .zip a b s, sc, fb, tg, e => match tg, e with
    | .Tuple _ _ _, .Call (.Name z _) [x, y] kws _ => kwB s kws && decide (z = ("zip" : Str)) && T.bt z && glB sc z && notStar x && notStar y && okE a sc fb x && okE b sc fb y
    | _, _ => false
  | .enum a, sc, fb, tg, e => match tg, e with
    | .Tuple _ _ _, .Call (.Name z _) [x] [] _ => decide (z = ("enumerate" : Str)) && T.bt z && glB sc z && notStar x && okE a sc fb x
    | _, _ => false
  | _, _, _, _, _ => false
end
end
/-! ### what is known of a context -/
structure Gd (pr : Program) (w : World) (K : PySem.W.Frag) (mg : Str → Option Value) (base : Heap) (C : Stc) (k : Nat) (P : Prog) (T : Tb) (cl : Nat → List D → Hh → Res SV) : Prop where
  fn : ∀ x f, T.fn x = some f → ∃ ad, mg x = some (.ref ad) ∧ PySem.W.keepIn K (.ref ad) = true ∧ ∀ (X : Cx) (W : WX), X.prog = pr → X.w = w → X.K = K → X.mg = mg → X.base = base → Cok X C W k → Cool X k → CallF X C W (cl f) ad
  gl : ∀ x g, T.gl x = some g → ∃ u v, mg x = some u ∧ RelV v u ∧ ∀ d, P.gl g = some d → ∀ F phi, VRep K F phi d v
  bt : ∀ x, T.bt x = true → mg x = none
  sd : ∀ x, T.sd x = true → SaidR pr w K mg C.tabs x
  ex : T.rz = true → ExAll K mg
  sm : ∃ m, base.Ns sysModules m
structure XS (T : Tb) (P : Prog) (cl : Nat → List D → Hh → Res SV) (C : Stc) (k : Nat) (X : Cx) (W : WX) (N : List Str) (sc : Scope) (fb : Str → Bool) : Prop where
  ok : Cok X C W k
  cool : Cool X k
  hN : X.N = N
  hsc : X.env.scope = sc
  hf : ∀ x, x ≠ ("" : Str) → fb x = true → X.fn x = true
  lam : fb "" = true → LamOk X C k
  gd : Gd X.prog X.w X.K X.mg X.base C k P T cl
section
variable {T : Tb} {P : Prog} {cl : Nat → List D → Hh → Res SV} {C : Stc} {k : Nat} {X : Cx} {W : WX} {N : List Str} {sc : Scope} {fb : Str → Bool}
theorem XS.blk (x : XS T P cl C k X W N sc fb) (s : Shared) (H : Hp) (scope : Scope) (L : Addr) (clo : List (Str × Addr)) (fp : List Addr) : XS T P cl C k (X.blk s H scope (compEnvC scope clo L X.env) fp) WN N (relS scope sc) (cfb fb scope) where
  ok := cok_blk x.ok s H scope _ fp
  cool := cool_blk x.cool s H scope _ fp
  hN := x.hN
  hsc := by
    rw [← x.hsc]
    rfl
  hf := fun y hn hy => by
    unfold cfb at hy
    rw [if_neg hn] at hy
    exact hy
  lam := fun h => by
    unfold cfb at h
    rw [if_pos rfl] at h
    obtain ⟨⟨c, p, h1, h2, h3, h4⟩, h5⟩ := x.lam h
    exact ⟨⟨c, p, h1, h2, h3, h4⟩, h5⟩
  gd := x.gd
theorem XS.lamb (x : XS T P cl C k X W N sc fb) {sco : Scope} {A : Around} {out : List PySem.Env} {s : Shared} {H : Hp} {E : XK} {f c' : Addr} (rm : Room k (A.deeper (LamX.lamEnv X sco s.heap.objs.size f c'))) (gu : A.guards = some []) :
    XS T P cl C k (LamX.lamCx X A out s H E sco f c') (fun cls d _ H => E cls d H) N sco (fun _ => false) where
  ok := { nd := x.ok.nd, hu := by have := rm.un; show (A.deeper (LamX.lamEnv X sco s.heap.objs.size f c')).units + 65 < cLine; omega, grd := by show (A.deeper _).guards = _; rw [deeper_guards]; exact gu, tk := takes_of rfl rfl rfl rfl }
  cool := ⟨rfl, rm⟩
  hN := x.hN
  hsc := rfl
  hf := fun _ _ z => nomatch z
  lam := fun z => nomatch z
  gd := x.gd
theorem visB_ok (x : XS T P cl C k X W N sc fb) {y : Str} (h : visB sc y = true) : Vis X.env.scope y := by
  rw [x.hsc]
  unfold visB at h
  unfold Vis
  split at h
  · rename_i e; exact .inl e
  · rename_i e; exact .inr (.inl e)
  · rename_i e; exact .inr (.inr e)
  · cases h
theorem glB_ok (x : XS T P cl C k X W N sc fb) {y : Str} (h : glB sc y = true) : Gl X y := by
  show X.env.scope.names.lookup y = _
  rw [x.hsc]
  unfold glB at h
  split at h
  · rename_i e; exact e
  · cases h
theorem locB_ok (x : XS T P cl C k X W N sc fb) {y : Str} (h : locB sc fb y = true) : Loc X.env.scope y ∧ (X.fn y = true ∨ X.env.scope.names.lookup y = some .local) := by
  rw [x.hsc]
  unfold locB at h
  split at h
  · rename_i e; exact ⟨.inl e, .inr e⟩
  · rename_i e
    simp only [Bool.and_eq_true, Bool.not_eq_true', decide_eq_false_iff_not] at h
    exact ⟨.inr e, .inl (x.hf y h.2 h.1)⟩
  · cases h
theorem dunB_ok {y : Str} (h : dunB y = true) : (y == ("__debug__" : Str)) = false ∧ (y == ("__classdict__" : Str)) = false := by
  unfold dunB at h
  simp only [Bool.and_eq_true, Bool.not_eq_true'] at h
  exact h
theorem noSet_marks {op : CmpOp} {e : Expr} (h : noSet e = true) : behindInMarks op e = false := by
  cases e <;> first | rfl | (simp [noSet] at h)
theorem noSet_last {o1 o2 : CmpOp} {e f : Expr} (h : noSet f = true) : lastMarks [o1, o2] [e, f] = false := noSet_marks (op := o2) h
theorem noSet_fold {e : Expr} {env : PySem.Env} (h : noSet e = true) (x : Value) : foldedSetIterable e env x = pure x := by
  cases e <;> first | rfl | (simp [noSet] at h)
theorem plain_ix {e : Expr} (h : isSlice e = false) : PlainIx e := fun o i => by
  cases e <;> first | rfl | (simp [isSlice] at h)
mutual
theorem snd_tg (x : XS T P cl C k X W N sc fb) : ∀ (t : Tg) {e : Expr}, okTg N sc fb t e = true → PG X e (tT X.K C t)
  | .nm i, e, h => by
    cases e with
    | Name y p =>
      simp only [okTg, Bool.and_eq_true, decide_eq_true_eq] at h
      obtain ⟨h1, h2⟩ := locB_ok x h.2
      exact s_nm x.ok.nd (by rw [x.hN]; exact h.1) h1 h2
    | _ => simp [okTg] at h
  | .tup ts, e, h => by
    cases e with
    | Tuple es j p =>
      simp only [okTg] at h
      obtain ⟨h1, h2, h3⟩ := snd_tgs x ts h
      exact s_tupT x.cool.calm h1 h2 h3
    | _ => simp [okTg] at h
  | .star _ _, e, h => by simp [okTg] at h
  | .own _, e, h => by simp [okTg] at h
theorem snd_tgs (x : XS T P cl C k X W N sc fb) : ∀ (ts : List Tg) {es : List Expr}, okTgs N sc fb ts es = true → PGs X es (tTs X.K C ts) ∧ es.all notStar = true ∧ es.length = ts.length
  | [], es, h => by
    cases es with
    | nil => exact ⟨s_tgNil, rfl, rfl⟩
    | cons e es => simp [okTgs] at h
  | t :: ts, es, h => by
    cases es with
    | nil => simp [okTgs] at h
    | cons e es =>
      simp only [okTgs, Bool.and_eq_true] at h
      obtain ⟨⟨h1, h2⟩, h3⟩ := h
      obtain ⟨a1, a2, a3⟩ := snd_tgs x ts h3
      exact ⟨s_tgCons h1 (snd_tg x t h2) a1, by simp [h1, a2], by simp [a3]⟩
end
end
end MP


set_option Elab.async false
set_option linter.all false
set_option maxHeartbeats 4000000
/-! Expressions: the checker is right. -/
namespace MP
open PySem PySem.Spec PyProof.Rows L2
/-- every reading of a list of expressions -/
structure SEs (T : Tb) (P : Prog) (cl : Nat → List D → Hh → Res SV) (C : Stc) (X : Cx) (W : WX) (ms : Es) (l : List Expr) : Prop where
  pa : PA X l (tEs X C W P cl ms)
  and_ : ∀ pos, l ≠ [] → PE X (.BoolOp .And l pos) (tR X.K C W (VRep X.K) (evAnd P cl ms)) ∧ PW X (.BoolOp .And l pos) (tAT X C W P cl ms)
  or_ : ∀ pos, l ≠ [] → PE X (.BoolOp .Or l pos) (tR X.K C W (VRep X.K) (evOr P cl ms)) ∧ PW X (.BoolOp .Or l pos) (tOT X C W P cl ms)
  ifs : l.length ≤ 1 → PTs X l (tR X.K C W repB (evIfs P cl ms))
  each : EachP X C W P cl ms l
section
variable {T : Tb} {P : Prog} {cl : Nat → List D → Hh → Res SV} {C : Stc} {k : Nat} {X : Cx} {W : WX} {N : List Str} {sc : Scope} {fb : Str → Bool} {e a : Expr} {l : List Expr} {me : E} {mes : Es}
abbrev SE (X : Cx) (C : Stc) (W : WX) (P : Prog) (cl : Nat → List D → Hh → Res SV) (m : E) (e : Expr) : Prop := PE X e (tE X C W P cl m) ∧ PT X e (tC X C W P cl m)
theorem se_val (ha : PE X e (tE X C W P cl me)) (he : ∀ whole, PySem.isTrue e X.env whole = (do let v ← whole; standAt e.pos; holding [v] (truthy v))) : SE X C W P cl me e := ⟨ha, st_val ha he⟩
theorem PTs.imp {es : List Expr} {t t' : TT} (p : PTs X es t) (h : ∀ σ H Q, t' σ H Q → t σ H Q) : PTs X es t' := ⟨fun pins s σ H Q I q => p.run pins s σ H Q I (h σ H Q q)⟩
theorem ses_nil : SEs T P cl C X W .nil [] where
  each := .nil
  pa := s_nil
  and_ := fun _ h => absurd rfl h
  or_ := fun _ h => absurd rfl h
  ifs := fun _ => PTs.imp pts_nil fun σ H Q ⟨F, R, phi, r, h, S, q⟩ => by
    rw [evIfs] at q
    exact q F phi true H (Sub.refl _) (Pre.refl _) S rfl
theorem ses_cons (hs : notStar a = true) (ha : SE X C W P cl me a) (hl : SEs T P cl C X W mes l) (hc : mes = .nil ↔ l = []) : SEs T P cl C X W (.cons me mes) (a :: l) where
  each := .cons ha.1 hl.each
  pa := s_cons (starEach_cons hs) ha.1 hl.pa
  and_ := fun pos _ => by
    cases l with
    | nil =>
      obtain rfl := hc.mpr rfl
      exact ⟨s_and1 ha.1, sw_and1 ha.2⟩
    | cons b l =>
      cases mes with
      | nil => exact absurd (hc.mp rfl) (by simp)
      | cons mb ms =>
        obtain ⟨h1, h2⟩ := hl.and_ pos (by simp)
        exact ⟨s_and2 ha.1 h1, sw_and2 ha.2 h2⟩
  or_ := fun pos _ => by
    cases l with
    | nil =>
      obtain rfl := hc.mpr rfl
      exact ⟨s_or1 ha.1, sw_or1 ha.2⟩
    | cons b l =>
      cases mes with
      | nil => exact absurd (hc.mp rfl) (by simp)
      | cons mb ms =>
        obtain ⟨h1, h2⟩ := hl.or_ pos (by simp)
        exact ⟨s_or2 ha.1 h1, sw_or2 ha.2 h2⟩
  ifs := fun hl1 => by
    cases l with
    | nil =>
      obtain rfl := hc.mpr rfl
      refine PTs.imp (pts_one ha.2) fun σ H Q ⟨F, R, phi, r, h, S, q⟩ => ⟨F, R, phi, r, h, S, ?_⟩
      have eq : evIfs P cl (.cons me .nil) r h = evC P cl me r h := by
        rw [evIfs, evC_eq]
        cases evE P cl me r h with
        | ok d h1 =>
          simp only [Res.bind_ok]
          cases truth d h1 with
          | none => rfl
          | some b => cases b <;> simp [evIfs]
        | _ => rfl
      rw [eq] at q
      exact q
    | cons b l => simp at hl1
theorem pw_pt {t : TT} (h : PW X e t) : PT X e t := ⟨fun pins s σ H Q I q => h.run _ pins s σ H Q I q⟩
theorem blt_int (ds : List D) (h : Hh) (d : D) : blt .int ds h = some d → (match ds with
    | [.int i] => some (.int i)
    | [.bl b] => some (.int (if b then 1 else 0))
    | _ => none) = some d := fun z => by
  match ds, z with
  | [], z => simp [blt] at z
  | [x], z => cases x <;> first | exact z | (simp [blt] at z)
  | _ :: _ :: _, z => simp [blt] at z
/-- a built-in's call -/
theorem s_bltAll (x : XS T P cl C k X W N sc fb) {b : Bl} {n : String} {tyb : Bool} {y : Str} {p pos : Pos} (hb : b.nm = some (n, tyb)) (hy : y = (n : Str)) (hm : X.mg y = none) (hg : Gl X y) (hs : l.all notStar = true) (hl : l ≠ []) (ha : PA X l (tEs X C W P cl mes)) : PE X (.Call (.Name y p) l [] pos) (tE X C W P cl (.blt b mes)) := by
  subst hy
  cases l with
  | nil => exact absurd rfl hl
  | cons e0 es =>
    cases b <;> simp only [Bl.nm, Option.some.injEq, Prod.mk.injEq] at hb <;> first | (obtain ⟨rfl, rfl⟩ := hb) | cases hb
    · exact s_blt (g := blt .len) cr_len' (fun _ _ _ z => z) hg hm rfl ha (by decide) (by decide) hs
    · exact s_blt (g := blt .abs) cr_abs' (fun _ _ _ z => z) hg hm rfl ha (by decide) (by decide) hs
    · exact s_blt (g := blt .all) (cr_all' x.cool.calm) (fun _ _ _ z => z) hg hm rfl ha (by decide) (by decide) hs
    · exact s_blt (g := blt .any) (cr_any' x.cool.calm) (fun _ _ _ z => z) hg hm rfl ha (by decide) (by decide) hs
    · refine s_bltT cr_int' (fun ds h d z => blt_int ds h d z) hg hm rfl ha (by decide) (by decide) hs
    · exact s_bltT (g := blt .list) (cr_list' x.cool.calm) (fun _ _ _ z => z) hg hm rfl ha (by decide) (by decide) hs
    · exact s_blt (g := blt .max) (cr_max' x.cool.calm) (fun _ _ _ z => z) hg hm rfl ha (by decide) (by decide) hs
    · exact s_blt (g := blt .min) (cr_min' x.cool.calm x.ok.hu) (fun _ _ _ z => z) hg hm rfl ha (by decide) (by decide) hs
    · exact s_blt (g := blt .repr) (cr_repr x.gd.sm x.ok.grd x.ok.hu) (fun _ _ _ z => z) hg hm rfl ha (by decide) (by decide) hs
    · exact s_blt (g := blt .sorted) cr_sorted' (fun _ _ _ z => z) hg hm rfl ha (by decide) (by decide) hs
    · exact s_blt (g := blt .sum) (cr_sum' x.cool.calm) (fun _ _ _ z => z) hg hm rfl ha (by decide) (by decide) hs
    · exact s_bltT (g := blt .tuple) cr_tuple' (fun _ _ _ z => z) hg hm rfl ha (by decide) (by decide) hs
theorem okEs_nil : ∀ {ms : Es} {l : List Expr}, okEs T N ms sc fb l = true → (ms = .nil ↔ l = [])
  | .nil, [], _ => by simp
  | .nil, _ :: _, h => by simp [okEs] at h
  | .cons _ _, [], h => by simp [okEs] at h
  | .cons _ _, _ :: _, _ => by simp
theorem strOf_ok {s : List Nat} {z : Str} (h : strOf s z = true) : z = toStr s := by
  unfold strOf at h
  rw [← of_decide_eq_true h]
  exact (toStr_cps z).symm
theorem ty_boot {t : Ty} {n : String} (h : t.nm = some n) : bootBuiltins (n : Str) = some (.type n) ∧ (n : Str) ≠ "__name__" ∧ ((n : Str) == ("__debug__" : Str)) = false := by
  cases t <;> simp only [Ty.nm, Option.some.injEq] at h <;> first | cases h | skip
  all_goals exact ⟨rfl, by decide, by decide⟩
/-- the call of a def -/
theorem s_callX (x : XS T P cl C k X W N sc fb) {f : Nat} {y : Str} {p pos : Pos} (hf : T.fn y = some f) (hg : Gl X y) (hd : dunB y = true) (hs : l.all notStar = true) (hl : SEs T P cl C X W mes l) (hc : mes = .nil ↔ l = []) :
    PE X (.Call (.Name y p) l [] pos) (tF X.K C W (evF P cl (.call f mes))) := by
  obtain ⟨ad, m1, m2, m3⟩ := x.gd.fn y f hf
  have F := m3 X W rfl rfl rfl rfl rfl x.ok x.cool
  cases l with
  | nil =>
    obtain rfl := hc.mpr rfl
    exact s_callF0 (P := P) x.ok F hg m1 m2 (dunB_ok hd).1
  | cons e0 es => exact s_callF x.ok F hg m1 m2 hl.pa (dunB_ok hd).1 hs

theorem plain_true : ∀ e : Expr, (match e with | .UnaryOp .Not _ _ => False | .BoolOp .. => False | .IfExp .. => False | .Compare .. => False | _ => True) → ∀ (env : PySem.Env) whole, PySem.isTrue e env whole = (do let v ← whole; standAt e.pos; holding [v] (truthy v)) := by
  intro e h env whole
  cases e with
  | UnaryOp op x p => cases op <;> first | rfl | exact h.elim
  | BoolOp => exact h.elim
  | IfExp => exact h.elim
  | Compare => exact h.elim
  | _ => rfl
mutual
theorem snd_E : ∀ (m : E) {X : Cx} {W : WX} {sc : Scope} {fb : Str → Bool} {e : Expr}, XS T P cl C k X W N sc fb → okE T N m sc fb e = true → SE X C W P cl m e
  | .var i, X, W, sc, fb, e, x, h => by
    cases e with
    | Name y p =>
      simp only [okE, Bool.and_eq_true, decide_eq_true_eq] at h
      obtain ⟨d1, d2⟩ := dunB_ok h.2
      exact se_val (s_var (by rw [x.hN]; exact h.1.1) (visB_ok x h.1.2) d1 d2) fun _ => rfl
    | _ => simp [okE] at h
  | .glob g, X, W, sc, fb, e, x, h => by
    cases e with
    | Name y p =>
      simp only [okE, Bool.and_eq_true, decide_eq_true_eq] at h
      obtain ⟨u, v, h1, h2, h3⟩ := x.gd.gl y g h.1.1
      exact se_val (s_glob (glB_ok x h.1.2) h1 h2 (dunB_ok h.2).1 h3) fun _ => rfl
    | _ => simp [okE] at h
  | .int i, X, W, sc, fb, e, x, h => by
    cases e with
    | Constant c j p =>
      cases c with
      | int v =>
        simp only [okE, decide_eq_true_eq] at h
        subst h
        exact se_val s_int fun _ => rfl
      | _ => simp [okE] at h
    | _ => simp [okE] at h
  | .bl i, X, W, sc, fb, e, x, h => by
    cases e with
    | Constant c j p =>
      cases c with
      | bool v =>
        simp only [okE, beq_iff_eq] at h
        subst h
        exact se_val s_bl fun _ => rfl
      | _ => simp [okE] at h
    | _ => simp [okE] at h
  | .non, X, W, sc, fb, e, x, h => by
    cases e with
    | Constant c j p =>
      cases c with
      | none => exact se_val s_non fun _ => rfl
      | _ => simp [okE] at h
    | _ => simp [okE] at h
  | .str s, X, W, sc, fb, e, x, h => by
    cases e with
    | Constant c j p =>
      cases c with
      | str v =>
        simp only [okE] at h
        exact se_val (s_str (strOf_ok h)) fun _ => rfl
      | _ => simp [okE] at h
    | _ => simp [okE] at h
  | .tup es, X, W, sc, fb, e, x, h => by
    cases e with
    | Tuple l j p =>
      simp only [okE, Bool.and_eq_true, decide_eq_true_eq] at h
      exact se_val (s_tup h.1 (snd_Es es x h.2).pa) fun _ => rfl
    | _ => simp [okE] at h
  | .lst es, X, W, sc, fb, e, x, h => by
    cases e with
    | List l p =>
      simp only [okE, Bool.and_eq_true, decide_eq_true_eq] at h
      exact se_val (s_lst h.1 (snd_Es es x h.2).pa) fun _ => rfl
    | _ => simp [okE] at h
  | .alloc m, X, W, sc, fb, e, x, h => by
    cases m with
    | lst es =>
      cases e with
      | List l p =>
        simp only [okE, Bool.and_eq_true, decide_eq_true_eq] at h
        refine se_val (s_alloc (s_lstF h.1 (snd_Es es x h.2).pa) fun r h fr => ?_) fun _ => rfl
        rw [evF, if_pos fr] <;> first | rfl | (intro f es z; cases z)
      | _ => simp [okE] at h
    | blt b es =>
      cases b with
      | list =>
        cases es with
        | nil => simp [okE] at h
        | cons me ms =>
          cases ms with
          | cons _ _ => simp [okE] at h
          | nil =>
            cases e with
            | Call g l kw p =>
              cases g with
              | Name y p2 =>
                match l, kw, h with
                | [z], [], h =>
                  simp only [okE, Bool.and_eq_true, decide_eq_true_eq] at h
                  obtain ⟨⟨⟨⟨h1, h2⟩, h3⟩, h4⟩, h5⟩ := h
                  refine se_val (s_alloc (s_listF x.cool.calm h1 (glB_ok x h3) (x.gd.bt _ h2) h4 (snd_E me x h5).1) fun r h fr => ?_) fun _ => rfl
                  rw [evF, if_pos fr] <;> first | rfl | (intro f es z; cases z)
                | [], _, h => simp [okE] at h
                | _ :: _ :: _, _, h => simp [okE] at h
                | [_], _ :: _, h => simp [okE] at h
              | _ => simp [okE] at h
            | _ => simp [okE] at h
      | _ => simp [okE] at h
    | _ => simp [okE] at h
  | .bin op a b, X, W, sc, fb, e, x, h => by
    cases e with
    | BinOp y o z p =>
      simp only [okE, Bool.and_eq_true, decide_eq_true_eq] at h
      obtain ⟨⟨rfl, h1⟩, h2⟩ := h
      exact se_val (s_bin op (snd_E a x h1).1 (snd_E b x h2).1) fun _ => rfl
    | _ => simp [okE] at h
  | .neg a, X, W, sc, fb, e, x, h => by
    cases e with
    | UnaryOp o y p =>
      cases o with
      | USub =>
        simp only [okE] at h
        exact se_val (s_neg (snd_E a x h).1) fun _ => rfl
      | _ => simp [okE] at h
    | _ => simp [okE] at h
  | .not a, X, W, sc, fb, e, x, h => by
    cases e with
    | UnaryOp o y p =>
      cases o with
      | Not =>
        simp only [okE] at h
        have q := snd_E a x h
        exact ⟨s_not q.1, st_not q.2⟩
      | _ => simp [okE] at h
    | _ => simp [okE] at h
  | .cmp op a b, X, W, sc, fb, e, x, h => by
    cases e with
    | Compare y os zs p =>
      match os, zs, h with
      | [o], [z], h =>
        simp only [okE, Bool.and_eq_true, decide_eq_true_eq] at h
        obtain ⟨⟨⟨rfl, h0⟩, h1⟩, h2⟩ := h
        exact ⟨s_cmp x.ok op (noSet_marks h0) (snd_E a x h1).1 (snd_E b x h2).1, st_cmp x.ok op (noSet_marks h0) (snd_E a x h1).1 (snd_E b x h2).1⟩
      | [], _, h => simp [okE] at h
      | _ :: _ :: _, _, h => simp [okE] at h
      | [_], [], h => simp [okE] at h
      | [_], _ :: _ :: _, h => simp [okE] at h
    | _ => simp [okE] at h
  | .cmp2 o1 o2 a b c, X, W, sc, fb, e, x, h => by
    cases e with
    | Compare y os zs p =>
      match os, zs, h with
      | [p1, p2], [z, w], h =>
        simp only [okE, Bool.and_eq_true, decide_eq_true_eq] at h
        obtain ⟨⟨⟨⟨⟨rfl, rfl⟩, h0⟩, h1⟩, h2⟩, h3⟩ := h
        exact ⟨s_cmp2 x.ok o1 o2 (noSet_last h0) (snd_E a x h1).1 (snd_E b x h2).1 (snd_E c x h3).1, st_cmp2 x.ok o1 o2 (noSet_last h0) (snd_E a x h1).1 (snd_E b x h2).1 (snd_E c x h3).1⟩
      | [], _, h => simp [okE] at h
      | [_], _, h => simp [okE] at h
      | _ :: _ :: _ :: _, _, h => simp [okE] at h
      | [_, _], [], h => simp [okE] at h
      | [_, _], [_], h => simp [okE] at h
      | [_, _], _ :: _ :: _ :: _, h => simp [okE] at h
    | _ => simp [okE] at h
  | .and es, X, W, sc, fb, e, x, h => by
    cases e with
    | BoolOp o l p =>
      cases o with
      | And =>
        simp only [okE, Bool.and_eq_true, Bool.not_eq_true', List.isEmpty_eq_false_iff] at h
        obtain ⟨h1, h2⟩ := (snd_Es es x h.2).and_ p h.1
        refine ⟨h1.imp fun σ H Q ⟨F, R, phi, r, hh, S, q⟩ => ⟨F, R, phi, r, hh, S, by rw [evE] at q; exact q⟩, (pw_pt h2).imp fun σ H Q ⟨F, R, phi, r, hh, S, q⟩ => ⟨F, R, phi, r, hh, S, ?_⟩⟩
        rw [evC_eq, evE] at q
        exact q
      | _ => simp [okE] at h
    | _ => simp [okE] at h
  | .or es, X, W, sc, fb, e, x, h => by
    cases e with
    | BoolOp o l p =>
      cases o with
      | Or =>
        simp only [okE, Bool.and_eq_true, Bool.not_eq_true', List.isEmpty_eq_false_iff] at h
        obtain ⟨h1, h2⟩ := (snd_Es es x h.2).or_ p h.1
        refine ⟨h1.imp fun σ H Q ⟨F, R, phi, r, hh, S, q⟩ => ⟨F, R, phi, r, hh, S, by rw [evE] at q; exact q⟩, (pw_pt h2).imp fun σ H Q ⟨F, R, phi, r, hh, S, q⟩ => ⟨F, R, phi, r, hh, S, ?_⟩⟩
        rw [evC_eq, evE] at q
        exact q
      | _ => simp [okE] at h
    | _ => simp [okE] at h
  | .ifx c a b, X, W, sc, fb, e, x, h => by
    cases e with
    | IfExp z y w p =>
      simp only [okE, Bool.and_eq_true] at h
      have hc := snd_E c x h.1.1
      have ha := snd_E a x h.1.2
      have hb := snd_E b x h.2
      exact ⟨s_ifx hc.2 ha.1 hb.1, st_ifx hc.2 ha.2 hb.2⟩
    | _ => simp [okE] at h
  | .sub a i, X, W, sc, fb, e, x, h => by
    cases e with
    | Subscript y z p =>
      simp only [okE, Bool.and_eq_true, Bool.not_eq_true'] at h
      exact se_val (s_sub x.ok (plain_ix h.1.1) (snd_E a x h.1.2).1 (snd_E i x h.2).1) fun _ => rfl
    | _ => simp [okE] at h
  | .slc a lo hi, X, W, sc, fb, e, x, h => by
    cases e with
    | Subscript y z p =>
      cases z with
      | Slice l u st p2 =>
        cases st with
        | none =>
          simp only [okE, Bool.and_eq_true] at h
          obtain ⟨⟨h1, h2⟩, h3⟩ := h
          have hl : PO X l (tP X C W P cl lo) := by
            cases l with
            | none =>
              cases lo with
              | non => exact sp_none
              | _ => cases h2
            | some y =>
              simp only [Bool.and_eq_true, Bool.not_eq_true'] at h2
              exact sp_some h2.1 (snd_E lo x h2.2).1
          have hu : PO X u (tP X C W P cl hi) := by
            cases u with
            | none =>
              cases hi with
              | non => exact sp_none
              | _ => cases h3
            | some y =>
              simp only [Bool.and_eq_true, Bool.not_eq_true'] at h3
              exact sp_some h3.1 (snd_E hi x h3.2).1
          exact se_val (s_slc (snd_E a x h1).1 hl hu) fun _ => rfl
        | some _ => simp [okE] at h
      | _ => simp [okE] at h
    | _ => simp [okE] at h
  | .call f es, X, W, sc, fb, e, x, h => by
    cases e with
    | Call g l kw p =>
      cases g with
      | Name y p2 =>
        cases kw with
        | nil =>
          simp only [okE, Bool.and_eq_true, decide_eq_true_eq] at h
          obtain ⟨⟨⟨⟨h1, h2⟩, h3⟩, h4⟩, h5⟩ := h
          exact se_val (s_fz (s_callX x h1 (glB_ok x h2) h3 h4 (snd_Es es x h5) (okEs_nil h5)) fun r h => call_fz f es r h) fun _ => rfl
        | cons _ _ => simp [okE] at h
      | _ => simp [okE] at h
    | _ => simp [okE] at h
  | .blt b es, X, W, sc, fb, e, x, h => by
    cases e with
    | Call g l kw p =>
      cases g with
      | Name y p2 =>
        cases kw with
        | nil =>
          simp only [okE, Bool.and_eq_true, Bool.not_eq_true', List.isEmpty_eq_false_iff] at h
          obtain ⟨⟨⟨⟨⟨h1, h2⟩, h3⟩, h4⟩, h5⟩, h6⟩ := h
          cases hb : b.nm with
          | none => rw [hb] at h1; cases h1
          | some nt =>
            obtain ⟨n, tb⟩ := nt
            rw [hb] at h1
            exact se_val (s_bltAll x hb (of_decide_eq_true h1) (x.gd.bt y h2) (glB_ok x h3) h4 h5 (snd_Es es x h6).pa) fun _ => rfl
        | cons _ _ => simp [okE] at h
      | _ => simp [okE] at h
    | _ => simp [okE] at h
  | .isi a t, X, W, sc, fb, e, x, h => by
    cases e with
    | Call g l kw p =>
      cases g with
      | Name z p2 =>
        cases kw with
        | nil =>
          match l, h with
          | [y, .Name w p3], h =>
            simp only [okE, Bool.and_eq_true, decide_eq_true_eq] at h
            obtain ⟨⟨⟨⟨⟨⟨⟨h1, h2⟩, h3⟩, h4⟩, h5⟩, h6⟩, h7⟩, h8⟩ := h
            cases hn : t.nm with
            | none => rw [hn] at h4; cases h4
            | some n =>
              rw [hn] at h4
              have h4 := of_decide_eq_true h4
              subst h4 h1
              obtain ⟨b1, b2, b3⟩ := ty_boot hn
              exact se_val (s_isi hn (glB_ok x h3) (x.gd.bt _ h2) (glB_ok x h6) (x.gd.bt _ h5) b1 b2 b3 h7 (snd_E a x h8).1) fun _ => rfl
          | [], h => simp [okE] at h
          | [_], h => simp [okE] at h
          | _ :: _ :: _ :: _, h => simp [okE] at h
          | [_, .BoolOp ..], h => simp [okE] at h
          | [_, .NamedExpr ..], h => simp [okE] at h
          | [_, .BinOp ..], h => simp [okE] at h
          | [_, .UnaryOp ..], h => simp [okE] at h
          | [_, .Lambda ..], h => simp [okE] at h
          | [_, .IfExp ..], h => simp [okE] at h
          | [_, .Dict ..], h => simp [okE] at h
          | [_, .Set ..], h => simp [okE] at h
          | [_, .ListComp ..], h => simp [okE] at h
          | [_, .SetComp ..], h => simp [okE] at h
          | [_, .DictComp ..], h => simp [okE] at h
          | [_, .GeneratorExp ..], h => simp [okE] at h
          | [_, .Await ..], h => simp [okE] at h
          | [_, .Yield ..], h => simp [okE] at h
          | [_, .YieldFrom ..], h => simp [okE] at h
          | [_, .Compare ..], h => simp [okE] at h
          | [_, .Call ..], h => simp [okE] at h
          | [_, .FormattedValue ..], h => simp [okE] at h
          | [_, .JoinedStr ..], h => simp [okE] at h
          | [_, .Constant ..], h => simp [okE] at h
          | [_, .Attribute ..], h => simp [okE] at h
          | [_, .Subscript ..], h => simp [okE] at h
          | [_, .Starred ..], h => simp [okE] at h
          | [_, .List ..], h => simp [okE] at h
          | [_, .Tuple ..], h => simp [okE] at h
          | [_, .Slice ..], h => simp [okE] at h
        | cons _ _ => simp [okE] at h
      | _ => simp [okE] at h
    | _ => simp [okE] at h
  | .lc t it ifs elt, X, W, sc, fb, e, x, h => by
    cases e with
    | ListComp elt' gens scope p =>
      match gens, h with
      | [⟨tg, iter, ifs', z⟩], h =>
        simp only [okE, Bool.and_eq_true, decide_eq_true_eq] at h
        obtain ⟨⟨⟨⟨⟨⟨⟨rfl, h1⟩, h2⟩, h3⟩, h4⟩, h5⟩, h6⟩, h7⟩ := h
        have ho : (t.slots.map fun i => (N.getD i default, i)).map (·.2) = t.slots := by
          rw [List.map_map]
          exact List.map_id _
        have pl := pe_lc (pos := p) (wi := tI X.K C W (evIt P cl it)) (g := tT X.K C t) (elt := elt') (tt := tR X.K C WN repB (evIfs P cl ifs)) (te := tR X.K C WN (VRep X.K) (evE P cl elt)) (own := t.slots.map fun i => (N.getD i default, i)) x.cool.calm x.ok.nd (snd_It it x (tg := tg) h3) (blkOk_by (by rw [x.hN, x.hsc]; exact h2)) (fun s H L clo fp => snd_tg (x.blk s H scope L clo fp) t h4)
          (fun s H L clo fp => (snd_Es ifs (x.blk s H scope L clo fp) h6).ifs h5) (fun s H L clo fp => (snd_E elt (x.blk s H scope L clo fp) h7).1) (fun v => noSet_fold h1 v)
        rw [ho] at pl
        exact se_val (s_fz (f := lcV P cl t it ifs elt) (pl.imp fun σ H Q q => lc_read q) fun r h => lc_fz t it ifs elt r h) fun _ => rfl
      | [], h => simp [okE] at h
      | _ :: _ :: _, h => simp [okE] at h
    | _ => simp [okE] at h
  | .ssc t it ifs elt, X, W, sc, fb, e, x, h => by
    cases e with
    | Call g l kw p =>
      cases g with
      | Name y p2 =>
        match l, kw, h with
        | [.SetComp elt' [⟨tg, iter, ifs', z⟩] scope p3], [], h =>
          simp only [okE, Bool.and_eq_true, decide_eq_true_eq] at h
          obtain ⟨⟨⟨⟨⟨⟨⟨⟨⟨⟨hy, hb⟩, hgl⟩, rfl⟩, h1⟩, h2⟩, h3⟩, h4⟩, h5⟩, h6⟩, h7⟩ := h
          subst hy
          have ho : (t.slots.map fun i => (N.getD i default, i)).map (·.2) = t.slots := by
            rw [List.map_map]
            exact List.map_id _
          have pl := pe_scI (pos := p3) (wi := tI X.K C W (evIt P cl it)) (g := tT X.K C t) (elt := elt') (tt := tR X.K C WN repB (evIfs P cl ifs)) (te := tR X.K C WN (VRep X.K) (evE P cl elt)) (own := t.slots.map fun i => (N.getD i default, i)) x.cool.calm x.ok.nd (snd_It it x (tg := tg) h3) (blkOk_by (by rw [x.hN, x.hsc]; exact h2)) (fun s H L clo fp => snd_tg (x.blk s H scope L clo fp) t h4)
            (fun s H L clo fp => (snd_Es ifs (x.blk s H scope L clo fp) h6).ifs h5) (fun s H L clo fp => (snd_E elt (x.blk s H scope L clo fp) h7).1) (fun v => noSet_fold h1 v)
          rw [ho] at pl
          exact se_val ((pe_callB (cr_sortedSet x.cool.calm) (glB_ok x hgl) (x.gd.bt _ hb) rfl (pa_cons pl pa_nil)).imp fun σ H Q q => ssc_read q) fun _ => rfl
        | [], _, h => simp [okE] at h
        | _ :: _ :: _, _, h => simp [okE] at h
        | [_], _ :: _, h => simp [okE] at h
        | [.SetComp _ [] _ _], [], h => simp [okE] at h
        | [.SetComp _ (_ :: _ :: _) _ _], [], h => simp [okE] at h
        | [.Name ..], [], h => simp [okE] at h
        | [.BoolOp ..], [], h => simp [okE] at h
        | [.NamedExpr ..], [], h => simp [okE] at h
        | [.BinOp ..], [], h => simp [okE] at h
        | [.UnaryOp ..], [], h => simp [okE] at h
        | [.Lambda ..], [], h => simp [okE] at h
        | [.IfExp ..], [], h => simp [okE] at h
        | [.Dict ..], [], h => simp [okE] at h
        | [.Set ..], [], h => simp [okE] at h
        | [.ListComp ..], [], h => simp [okE] at h
        | [.DictComp ..], [], h => simp [okE] at h
        | [.GeneratorExp ..], [], h => simp [okE] at h
        | [.Await ..], [], h => simp [okE] at h
        | [.Yield ..], [], h => simp [okE] at h
        | [.YieldFrom ..], [], h => simp [okE] at h
        | [.Compare ..], [], h => simp [okE] at h
        | [.Call ..], [], h => simp [okE] at h
        | [.FormattedValue ..], [], h => simp [okE] at h
        | [.JoinedStr ..], [], h => simp [okE] at h
        | [.Constant ..], [], h => simp [okE] at h
        | [.Attribute ..], [], h => simp [okE] at h
        | [.Subscript ..], [], h => simp [okE] at h
        | [.Starred ..], [], h => simp [okE] at h
        | [.List ..], [], h => simp [okE] at h
        | [.Tuple ..], [], h => simp [okE] at h
        | [.Slice ..], [], h => simp [okE] at h
      | _ => simp [okE] at h
    | _ => simp [okE] at h
  | .bm o m es, X, W, sc, fb, e, x, h => by
    cases es with
    | nil => simp [okE] at h
    | cons me ms =>
      cases ms with
      | cons _ _ => simp [okE] at h
      | nil =>
        cases e with
        | Call g l kw p3 =>
          cases g with
          | Attribute ob n p2 =>
            match l, kw, h with
            | [y], [], h =>
              simp only [okE, Bool.and_eq_true] at h
              obtain ⟨⟨⟨⟨⟨h1, h2⟩, h3⟩, h4⟩, h5⟩, h6⟩ := h
              have q1 := (snd_E o x h5).1
              have q2 := (snd_E me x h6).1
              cases m <;> simp only [bmNm, decide_eq_true_eq] at h1 <;> first | (exact absurd h1 (by simp)) | skip
              · subst h1
                exact se_val (s_count h2 h3 h4 q1 q2) fun _ => rfl
              · subst h1
                exact se_val (s_index h2 h3 h4 q1 q2) fun _ => rfl
              · subst h1
                exact se_val (s_hpop h2 h3 h4 q1 q2) fun _ => rfl
            | [], _, h => simp [okE] at h
            | _ :: _ :: _, _, h => simp [okE] at h
            | [_], _ :: _, h => simp [okE] at h
          | _ => simp [okE] at h
        | _ => simp [okE] at h
  | .dct kvs, X, W, sc, fb, e, x, h => by
    cases e with
    | Dict keys vals p =>
      simp only [okE] at h
      split at h
      · rename_i l hi
        simp only [Bool.and_eq_true, decide_eq_true_eq] at h
        exact se_val (s_dct hi h.1 (snd_Es kvs x h.2).each) fun _ => rfl
      · cases h
    | _ => simp [okE] at h
  | .olen _, X, W, sc, fb, e, x, h => by simp [okE] at h
  | .oidx _ _, X, W, sc, fb, e, x, h => by simp [okE] at h
  | .cmp3 .., X, W, sc, fb, e, x, h => by simp [okE] at h
  | .rev a, X, W, sc, fb, e, x, h => by
    cases e with
    | Subscript y z p =>
      cases z with
      | Slice lo hi st p2 =>
        match lo, hi, st, h with
        | none, none, some (.UnaryOp .USub (.Constant (.int 1) _ _) _), h =>
          simp only [okE] at h
          exact se_val (s_rev (snd_E a x h).1) fun _ => rfl
        | some _, _, _, h => simp [okE] at h
        | none, some _, _, h => simp [okE] at h
        | none, none, none, h => simp [okE] at h
        | none, none, some (.Constant ..), h => simp [okE] at h
      | _ => simp [okE] at h
    | _ => simp [okE] at h
  | .meth .., X, W, sc, fb, e, x, h => by simp [okE] at h
  | .attr .., X, W, sc, fb, e, x, h => by simp [okE] at h
  | .make .., X, W, sc, fb, e, x, h => by simp [okE] at h
  | .lrg a b c, X, W, sc, fb, e, x, h => by
    unfold okE at h
    split at h
    · simp only [Bool.and_eq_true, decide_eq_true_eq] at h
      obtain ⟨⟨⟨⟨⟨⟨⟨⟨⟨rfl, h2⟩, h3⟩, rfl⟩, h5⟩, h6⟩, rfl⟩, rfl⟩, rfl⟩, h10⟩ := h
      exact se_val (s_lrg h10 x.cool.calm (glB_ok x h3) (x.gd.bt _ h2) (glB_ok x h6) (x.gd.bt _ h5)) fun _ => rfl
    · cases h
  | .sset a, X, W, sc, fb, e, x, h => by
    unfold okE at h
    split at h
    · simp only [Bool.and_eq_true, decide_eq_true_eq] at h
      obtain ⟨⟨⟨⟨⟨⟨⟨rfl, h2⟩, h3⟩, rfl⟩, h5⟩, h6⟩, h7⟩, h8⟩ := h
      exact se_val (s_sset x.cool.calm (glB_ok x h3) (x.gd.bt _ h2) (glB_ok x h6) (x.gd.bt _ h5) h7 (snd_E a x h8).1) fun _ => rfl
    · cases h
  | .fstr .., X, W, sc, fb, e, x, h => by simp [okE] at h
  | .said m, X, W, sc, fb, e, x, h => by
    unfold okE at h
    split at h
    · simp only [Bool.and_eq_true] at h
      obtain ⟨⟨⟨⟨⟨⟨h1, h2⟩, h3⟩, h4⟩, h5⟩, h6⟩, h7⟩ := h
      exact se_val (s_said x.ok.grd (x.gd.sd _ h1) (x.lam h4) (glB_ok x h2) (dunB_ok h3).1 (by rw [x.hsc]; exact LamX.lamS_by h6) h5 fun A out s H E f c' rm gu => (snd_E m (x.lamb rm gu) h7).1) fun _ => rfl
    · cases h
  | .dead, X, W, sc, fb, e, x, h => by simp [okE] at h
  | .tapp .., X, W, sc, fb, e, x, h => by simp [okE] at h
  | .tclr .., X, W, sc, fb, e, x, h => by simp [okE] at h
theorem snd_Es : ∀ (ms : Es) {X : Cx} {W : WX} {sc : Scope} {fb : Str → Bool} {l : List Expr}, XS T P cl C k X W N sc fb → okEs T N ms sc fb l = true → SEs T P cl C X W ms l
  | .nil, X, W, sc, fb, l, x, h => by
    cases l with
    | nil => exact ses_nil
    | cons _ _ => simp [okEs] at h
  | .cons m ms, X, W, sc, fb, l, x, h => by
    cases l with
    | nil => simp [okEs] at h
    | cons e es =>
      simp only [okEs, Bool.and_eq_true] at h
      exact ses_cons h.1.1 (snd_E m x h.1.2) (snd_Es ms x h.2) (okEs_nil h.2)
theorem snd_It : ∀ (it : It) {X : Cx} {W : WX} {sc : Scope} {fb : Str → Bool} {tg e : Expr}, XS T P cl C k X W N sc fb → okIt T N it sc fb tg e = true → PI X tg e (tI X.K C W (evIt P cl it))
  | .e m, X, W, sc, fb, tg, e, x, h => by
    simp only [okIt] at h
    exact s_itE (snd_E m x h).1
  | .r1 a, X, W, sc, fb, tg, e, x, h => by
    cases e with
    | Call g l kw p =>
      cases g with
      | Name z p2 =>
        match l, kw, h with
        | [y], [], h =>
          simp only [okIt, Bool.and_eq_true, decide_eq_true_eq] at h
          obtain ⟨⟨⟨⟨rfl, h2⟩, h3⟩, h4⟩, h5⟩ := h
          exact s_it1 (glB_ok x h3) (x.gd.bt _ h2) h4 (snd_E a x h5).1
        | [], _, h => simp [okIt] at h
        | _ :: _ :: _, _, h => simp [okIt] at h
        | [_], _ :: _, h => simp [okIt] at h
      | _ => simp [okIt] at h
    | _ => simp [okIt] at h
  | .r2 a b, X, W, sc, fb, tg, e, x, h => by
    cases e with
    | Call g l kw p =>
      cases g with
      | Name z p2 =>
        match l, kw, h with
        | [y, w], [], h =>
          simp only [okIt, Bool.and_eq_true, decide_eq_true_eq] at h
          obtain ⟨⟨⟨⟨⟨⟨rfl, h2⟩, h3⟩, h4⟩, h5⟩, h6⟩, h7⟩ := h
          exact s_it2 (glB_ok x h3) (x.gd.bt _ h2) h4 h5 (snd_E a x h6).1 (snd_E b x h7).1
        | [], _, h => simp [okIt] at h
        | [_], _, h => simp [okIt] at h
        | _ :: _ :: _ :: _, _, h => simp [okIt] at h
        | [_, _], _ :: _, h => simp [okIt] at h
      | _ => simp [okIt] at h
    | _ => simp [okIt] at h
  | .zip a b s, X, W, sc, fb, tg, e, x, h => by
    cases tg with
    | Tuple elts kk tpos =>
      cases e with
      | Call g l kw p =>
        cases g with
        | Name z p2 =>
          match l, h with
          | [y, w], h =>
            simp only [okIt, Bool.and_eq_true, decide_eq_true_eq] at h
            obtain ⟨⟨⟨⟨⟨⟨⟨h0, rfl⟩, h2⟩, h3⟩, h4⟩, h5⟩, h6⟩, h7⟩ := h
            match s, kw, h0 with
            | false, [], _ => exact s_itZ (glB_ok x h3) (x.gd.bt _ h2) h4 h5 (snd_E a x h6).1 (snd_E b x h7).1
            | true, [⟨some k, .Constant (.bool true) _ _, _⟩], h0 =>
              obtain rfl := of_decide_eq_true (show decide (k = ("strict" : Str)) = true from h0)
              exact s_itZS (glB_ok x h3) (x.gd.bt _ h2) h4 h5 (snd_E a x h6).1 (snd_E b x h7).1
          | [], h => simp [okIt] at h
          | [_], h => simp [okIt] at h
          | _ :: _ :: _ :: _, h => simp [okIt] at h
        | _ => simp [okIt] at h
      | _ => simp [okIt] at h
    | _ => simp [okIt] at h
  | .r3 .., X, W, sc, fb, tg, e, x, h => by simp [okIt] at h
  | .enum a, X, W, sc, fb, tg, e, x, h => by
    cases tg with
    | Tuple elts kk tpos =>
      cases e with
      | Call g l kw p =>
        cases g with
        | Name z p2 =>
          match l, kw, h with
          | [y], [], h =>
            simp only [okIt, Bool.and_eq_true, decide_eq_true_eq] at h
            obtain ⟨⟨⟨⟨rfl, h2⟩, h3⟩, h4⟩, h5⟩ := h
            exact s_itEn (glB_ok x h3) (x.gd.bt _ h2) h4 (snd_E a x h5).1
          | [], _, h => simp [okIt] at h
          | _ :: _ :: _, _, h => simp [okIt] at h
          | [_], _ :: _, h => simp [okIt] at h
        | _ => simp [okIt] at h
      | _ => simp [okIt] at h
    | _ => simp [okIt] at h
end
end
end MP


set_option Elab.async false
set_option linter.all false
set_option maxHeartbeats 4000000
/-! Statements: the checker, and that it is right. -/
namespace MP
open PySem PySem.Spec PyProof.Rows L2
def bkS (sc : Scope) : ScopeKind := if sc.kind.isAnnotationScope then .function else sc.kind
def starB : Expr → Bool
  | .Starred .. => true
  | _ => false
def swS (sc : Scope) (ts vs : List Expr) : Option (Option (List Str)) :=
  if (!(ts.length == 2 || ts.length == 3) || vs.length != ts.length || bkS sc != .function) = true then some none
  else if vs.any starB = true then some none
  else
    let line := (ts.head?.map (·.pos.line)).getD 0
    let names := ts.filterMap fun
      | .Name id pos => if sc.names.lookup id == some .local && pos.line == line then some id else none
      | _ => none
    if (names.length != ts.length || names.eraseDups.length != names.length) = true then some none
    else if vs.all (foldedForSure 8) = true then some none
    else if vs.all (constantsAlone 8) = true then none
    else some (some names)
theorem swS_ok {ts vs : List Expr} {kt k2 : Nat} {pt p2 : Pos} {env : PySem.Env} {o : Option (List Str)} (h : swS env.scope ts vs = some o) : swappedStores [.Tuple ts kt pt] (.Tuple vs k2 p2) env = pure o := by
  unfold swS at h
  unfold swappedStores
  simp only
  by_cases h1 : (!(ts.length == 2 || ts.length == 3) || vs.length != ts.length || bkS env.scope != .function) = true
  · rw [if_pos h1] at h
    cases h
    have h1' : (!(ts.length == 2 || ts.length == 3) || vs.length != ts.length || env.blockKind != .function) = true := h1
    rw [if_pos h1']
  · rw [if_neg h1] at h
    have h1' : ¬ (!(ts.length == 2 || ts.length == 3) || vs.length != ts.length || env.blockKind != .function) = true := h1
    rw [if_neg h1']
    by_cases h2 : vs.any starB = true
    · rw [if_pos h2] at h
      cases h
      exact if_pos (h2.symm ▸ (congrArg vs.any (funext fun e => by cases e <;> rfl)) : _ = true)
    · rw [if_neg h2] at h
      refine (if_neg fun z => h2 (Eq.trans (congrArg vs.any (funext fun e => by cases e <;> rfl)) z)).trans ?_
      dsimp only at h ⊢
      by_cases h3 : ((ts.filterMap fun
          | .Name id pos => if env.scope.names.lookup id == some .local && pos.line == (ts.head?.map (·.pos.line)).getD 0 then some id else none
          | _ => none).length != ts.length || (ts.filterMap fun
          | .Name id pos => if env.scope.names.lookup id == some .local && pos.line == (ts.head?.map (·.pos.line)).getD 0 then some id else none
          | _ => none).eraseDups.length != (ts.filterMap fun
          | .Name id pos => if env.scope.names.lookup id == some .local && pos.line == (ts.head?.map (·.pos.line)).getD 0 then some id else none
          | _ => none).length) = true
      · have h' := (if_pos (α := Option (Option (List Str))) h3).symm.trans h
        cases h'
        exact if_pos h3
      · have h' := (if_neg (α := Option (Option (List Str))) h3).symm.trans h
        refine (if_neg h3).trans ?_
        by_cases h4 : vs.all (foldedForSure 8) = true
        · rw [if_pos h4] at h' ⊢
          cases h'
          rfl
        · rw [if_neg h4] at h' ⊢
          by_cases h5 : vs.all (constantsAlone 8) = true
          · rw [if_pos h5] at h'
            cases h'
          · rw [if_neg h5] at h' ⊢
            cases h'
            rfl

def lcSw (sc scope : Scope) (t : Str) (tp p : Pos) : Bool := bkS sc == .function && sc.names.lookup t == some .local && tp.line == p.line && !(scope.names.any fun (n, k) => n == t && (k == .local || k == .cell))
theorem lcSw_ok {elt : Expr} {gens : List Comprehension} {scope : Scope} {p tp : Pos} {t : Str} {l : Nat} {env : PySem.Env} {b : Bool} (h : lcSw env.scope scope t tp p = b) : swapsWith (.ListComp elt gens scope p) (some (.Name t tp)) l env = pure b := by
  subst h
  rfl
/-- no swap when e is stored at tg -/
def swF (sc : Scope) (tg e : Expr) : Bool := match e with
  | .ListComp _ _ scope p => (match tg with
    | .Name t tp => !lcSw sc scope t tp p
    | _ => true)
  | .SetComp .. => false
  | .DictComp .. => false
  | _ => true
theorem swF_ok {tg e : Expr} {l : Nat} {env : PySem.Env} (h : swF env.scope tg e = true) : swapsWith e (some tg) l env = pure false := by
  cases e with
  | ListComp elt gens scope p =>
    cases tg with
    | Name t tp =>
      simp only [swF, Bool.not_eq_true'] at h
      exact lcSw_ok h
    | _ => rfl
  | SetComp => cases h
  | DictComp => cases h
  | _ => rfl
/-- stored as they come -/
def swN (sc : Scope) (tg e : Expr) : Bool := match tg with
  | .Tuple ts _ _ => (match e with
    | .Tuple vs _ _ => decide (swS sc ts vs = some none)
    | _ => true)
  | .List .. => false
  | _ => true
theorem swN_ok {tg e : Expr} {env : PySem.Env} (h : swN env.scope tg e = true) : swappedStores [tg] e env = pure none := by
  cases tg with
  | Tuple ts kt pt =>
    cases e with
    | Tuple vs k2 p2 =>
      simp only [swN, decide_eq_true_eq] at h
      exact swS_ok h
    | _ => rfl
  | List => cases h
  | _ => rfl
section
variable (T : Tb) (N : List Str)
/-- a new value -/
def okF (m : E) (sc : Scope) (fb : Str → Bool) (e : Expr) : Bool := match m with
  | .lst es => match e with
    | .List l _ => decide (es.len ≤ 1000) && okEs T N es sc fb l
    | _ => false
  | .call _ _ => okE T N m sc fb e
  | .lc _ _ _ _ => okE T N m sc fb e
  | _ => false
def lcLoc (sc : Scope) (y : Str) (py : Pos) (e : Expr) : Bool := match e with
  | .ListComp _ _ scope p => !lcSw sc scope y py p || decide (sc.names.lookup y = some .local)
  | .SetComp .. => false
  | .DictComp .. => false
  | _ => true
def okAsgO (i : Nat) (m : E) (sc : Scope) (fb : Str → Bool) (y : Str) (py : Pos) (e : Expr) : Bool := decide (N[i]? = some y) && locB sc fb y && okF T N m sc fb e && lcLoc sc y py e
def okAsg (t : Tg) (m : E) (sc : Scope) (fb : Str → Bool) (tg e : Expr) : Bool :=
  notStar tg && ((swF sc tg e && swN sc tg e && okTg N sc fb t tg && okE T N m sc fb e) ||
      (match t, m, tg, e with
        | .nm i, .lc _ _ _ _, .Name y py, .ListComp _ _ scope p => lcSw sc scope y py p && decide (N[i]? = some y) && decide (sc.names.lookup y = some .local) && okE T N m sc fb e
        | .tup [.nm i, .nm j], .tup (.cons ma (.cons mb .nil)), .Tuple [.Name x _, .Name y _] _ _, .Tuple [a, b] _ _ => decide (i ≠ j) && decide (N[i]? = some x) && decide (N[j]? = some y) && decide (sc.names.lookup x = some .local) && decide (sc.names.lookup y = some .local) &&
          (match tg, e with
            | .Tuple ts _ _, .Tuple vs _ _ => decide (swS sc ts vs = some (some [x, y]))
            | _, _ => false) && okEs T N (.cons ma (.cons mb .nil)) sc fb [a, b]
        | .tup [.nm i, .nm j, .nm l], .tup (.cons ma (.cons mb (.cons mc .nil))), .Tuple [.Name x _, .Name y _, .Name z _] _ _, .Tuple [a, b, c] _ _ => decide (i ≠ j) && decide (i ≠ l) && decide (j ≠ l) && decide (N[i]? = some x) && decide (N[j]? = some y) && decide (N[l]? = some z) &&
          decide (sc.names.lookup x = some .local) && decide (sc.names.lookup y = some .local) && decide (sc.names.lookup z = some .local) &&
          (match tg, e with
            | .Tuple ts _ _, .Tuple vs _ _ => decide (swS sc ts vs = some (some [x, y, z]))
            | _, _ => false) && okEs T N (.cons ma (.cons mb (.cons mc .nil))) sc fb [a, b, c]
        | _, _, _, _ => false))
mutual
def okS : S → Scope → (Str → Bool) → Stmt → Bool
  | .expr m, sc, fb, st => match st with
    | .Expr e _ => noComp e && okE T N m sc fb e
    | _ => false
  | .asg t m, sc, fb, st => match st with
    | .Assign [tg] e _ => okAsg T N t m sc fb tg e
    | _ => false
  | .asgO i m, sc, fb, st => match st with
    | .Assign [.Name y py] e _ => okAsgO T N i m sc fb y py e
    | _ => false
  | .app i m, sc, fb, st => match st with
    | .Expr (.Call (.Attribute (.Name x _) z p2) [e] [] p3) _ => decide (z = ("append" : Str)) && decide (N[i]? = some x) && visB sc x && dunB x && notStar e && (p2.endLine == p3.line) && okE T N m sc fb e
    | _ => false
  | .appH o m, sc, fb, st => match st with
    | .Expr (.Call (.Attribute x z p2) [e] [] p3) _ => decide (z = ("append" : Str)) && abB x && notStar e && (p2.endLine == p3.line) && okE T N o sc fb x && okE T N m sc fb e
    | _ => false
  | .setH o i m, sc, fb, st => match st with
    | .Assign [.Subscript x y _] e _ => noComp e && plainIx y && okE T N o sc fb x && okE T N i sc fb y && okE T N m sc fb e
    | _ => false
  | .ifs c a b, sc, fb, st => match st with
    | .If c' a' b' _ => okE T N c sc fb c' && okSs a sc fb a' && okSs b sc fb b'
    | _ => false
  | .whl c b, sc, fb, st => match st with
    | .While c' b' [] _ => okE T N c sc fb c' && okSs b sc fb b'
    | _ => false
  | .for t it b, sc, fb, st => match st with
    | .For tg iter b' [] _ => noSet iter && okIt T N it sc fb tg iter && okTg N sc fb t tg && okSs b sc fb b'
    | _ => false
  | .ret m, sc, fb, st => match st with
    | .Return (some e) _ => okE T N m sc fb e
    | _ => false
  | .retN, sc, fb, st => match st with
    | .Return none _ => true
    | _ => false
  | .retF m, sc, fb, st => match st with
    | .Return (some e) _ => okF T N m sc fb e
    | _ => false
  | .retO i, sc, fb, st => match st with
    | .Return (some (.Name x _)) _ => decide (N[i]? = some x) && visB sc x && dunB x
    | _ => false
  | .raise c, sc, fb, st => !T.rz || (match st with
    | .Raise (some (.Call (.Name x _) [] [] _)) none _ => T.rz && decide (x = c.nm) && c.okc && glB sc x && dunB x
    | _ => false)
  | .brk, sc, fb, st => match st with
    | .Break _ => true
    | _ => false
  | .cont, sc, fb, st => match st with
    | .Continue _ => true
    | _ => false
  | .pass, sc, fb, st => match st with
    | .Pass _ => true
    | _ => false
  | _, _, _, _ => false
def okSs : Ss → Scope → (Str → Bool) → List Stmt → Bool
  | .nil, sc, fb, l => match l with
    | [] => true
    | _ => false
  | .cons m ms, sc, fb, l => match m with
    | .freeze _ => okSs ms sc fb l
    | _ => match l with
      | st :: l => okS m sc fb st && okSs ms sc fb l
      | _ => false
end
end
end MP


set_option Elab.async false
set_option linter.all false
set_option maxHeartbeats 4000000
/-! Statements: the checker is right. -/
namespace MP
open PySem PySem.Spec PyProof.Rows L2
section
variable {T : Tb} {P : Prog} {cl : Nat → List D → Hh → Res SV} {C : Stc} {k : Nat} {X : Cx} {W : WX} {N : List Str} {sc : Scope} {fb : Str → Bool} {e a : Expr} {l : List Expr} {me : E} {mes : Es}
theorem snd_F (x : XS T P cl C k X W N sc fb) (h : okF T N me sc fb e = true) : PE X e (tF X.K C W (evF P cl me)) := by
  cases me with
  | lst es =>
    cases e with
    | List l p =>
      simp only [okF, Bool.and_eq_true, decide_eq_true_eq] at h
      exact s_lstF h.1 (snd_Es es x h.2).pa
    | _ => simp [okF] at h
  | call f es =>
    simp only [okF] at h
    cases e with
    | Call g l kw p =>
      cases g with
      | Name y p2 =>
        cases kw with
        | nil =>
          simp only [okE, Bool.and_eq_true, decide_eq_true_eq] at h
          obtain ⟨⟨⟨⟨h1, h2⟩, h3⟩, h4⟩, h5⟩ := h
          exact s_callX x h1 (glB_ok x h2) h3 h4 (snd_Es es x h5) (okEs_nil h5)
        | cons _ _ => simp [okE] at h
      | _ => simp [okE] at h
    | _ => simp [okE] at h
  | lc t it ifs elt =>
    simp only [okF] at h
    cases e with
    | ListComp elt' gens scope p =>
      match gens, h with
      | [⟨tg, iter, ifs', z⟩], h =>
        simp only [okE, Bool.and_eq_true, decide_eq_true_eq] at h
        obtain ⟨⟨⟨⟨⟨⟨⟨rfl, h1⟩, h2⟩, h3⟩, h4⟩, h5⟩, h6⟩, h7⟩ := h
        have ho : (t.slots.map fun i => (N.getD i default, i)).map (·.2) = t.slots := by
          rw [List.map_map]
          exact List.map_id _
        have pl := pe_lc (pos := p) (wi := tI X.K C W (evIt P cl it)) (g := tT X.K C t) (elt := elt') (tt := tR X.K C WN repB (evIfs P cl ifs)) (te := tR X.K C WN (VRep X.K) (evE P cl elt)) (own := t.slots.map fun i => (N.getD i default, i)) x.cool.calm x.ok.nd (snd_It it x (tg := tg) h3)
          (blkOk_by (by rw [x.hN, x.hsc]; exact h2)) (fun s H L clo fp => snd_tg (x.blk s H scope L clo fp) t h4) (fun s H L clo fp => (snd_Es ifs (x.blk s H scope L clo fp) h6).ifs h5) (fun s H L clo fp => (snd_E elt (x.blk s H scope L clo fp) h7).1) (fun v => noSet_fold h1 v)
        rw [ho] at pl
        have ef : evF P cl (.lc t it ifs elt) = lcV P cl t it ifs elt := funext fun r => funext fun h => evF_lc t it ifs elt r h
        rw [ef]
        exact pl.imp fun σ H Q q => lc_read q
      | [], h => simp [okE] at h
      | _ :: _ :: _, h => simp [okE] at h
    | _ => simp [okE] at h
  | _ => simp [okF] at h
/-- a comprehension stored at a name of its own line -/
theorem snd_lcSet (x : XS T P cl C k X W N sc fb) {t : Tg} {it : It} {ifs : Es} {elt : E} {elt' : Expr} {gens : List Comprehension} {scope : Scope} {p py spos : Pos} {i : Nat} {y : Str} (h : okE T N (.lc t it ifs elt) sc fb (.ListComp elt' gens scope p) = true) (hsw : lcSw sc scope y py p = true)
    (hi : N[i]? = some y) (hy : sc.names.lookup y = some .local) : ∃ te : TE, PS X (.Assign [.Name y py] (.ListComp elt' gens scope p) spos) (tAsg te (gName i)) ∧ ∀ σ H Q, tF X.K C W (evF P cl (.lc t it ifs elt)) σ H Q → te σ H Q := by
  match gens, h with
  | [⟨tg, iter, ifs', z⟩], h =>
    simp only [okE, Bool.and_eq_true, decide_eq_true_eq] at h
    obtain ⟨⟨⟨⟨⟨⟨⟨rfl, h1⟩, h2⟩, h3⟩, h4⟩, h5⟩, h6⟩, h7⟩ := h
    have ho : (t.slots.map fun i => (N.getD i default, i)).map (·.2) = t.slots := by
      rw [List.map_map]
      exact List.map_id _
    have pl := ps_setLc (pos := p) (spos := spos) (i := i) (y := y) (py := py) (wi := tI X.K C W (evIt P cl it)) (g := tT X.K C t) (elt := elt') (tt := tR X.K C WN repB (evIfs P cl ifs)) (te := tR X.K C WN (VRep X.K) (evE P cl elt)) (own := t.slots.map fun i => (N.getD i default, i)) x.cool.calm x.ok.nd
      (by rw [x.hN]; exact hi) (by rw [x.hsc]; exact hy) (lcSw_ok (by rw [x.hsc]; exact hsw)) (snd_It it x (tg := tg) h3)
      (blkOk_by (by rw [x.hN, x.hsc]; exact h2)) (fun s H L clo fp => snd_tg (x.blk s H scope L clo fp) t h4) (fun s H L clo fp => (snd_Es ifs (x.blk s H scope L clo fp) h6).ifs h5) (fun s H L clo fp => (snd_E elt (x.blk s H scope L clo fp) h7).1) (fun v => noSet_fold h1 v)
    rw [ho] at pl
    refine ⟨_, pl, fun σ H Q q => lc_read ?_⟩
    have ef : evF P cl (.lc t it ifs elt) = lcV P cl t it ifs elt := funext fun r => funext fun h => evF_lc t it ifs elt r h
    rw [← ef]
    exact q
  | [], h => simp [okE] at h
  | _ :: _ :: _, h => simp [okE] at h
theorem for_eq (t : Tg) (it : It) (b : Ss) (h : ∀ o f, it ≠ .enum (.attr o f)) (r : Env) (hh : Hh) : evS P cl (.for t it b) r hh = rS (evIt P cl it r hh) fun xs h1 => forGo (bindTg t) (fun r h => evSs P cl b r h) xs r h1 := by
  rw [evS]
  · cases evIt P cl it r hh <;> rfl
  · exact fun o f z => h o f z
theorem okIt_enum {it : It} {tg iter : Expr} (h : okIt T N it sc fb tg iter = true) : ∀ o f, it ≠ .enum (.attr o f) := fun o f z => by
  subst z
  unfold okIt at h
  split at h
  · simp [okE] at h
  · cases h
theorem snd_asg (x : XS T P cl C k X W N sc fb) {t : Tg} {m : E} {tg e : Expr} {spos : Pos} (h : okS T N (.asg t m) sc fb (.Assign [tg] e spos) = true) : PS X (.Assign [tg] e spos) (tSt X C W P cl (.asg t m)) := by
  simp only [okS] at h
  unfold okAsg at h
  rw [Bool.and_eq_true, Bool.or_eq_true] at h
  obtain ⟨h0, h⟩ := h
  rcases h with h | h
  · simp only [Bool.and_eq_true] at h
    obtain ⟨⟨⟨h1, h2⟩, h3⟩, h4⟩ := h
    have a1 : swapsWithSole [tg] e spos.line X.env = pure false := by
      simp only [swapsWithSole]
      exact swF_ok (by rw [x.hsc]; exact h1)
    have a2 : swappedStores [tg] e X.env = pure none := swN_ok (by rw [x.hsc]; exact h2)
    exact s_asgT (ps_asg (snd_E m x h4).1 (snd_tg x t h3) a1 a2 (by rw [assignEach_cons h0]; rfl)) fun _ _ _ q => q
  · split at h
    · rename_i i _ _ _ _ y py elt' gens scope p
      simp only [Bool.and_eq_true, decide_eq_true_eq] at h
      obtain ⟨⟨⟨h1, h2⟩, h3⟩, h4⟩ := h
      obtain ⟨te, q1, q2⟩ := snd_lcSet (spos := spos) x h4 h1 h2 h3
      exact s_asgN q1 fun σ H Q q => q2 σ H Q (tF_fz (fun r hh => by rw [evF_lc]; exact lc_fz _ _ _ _ r hh) q)
    · rename_i i j ma mb n1 p1 n2 p2 k1 pt a b k2 pt2
      simp only [Bool.and_eq_true, decide_eq_true_eq] at h
      obtain ⟨⟨⟨⟨⟨⟨h1, h2⟩, h3⟩, h4⟩, h5⟩, h6⟩, h7⟩ := h
      exact s_par2 (ps_par x.cool.calm x.ok.nd (by rw [x.hN]; exact h2) (by rw [x.hN]; exact h3) h1 (by rw [x.hsc]; exact h4) (by rw [x.hsc]; exact h5) (snd_Es _ x h7).pa (swS_ok (by rw [x.hsc]; exact h6)) rfl) h1 fun _ _ _ q => q
    · rename_i i j l ma mb mc n1 p1 n2 p2 n3 p3 k1 pt a b c k2 pt2
      simp only [Bool.and_eq_true, decide_eq_true_eq] at h
      obtain ⟨⟨⟨⟨⟨⟨⟨⟨⟨⟨h1, g1⟩, g2⟩, h2⟩, h3⟩, g3⟩, h4⟩, h5⟩, g4⟩, h6⟩, h7⟩ := h
      exact s_par3 (ps_par3 x.cool.calm x.ok.nd (by rw [x.hN]; exact h2) (by rw [x.hN]; exact h3) (by rw [x.hN]; exact g3) h1 g1 g2 (by rw [x.hsc]; exact h4) (by rw [x.hsc]; exact h5) (by rw [x.hsc]; exact g4) (snd_Es _ x h7).pa (swS_ok (by rw [x.hsc]; exact h6)) rfl) fun _ _ _ q => q
    · cases h
theorem snd_asgO (x : XS T P cl C k X W N sc fb) {i : Nat} {m : E} {y : Str} {py : Pos} {e : Expr} {spos : Pos} (h : okS T N (.asgO i m) sc fb (.Assign [.Name y py] e spos) = true) : PS X (.Assign [.Name y py] e spos) (tSt X C W P cl (.asgO i m)) := by
  simp only [okS] at h
  unfold okAsgO at h
  simp only [Bool.and_eq_true, decide_eq_true_eq] at h
  obtain ⟨⟨⟨h1, h2⟩, h3⟩, h4⟩ := h
  obtain ⟨l1, l2⟩ := locB_ok x h2
  have gen : swF sc (.Name y py) e = true → PS X (.Assign [.Name y py] e spos) (tSt X C W P cl (.asgO i m)) := fun sw =>
    s_asgO (ps_set x.ok.nd (by rw [x.hN]; exact h1) l1 (snd_F x h3) (swF_ok (by rw [x.hsc]; exact sw)) l2) fun _ _ _ q => q
  cases e with
  | ListComp elt' gens scope p =>
    cases sw : lcSw sc scope y py p with
    | false => exact gen (by simp [swF, sw])
    | true =>
      have hy : sc.names.lookup y = some .local := by simpa [lcLoc, sw] using h4
      cases m with
      | lc t it ifs elt =>
        obtain ⟨te, q1, q2⟩ := snd_lcSet (spos := spos) x (show okE T N (.lc t it ifs elt) sc fb (.ListComp elt' gens scope p) = true from h3) sw h1 hy
        exact s_asgO q1 q2
      | lst _ => simp [okF] at h3
      | call _ _ => simp [okF, okE] at h3
      | _ => simp [okF] at h3
  | SetComp => cases h4
  | DictComp => cases h4
  | _ => exact gen rfl
end
end MP


set_option Elab.async false
set_option linter.all false
set_option maxHeartbeats 4000000
/-! Statements: the checker is right, in all. -/
namespace MP
open PySem PySem.Spec PyProof.Rows L2
section
variable {T : Tb} {P : Prog} {cl : Nat → List D → Hh → Res SV} {C : Stc} {k : Nat} {X : Cx} {W : WX} {N : List Str} {sc : Scope} {fb : Str → Bool}
theorem stcons {m : S} {ms : Ss} {l : List Stmt} (h : okSs T N (.cons m ms) sc fb l = true) : (∃ i, m = .freeze i ∧ okSs T N ms sc fb l = true) ∨ ∃ st l', l = st :: l' ∧ okS T N m sc fb st = true ∧ okSs T N ms sc fb l' = true := by
  cases m with
  | freeze i => exact .inl ⟨i, rfl, by simpa only [okSs] using h⟩
  | _ =>
    cases l with
    | nil => simp only [okSs] at h; cases h
    | cons st l' =>
      simp only [okSs, Bool.and_eq_true] at h
      exact .inr ⟨st, l', rfl, h.1, h.2⟩
mutual
theorem snd_S (hz : P.rz = T.rz) (x : XS T P cl C k X W N sc fb) (hp : PassesOwn (model X.prog X.w) X.A X.env X.xe) : ∀ (m : S) {st : Stmt}, okS T N m sc fb st = true → PS X st (tSt X C W P cl m)
  | .expr m, st, h => by
    cases st with
    | Expr e p =>
      simp only [okS, Bool.and_eq_true] at h
      exact s_expr h.1 (snd_E m x h.2).1
    | _ => simp [okS] at h
  | .asg t m, st, h => by
    cases st with
    | Assign tgs e p =>
      match tgs, h with
      | [tg], h => exact snd_asg x h
      | [], h => simp [okS] at h
      | _ :: _ :: _, h => simp [okS] at h
    | _ => simp [okS] at h
  | .asgO i m, st, h => by
    cases st with
    | Assign tgs e p =>
      match tgs, h with
      | [tg], h =>
        cases tg with
        | Name y py => exact snd_asgO x h
        | _ => simp [okS] at h
      | [], h => simp [okS] at h
      | _ :: _ :: _, h => simp [okS] at h
    | _ => simp [okS] at h
  | .app i m, st, h => by
    cases st with
    | Expr e p =>
      cases e with
      | Call g l kw p3 =>
        cases g with
        | Attribute o z p2 =>
          cases o with
          | Name y p4 =>
            match l, kw, h with
            | [e], [], h =>
              simp only [okS, Bool.and_eq_true, decide_eq_true_eq] at h
              obtain ⟨⟨⟨⟨⟨⟨rfl, h2⟩, h3⟩, h4⟩, h5⟩, h6⟩, h7⟩ := h
              exact s_app (by rw [x.hN]; exact h2) (visB_ok x h3) (dunB_ok h4).1 (dunB_ok h4).2 h5 (snd_E m x h7).1 h6
            | [], _, h => simp [okS] at h
            | _ :: _ :: _, _, h => simp [okS] at h
            | [_], _ :: _, h => simp [okS] at h
          | _ => simp [okS] at h
        | _ => simp [okS] at h
      | _ => simp [okS] at h
    | _ => simp [okS] at h
  | .appH o m, st, h => by
    cases st with
    | Expr e p =>
      cases e with
      | Call g l kw p3 =>
        cases g with
        | Attribute ob z p2 =>
          match l, kw, h with
          | [e], [], h =>
            simp only [okS, Bool.and_eq_true, decide_eq_true_eq] at h
            obtain ⟨⟨⟨⟨⟨rfl, h2⟩, h3⟩, h4⟩, h5⟩, h6⟩ := h
            exact s_appH h2 h3 h4 (snd_E o x h5).1 (snd_E m x h6).1
          | [], _, h => simp [okS] at h
          | _ :: _ :: _, _, h => simp [okS] at h
          | [_], _ :: _, h => simp [okS] at h
        | _ => simp [okS] at h
      | _ => simp [okS] at h
    | _ => simp [okS] at h
  | .setH o i m, st, h => by
    cases st with
    | Assign tgs e p =>
      match tgs, h with
      | [tg], h =>
        cases tg with
        | Subscript y z py =>
          simp only [okS, Bool.and_eq_true] at h
          obtain ⟨⟨⟨⟨h1, h2⟩, h3⟩, h4⟩, h5⟩ := h
          exact s_setH h1 h2 (snd_E m x h5).1 (snd_E o x h3).1 (snd_E i x h4).1
        | _ => simp [okS] at h
      | [], h => simp [okS] at h
      | _ :: _ :: _, h => simp [okS] at h
    | _ => simp [okS] at h
  | .ifs c a b, st, h => by
    cases st with
    | If c' a' b' p =>
      simp only [okS, Bool.and_eq_true] at h
      exact s_if (snd_E c x h.1.1).2 (snd_Ss hz x hp a h.1.2) (snd_Ss hz x hp b h.2)
    | _ => simp [okS] at h
  | .whl c b, st, h => by
    cases st with
    | While c' b' o p =>
      cases o with
      | nil =>
        simp only [okS, Bool.and_eq_true] at h
        exact s_while hp (snd_E c x h.1).2 (snd_Ss hz x hp b h.2)
      | cons _ _ => simp [okS] at h
    | _ => simp [okS] at h
  | .for t it b, st, h => by
    cases st with
    | For tg iter b' o p =>
      cases o with
      | nil =>
        simp only [okS, Bool.and_eq_true] at h
        obtain ⟨⟨⟨h1, h2⟩, h3⟩, h4⟩ := h
        exact s_for (fun r hh => for_eq t it b (okIt_enum h2) r hh) hp x.cool.calm (snd_It it x h2) (snd_tg x t h3) (snd_Ss hz x hp b h4) (fun v => noSet_fold h1 v)
      | cons _ _ => simp [okS] at h
    | _ => simp [okS] at h
  | .ret m, st, h => by
    cases st with
    | Return e p =>
      cases e with
      | some e =>
        simp only [okS] at h
        exact s_ret (snd_E m x h).1
      | none => simp [okS] at h
    | _ => simp [okS] at h
  | .retN, st, h => by
    cases st with
    | Return e p =>
      cases e with
      | none => exact s_retN
      | some e => simp [okS] at h
    | _ => simp [okS] at h
  | .retF m, st, h => by
    cases st with
    | Return e p =>
      cases e with
      | some e =>
        simp only [okS] at h
        exact s_retF (snd_F x h)
      | none => simp [okS] at h
    | _ => simp [okS] at h
  | .retO i, st, h => by
    cases st with
    | Return e p =>
      cases e with
      | some e =>
        cases e with
        | Name y p2 =>
          simp only [okS, Bool.and_eq_true, decide_eq_true_eq] at h
          exact s_retO (by rw [x.hN]; exact h.1.1) (visB_ok x h.1.2) (dunB_ok h.2).1 (dunB_ok h.2).2
        | _ => simp [okS] at h
      | none => simp [okS] at h
    | _ => simp [okS] at h
  | .raise c, st, h => by
    unfold okS at h
    rw [Bool.or_eq_true, Bool.not_eq_true'] at h
    rcases h with h | h
    · exact s_raiseN (hz.trans h)
    · split at h
      · simp only [Bool.and_eq_true, decide_eq_true_eq] at h
        obtain ⟨⟨⟨⟨h0, h1⟩, h2⟩, h3⟩, h4⟩ := h
        exact s_raise x.cool.calm x.ok.tk (x.gd.ex h0) h2 h1 (glB_ok x h3) (dunB_ok h4).1 (hz.trans h0)
      · cases h
  | .brk, st, h => by
    cases st with
    | Break p => exact s_brk
    | _ => simp [okS] at h
  | .cont, st, h => by
    cases st with
    | Continue p => exact s_cont
    | _ => simp [okS] at h
  | .pass, st, h => by
    cases st with
    | Pass p => exact s_pass
    | _ => simp [okS] at h
  | .par .., st, h => by simp [okS] at h
  | .freeze .., st, h => by simp [okS] at h
  | .setO .., st, h => by simp [okS] at h
  | .popO .., st, h => by simp [okS] at h
  | .setA .., st, h => by simp [okS] at h
  | .popH .., st, h => by simp [okS] at h
theorem snd_Ss (hz : P.rz = T.rz) (x : XS T P cl C k X W N sc fb) (hp : PassesOwn (model X.prog X.w) X.A X.env X.xe) : ∀ (m : Ss) {l : List Stmt}, okSs T N m sc fb l = true → PSs X l (tSs X C W P cl m)
  | .nil, l, h => by
    cases l with
    | nil => exact s_nilS
    | cons _ _ => simp [okSs] at h
  | .cons m ms, l, h => by
    rcases stcons h with ⟨i, rfl, h2⟩ | ⟨st, l', rfl, h1, h2⟩
    · exact s_freeze (snd_Ss hz x hp ms h2)
    · exact s_consS (snd_S hz x hp m h1) (snd_Ss hz x hp ms h2)
end
end

/-! ### a def of the text -/
/-- a def's slots, its own names -/
structure Sg where
  N : List Str
  d : Def
  lam : Bool := false
def okDef (T : Tb) (g : Sg) (st : Stmt) (ps : List Str) : Bool := decide (g.N.length = g.d.ns) && decide (g.d.np ≤ g.d.ns) && decide (ps.length = g.d.np) && okSs T g.N g.d.body (defScope st) (dfb g.lam) (defBody st)
end MP


set_option Elab.async false
set_option linter.all false
set_option maxHeartbeats 4000000
/-! A def that is called within an except suite, with the exception: the checker of its text, and its promise. -/
namespace MP
open PySem PySem.Spec PyProof.Rows L2
/-- the names of the classes that are asked for -/
def okTyN (T : Tb) (t : Ty) (y : Str) : Bool := match t with
  | .ex c => decide (y = c.nm) && !decide (c = .spanError)
  | .valueError => decide (y = ("ValueError" : Str)) && T.bt y
  | _ => false
section
variable (T : Tb) (N : List Str) (sc : Scope)
mutual
def okH : E → Expr → Bool
  | .var i, e => match e with
    | .Name x _ => decide (N[i]? = some x) && visB sc x && dunB x
    | _ => false
  | .int i, e => match e with
    | .Constant (.int j) _ _ => decide (i = j)
    | _ => false
  | .bl i, e => match e with
    | .Constant (.bool j) _ _ => i == j
    | _ => false
  | .str s, e => match e with
    | .Constant (.str z) _ _ => strOf s z
    | _ => false
  | .tup es, e => match e with
    | .Tuple l _ _ => decide (es.len ≤ 1000) && okHs es l
    | _ => false
  | .lst es, e => match e with
    | .List l _ => decide (es.len ≤ 1000) && okHs es l
    | _ => false
  | .bin op a b, e => match e with
    | .BinOp x o y _ => decide (o = op.op) && okH a x && okH b y
    | _ => false
  | .not a, e => match e with
    | .UnaryOp .Not x _ => okH a x
    | _ => false
  | .cmp op a b, e => match e with
    | .Compare x [o] [y] _ => decide (o = op.op) && noSet y && okH a x && okH b y
    | _ => false
  | .or es, e => match e with
    | .BoolOp .Or l _ => !l.isEmpty && okHs es l
    | _ => false
  | .ifx c a b, e => match e with
    | .IfExp z x y _ => okH c z && okH a x && okH b y
    | _ => false
  | .sub a i, e => match e with
    | .Subscript x y _ => !isSlice y && okH a x && okH i y
    | _ => false
  | .isi a t, e => match e with
    | .Call (.Name z _) [x, .Name y _] [] _ => decide (z = ("isinstance" : Str)) && T.bt z && glB sc z && notStar x && glB sc y && dunB y && okTyN T t y && okH a x
    | .Call (.Name z _) [x, .Tuple [.Name y _, .Name w _] _ _] [] _ => decide (z = ("isinstance" : Str)) && T.bt z && glB sc z && notStar x && decide (y = ("LookupError" : Str)) && decide (w = ("TypeError" : Str)) && T.bt y && T.bt w && glB sc y && glB sc w && decide (t = .lookType) && okH a x
    | _ => false
  | .bm o m es, e => match es, e with
    | .cons me .nil, .Call (.Attribute x n p2) [y] [] p3 => (match m with
        | .count => decide (n = ("count" : Str))
        | .index => decide (n = ("index" : Str))
        | _ => false) && abB x && notStar y && (p2.endLine == p3.line) && okH o x && okH me y
    | _, _ => false
  | .dead, _ => true
  | _, _ => false
def okHs : Es → List Expr → Bool
  | .nil, l => match l with
    | [] => true
    | _ => false
  | .cons m ms, l => match l with
    | e :: es => notStar e && okH m e && okHs ms es
    | _ => false
end
mutual
def okHS : S → Stmt → Bool
  | .asg t m, st => match t, st with
    | .nm i, .Assign [.Name x p] e _ => swF sc (.Name x p) e && swN sc (.Name x p) e && decide (N[i]? = some x) && decide (sc.names.lookup x = some .local) && okH T N sc m e
    | _, _ => false
  | .ifs c a b, st => match st with
    | .If c' a' b' _ => okH T N sc c c' && okHSs a a' && okHSs b b'
    | _ => false
  | .ret m, st => match st with
    | .Return (some e) _ => okH T N sc m e
    | _ => false
  | _, _ => false
def okHSs : Ss → List Stmt → Bool
  | .nil, l => match l with
    | [] => true
    | _ => false
  | .cons m ms, l => match l with
    | st :: l => okHS m st && okHSs ms l
    | _ => false
end
end
structure XH (T : Tb) (C : Stc) (X : Cx) (W : WX) (N : List Str) (sc : Scope) : Prop where
  ok : Cok X C W 0
  hN : X.N = N
  hsc : X.env.scope = sc
  bt : ∀ x, T.bt x = true → X.mg x = none
  ex : ExAll X.K X.mg
section
variable {T : Tb} {P : Prog} {cl : Nat → List D → Hh → Res SV} {C : Stc} {X : Cx} {W : WX} {N : List Str} {sc : Scope}
theorem XH.vis (x : XH T C X W N sc) {y : Str} (h : visB sc y = true) : Vis X.env.scope y := by
  rw [x.hsc]
  unfold visB at h
  split at h
  · rename_i e; exact .inl e
  · rename_i e; exact .inr (.inl e)
  · rename_i e; exact .inr (.inr e)
  · cases h
theorem XH.gl (x : XH T C X W N sc) {y : Str} (h : glB sc y = true) : Gl X y := by
  show X.env.scope.names.lookup y = _
  rw [x.hsc]
  unfold glB at h
  split at h
  · rename_i e; exact e
  · cases h
theorem okHs_nil : ∀ {ms : Es} {l : List Expr}, okHs T N sc ms l = true → (ms = .nil ↔ l = [])
  | .nil, [], _ => by simp
  | .nil, _ :: _, h => by simp [okHs] at h
  | .cons _ _, [], h => by simp [okHs] at h
  | .cons _ _, _ :: _, _ => by simp
theorem boot_VE : bootBuiltins "ValueError" = some (.type "ValueError") := by decide +kernel
mutual
theorem snd_H (x : XH T C X W N sc) : ∀ (m : E) {e : Expr}, okH T N sc m e = true → SE X C W P cl m e
  | .var i, e, h => by
    unfold okH at h
    split at h
    · simp only [Bool.and_eq_true, decide_eq_true_eq] at h
      obtain ⟨d1, d2⟩ := dunB_ok h.2
      exact se_val (s_var (by rw [x.hN]; exact h.1.1) (x.vis h.1.2) d1 d2) fun _ => rfl
    · cases h
  | .int i, e, h => by
    unfold okH at h
    split at h
    · obtain rfl := of_decide_eq_true h
      exact se_val s_int fun _ => rfl
    · cases h
  | .bl i, e, h => by
    unfold okH at h
    split at h
    · obtain rfl := beq_iff_eq.mp h
      exact se_val s_bl fun _ => rfl
    · cases h
  | .str s, e, h => by
    unfold okH at h
    split at h
    · exact se_val (s_str (strOf_ok h)) fun _ => rfl
    · cases h
  | .tup es, e, h => by
    unfold okH at h
    split at h
    · simp only [Bool.and_eq_true, decide_eq_true_eq] at h
      exact se_val (s_tup h.1 (snd_Hs x es h.2).pa) fun _ => rfl
    · cases h
  | .lst es, e, h => by
    unfold okH at h
    split at h
    · simp only [Bool.and_eq_true, decide_eq_true_eq] at h
      exact se_val (s_lst h.1 (snd_Hs x es h.2).pa) fun _ => rfl
    · cases h
  | .bin op a b, e, h => by
    unfold okH at h
    split at h
    · simp only [Bool.and_eq_true, decide_eq_true_eq] at h
      obtain ⟨⟨rfl, h1⟩, h2⟩ := h
      exact se_val (s_bin op (snd_H x a h1).1 (snd_H x b h2).1) fun _ => rfl
    · cases h
  | .not a, e, h => by
    unfold okH at h
    split at h
    · have q := snd_H x a h
      exact ⟨s_not q.1, st_not q.2⟩
    · cases h
  | .cmp op a b, e, h => by
    unfold okH at h
    split at h
    · simp only [Bool.and_eq_true, decide_eq_true_eq] at h
      obtain ⟨⟨⟨rfl, h0⟩, h1⟩, h2⟩ := h
      exact ⟨s_cmp x.ok op (noSet_marks h0) (snd_H x a h1).1 (snd_H x b h2).1, st_cmp x.ok op (noSet_marks h0) (snd_H x a h1).1 (snd_H x b h2).1⟩
    · cases h
  | .or es, e, h => by
    unfold okH at h
    split at h
    · simp only [Bool.and_eq_true, Bool.not_eq_true', List.isEmpty_eq_false_iff] at h
      obtain ⟨h1, h2⟩ := (snd_Hs x es h.2).or_ _ h.1
      refine ⟨h1.imp fun σ H Q ⟨F, R, phi, r, hh, S, q⟩ => ⟨F, R, phi, r, hh, S, by rw [evE] at q; exact q⟩, (pw_pt h2).imp fun σ H Q ⟨F, R, phi, r, hh, S, q⟩ => ⟨F, R, phi, r, hh, S, ?_⟩⟩
      rw [evC_eq, evE] at q
      exact q
    · cases h
  | .ifx c a b, e, h => by
    unfold okH at h
    split at h
    · simp only [Bool.and_eq_true] at h
      have hc := snd_H x c h.1.1
      have ha := snd_H x a h.1.2
      have hb := snd_H x b h.2
      exact ⟨s_ifx hc.2 ha.1 hb.1, st_ifx hc.2 ha.2 hb.2⟩
    · cases h
  | .sub a i, e, h => by
    unfold okH at h
    split at h
    · simp only [Bool.and_eq_true, Bool.not_eq_true'] at h
      exact se_val (s_sub x.ok (plain_ix h.1.1) (snd_H x a h.1.2).1 (snd_H x i h.2).1) fun _ => rfl
    · cases h
  | .isi a t, e, h => by
    unfold okH at h
    split at h
    · simp only [Bool.and_eq_true, decide_eq_true_eq] at h
      obtain ⟨⟨⟨⟨⟨⟨⟨rfl, h2⟩, h3⟩, h4⟩, h5⟩, h6⟩, h7⟩, h8⟩ := h
      cases t <;> simp only [okTyN, Bool.and_eq_true, decide_eq_true_eq, Bool.not_eq_true', decide_eq_false_iff_not, Bool.false_eq_true] at h7
      · obtain ⟨rfl, hb⟩ := h7
        exact se_val (s_isx rfl x.ex (u := .type "ValueError") (cv := .ty "ValueError") (fun c b hh e => by
          obtain ⟨c', z, hc⟩ := isi_exc e rfl
          cases z
          rcases hc with ⟨f, z, _⟩ | ⟨_, ok, rfl⟩ | ⟨z, _⟩
          · cases z
          · exact x.ex.v c ok
          · cases z) (.ty _) (x.gl h3) (x.bt _ h2) (pe_bltn (x.gl h5) (x.bt _ hb) boot_VE rfl (by decide) (by decide)) h4 (snd_H x a h8).1) fun _ => rfl
      · rename_i c0
        obtain ⟨rfl, hn⟩ := h7
        exact se_val (s_isx rfl x.ex (u := .ref (evK X.K c0)) (cv := .ref (evK X.K c0)) (fun c b hh e => by
          obtain ⟨c', z, hc⟩ := isi_exc e rfl
          cases z
          rcases hc with ⟨f, z, z2, ok, rfl⟩ | ⟨z, _⟩ | ⟨z, _⟩
          · cases z
            exact x.ex.p c c0 ok z2
          · cases z
          · cases z) (.own _) (x.gl h3) (x.bt _ h2) (pe_glob (x.gl h5) (x.ex.g c0) rfl (dunB_ok h6).1) h4 (snd_H x a h8).1) fun _ => rfl
    · simp only [Bool.and_eq_true, decide_eq_true_eq] at h
      obtain ⟨⟨⟨⟨⟨⟨⟨⟨⟨⟨⟨rfl, h2⟩, h3⟩, h4⟩, h5⟩, h6⟩, h7⟩, h8⟩, h9⟩, h10⟩, rfl⟩, h12⟩ := h
      exact se_val (s_isxT h5 h6 x.ex (x.gl h3) (x.bt _ h2) (x.gl h9) (x.bt _ h7) (x.gl h10) (x.bt _ h8) h4 (snd_H x a h12).1) fun _ => rfl
    · cases h
  | .bm o m es, e, h => by
    unfold okH at h
    split at h
    · rename_i me y n p2 w p3
      simp only [Bool.and_eq_true] at h
      obtain ⟨⟨⟨⟨⟨h1, h2⟩, h3⟩, h4⟩, h5⟩, h6⟩ := h
      have q1 := (snd_H x o h5).1
      have q2 := (snd_H x me h6).1
      cases m <;> simp only [decide_eq_true_eq, Bool.false_eq_true] at h1
      · subst h1
        exact se_val (s_count h2 h3 h4 q1 q2) fun _ => rfl
      · subst h1
        exact se_val (s_index h2 h3 h4 q1 q2) fun _ => rfl
    · cases h
  | .dead, e, h => ⟨⟨fun pins s σ H Q I ⟨F, R, phi, r, hh, S, p⟩ => by rw [evE] at p; exact p.elim⟩, ⟨fun pins s σ H Q I ⟨F, R, phi, r, hh, S, p⟩ => by rw [evC_eq, evE] at p; exact p.elim⟩⟩
  | .olen _, e, h => by simp [okH] at h
  | .oidx _ _, e, h => by simp [okH] at h
  | .glob _, e, h => by simp [okH] at h
  | .non, e, h => by simp [okH] at h
  | .dct _, e, h => by simp [okH] at h
  | .alloc _, e, h => by simp [okH] at h
  | .neg _, e, h => by simp [okH] at h
  | .cmp2 .., e, h => by simp [okH] at h
  | .cmp3 .., e, h => by simp [okH] at h
  | .and _, e, h => by simp [okH] at h
  | .slc .., e, h => by simp [okH] at h
  | .rev _, e, h => by simp [okH] at h
  | .call .., e, h => by simp [okH] at h
  | .blt .., e, h => by simp [okH] at h
  | .meth .., e, h => by simp [okH] at h
  | .attr .., e, h => by simp [okH] at h
  | .make .., e, h => by simp [okH] at h
  | .lc .., e, h => by simp [okH] at h
  | .ssc .., e, h => by simp [okH] at h
  | .sset .., e, h => by simp [okH] at h
  | .lrg .., e, h => by simp [okH] at h
  | .fstr .., e, h => by simp [okH] at h
  | .said .., e, h => by simp [okH] at h
  | .tapp .., e, h => by simp [okH] at h
  | .tclr .., e, h => by simp [okH] at h
theorem snd_Hs (x : XH T C X W N sc) : ∀ (ms : Es) {l : List Expr}, okHs T N sc ms l = true → SEs T P cl C X W ms l
  | .nil, l, h => by
    cases l with
    | nil => exact ses_nil
    | cons _ _ => simp [okHs] at h
  | .cons m ms, l, h => by
    cases l with
    | nil => simp [okHs] at h
    | cons e es =>
      simp only [okHs, Bool.and_eq_true] at h
      exact ses_cons h.1.1 (snd_H x m h.1.2) (snd_Hs x ms h.2) (okHs_nil h.2)
end
mutual
theorem snd_HS (x : XH T C X W N sc) : ∀ (m : S) {st : Stmt}, okHS T N sc m st = true → PS X st (tSt X C W P cl m)
  | .asg t m, st, h => by
    unfold okHS at h
    split at h
    · simp only [Bool.and_eq_true, decide_eq_true_eq] at h
      obtain ⟨⟨⟨⟨h1, h2⟩, h3⟩, h4⟩, h5⟩ := h
      rename_i i y p e q
      have a1 : swapsWithSole [.Name y p] e q.line X.env = pure false := by
        simp only [swapsWithSole]
        exact swF_ok (by rw [x.hsc]; exact h1)
      have a2 : swappedStores [.Name y p] e X.env = pure none := swN_ok (by rw [x.hsc]; exact h2)
      have tg : PG X (.Name y p) (tT X.K C (.nm i)) := s_nm x.ok.nd (by rw [x.hN]; exact h3) (.inl (by rw [x.hsc]; exact h4)) (.inr (by rw [x.hsc]; exact h4))
      exact s_asgT (ps_asg (snd_H x m h5).1 tg a1 a2 rfl) fun _ _ _ q => q
    · cases h
  | .ifs c a b, st, h => by
    unfold okHS at h
    split at h
    · simp only [Bool.and_eq_true] at h
      exact s_if (snd_H x c h.1.1).2 (snd_HSs x a h.1.2) (snd_HSs x b h.2)
    · cases h
  | .ret m, st, h => by
    unfold okHS at h
    split at h
    · exact s_ret (snd_H x m h).1
    · cases h
  | .expr _, st, h => by simp [okHS] at h
  | .asgO .., st, h => by simp [okHS] at h
  | .par .., st, h => by simp [okHS] at h
  | .freeze _, st, h => by simp [okHS] at h
  | .app .., st, h => by simp [okHS] at h
  | .setH .., st, h => by simp [okHS] at h
  | .setO .., st, h => by simp [okHS] at h
  | .popO .., st, h => by simp [okHS] at h
  | .setA .., st, h => by simp [okHS] at h
  | .appH .., st, h => by simp [okHS] at h
  | .popH .., st, h => by simp [okHS] at h
  | .whl .., st, h => by simp [okHS] at h
  | .for .., st, h => by simp [okHS] at h
  | .retN, st, h => by simp [okHS] at h
  | .retF _, st, h => by simp [okHS] at h
  | .retO _, st, h => by simp [okHS] at h
  | .raise _, st, h => by simp [okHS] at h
  | .brk, st, h => by simp [okHS] at h
  | .cont, st, h => by simp [okHS] at h
  | .pass, st, h => by simp [okHS] at h
theorem snd_HSs (x : XH T C X W N sc) : ∀ (m : Ss) {l : List Stmt}, okHSs T N sc m l = true → PSs X l (tSs X C W P cl m)
  | .nil, l, h => by
    cases l with
    | nil => exact s_nilS
    | cons _ _ => simp [okHSs] at h
  | .cons m ms, l, h => by
    cases l with
    | nil => simp [okHSs] at h
    | cons st l =>
      simp only [okHSs, Bool.and_eq_true] at h
      exact s_consS (snd_HS x m h.1) (snd_HSs x ms h.2)
end
end
end MP


set_option Elab.async false
set_option linter.all false
set_option maxHeartbeats 4000000
/-! A def that is called within an except suite: its promise, by its body. -/
namespace MP
open PySem PySem.Spec PyProof.Rows L2
/-- all but the tables -/
def noTb (H : Hp) : Hp := fun b => match H b with
  | some (.tbl _) => none
  | x => x
theorem noTb_some {H : Hp} {b : Addr} {o : HO} (h : noTb H b = some o) : H b = some o ∧ ∀ ps, o ≠ .tbl ps := by
  unfold noTb at h
  split at h
  · cases h
  · rename_i n
    exact ⟨h, fun ps z => n ps (by rw [h, z])⟩
theorem noTb_of {H : Hp} {b : Addr} {o : HO} (h : H b = some o) (n : ∀ ps, o ≠ .tbl ps) : noTb H b = some o := by
  unfold noTb
  split
  · rename_i ps e
    rw [h] at e
    exact absurd (Option.some.inj e) (n ps)
  · exact h
section
variable {T : Tb} {P : Prog} {cl : Nat → List D → Hh → Res SV} {C : Stc} {K : PySem.W.Frag} {mg : Str → Option Value} {N : List Str}
theorem fnX_of {pr : Program} {w : World} {x : Str} {st : Stmt} {f : Addr} {fd : FuncData} {e : Str} {tw : Bool} {d : Def} (Fn : Fun K x x st f fd) (S : FnScope N [e] (defScope st)) (E : ExAll K mg) (hbt : ∀ x, T.bt x = true → mg x = none)
    (hok : okHSs T N (defScope st) d.body (defBody st) = true) (h1 : d.np = 1) (h2 : N.length = d.ns) (run : ∀ c : Ex, c.okc = true → runDef P cl d [.exc c] [] = .ok (.v (wdD tw c)) []) : FnX pr w K mg C.tabs f fd e tw := by
  obtain ⟨oc, od, kV, doc, pm, an, cdv, ct, osl, rfl, lk, hcd⟩ := Fn.ex
  refine ⟨fun base A outer s H args Q a oe c hr hg hpin hx okc htb e0 hb want => ?_⟩
  have KX : K.In s.heap := e0.mod.kin.keeps fun b o e => (e0.bs b o e).1
  have lim : s.heap.NoLimit := e0.mod.nolimit.keeps fun b o e => (e0.bs b o e).1
  -- the exception's object is nothing of the text's
  have notK : ∀ o, K.lookup a ≠ some o := fun o ho => by
    have q := KX a o ho
    rw [hpin.get] at q
    cases q
    exact E.n c okc a oe ho hx.1
  obtain ⟨fs, hfs⟩ := hx.2.2
  have notA : ∀ {b : Addr} {ob : Obj}, base.get? b = some ob → (∀ vs, ob.data ≠ .fields vs) → b ≠ a := fun {b ob} q n z => by
    have q2 := (e0.bs b ob q).1
    rw [z, hpin.get] at q2
    cases q2
    exact n _ hfs
  let H2 : Hp := upd H a (ExO a oe)
  let base2 : Heap := PySem.W.hideAll base [a]
  have get2 : ∀ {b : Addr} {ob : Obj}, base.get? b = some ob → b ≠ a → base2.get? b = some ob := fun q n => PySem.W.hideAll_get _ q fun m => n (by simpa using m)
  have nsB : ∀ {b : Addr} {m : Str → Option Value}, base.Ns b m → base2.Ns b m := fun {b m} ⟨ob, x1, x2, q1, q2, q3⟩ =>
    ⟨ob, x1, x2, get2 q1 (notA q1 fun vs z => by rw [q2] at z; cases z), q2, q3⟩
  have of2 : ∀ {b : Addr} {ob : Obj}, base2.get? b = some ob → base.get? b = some ob ∧ b ≠ a := fun {b ob} q =>
    ⟨PySem.W.of_hideAll _ q, fun z => by
      have := PySem.W.hideAll_none [a] (h := base) (b := b) (by simp [z])
      rw [this] at q
      cases q⟩
  have ne2 : ∀ {b : Addr} {o : HO}, H b = some o → b ≠ a := fun q => ne_of_none q hpin.free
  have up2 : ∀ {b : Addr} {o : HO}, H b = some o → H2 b = some o := fun {b o} q => by
    show upd H a (ExO a oe) b = some o
    rw [upd_ne (ne2 q)]
    exact q
  have e2 : Env0 pr w K mg base2 A outer s H2 :=
    { frames := e0.frames
      mod := { kin := fun b ob q => get2 (e0.mod.kin b ob q) (fun z => notK ob (z ▸ q)), glob := nsB e0.mod.glob
               blt := by obtain ⟨mb, q1, q2⟩ := e0.mod.blt; exact ⟨mb, nsB q1, q2⟩
               nolimit := by obtain ⟨mc, c1, c2⟩ := e0.mod.nolimit; exact ⟨mc, nsB c1, c2⟩ }
      bs := fun b o q => by
        obtain ⟨q1, q2⟩ := of2 q
        refine ⟨(e0.bs b o q1).1, ?_⟩
        show upd H a (ExO a oe) b = none
        rw [upd_ne q2]
        exact (e0.bs b o q1).2
      bsz := by
        show (PySem.W.hideAll base [a]).objs.size ≤ _
        rw [PySem.W.hideAll_size]
        exact e0.bsz
      funs := by
        have go : ∀ {l : List PySem.Env}, s.heap.FunFrames base l → s.heap.FunFrames base2 l := by
          intro l
          induction l with
          | nil => intro _; trivial
          | cons env l ih =>
            rintro ⟨z1, ⟨L, o, z2, z3, z4, z5⟩, z6⟩
            refine ⟨z1, ⟨L, o, z2, ?_, z4, z5⟩, ih z6⟩
            cases q : base2.get? L with
            | none => rfl
            | some u =>
              have := (of2 q).1
              rw [z3] at this
              cases this
        exact go e0.funs
      frf := fun b q => by
        show upd H a (ExO a oe) b = none
        rw [upd_ne (fun z => hpin.nofs (show a ∈ frs outer by rw [← z]; exact q))]
        exact e0.frf b q
      hok := fun b u q => by
        by_cases z : b = a
        · subst z
          have q : upd H b (ExO b oe) b = some u := q
          rw [upd_same] at q
          cases q
          exact exo_ok hpin.get
        · have q : upd H a (ExO a oe) b = some u := q
          rw [upd_ne z] at q
          exact (e0.hok b u q).stay (fun _ _ _ k => k) (fun b k => up2 k) (fun b xs k => up2 k)
      bare := e0.bare }
  -- a pin: the function's own object
  have bf := e0.mod.kin _ _ lk
  have fa : f ≠ a := fun z => notK _ (z ▸ lk)
  have pin2 : L2H.PinOk outer H2 s (f, ⟨oc, od, .func (PySem.W.fnOf x x (defArgs st) (defBody st) (defScope st) .none kV doc pm an cdv ct), osl⟩) :=
    { get := (e0.bs _ _ bf).1
      free := by
        show upd H a (ExO a oe) f = none
        rw [upd_ne fa]
        exact (e0.bs _ _ bf).2
      nofs := fun hm => by
        obtain ⟨q, _⟩ := e0.funs.mem hm
        rw [bf] at q
        cases q
      nocell := fun v z => by cases z }
  let F0 : Hp := fun b => if b = a then some (ExO a oe) else none
  have F0a : F0 a = some (ExO a oe) := if_pos rfl
  have F0n : ∀ {b : Addr} {o : HO}, F0 b = some o → b = a ∧ o = ExO a oe := fun {b o} q => by
    by_cases z : b = a
    · have q : (if b = a then some (ExO a oe) else none) = some o := q
      rw [if_pos z] at q
      exact ⟨z, (Option.some.inj q).symm⟩
    · have q : (if b = a then some (ExO a oe) else none) = some o := q
      rw [if_neg z] at q
      cases q
  have S0 : SR K C F0 (noTb H) [] [] [] [] H2 :=
    { hr := { fH := fun b o q => by
                obtain ⟨rfl, rfl⟩ := F0n q
                exact upd_same
              len := rfl, obj := fun n b o z => by simp at z, mF := fun n b z => by simp at z
              tb := fun p hp => by
                obtain ⟨ps, t1, t2, t3⟩ := htb p hp
                exact ⟨ps, up2 t1, t2, fun pos cv q => by
                  obtain ⟨cc, z1, z2⟩ := t3 pos cv q
                  exact ⟨cc, z1, up2 z2⟩⟩
              nF := fun b ps q => by
                obtain ⟨_, z⟩ := F0n q
                cases z
              nd := fun m n b z => by simp at z }
      rH := fun b o q => up2 (noTb_some q).1
      rF := fun b o q => by
        cases z : F0 b with
        | none => rfl
        | some u =>
          obtain ⟨rfl, _⟩ := F0n z
          have := (noTb_some q).1
          rw [hpin.free] at this
          cases this
      rM := fun n b z => by simp at z
      rO := fun i b z => z.nil.elim
      nR := fun b ps q => (noTb_some q).2 ps rfl
      sl := rfl
      slot := fun i sv z => by simp at z
      no := fun i j b z => z.nil.elim }
  let Q2 : VK := fun v H' => ∃ F', Sub F0 F' ∧ SR K C F' (noTb H) [] [] [] [] H' ∧ VRep K F' [] (wdD tw c) v
  have fin : ∀ {u : Value} {s' : Shared}, CE outer pr w H2 s Q2 u s' → CE outer pr w H s Q u s' := fun {u s'} ⟨v, H', q1, q2, un, hk, rv, F', sF, SF, rp⟩ => by
    have Fa : F' a = some (ExO a oe) := sF a _ F0a
    have Ha : H' a = some (ExO a oe) := SF.hr.fH a _ Fa
    have dn : ∀ {b : Addr} {o : HO}, H b = some o → ∀ {o' : HO}, H' b = some o' → drop H' a b = some o' := fun q q' q2 => by rw [drop_ne (ne2 q)]; exact q2
    have dnn : ∀ {b : Addr}, H b = none → H' b = none → drop H' a b = none := fun {b} _ z => by
      by_cases y : b = a
      · rw [y]; exact drop_same
      · rw [drop_ne y]; exact z
    have old : ∀ {b : Addr} {ob : Obj}, s.heap.get? b = some ob → H b = none → b ≠ a → H2 b = none := fun {b ob} _ n z => by
      show upd H a (ExO a oe) b = none
      rw [upd_ne z]
      exact n
    refine ⟨v, drop H' a, q1, q2, ⟨fun b o g n nf nx => ?_, fun b o g n hf nx => ?_, fun b o g n nx => ?_, un.there, fun b xs q => ?_, fun b o u q => ?_, fun b ps q => ?_⟩, fun b u q => ?_, rv, want v _ (fun b o q n => ?_) (fun b q => ?_) (fun p hp => ?_) ?_⟩
    · by_cases z : b = a
      · subst z
        rw [hpin.get] at g
        cases g
        exact exo_at hk Ha
      · exact un.keep b o g (old g n z) nf nx
    · exact un.slot b o g (old g n fun z => hpin.nofs (z ▸ hf)) hf nx
    · by_cases z : b = a
      · rw [z]; exact drop_same
      · rw [drop_ne z]
        exact un.free b o g (old g n z) nx
    · rw [drop_ne (ne2 q)]; exact un.tups b xs (up2 q)
    · rw [drop_ne (ne2 q)]; exact un.frzs b o u (up2 q)
    · rw [drop_ne (ne2 q)]; exact un.tbls b ps (up2 q)
    · obtain ⟨z1, z2⟩ := drop_some q
      refine (hk b u z2).stay (fun _ _ _ k => k) (fun b' k => ?_) (fun b' xs k => ?_)
      · rw [drop_ne]
        · exact k
        · rintro rfl
          rw [Ha] at k
          cases k
      · rw [drop_ne]
        · exact k
        · rintro rfl
          rw [Ha] at k
          cases k
    · rw [drop_ne (ne2 q)]
      exact SF.rH b o (noTb_of q n)
    · cases z : H b with
      | none => rfl
      | some o =>
        rw [drop_ne (ne2 z)] at q
        by_cases t : ∃ ps, o = .tbl ps
        · obtain ⟨ps, rfl⟩ := t
          obtain ⟨more, y⟩ := un.tbls b ps (up2 z)
          rw [y] at q
          cases q
        · have y := SF.rH b o (noTb_of z fun ps k => t ⟨ps, k⟩)
          rw [y] at q
          cases q
    · obtain ⟨ps, t1, t2, t3⟩ := SF.hr.tb p hp
      refine ⟨ps, ?_, t2, fun pos cv q => ?_⟩
      · rw [drop_ne]
        · exact t1
        · intro z
          rw [z, Ha] at t1
          cases t1
      · obtain ⟨cc, z1, z2⟩ := t3 pos cv q
        refine ⟨cc, z1, ?_⟩
        rw [drop_ne]
        · exact z2
        · intro z
          rw [z, Ha] at z2
          exact exO_neC (Option.some.inj z2)
    · refine ⟨drop F' a, fun b o q => ?_, fun b o q => ?_, fun b ps q => ?_, ?_⟩
      · obtain ⟨z1, z2⟩ := drop_some q
        cases z : H b with
        | none => rfl
        | some u =>
          by_cases t : ∃ ps, u = .tbl ps
          · obtain ⟨ps, rfl⟩ := t
            obtain ⟨more, y⟩ := un.tbls b ps (up2 z)
            rw [SF.hr.fH b o z2] at y
            cases y
            exact absurd z2 (SF.hr.nF b _)
          · have y := SF.rF b u (noTb_of z fun ps k => t ⟨ps, k⟩)
            rw [y] at z2
            cases z2
      · obtain ⟨z1, z2⟩ := drop_some q
        rw [drop_ne z1]
        exact SF.hr.fH b o z2
      · exact SF.hr.nF b ps (drop_some q).2
      · unfold wdD at rp ⊢
        cases tw with
        | false =>
          have rp : VRep K F' [] (.str (exW c)) v := rp
          show VRep K (drop F' a) [] (.str (exW c)) v
          simpa only [VRep] using rp
        | true =>
          have rp : VRep K F' [] (.tup [.str (exW c)]) v := rp
          show VRep K (drop F' a) [] (.tup [.str (exW c)]) v
          simp only [VRep] at rp ⊢
          obtain ⟨b, vs, z1, z2, z3⟩ := rp
          refine ⟨b, vs, z1, ?_, ?_⟩
          · have nb : ∀ {o : HO}, F' b = some o → o ≠ ExO a oe → drop F' a b = some o := fun {o} q n => by
              rw [drop_ne]
              · exact q
              · rintro rfl
                rw [Fa] at q
                exact n (Option.some.inj q).symm
            rcases z2 with (z2 | ⟨o, z2⟩) | z2
            · exact .inl (.inl (nb z2 fun z => by cases z))
            · exact .inl (.inr ⟨o, nb z2 fun z => by cases z⟩)
            · exact .inr z2
          · simp only [VReps, VRep] at z3 ⊢
            exact z3
  have kinds : ∀ y ∈ [e].zip [Value.ref a], (defScope st).names.lookup y.1 = some .local ∨ ((defScope st).names.lookup y.1 = some .cell ∧ ((cellsFrom (s.heap.objs.size + 1) (defScope st).names []).lookup y.1).isSome = true) := by
    rintro ⟨n, v⟩ hy
    exact (S.par n (List.of_mem_zip hy).1).imp id fun q => ⟨q, PySem.W.cellsFrom_some _ _ _ (.inl q)⟩
  refine codeAny_call_function hr.depth (KX _ _ lk) rfl S.co S.gen rfl (PySem.W.codeRec_of KX hcd) (hb _ _ _ _ ?_)
  refine wpAny_newFunctionEnv_cells S.kind kinds fun env he s1 x1 => ?_
  subst he
  refine ⟨lim.keeps x1.toInCall.keep, codeAny_func ?_⟩
  have I := L2H.inv_startH (CX := C8.CX0) (E := C8.E0) (qual := x) (f := f) (cd := cdv) (A := A) (vs := [V.ref a]) S pin2 e2 rfl (.cons rfl .nil) x1
  have xh : XH T C (L2H.cxH C8.CX0 pr w K mg base2 N x (defScope st) f cdv A outer s H2 C8.E0 (f, ⟨oc, od, .func (PySem.W.fnOf x x (defArgs st) (defBody st) (defScope st) .none kV doc pm an cdv ct), osl⟩)) (fun _ _ _ _ => False) N (defScope st) :=
    { ok := { nd := S.nd, hu := by
                have := hr.un
                show A.units + 3 + 65 < cLine
                omega
              grd := hg, tk := LamX.takes0 }
      hN := rfl, hsc := rfl, bt := hbt, ex := E }
  have rd : VReps K F0 [] [.exc c] [V.ref a] := by
    refine VReps.cons ?_ VReps.nil
    simp only [VRep]
    exact ⟨a, oe, rfl, F0a, hx⟩
  have en : SR K C F0 (noTb H) [] ([D.exc c].map .v ++ List.replicate (d.ns - d.np) .un) [] (L2.start N [V.ref a]) H2 := S0.enter rd (by
    have hp : 1 ≤ N.length := by
      have z := congrArg List.length S.pre
      rw [List.length_take] at z
      simp at z
      omega
    simp
    omega)
  have cp := run c okc
  unfold runDef at cp
  rw [if_pos (by simp [h1])] at cp
  have go := (snd_HSs (P := P) (cl := cl) xh d.body hok).run [] s1 (L2.start N [V.ref a]) H2 { nx := fun _ H' => Q2 .non H', rt := Q2 } I ⟨F0, noTb H, [], _, [], en, by
    cases ev : evSs P cl d.body ([D.exc c].map .v ++ List.replicate (d.ns - d.np) .un) [] with
    | nx r h' =>
      rw [ev] at cp
      cases tw <;> cases cp
    | rt v h' =>
      rw [ev] at cp
      cases cp
      intro F' phi' v H' s1 q1 S' n
      have hl := S'.hr.len
      obtain rfl : phi' = [] := List.length_eq_zero_iff.mp hl
      exact ⟨F', s1, S', n⟩
    | exc c h' => rw [ev] at cp; cases cp
    | bk r h' => rw [ev] at cp; cases cp
    | ct r h' => rw [ev] at cp; cases cp
    | stk => rw [ev] at cp; cases cp⟩
  refine wpAny_mono go (fun fl s' hs => ?_) fun _ _ z => z
  cases fl with
  | ret u =>
    obtain ⟨v, σ', H', J, rv, q⟩ := hs
    exact fin ⟨v, H', J.os, J.bare, J.base, J.hok, rv, q⟩
  | next =>
    obtain ⟨σ', H', J, q⟩ := hs
    exact fin (u := Value.none) ⟨V.non, H', J.os, J.bare, J.base, J.hok, rfl, q⟩
  | brk =>
    obtain ⟨_, _, _, q⟩ := hs
    exact q.elim
  | cont =>
    obtain ⟨_, _, _, q⟩ := hs
    exact q.elim
end
end MP


set_option Elab.async false
set_option linter.all false
set_option maxHeartbeats 4000000
/-! Defs, all depths, the end. -/
namespace MP
open PySem PySem.Spec PyProof.Rows L2
/-! ### the tables of code objects -/
/-- the defs that make lambdas: code object, table, the lambdas' name -/
def tabsK (K : PySem.W.Frag) (lams : List Str) : List (Addr × Addr × Str) := lams.filterMap fun x => (PySem.W.tabIn K x).map fun t => (t.1, t.2, x ++ ".<locals>." ++ "<lambda>")
def lamChk (K : PySem.W.Frag) (lams : List Str) : Bool := (lams.all fun x => match PySem.W.tabIn K x with
  | some t => (K.lookup t.2).isNone
  | none => false) && decide (((tabsK K lams).map fun t => t.2.1).Nodup)
def stcK (K : PySem.W.Frag) (lams : List Str) : Stc := ⟨fun _ => 0, (tabsK K lams).map (·.2)⟩
theorem lamChk_at {K : PySem.W.Frag} {lams : List Str} (h : lamChk K lams = true) {x : Str} (hx : x ∈ lams) : ∃ c P, PySem.W.tabIn K x = some (c, P) ∧ K.lookup P = none := by
  unfold lamChk at h
  simp only [Bool.and_eq_true, List.all_eq_true] at h
  have q := h.1 x hx
  cases e : PySem.W.tabIn K x with
  | none => rw [e] at q; cases q
  | some t =>
    rw [e] at q
    exact ⟨t.1, t.2, rfl, by simpa using q⟩
theorem tabsK_mem {K : PySem.W.Frag} {lams : List Str} {t : Addr × Addr × Str} (h : t ∈ tabsK K lams) : ∃ x ∈ lams, PySem.W.tabIn K x = some (t.1, t.2.1) ∧ t.2.2 = x ++ ".<locals>." ++ "<lambda>" := by
  unfold tabsK at h
  obtain ⟨x, hx, e⟩ := List.mem_filterMap.mp h
  cases z : PySem.W.tabIn K x with
  | none => rw [z] at e; cases e
  | some u =>
    rw [z] at e
    cases e
    exact ⟨x, hx, z, rfl⟩
theorem tabsK_in {K : PySem.W.Frag} {lams : List Str} {x : Str} {c P : Addr} (hx : x ∈ lams) (e : PySem.W.tabIn K x = some (c, P)) : (c, P, x ++ ".<locals>." ++ "<lambda>") ∈ tabsK K lams := by
  unfold tabsK
  exact List.mem_filterMap.mpr ⟨x, hx, by rw [e]; rfl⟩
theorem nodup_one {α β : Type} {f : α → β} : ∀ {l : List α}, (l.map f).Nodup → ∀ {a b : α}, a ∈ l → b ∈ l → f a = f b → a = b
  | [], _, a, b, ha, _, _ => by cases ha
  | c :: l, h, a, b, ha, hb, e => by
    rw [List.map_cons, List.nodup_cons] at h
    rcases List.mem_cons.mp ha with rfl | ha
    · rcases List.mem_cons.mp hb with rfl | hb
      · rfl
      · exact absurd (List.mem_map.mpr ⟨b, hb, e.symm⟩) h.1
    · rcases List.mem_cons.mp hb with z | hb
      · rw [z] at e
        exact absurd (List.mem_map.mpr ⟨a, ha, e⟩) h.1
      · exact nodup_one h.2 ha hb e
/-- where the lambdas of a def are laid -/
def LamAt (mg : Str → Option Value) (base : Heap) (tabs : List (Addr × Str)) (fd : FuncData) (q : Str) : Prop := ∃ c P, fd.code = .ref c ∧ LamX.TabB base mg c P ∧ (P, q ++ ".<locals>." ++ "<lambda>") ∈ tabs ∧ ∀ p ∈ tabs, p.1 = P → p.2 = q ++ ".<locals>." ++ "<lambda>"
theorem lam_at {K : PySem.W.Frag} {mg : Str → Option Value} {base : Heap} {lams : List Str} {x qual : Str} {st : Stmt} {f : Addr} {fd : FuncData} (h : lamChk K lams = true) (X : K.In base) (G : base.Ns mainGlobals mg) (tb : ∀ t ∈ tabsK K lams, LamX.TabB base mg t.1 t.2.1)
    (Fn : Fun K x qual st f fd) (hm : mg x = some (.ref f)) (hx : x ∈ lams) : LamAt mg base (stcK K lams).tabs fd x := by
  obtain ⟨c, P, e, _⟩ := lamChk_at h hx
  obtain ⟨oc, od, kV, doc, pm, an, cdv, ct, osl, rfl, lk, hcd⟩ := Fn.ex
  have m := tabsK_in hx e
  refine ⟨c, P, PySem.W.law_code X G e hm (X _ _ lk) rfl, tb _ m, List.mem_map.mpr ⟨_, m, rfl⟩, fun p hp z => ?_⟩
  obtain ⟨t, ht, rfl⟩ := List.mem_map.mp hp
  unfold lamChk at h
  simp only [Bool.and_eq_true, decide_eq_true_eq] at h
  have := nodup_one h.2 ht m z
  rw [this]
/-- a def by its body -/
theorem fnG_of2 {P : Program} {w : World} {K : PySem.W.Frag} {mg : Str → Option Value} {base : Heap} {k : Nat} {f : Addr} {x qual : Str} {st : Stmt} {fd : FuncData} {N ps : List Str} {sp : Sp} (F : Fun K x qual st f fd) (S : FnScope N ps (defScope st))
    (len : ∀ vs H Q E, sp vs H Q E → vs.length = ps.length)
    (hbody : ∀ (A : Around) (outer : List PySem.Env) (s : Shared) (H : Hp) (vs : List V) (Q : VK) (E : XK), Room k (A.deeper (envOfC qual (defScope st) s.heap.objs.size f fd.code)) → A.guards = some [] → sp vs H Q E →
      ∃ t, PSs (cxOf (L2.CX P w) P w K mg base N qual (defScope st) f fd.code A outer s H E) (defBody st) t ∧ t { nx := fun _ H' => Q .non H', rt := Q } (L2.start N vs) H) :
    FnG P w K mg base (k + 1) f fd ps sp := by
  obtain ⟨oc, od, kV, doc, pm, an, cdv, ct, osl, rfl, lk, hcd⟩ := F.ex
  refine ⟨len, fun A outer s H args us vs Q E hr hg e0 hb r hsp => ?_⟩
  -- the promise told of this very A alone
  have K1 : FnOk P w K mg base (L2.CX P w) (k + 1) f (PySem.W.fnOf x qual (defArgs st) (defBody st) (defScope st) .none kV doc pm an cdv ct) ps sp →
      codeAny (model P w) A (.call (.ref f) args) (CR (L2.CX P w) outer P w H s Q E) s := fun G => G.run A outer s H args us vs Q E hr e0 hb r hsp
  have hl := len _ _ _ _ hsp
  have KX : K.In s.heap := e0.mod.kin.keeps fun b o e => (e0.bs b o e).1
  have nl : s.heap.NoLimit := e0.mod.nolimit.keeps fun b o e => (e0.bs b o e).1
  have kinds : ∀ y ∈ ps.zip us, (defScope st).names.lookup y.1 = some .local ∨ ((defScope st).names.lookup y.1 = some .cell ∧ ((cellsFrom (s.heap.objs.size + 1) (defScope st).names []).lookup y.1).isSome = true) := by
    rintro ⟨n, v⟩ hy
    exact (S.par n (List.of_mem_zip hy).1).imp id fun q => ⟨q, PySem.W.cellsFrom_some _ _ _ (.inl q)⟩
  have body : ∀ s1 : Shared, L2.Inv (cxOf (L2.CX P w) P w K mg base N qual (defScope st) f cdv A outer s H E) [] (L2.start N vs) H s1 →
      wpAny (model P w) (A.deeper (envOfC qual (defScope st) s.heap.objs.size f cdv)) (execs (defBody st) (envOfC qual (defScope st) s.heap.objs.size f cdv))
        (SP (cxOf (L2.CX P w) P w K mg base N qual (defScope st) f cdv A outer s H E) [] { nx := fun _ H' => Q .non H', rt := Q })
        (cxOf (L2.CX P w) P w K mg base N qual (defScope st) f cdv A outer s H E).xe s1 := fun s1 I => by
    obtain ⟨t, ht, hq⟩ := hbody A outer s H vs Q E (hr.deeper _) hg hsp
    exact ht.run [] s1 (L2.start N vs) H _ I hq
  have enter : codeAny (model P w) A (.call (.ref f) args) (CR (L2.CX P w) outer P w H s Q E) s := by
    refine codeAny_call_function hr.depth (KX _ _ lk) rfl S.co S.gen rfl (PySem.W.codeRec_of KX hcd) (hb _ _ _ _ ?_)
    refine wpAny_newFunctionEnv_cells S.kind kinds fun env he s1 x1 => ?_
    subst he
    refine ⟨nl.keeps x1.toInCall.keep, codeAny_func (wpAny_mono (body s1 (inv_start S hr.hd e0 hl r x1)) (fun fl s' hs => ?_) fun e s' hs => hs)⟩
    match fl, hs with
    | .ret u, ⟨v, _, H', J, rv, q⟩ => exact ⟨v, H', J.os, J.bare, J.base, J.hok, rv, q⟩
    | .next, ⟨_, H', J, q⟩ => exact ⟨V.non, H', J.os, J.bare, J.base, J.hok, rfl, q⟩
    | .brk, ⟨_, _, _, q⟩ => exact q.elim
    | .cont, ⟨_, _, _, q⟩ => exact q.elim
  exact enter

section
variable {T : Tb} {P : Prog} {C : Stc} {pr : Program} {w : World} {K : PySem.W.Frag} {mg : Str → Option Value} {base : Heap} {k : Nat} {cl : Nat → List D → Hh → Res SV}
/-- a def keeps to its evaluation -/
theorem snd_def (hz : P.rz = T.rz) {x qual : Str} {st : Stmt} {f : Addr} {fd : FuncData} {ps : List Str} {g : Sg} (Fn : Fun K x qual st f fd) (S : FnScope g.N ps (defScope st)) (hok : okDef T g st ps = true) (hlam : g.lam = true → LamAt mg base C.tabs fd qual) (G : Gd pr w K mg base C k P T cl) :
    FnG pr w K mg base (k + 3) f fd ps (spK K C g.d.np (fun ds h => runDef P cl g.d ds h)) := by
  unfold okDef at hok
  simp only [Bool.and_eq_true, decide_eq_true_eq] at hok
  obtain ⟨⟨⟨h1, h2⟩, h3⟩, h4⟩ := hok
  refine fnG_of2 Fn S (fun vs H Q E q => by rw [q.1, h3]) fun A outer s H vs Q E hr hg ⟨hl, F, R, phi, h, ds, S0, rd, cp⟩ => ?_
  have ok : Cok (cxOf (L2.CX pr w) pr w K mg base g.N qual (defScope st) f fd.code A outer s H E) C (fun cls d _ H => E cls d H) k :=
    { nd := S.nd, hu := by have := hr.un; show A.units + 3 + 65 < cLine; have : A.units + 3 + 16 * (k + 2) + 200 < cLine := this; omega, grd := hg, tk := takes_of rfl rfl rfl rfl }
  have cool : Cool (cxOf (L2.CX pr w) pr w K mg base g.N qual (defScope st) f fd.code A outer s H E) k := ⟨rfl, hr.mono (by omega)⟩
  have xs : XS T P cl C k (cxOf (L2.CX pr w) pr w K mg base g.N qual (defScope st) f fd.code A outer s H E) (fun cls d _ H => E cls d H) g.N (defScope st) (dfb g.lam) :=
    { ok := ok, cool := cool, hN := rfl, hsc := rfl, hf := fun _ _ _ => rfl, gd := G
      lam := fun hl => by
        unfold dfb at hl
        rw [if_pos rfl] at hl
        exact ⟨hlam hl, hr⟩ }
  have hdl : ds.length = g.d.np := by rw [← rd.len, hl]
  have en : SR K C F R phi (ds.map .v ++ List.replicate (g.d.ns - g.d.np) .un) h (L2.start g.N vs) H := S0.enter rd (by omega)
  refine ⟨_, snd_Ss hz xs (passes_of rfl) g.d.body h4, F, R, phi, ds.map SV.v ++ List.replicate (g.d.ns - g.d.np) SV.un, h, en, ?_⟩
  have cp : cPost K C F R phi (runDef P cl g.d ds h) Q E := cp
  unfold runDef at cp
  rw [if_pos hdl] at cp
  cases e : evSs P cl g.d.body (ds.map .v ++ List.replicate (g.d.ns - g.d.np) .un) h with
  | nx r h' =>
    rw [e] at cp
    exact fun F' phi' σ' H' s t S' => cp F' phi' .non H' s t S'.bare (by simp only [NewV]; exact VRep.vnon)
  | rt v h' => rw [e] at cp; exact cp
  | exc c h' =>
    rw [e] at cp
    exact fun F' phi' σ' H' s t S' => cp F' phi' H' s t S'
  | bk r h' => rw [e] at cp; exact cp.elim
  | ct r h' => rw [e] at cp; exact cp.elim
  | stk => rw [e] at cp; exact cp.elim
end
/-- what is to be known of each def -/
structure Row (T : Tb) (P : Prog) (K : PySem.W.Frag) (mg : Str → Option Value) (lams : List Str) (x : Str) (f : Nat) : Prop where
  ex : ∃ (ad : Addr) (fd : FuncData) (qual : Str) (st : Stmt) (ps : List Str) (g : Sg), mg x = some (.ref ad) ∧ Fun K x qual st ad fd ∧ FnScope g.N ps (defScope st) ∧ okDef T g st ps = true ∧ P.fn f = some g.d ∧ g.d.dfl = [] ∧ Binds K fd ps [] ∧ (g.lam = true → qual = x ∧ lams.contains x = true)
/-- what is to be known beside the defs -/
structure Ctx (T : Tb) (P : Prog) (K : PySem.W.Frag) (mg : Str → Option Value) (lams : List Str) (pr : Program) (w : World) : Prop where
  rz : P.rz = T.rz
  chk : lamChk K lams = true
  fn : ∀ x f, T.fn x = some f → Row T P K mg lams x f
  gl : ∀ x g, T.gl x = some g → ∃ u v, mg x = some u ∧ RelV v u ∧ ∀ d, P.gl g = some d → ∀ F phi, VRep K F phi d v
  bt : ∀ x, T.bt x = true → mg x = none
  sd : ∀ x, T.sd x = true → SaidR pr w K mg (stcK K lams).tabs x
  ex : T.rz = true → ExAll K mg
section
variable {T : Tb} {P : Prog} {lams : List Str} {pr : Program} {w : World} {K : PySem.W.Frag} {mg : Str → Option Value} {base : Heap}
theorem all_gd (c : Ctx T P K mg lams pr w) (X : K.In base) (N : base.Ns mainGlobals mg) (sm : ∃ m, base.Ns sysModules m) (tb : ∀ t ∈ tabsK K lams, LamX.TabB base mg t.1 t.2.1) :
    ∀ k, Gd pr w K mg base (stcK K lams) (3 * k) P T (callK P k)
  | 0 => by
    refine ⟨fun x f e => ?_, c.gl, c.bt, c.sd, c.ex, sm⟩
    obtain ⟨ad, fd, qual, st, ps, g, h1, h2, _⟩ := (c.fn x f e).ex
    exact ⟨ad, h1, h2.kp, fun X W _ _ _ _ _ ok co pins s σ H vs us Q I rv ⟨F, R, phi, r, h, ds, S, rd, p⟩ => p.elim⟩
  | k + 1 => by
    have IH := all_gd c X N sm tb k
    refine ⟨fun x f e => ?_, c.gl, c.bt, c.sd, c.ex, sm⟩
    obtain ⟨ad, fd, qual, st, ps, g, h1, h2, h3, h4, h5, h6, h7, h8⟩ := (c.fn x f e).ex
    refine ⟨ad, h1, h2.kp, fun Z W e1 e2 e3 e4 e5 ok co => ?_⟩
    subst e1 e2 e3 e4 e5
    have G := snd_def (C := stcK Z.K lams) (pr := Z.prog) (w := Z.w) (base := Z.base) c.rz h2 h3 h4 (fun hl => by
      obtain ⟨q1, q2⟩ := h8 hl
      rw [q1]
      exact lam_at c.chk X N tb h2 h1 (List.contains_iff_mem.mp q2)) IH
    have hp : ps.length = g.d.np := by
      unfold okDef at h4
      simp only [Bool.and_eq_true, decide_eq_true_eq] at h4
      exact h4.1.2
    refine callF_of (k := 3 * (k + 1)) (d := g.d) (g := fun ds h => runDef P (callK P k) g.d ds h) ok co ⟨fd, ps, hp, G, fun n m hn hm => ?_⟩ (fun ds h hl => ?_) (fun ds h => ?_)
    · rw [h6]
      exact ⟨[], [], by rw [List.drop_nil]; rfl, .nil, h7⟩
    · rw [callK, h5]
      show runDef P (callK P k) g.d _ h = _
      unfold runDef
      rw [if_neg]
      rw [h6]
      rw [h6] at hl
      simp only [List.drop_nil, List.append_nil, List.length_nil, Nat.add_zero] at hl ⊢
      omega
    · rw [callK, h5]
/-- the law's own def -/
theorem law_def (c : Ctx T P K mg lams pr w) (X : K.In base) (N : base.Ns mainGlobals mg) (sm : ∃ m, base.Ns sysModules m) (tb : ∀ t ∈ tabsK K lams, LamX.TabB base mg t.1 t.2.1)
    {x : Str} {st : Stmt} {f : Addr} {fd : FuncData} {ps : List Str} {g : Sg} (Fn : Fun K x x st f fd) (S : FnScope g.N ps (defScope st)) (hok : okDef T g st ps = true) (hm : mg x = some (.ref f)) (hl : g.lam = true → lams.contains x = true) (k : Nat) :
    FnG pr w K mg base (3 * k + 3) f fd ps (spK K (stcK K lams) g.d.np (fun ds h => runDef P (callK P k) g.d ds h)) :=
  snd_def c.rz Fn S hok (fun h => lam_at c.chk X N tb Fn hm (List.contains_iff_mem.mp (hl h))) (all_gd c X N sm tb k)
end

/-! ### the end -/
theorem head_t {P : Program} {w : World} {K : PySem.W.Frag} {mg bm : Str → Option Value} {k : Nat} {fa sa : Addr} {fd : FuncData} {x : Str} {sp : Sp} {t : Shared} {us : List Value} {ns : List Int} {cs : List (Addr × Addr × Str)} (KX : K.In t.heap) (n1 : t.heap.Ns mainGlobals mg) (n2 : t.heap.Ns builtinsNs bm)
    (n3 : ∀ x : Str, x ≠ "__name__" → bm x = bootBuiltins x) (nl : t.heap.NoLimit) (g0 : t.gens = #[]) (at0 : t.heap.get? sa = some { cls := .type "list", data := .seq us.toArray }) (iu : IntsAre us ns) (ln : ns.length ≤ sizeLine) (rm : Room k callerA)
    (tabs : ∀ c ∈ cs, PySem.W.CodeHd t.heap c.1 c.2.1 ∧ t.heap.get? c.2.1 = some (PySem.W.tabObj #[]) ∧ K.lookup c.2.1 = none)
    (bmod : ∃ (b : Addr) (ob : Obj), mg "__builtins__" = some (.ref b) ∧ b ≠ builtinsNs ∧ t.heap.get? b = some ob ∧ ob.cls = .type "module" ∧ ob.dict = some builtinsNs ∧ ob.data = .plain)
    (mods : ∃ m, t.heap.Ns sysModules m) (G : ∀ base : Heap, K.In base → base.Ns mainGlobals mg → (∃ m, base.Ns sysModules m) → (∀ c ∈ cs, LamX.TabB base mg c.1 c.2.1) → FnG P w K mg base k fa fd [x] sp) (bd : ∀ (s : Shared) (u : Value), BindsTo s fd ⟨[u], []⟩ [(x, u)])
    (hsp : ∀ H : Hp, (∀ c ∈ cs, H c.2.1 = some (.tbl #[])) → SqL K H sa (ns.map V.int) → sp [.ref sa] H (fun v _ => v = .bl true) fun _ _ _ => False) :
    codeAny (model P w) callerA (.call (.ref fa) ⟨[.ref sa], []⟩) (fun o t' => o = .ok (.ret (.bool true)) ∧ OldK t.heap t'.heap ∧ t'.os = t.os ∧ AllBare t'.gens) t := by
  -- the tables' places
  have tobj : ∀ {b : Addr}, b ∈ cs.map (·.2.1) → t.heap.get? b = some (PySem.W.tabObj #[]) := fun {b} hb => by
    obtain ⟨c, hc, rfl⟩ := List.mem_map.mp hb
    exact (tabs c hc).2.1
  have tmem : ∀ {c : Addr × Addr × Str}, c ∈ cs → c.2.1 ∈ cs.map (·.2.1) := fun hc => List.mem_map.mpr ⟨_, hc, rfl⟩
  have saT : sa ∉ cs.map (·.2.1) := fun z => by
    have q := tobj z
    rw [at0] at q
    exact nomatch (show Data.seq us.toArray _ = Data.fields #[] from congrArg Obj.data (Option.some.inj q))
  have go : ∀ H : Hp, (∀ b, H b = none ∨ (b ∈ cs.map (·.2.1) ∧ H b = some (.tbl #[])) ∨ ∃ o l, H b = some (.frz o (.lst l))) → (∀ b, b ∈ cs.map (·.2.1) → H b = some (.tbl #[])) → SqL K H sa (ns.map V.int) → HOk P w H t.heap → (∀ b, b ≠ sa → b ∉ cs.map (·.2.1) → H b = none) → (K.lookup sa = none ∨ H sa = none) →
      codeAny (model P w) callerA (.call (.ref fa) ⟨[.ref sa], []⟩) (fun o t' => o = .ok (.ret (.bool true)) ∧ OldK t.heap t'.heap ∧ t'.os = t.os ∧ AllBare t'.gens) t := fun H only isT sq hk out lone => by
    -- what is neither the script nor a table is untracked
    have free : ∀ {b : Addr} {ob : Obj}, t.heap.get? b = some ob → (∀ us n, ob.data ≠ .seq us n) → ob.data ≠ .fields #[] → H b = none := fun {b ob} e1 e2 e3 => out b (fun z => by
      rw [z, at0] at e1
      cases e1
      exact e2 _ _ rfl) fun z => by
      rw [tobj z] at e1
      cases e1
      exact e3 rfl
    have dictFree : ∀ {b : Addr} {ob : Obj} {x1 : Array DictEntry} {x2 : Nat}, t.heap.get? b = some ob → ob.data = .dict x1 x2 → H b = none := fun {b ob x1 x2} e1 e2 =>
      free e1 (fun _ _ z => nomatch e2.symm.trans z) fun z => nomatch e2.symm.trans z
    have nsB : ∀ {b : Addr} {m : Str → Option Value}, t.heap.Ns b m → (hidT t.heap H).Ns b m := fun {b m} q => by
      obtain ⟨ob, x1, x2, q1, q2, q3⟩ := q
      exact ⟨ob, x1, x2, hidT_get q1 (dictFree q1 q2), q2, q3⟩
    have kinB : K.In (hidT t.heap H) := fun b ob q => by
      refine hidT_get (KX b ob q) ?_
      by_cases z : b = sa
      · rcases lone with l | l
        · rw [z, l] at q
          cases q
        · rw [z]
          exact l
      · refine out b z fun hb => ?_
        obtain ⟨c, hc, rfl⟩ := List.mem_map.mp hb
        rw [(tabs c hc).2.2] at q
        cases q
    obtain ⟨mc, c1, c2⟩ := nl
    have en : Env0 P w K mg (hidT t.heap H) callerA [] t H :=
      { frames := rfl, mod := { kin := kinB, glob := nsB n1, blt := ⟨bm, nsB n2, n3⟩, nolimit := ⟨mc, nsB c1, c2⟩ }, bs := fun _ _ q => of_hidT q, bsz := Nat.le_of_eq (hidT_size _ _), funs := trivial, frf := fun b q => (List.not_mem_nil (a := b) q).elim, hok := hk, bare := .of_eq g0 }
    have tb : ∀ c ∈ cs, LamX.TabB (hidT t.heap H) mg c.1 c.2.1 := fun c hc => by
      obtain ⟨code, tobj1, _⟩ := tabs c hc
      refine ⟨?_, ?_, fun z => ?_⟩
      · obtain ⟨o, vs, x1, x2, x3, x4, x5, x6, x7, y1, y2, y3, y4, y5⟩ := code
        refine ⟨o, vs, x1, x2, x3, x4, x5, x6, x7, hidT_get y1 (free y1 (fun _ _ z => nomatch y3.symm.trans z) fun z => ?_), y2, y3, y4, y5⟩
        have e := y3.symm.trans z
        cases e
        simp at y4
      · obtain ⟨b, ob, b1, b2, b3, b4, b5, b6⟩ := bmod
        refine ⟨b, ob, b1, b2, fun z => ?_, fun z => ?_, hidT_get b3 (free b3 (fun _ _ z => nomatch b6.symm.trans z) fun z => nomatch b6.symm.trans z), b4, b5, b6⟩
        · obtain ⟨og, x1, x2, q1, q2, _⟩ := n1
          rw [z, q1] at b3
          cases b3
          exact nomatch b6.symm.trans q2
        · rw [z, tobj1] at b3
          cases b3
          exact nomatch (show Data.fields #[] = Data.plain from b6)
      · obtain ⟨og, x1, x2, q1, q2, _⟩ := n1
        rw [z, tobj1] at q1
        cases q1
        exact nomatch (show Data.fields #[] = Data.dict x1 x2 from q2)
    obtain ⟨mm, modsM⟩ := mods
    have ran := (G _ kinB (nsB n1) ⟨mm, nsB modsM⟩ tb).run callerA [] t H ⟨[.ref sa], []⟩ [.ref sa] [.ref sa] _ _ rm rfl en (bd t (.ref sa)) (.cons rfl .nil) (hsp H (fun c hc => isT _ (tmem hc)) sq)
    refine codeAny_mono ran fun o t' post => ?_
    match o, post with
    | .error e, post =>
      obtain ⟨_, _, _, _, _, _, _, _, _, _, _, _, post⟩ := post
      exact post.elim
    | .ok .next, post => exact post.elim
    | .ok .brk, post => exact post.elim
    | .ok .cont, post => exact post.elim
    | .ok (.ret u), ⟨v, H2, same, bare, un, hk2, rv, qv⟩ =>
      obtain rfl : v = .bl true := qv
      obtain rfl : u = Value.bool true := rv
      have stay : ∀ {b : Addr} {ob : Obj}, t.heap.get? b = some ob → b ∉ cs.map (·.2.1) → t'.heap.get? b = some ob := fun {b ob} q nb => by
        rcases only b with z | ⟨z, _⟩ | ⟨o1, l1, z⟩
        · exact un.keep b ob q z (fun y => (List.not_mem_nil (a := b) y).elim) (fun y => (List.not_mem_nil (a := b) y).elim)
        · exact absurd z nb
        · obtain ⟨q1, _⟩ := hk b _ z
          obtain ⟨q2, _⟩ := hk2 b _ (un.frzs b o1 _ z)
          rw [q] at q1
          cases q1
          exact q2
      have grown : ∀ c ∈ cs, ∃ more : Array Value, t'.heap.get? c.2.1 = some (PySem.W.tabObj more) := fun c hc => by
        obtain ⟨more, z⟩ := un.tbls _ #[] (isT _ (tmem hc))
        exact ⟨_, hk2 _ _ z⟩
      refine ⟨rfl, ⟨fun b ob q => ?_, fun b ob q => ?_⟩, same, bare⟩
      · by_cases hb : b ∈ cs.map (·.2.1)
        · obtain ⟨c, hc, rfl⟩ := List.mem_map.mp hb
          obtain ⟨more, z⟩ := grown c hc
          have q0 := (tabs c hc).2.1
          rw [q0] at q
          cases q
          exact .inr (.inl ⟨((tabs c hc).1.tab q0).isCodeTable, rfl, #[], more, rfl, by rw [Array.empty_append]; exact z⟩)
        · exact .inl (stay q hb)
      · by_cases hb : b ∈ cs.map (·.2.1)
        · obtain ⟨c, hc, rfl⟩ := List.mem_map.mp hb
          obtain ⟨more, z⟩ := grown c hc
          exact ⟨_, z⟩
        · exact ⟨ob, stay q hb⟩
  have rv := vals_ints iu
  let tabH : Hp := fun b => if b ∈ cs.map (·.2.1) then some (.tbl #[]) else none
  have tabY : ∀ {b : Addr}, b ∈ cs.map (·.2.1) → tabH b = some (.tbl #[]) := fun hb => if_pos hb
  have tabN : ∀ {b : Addr}, b ∉ cs.map (·.2.1) → tabH b = none := fun hb => if_neg hb
  have tabC : ∀ b, tabH b = none ∨ (b ∈ cs.map (·.2.1) ∧ tabH b = some (.tbl #[])) := fun b => by
    by_cases hb : b ∈ cs.map (·.2.1)
    · exact .inr ⟨hb, tabY hb⟩
    · exact .inl (tabN hb)
  cases inK : K.lookup sa with
  | some ob =>
    have same := KX sa ob inK
    rw [at0] at same
    cases same
    refine go tabH (fun b => (tabC b).imp id .inl) (fun b hb => tabY hb) (.inr ⟨_, us.toArray, 0, inK, rfl, rfl, rfl, by rw [List.size_toArray, iu.length]; exact ln, by simpa using rv⟩) (fun b u z => ?_) (fun b _ hb => tabN hb) (.inr (tabN saT))
    rcases tabC b with q | ⟨hb, q⟩
    · rw [q] at z
      cases z
    · rw [q] at z
      cases z
      exact tobj hb
  | none =>
    let known : HO := .frz { cls := .type "list", data := .seq us.toArray } (.lst (ns.map V.int))
    have yes : ∀ b, b = sa → (fun b => if b = sa then some known else tabH b : Hp) b = some known := fun b z => if_pos z
    have not : ∀ b, b ≠ sa → (fun b => if b = sa then some known else tabH b : Hp) b = tabH b := fun b z => if_neg z
    refine go (fun b => if b = sa then some known else tabH b) (fun b => ?_) (fun b hb => (not b fun z => saT (z ▸ hb)).trans (tabY hb)) (.inl (.inr ⟨_, yes sa rfl⟩)) (fun b u z => ?_) (fun b z hb => (not b z).trans (tabN hb)) (.inl inK)
    · by_cases c : b = sa
      · exact .inr (.inr ⟨_, _, yes b c⟩)
      · rcases tabC b with q | ⟨hb, q⟩
        · exact .inl ((not b c).trans q)
        · exact .inr (.inl ⟨hb, (not b c).trans q⟩)
    · by_cases c : b = sa
      · have z2 := (yes b c).symm.trans z
        cases z2
        rw [c]
        exact ⟨at0, by rw [List.length_map]; exact ln, us, 0, rv, at0⟩
      · have z2 := (not b c).symm.trans z
        rcases tabC b with q | ⟨hb, q⟩
        · rw [q] at z2
          cases z2
        · rw [q] at z2
          cases z2
          exact tobj hb
/-- what the head leaves, from the law's promise -/
theorem walk_g {l : PySem.W.OpenLaw} {n k : Nat} {q : Program} {loose : List Str} {XP : (Str → Option Value) → Heap → Prop} {YP : World → Heap → Prop} {d : DefRec} {K : Params → PySem.W.Frag} {sp : World → Sp} {x : Str} {lams : List Str} (m1 : l.most = some n) (m2 : n ≤ sizeLine) (nd : d.params.defaults = [])
    (rm : Room k callerA) (kin : ∀ (w : World) (h : Heap), YP w h → (K w.params).In h) (imp : importsNone q = true) (recs : (lams.all fun y => ((recsOf q).find? fun e => e.name == y).isSome) = true) (chk : ∀ w : World, lamChk (K w.params) lams = true)
    (G : ∀ (w : World) (mg : Str → Option Value) (fa : Addr) (h : Heap), (K w.params).In h → h.Ns mainGlobals mg → mg d.name = some (.ref fa) → ∃ fd : FuncData, (∀ (s : Shared) (u : Value), BindsTo s fd ⟨[u], []⟩ [(x, u)]) ∧
      ∀ base : Heap, (K w.params).In base → base.Ns mainGlobals mg → (∃ m, base.Ns sysModules m) → (∀ t ∈ tabsK (K w.params) lams, LamX.TabB base mg t.1 t.2.1) → FnG l.prog w (K w.params) mg base k fa fd [x] (sp w))
    (end_ : ∀ (w : World) (H : Hp) (a : Addr) (ns : List Int), ns.length ≤ n → (∀ z ∈ ns, Builtin.Int.intBits z ≤ 1048576) → (∀ t ∈ tabsK (K w.params) lams, H t.2.1 = some (.tbl #[])) → SqL (K w.params) H a (ns.map V.int) → sp w [.ref a] H (fun v _ => v = .bl true) fun _ _ _ => False) :
    PySem.W.WalkO q loose XP YP l.row.toRowW d [] (fun f vs => PySem.call f vs) := by
  refine Att.attach_callB m1 nd fun w s0 t mg bm fa ob pm cd doc sa us ns gr yy _ _ _ named at0 iu len bits g0 => ?_
  have kx := kin w _ yy
  obtain ⟨fd, bd, pf⟩ := G w mg fa _ kx gr.T.g named
  refine head_t (cs := tabsK (K w.params) lams) kx gr.T.g gr.T.b gr.T.builtins gr.T.nolimit g0 at0 iu (Nat.le_trans len m2) rm (fun c hc => ?_) gr.T.bmain (let ⟨mm, z, _⟩ := (gr.T.seer imp).mods; ⟨mm, z⟩) pf bd fun H ht sq => end_ w H sa ns len bits ht sq
  obtain ⟨y, hy, e, _⟩ := tabsK_mem hc
  obtain ⟨c2, P2, e2, e3⟩ := lamChk_at (chk w) hy
  rw [e] at e2
  cases e2
  have r := List.all_eq_true.mp recs y hy
  cases hd : (recsOf q).find? (fun e => e.name == y) with
  | none => rw [hd] at r; cases r
  | some dr =>
    obtain ⟨z1, z2⟩ := PySem.W.tab_of gr.T kx hd e
    exact ⟨z1, z2, e3⟩
end MP


set_option Elab.async false
set_option linter.all false
set_option maxHeartbeats 4000000
/-! What a law's text leaves to be said of the top. -/
namespace MP
open PySem PySem.Spec PyProof.Rows L2
theorem fa_nil {α : Type} {Q : Str → α → Prop} : ∀ p ∈ ([] : List (Str × α)), Q p.1 p.2 := fun p h => by cases h
theorem fa_cons {α : Type} {Q : Str → α → Prop} {a : Str} {b : α} {l : List (Str × α)} (h : Q a b) (t : ∀ p ∈ l, Q p.1 p.2) : ∀ p ∈ (a, b) :: l, Q p.1 p.2 := fun p hp => by
  rcases List.mem_cons.mp hp with rfl | hp
  · exact h
  · exact t p hp
theorem look_all {α : Type} {Q : Str → α → Prop} {l : List (Str × α)} (h : ∀ p ∈ l, Q p.1 p.2) (x : Str) (f : α) (e : l.lookup x = some f) : Q x f := h (x, f) (PySem.mem_of_lookup e)
theorem fn_nil {Q : Str → Prop} : ∀ x ∈ ([] : List Str), Q x := fun p h => by cases h
theorem fn_cons {Q : Str → Prop} {a : Str} {l : List Str} (h : Q a) (t : ∀ x ∈ l, Q x) : ∀ x ∈ a :: l, Q x := fun p hp => by
  rcases List.mem_cons.mp hp with rfl | hp
  · exact h
  · exact t p hp
theorem cont_all {Q : Str → Prop} {l : List Str} (h : ∀ x ∈ l, Q x) (x : Str) (e : l.contains x = true) : Q x := h x (List.contains_iff_mem.mp e)
section
variable {P : Prog} {K : PySem.W.Frag} {mg : Str → Option Value} {x : Str} {g : Nat}
def GlOk (P : Prog) (K : PySem.W.Frag) (mg : Str → Option Value) (x : Str) (g : Nat) : Prop := ∃ u v, mg x = some u ∧ RelV v u ∧ ∀ d, P.gl g = some d → ∀ F phi, VRep K F phi d v
theorem gl_int {n : Int} {t : Tok} (h : mg x = some (.int n t)) (e : P.gl g = some (.int n)) : GlOk P K mg x g := ⟨_, .int n, h, ⟨t, rfl⟩, fun d q F phi => by
  rw [e] at q
  cases q
  exact VRep.vint n⟩
theorem gl_str {s : List Nat} {z : Str} {t : Tok} (h : mg x = some (.str z t)) (hz : strOf s z = true) (e : P.gl g = some (.str s)) : GlOk P K mg x g := ⟨_, .str z, h, ⟨t, rfl⟩, fun d q F phi => by
  rw [e] at q
  cases q
  rw [strOf_ok hz]
  exact VRep.vstr s⟩
theorem gl_ints {a : Addr} {ns : List Int} {its : Array Value} {n : Nat} {dc : Option Addr} {sl : Array (Option Value)} (h : mg x = some (.ref a)) (l : K.lookup a = some ⟨.type "tuple", dc, .seq its n, sl⟩) (v : Vals (ns.map V.int) its.toList) (hs : its.size ≤ 1000) (e : P.gl g = some (.tup (ns.map .int))) : GlOk P K mg x g :=
  ⟨_, .ref a, h, rfl, fun d q F phi => by
    rw [e] at q
    cases q
    simp only [VRep]
    exact ⟨a, _, rfl, .inr ⟨_, its, n, l, rfl, rfl, by rw [sizeLine_eq]; omega, v⟩, VReps.map D.int V.int VRep.vint ns⟩⟩
end
/-- a def that says what a call ends with, by the looks at its text and at the refusal's def -/
def saidC (tw : Bool) (a e r : Str) (st : Stmt) : Bool := saidB tw a e r (defBody st) && decide ((defScope st).names.lookup a = some .local) && decide ((defScope st).names.lookup e = some .local) && decide ((defScope st).names.lookup ("SpanError" : Str) = some .globalImplicit) && decide ((defScope st).names.lookup r = some .globalImplicit) && dunB a && dunB e && dunB r
theorem saidR_of {pr : Program} {w : World} {K : PySem.W.Frag} {mg : Str → Option Value} {tabs : List (Addr × Str)} {x : Str} {g : Addr} {fd : FuncData} {st : Stmt} {a e r : Str} {tw : Bool} {rf : Addr} {rd : FuncData} {rx : Str} (h1 : mg x = some (.ref g)) (h2 : Fun K x x st g fd) (h3 : FnScope [a, e] [a] (defScope st)) (h4 : L2.Binds K fd [a] [])
    (hc : saidC tw a e r st = true) (h5 : mg r = some (.ref rf)) (h6 : PySem.W.keepIn K (.ref rf) = true) (h7 : L2.Binds K rd [rx] []) (h8 : FnX pr w K mg tabs rf rd rx tw) (E : ExAll K mg) : SaidR pr w K mg tabs x := by
  unfold saidC at hc
  simp only [Bool.and_eq_true, decide_eq_true_eq] at hc
  obtain ⟨⟨⟨⟨⟨⟨⟨c1, c2⟩, c3⟩, c4⟩, c5⟩, c6⟩, c7⟩, c8⟩ := hc
  exact ⟨g, fd, st, a, e, r, tw, rf, rd, rx, h1, h2, h3, h4, c1, c2, c3, c4, c5, (dunB_ok c6).1, (dunB_ok c6).2, (dunB_ok c7).1, (dunB_ok c7).2, (dunB_ok c8).1, h5, h6, h7, h8, E⟩
theorem room_31 : Room (3 * 30 + 3) callerA := ⟨rfl, by decide, by decide⟩
/-- the head's goal, from the law's evaluation -/
theorem walk_law {l : PySem.W.OpenLaw} {k : Nat} {q : Program} {loose : List Str} {XP : (Str → Option Value) → Heap → Prop} {YP : World → Heap → Prop} {d : DefRec} {K : Params → PySem.W.Frag} {g : List D → Hh → Res SV} {x : Str} (lams : List Str) (m1 : l.most = some 63) (nd : d.params.defaults = [])
    (rm : Room k callerA) (kin : ∀ (w : World) (h : Heap), YP w h → (K w.params).In h) (imp : importsNone q = true) (recs : (lams.all fun y => ((recsOf q).find? fun e => e.name == y).isSome) = true) (chk : ∀ w : World, lamChk (K w.params) lams = true)
    (G : ∀ (w : World) (mg : Str → Option Value) (fa : Addr) (h : Heap), (K w.params).In h → h.Ns mainGlobals mg → mg d.name = some (.ref fa) → ∃ fd : FuncData, (∀ (s : Shared) (u : Value), BindsTo s fd ⟨[u], []⟩ [(x, u)]) ∧
      ∀ base : Heap, (K w.params).In base → base.Ns mainGlobals mg → (∃ m, base.Ns sysModules m) → (∀ t ∈ tabsK (K w.params) lams, LamX.TabB base mg t.1 t.2.1) → FnG l.prog w (K w.params) mg base k fa fd [x] (spK (K w.params) (stcK (K w.params) lams) 1 g))
    (run : ∀ ns : List Int, ns.length ≤ 63 → (∀ z ∈ ns, Builtin.Int.intBits z ≤ 1048576) → ∃ h', g [.scr ns] [] = .ok (.v (.bl true)) h') :
    PySem.W.WalkO q loose XP YP l.row.toRowW d [] (fun f vs => PySem.call f vs) := by
  refine walk_g (n := 63) (lams := lams) (sp := fun w => spK (K w.params) (stcK (K w.params) lams) 1 g) m1 (by rw [sizeLine_eq]; omega) nd rm kin imp recs chk G fun w H a ns len bits ht sq => ?_
  obtain ⟨h', e⟩ := run ns len bits
  let F : Hp := fun b => match H b with
    | some (.tbl _) => none
    | o => o
  have fF : ∀ {b : Addr} {o : HO}, F b = some o → H b = some o ∧ ∀ ps, o ≠ .tbl ps := fun h => noTb_some h
  refine ⟨rfl, F, fun _ => none, [], [], [.scr ns], ⟨⟨fun b o z => (fF z).1, rfl, fun n a o z => by simp at z, fun n a z => by simp at z, fun p hp => ?_, fun a ps z => (fF z).2 ps rfl, fun m n a z => by simp at z⟩, fun a o z => (by cases z), fun a o z => (by cases z), fun n a z => by simp at z, fun i a z => z.nil.elim, fun a ps z => (by cases z), rfl, fun i sv z => by simp at z, fun i j a z => z.nil.elim⟩, ?_, ?_⟩
  · obtain ⟨t, h1, rfl⟩ := List.mem_map.mp hp
    exact ⟨#[], ht t h1, trivial, fun pos cv z => by simp [PySem.codeAmong] at z⟩
  · refine VReps.cons ?_ VReps.nil
    simp only [VRep]
    refine ⟨a, rfl, ?_⟩
    rcases sq with (q | ⟨o, q⟩) | q
    · exact .inl (.inl (noTb_of q fun ps z => by cases z))
    · exact .inl (.inr ⟨o, noTb_of q fun ps z => by cases z⟩)
    · exact .inr q
  · rw [e]
    intro F' phi' v H' _ _ _ n
    have n : VRep (K w.params) F' phi' (.bl true) v := n
    simpa only [VRep] using n
end MP


set_option Elab.async false
set_option linter.all false
namespace MP
section
variable (h : Hh) (i j : Int) (b : Bool) (xs ys : List D) (kvs : List (Ky × D)) (ns : List Int) (n : Nat)
@[simp] theorem truth_non : truth .non h = some false := rfl
@[simp] theorem truth_bl : truth (.bl b) h = some b := rfl
@[simp] theorem truth_int : truth (.int i) h = some (decide (i ≠ 0)) := rfl
@[simp] theorem truth_lst : truth (.lst xs) h = some (!xs.isEmpty) := rfl
@[simp] theorem truth_tup : truth (.tup xs) h = some (!xs.isEmpty) := rfl
@[simp] theorem isi_int_int : isiD (.int i) .int h = some true := rfl
@[simp] theorem isi_int_bool : isiD (.int i) .bool h = some false := rfl
@[simp] theorem isi_int_tuple : isiD (.int i) .tuple h = some false := rfl
@[simp] theorem isi_int_list : isiD (.int i) .list h = some false := rfl
@[simp] theorem isi_int_str : isiD (.int i) .str h = some false := rfl
@[simp] theorem isi_tup_tuple : isiD (.tup xs) .tuple h = some true := rfl
@[simp] theorem isi_tup_int : isiD (.tup xs) .int h = some false := rfl
@[simp] theorem isi_tup_list : isiD (.tup xs) .list h = some false := rfl
@[simp] theorem cmp_lt : cmpop .lt (.int i) (.int j) h = some (decide (i < j)) := rfl
@[simp] theorem cmp_le : cmpop .le (.int i) (.int j) h = some (decide (i ≤ j)) := rfl
@[simp] theorem cmp_gt : cmpop .gt (.int i) (.int j) h = some (decide (j < i)) := rfl
@[simp] theorem cmp_ge : cmpop .ge (.int i) (.int j) h = some (decide (j ≤ i)) := rfl
@[simp] theorem cmp_eqI : cmpop .eq (.int i) (.int j) h = some (decide (i = j)) := by
  by_cases e : i = j <;> simp [cmpop, deref, D.plain, D.eqv, D.isStr, e]
@[simp] theorem cmp_neI : cmpop .ne (.int i) (.int j) h = some (decide (i ≠ j)) := by
  by_cases e : i = j <;> simp [cmpop, deref, D.plain, D.eqv, D.isStr, e]
@[simp] theorem cmp_eqS (s t : List Nat) : cmpop .eq (.str s) (.str t) h = some (s == t) := rfl
@[simp] theorem cmp_neS (s t : List Nat) : cmpop .ne (.str s) (.str t) h = some (!(s == t)) := rfl
@[simp] theorem bin_addI : binop .add (.int i) (.int j) h = some (.int (i + j)) := rfl
@[simp] theorem bin_subI : binop .sub (.int i) (.int j) h = some (.int (i - j)) := rfl
@[simp] theorem bin_mulI : binop .mul (.int i) (.int j) h = if i.natAbs.log2 + j.natAbs.log2 < 1000000 then some (.int (i * j)) else none := rfl
@[simp] theorem bin_divI : binop .fdiv (.int i) (.int j) h = if 0 < j ∧ j.natAbs.log2 < 9000 then some (.int (i / j)) else none := rfl
@[simp] theorem bin_modI : binop .mod (.int i) (.int j) h = if 0 < j then some (.int (i % j)) else none := rfl
@[simp] theorem bin_powI : binop .pow (.int i) (.int j) h = if 0 ≤ j ∧ j ≤ 1000 ∧ i.natAbs < 2 ^ 64 then some (.int (i ^ j.toNat)) else none := rfl
@[simp] theorem bin_addL : binop .add (.lst xs) (.lst ys) h = if xs.length + ys.length ≤ lim then some (.lst (xs ++ ys)) else none := rfl
@[simp] theorem bin_addT : binop .add (.tup xs) (.tup ys) h = if xs.length + ys.length ≤ lim then some (.tup (xs ++ ys)) else none := rfl
@[simp] theorem sub_tup : subD (.tup xs) (.int i) h = L2.atI xs i := rfl
@[simp] theorem sub_lst : subD (.lst xs) (.int i) h = L2.atI xs i := rfl
@[simp] theorem sub_scr : subD (.scr ns) (.int i) h = (L2.atI ns i).map .int := rfl
theorem sub_ref {h : Hh} {n : Nat} {xs : List D} (e : h[n]? = some (.lst xs)) : subD (.ref n) (.int i) h = L2.atI xs i := by
  simp only [subD, items, e]
@[simp] theorem blt_lenT : blt .len [.tup xs] h = some (.int xs.length) := rfl
@[simp] theorem blt_lenL : blt .len [.lst xs] h = some (.int xs.length) := rfl
@[simp] theorem blt_lenS : blt .len [.scr ns] h = some (.int ns.length) := rfl
@[simp] theorem blt_abs : blt .abs [.int i] h = some (.int (if i < 0 then -i else i)) := rfl
@[simp] theorem blt_all : blt .all [.lst xs] h = (boolsD xs).map fun bs => .bl (bs.all id) := rfl
@[simp] theorem blt_any : blt .any [.lst xs] h = (boolsD xs).map fun bs => .bl (bs.any id) := rfl
@[simp] theorem blt_sum : blt .sum [.lst xs] h = (intsD xs).map fun bs => .int bs.sum := rfl
@[simp] theorem blt_intB : blt .int [.bl b] h = some (.int (if b then 1 else 0)) := rfl
@[simp] theorem blt_intI : blt .int [.int i] h = some (.int i) := rfl
@[simp] theorem blt_max : blt .max [.int i, .int j] h = some (.int (if j > i then j else i)) := rfl
@[simp] theorem blt_min : blt .min [.int i, .int j] h = some (.int (if j < i then j else i)) := rfl
@[simp] theorem blt_tupL : blt .tuple [.lst xs] h = some (.tup xs) := rfl
@[simp] theorem blt_tupT : blt .tuple [.tup xs] h = some (.tup xs) := rfl
@[simp] theorem blt_lstT : blt .list [.tup xs] h = some (.lst xs) := rfl
@[simp] theorem blt_lstL : blt .list [.lst xs] h = some (.lst xs) := rfl
end
section
variable {P : Prog} {cl : Nat → List D → Hh → Res SV}
@[simp] theorem evC_val (e : E) (r : Env) (h : Hh) : evC P cl e r h = (evE P cl e r h).bind fun x h1 => opt (truth x h1) h1 := rfl
@[simp] theorem if_res {α β : Type} (c : Prop) [Decidable c] (a b : Res α) (f : α → Hh → Res β) : (if c then a else b).bind f = if c then a.bind f else b.bind f := by split <;> rfl
@[simp] theorem opt_if {α : Type} (c : Prop) [Decidable c] (a b : Option α) (h : Hh) : opt (if c then a else b) h = if c then opt a h else opt b h := by split <;> rfl
@[simp] theorem q_evE_1 : type_of% @evE.eq_1 := @evE.eq_1
@[simp] theorem q_evE_2 : type_of% @evE.eq_2 := @evE.eq_2
@[simp] theorem q_evE_3 : type_of% @evE.eq_3 := @evE.eq_3
@[simp] theorem q_evE_4 : type_of% @evE.eq_4 := @evE.eq_4
@[simp] theorem q_evE_5 : type_of% @evE.eq_5 := @evE.eq_5
@[simp] theorem q_evE_6 : type_of% @evE.eq_6 := @evE.eq_6
@[simp] theorem q_evE_7 : type_of% @evE.eq_7 := @evE.eq_7
@[simp] theorem q_evE_8 : type_of% @evE.eq_8 := @evE.eq_8
@[simp] theorem q_evE_9 : type_of% @evE.eq_9 := @evE.eq_9
@[simp] theorem q_evE_10 : type_of% @evE.eq_10 := @evE.eq_10
@[simp] theorem q_evE_11 : type_of% @evE.eq_11 := @evE.eq_11
@[simp] theorem q_evE_12 : type_of% @evE.eq_12 := @evE.eq_12
@[simp] theorem q_evE_13 : type_of% @evE.eq_13 := @evE.eq_13
@[simp] theorem q_evE_14 : type_of% @evE.eq_14 := @evE.eq_14
@[simp] theorem q_evE_15 : type_of% @evE.eq_15 := @evE.eq_15
@[simp] theorem q_evE_16 : type_of% @evE.eq_16 := @evE.eq_16
@[simp] theorem q_evE_17 : type_of% @evE.eq_17 := @evE.eq_17
@[simp] theorem q_evE_18 : type_of% @evE.eq_18 := @evE.eq_18
@[simp] theorem q_evE_19 : type_of% @evE.eq_19 := @evE.eq_19
@[simp] theorem q_evE_20 : type_of% @evE.eq_20 := @evE.eq_20
@[simp] theorem q_evE_21 : type_of% @evE.eq_21 := @evE.eq_21
@[simp] theorem q_evE_22 : type_of% @evE.eq_22 := @evE.eq_22
@[simp] theorem q_evE_23 : type_of% @evE.eq_23 := @evE.eq_23
@[simp] theorem q_evE_24 : type_of% @evE.eq_24 := @evE.eq_24
@[simp] theorem q_evE_25 : type_of% @evE.eq_25 := @evE.eq_25
@[simp] theorem q_evE_26 : type_of% @evE.eq_26 := @evE.eq_26
@[simp] theorem q_evE_27 : type_of% @evE.eq_27 := @evE.eq_27
@[simp] theorem q_evE_28 : type_of% @evE.eq_28 := @evE.eq_28
@[simp] theorem q_evE_29 : type_of% @evE.eq_29 := @evE.eq_29
@[simp] theorem q_evE_30 : type_of% @evE.eq_30 := @evE.eq_30
@[simp] theorem q_evE_31 : type_of% @evE.eq_31 := @evE.eq_31
@[simp] theorem q_evE_32 : type_of% @evE.eq_32 := @evE.eq_32
@[simp] theorem q_evE_33 : type_of% @evE.eq_33 := @evE.eq_33
@[simp] theorem q_evE_34 : type_of% @evE.eq_34 := @evE.eq_34
@[simp] theorem q_evE_35 : type_of% @evE.eq_35 := @evE.eq_35
@[simp] theorem q_evE_36 : type_of% @evE.eq_36 := @evE.eq_36
/-- what is said of a call -/
def Res.said : Res D → Res D
  | .ok d h => .ok (.tup [.str wTold, d]) h
  | .exc c h => if c.okc = true then .ok (.tup [.str (exW c)]) h else .stk
  | .stk => .stk
@[simp] theorem said_ok (d : D) (h : Hh) : Res.said (.ok d h) = .ok (.tup [.str wTold, d]) h := rfl
@[simp] theorem said_exc (c : Ex) (h : Hh) : Res.said (.exc c h) = if c.okc = true then .ok (.tup [.str (exW c)]) h else .stk := rfl
@[simp] theorem ev_said (e : E) (r : Env) (h : Hh) : evE P cl (.said e) r h = (evE P cl e r h).said := by
  rw [evE]
  cases evE P cl e r h <;> rfl
@[simp] theorem q_evE_38 : type_of% @evE.eq_38 := @evE.eq_38
@[simp] theorem q_evE_39 : type_of% @evE.eq_39 := @evE.eq_39
@[simp] theorem q_evE_40 : type_of% @evE.eq_40 := @evE.eq_40
@[simp] theorem q_evEs_1 : type_of% @evEs.eq_1 := @evEs.eq_1
@[simp] theorem q_evEs_2 : type_of% @evEs.eq_2 := @evEs.eq_2
@[simp] theorem q_evAnd_1 : type_of% @evAnd.eq_1 := @evAnd.eq_1
@[simp] theorem q_evAnd_2 : type_of% @evAnd.eq_2 := @evAnd.eq_2
@[simp] theorem q_evAnd_3 : type_of% @evAnd.eq_3 := @evAnd.eq_3
@[simp] theorem q_evOr_1 : type_of% @evOr.eq_1 := @evOr.eq_1
@[simp] theorem q_evOr_2 : type_of% @evOr.eq_2 := @evOr.eq_2
@[simp] theorem q_evOr_3 : type_of% @evOr.eq_3 := @evOr.eq_3
@[simp] theorem q_evIfs_1 : type_of% @evIfs.eq_1 := @evIfs.eq_1
@[simp] theorem q_evIfs_2 : type_of% @evIfs.eq_2 := @evIfs.eq_2
@[simp] theorem q_evIt_1 : type_of% @evIt.eq_1 := @evIt.eq_1
@[simp] theorem q_evIt_2 : type_of% @evIt.eq_2 := @evIt.eq_2
@[simp] theorem q_evIt_3 : type_of% @evIt.eq_3 := @evIt.eq_3
@[simp] theorem q_evIt_4 : type_of% @evIt.eq_4 := @evIt.eq_4
@[simp] theorem q_evIt_5 : type_of% @evIt.eq_5 := @evIt.eq_5
@[simp] theorem q_evIt_6 : type_of% @evIt.eq_6 := @evIt.eq_6
@[simp] theorem q_evS_1 : type_of% @evS.eq_1 := @evS.eq_1
@[simp] theorem q_evS_2 : type_of% @evS.eq_2 := @evS.eq_2
@[simp] theorem q_evS_3 : type_of% @evS.eq_3 := @evS.eq_3
@[simp] theorem q_evS_4 : type_of% @evS.eq_4 := @evS.eq_4
@[simp] theorem q_evS_5 : type_of% @evS.eq_5 := @evS.eq_5
@[simp] theorem q_evS_6 : type_of% @evS.eq_6 := @evS.eq_6
@[simp] theorem q_evS_7 : type_of% @evS.eq_7 := @evS.eq_7
@[simp] theorem q_evS_8 : type_of% @evS.eq_8 := @evS.eq_8
@[simp] theorem q_evS_9 : type_of% @evS.eq_9 := @evS.eq_9
@[simp] theorem q_evS_10 : type_of% @evS.eq_10 := @evS.eq_10
@[simp] theorem q_evS_11 : type_of% @evS.eq_11 := @evS.eq_11
@[simp] theorem q_evS_12 : type_of% @evS.eq_12 := @evS.eq_12
@[simp] theorem q_evS_13 : type_of% @evS.eq_13 := @evS.eq_13
@[simp] theorem q_evS_14 : type_of% @evS.eq_14 := @evS.eq_14
@[simp] theorem q_evS_15 : type_of% @evS.eq_15 := @evS.eq_15
@[simp] theorem q_evS_16 : type_of% @evS.eq_16 := @evS.eq_16
@[simp] theorem q_evS_17 : type_of% @evS.eq_17 := @evS.eq_17
@[simp] theorem q_evS_18 : type_of% @evS.eq_18 := @evS.eq_18
@[simp] theorem q_evS_19 : type_of% @evS.eq_19 := @evS.eq_19
@[simp] theorem q_evS_20 : type_of% @evS.eq_20 := @evS.eq_20
@[simp] theorem q_evS_21 : type_of% @evS.eq_21 := @evS.eq_21
@[simp] theorem q_evS_22 : type_of% @evS.eq_22 := @evS.eq_22
@[simp] theorem q_evS_23 : type_of% @evS.eq_23 := @evS.eq_23
@[simp] theorem q_evS_24 : type_of% @evS.eq_24 := @evS.eq_24
@[simp] theorem q_evSs_1 : type_of% @evSs.eq_1 := @evSs.eq_1
@[simp] theorem q_evSs_2 : type_of% @evSs.eq_2 := @evSs.eq_2
@[simp] theorem q_bindTg_1 : type_of% @bindTg.eq_1 := @bindTg.eq_1
@[simp] theorem q_bindTg_2 : type_of% @bindTg.eq_2 := @bindTg.eq_2
@[simp] theorem q_bindTg_3 : type_of% @bindTg.eq_3 := @bindTg.eq_3
@[simp] theorem q_bindTg_4 : type_of% @bindTg.eq_4 := @bindTg.eq_4
@[simp] theorem q_bindTg_5 : type_of% @bindTg.eq_5 := @bindTg.eq_5
@[simp] theorem q_bindTgs_1 : type_of% @bindTgs.eq_1 := @bindTgs.eq_1
@[simp] theorem q_bindTgs_2 : type_of% @bindTgs.eq_2 := @bindTgs.eq_2
@[simp] theorem q_bindTgs_3 : type_of% @bindTgs.eq_3 := @bindTgs.eq_3
@[simp] theorem q_wipeE_1 : type_of% @wipeE.eq_1 := @wipeE.eq_1
@[simp] theorem q_wipeE_2 : type_of% @wipeE.eq_2 := @wipeE.eq_2
@[simp] theorem q_Tg_slots_1 : type_of% @Tg.slots.eq_1 := @Tg.slots.eq_1
@[simp] theorem q_Tg_slots_2 : type_of% @Tg.slots.eq_2 := @Tg.slots.eq_2
@[simp] theorem q_Tg_slots_3 : type_of% @Tg.slots.eq_3 := @Tg.slots.eq_3
@[simp] theorem q_Tg_slots_4 : type_of% @Tg.slots.eq_4 := @Tg.slots.eq_4
@[simp] theorem q_Tg_slotss_1 : type_of% @Tg.slotss.eq_1 := @Tg.slotss.eq_1
@[simp] theorem q_Tg_slotss_2 : type_of% @Tg.slotss.eq_2 := @Tg.slotss.eq_2
@[simp] theorem q_SV_owned_1 : type_of% @SV.owned.eq_1 := @SV.owned.eq_1
@[simp] theorem q_SV_owned_2 : type_of% @SV.owned.eq_2 := @SV.owned.eq_2
@[simp] theorem q_SV_owned_3 : type_of% @SV.owned.eq_3 := @SV.owned.eq_3
@[simp] theorem q_compGo_1 : type_of% @compGo.eq_1 := @compGo.eq_1
@[simp] theorem q_compGo_2 : type_of% @compGo.eq_2 := @compGo.eq_2
@[simp] theorem q_forGo_1 : type_of% @forGo.eq_1 := @forGo.eq_1
@[simp] theorem q_forGo_2 : type_of% @forGo.eq_2 := @forGo.eq_2
@[simp] theorem q_boolsD_1 : type_of% @boolsD.eq_1 := @boolsD.eq_1
@[simp] theorem q_boolsD_2 : type_of% @boolsD.eq_2 := @boolsD.eq_2
@[simp] theorem q_boolsD_3 : type_of% @boolsD.eq_3 := @boolsD.eq_3
@[simp] theorem q_intsD_1 : type_of% @intsD.eq_1 := @intsD.eq_1
@[simp] theorem q_intsD_2 : type_of% @intsD.eq_2 := @intsD.eq_2
@[simp] theorem q_intsD_3 : type_of% @intsD.eq_3 := @intsD.eq_3
@[simp] theorem q_E_isNon_1 : type_of% @E.isNon.eq_1 := @E.isNon.eq_1
@[simp] theorem q_E_isNon_2 : type_of% @E.isNon.eq_2 := @E.isNon.eq_2
@[simp] theorem q_E_fresh_1 : type_of% @E.fresh.eq_1 := @E.fresh.eq_1
@[simp] theorem q_E_fresh_2 : type_of% @E.fresh.eq_2 := @E.fresh.eq_2
@[simp] theorem q_E_fresh_3 : type_of% @E.fresh.eq_3 := @E.fresh.eq_3
@[simp] theorem q_E_fresh_4 : type_of% @E.fresh.eq_4 := @E.fresh.eq_4
@[simp] theorem q_E_fresh_5 : type_of% @E.fresh.eq_5 := @E.fresh.eq_5
@[simp] theorem q_E_fresh_6 : type_of% @E.fresh.eq_6 := @E.fresh.eq_6
@[simp] theorem q_E_fresh_7 : type_of% @E.fresh.eq_7 := @E.fresh.eq_7
@[simp] theorem q_evF_1 : type_of% @evF.eq_1 := @evF.eq_1
@[simp] theorem q_evF_2 : type_of% @evF.eq_2 := @evF.eq_2
@[simp] theorem q_partD_1 : type_of% @partD.eq_1 := @partD.eq_1
@[simp] theorem q_partD_2 : type_of% @partD.eq_2 := @partD.eq_2
@[simp] theorem fz_v (d : D) : SV.fz (.v d) = some d := rfl
@[simp] theorem fz_ol (xs : List D) : SV.fz (.ol xs) = some (.lst xs) := rfl
@[simp] theorem noX_ok {α : Type} (a : α) (h : Hh) : Res.noX (.ok a h) = .ok a h := rfl
@[simp] theorem noX_if {α : Type} (c : Prop) [Decidable c] (a b : Res α) : Res.noX (if c then a else b) = if c then a.noX else b.noX := by split <;> rfl
end
@[simp] theorem atI_0 {α : Type} (a : α) (l : List α) : L2.atI (a :: l) 0 = some a := by simp [L2.atI, L2.ixN]
@[simp] theorem atI_1 {α : Type} (a b : α) (l : List α) : L2.atI (a :: b :: l) 1 = some b := by
  have : (1 : Int) < (l.length : Int) + 1 + 1 := by omega
  simp [L2.atI, L2.ixN, this]
@[simp] theorem atI_2 {α : Type} (a b c : α) (l : List α) : L2.atI (a :: b :: c :: l) 2 = some c := by
  have : (2 : Int) < (l.length : Int) + 1 + 1 + 1 := by omega
  simp [L2.atI, L2.ixN, this]
theorem call_run {P : Prog} {k f : Nat} {ds : List D} {h : Hh} {d : Def} (e : P.fn f = some d) (hd : d.dfl = []) : callK P (k + 1) f ds h = runDef P (callK P k) d ds h := by
  rw [callK, e]
  show runDef P (callK P k) d _ h = _
  rw [hd, List.drop_nil, List.append_nil]
end MP


set_option Elab.async false
set_option linter.all false
set_option maxRecDepth 100000
set_option maxHeartbeats 8000000
namespace MP
open PySem PySem.Spec PyProof.Rows L2
/- is_whole(thing) -/
def d_p_is_whole : Def := { np := 1, dfl := [], ns := 1, body := (.cons (.ret (.and (.cons (.isi (.var 0) .int) (.cons (.not (.isi (.var 0) .bool)) .nil)))) .nil) }
def n_p_is_whole : List PySem.Str := ["thing"]
/- is_from_to(thing, low, high) -/
def d_p_is_from_to : Def := { np := 3, dfl := [], ns := 3, body := (.cons (.ret (.and (.cons (.call 0 (.cons (.var 0) .nil)) (.cons (.cmp2 .le .le (.var 1) (.var 0) (.var 2)) .nil)))) .nil) }
def n_p_is_from_to : List PySem.Str := ["thing", "low", "high"]
def d_p_common_c1 : E := (.cmp .ne (.var 1) (.int 0))
def d_p_common_b1 : Ss := (.cons (.asg (.tup [(.nm 0), (.nm 1)]) (.tup (.cons (.var 1) (.cons (.bin .mod (.var 0) (.var 1)) .nil)))) .nil)
/- common(one, other) -/
def d_p_common : Def := { np := 2, dfl := [], ns := 2, body := (.cons (.whl d_p_common_c1 d_p_common_b1) (.cons (.ret (.blt .abs (.cons (.var 0) .nil))) .nil)) }
def n_p_common : List PySem.Str := ["one", "other"]
/- put(top, bottom, divisor) -/
def d_p_put : Def := { np := 2, dfl := [], ns := 3, body := (.cons (.asg (.nm 2) (.bin .mul (.call 2 (.cons (.var 0) (.cons (.var 1) .nil))) (.ifx (.cmp .gt (.var 1) (.int 0)) (.int 1) (.neg (.int 1))))) (.cons (.ret (.tup (.cons (.bin .fdiv (.var 0) (.var 2)) (.cons (.bin .fdiv (.var 1) (.var 2)) .nil)))) .nil)) }
def n_p_put : List PySem.Str := ["top", "bottom", "divisor"]
/- is_fraction(thing) -/
def d_p_is_fraction : Def := { np := 1, dfl := [], ns := 1, body := (.cons (.ifs (.or (.cons (.not (.isi (.var 0) .tuple)) (.cons (.cmp .ne (.blt .len (.cons (.var 0) .nil)) (.int 2)) (.cons (.not (.call 0 (.cons (.sub (.var 0) (.int 0)) .nil))) (.cons (.not (.call 0 (.cons (.sub (.var 0) (.int 1)) .nil))) .nil))))) (.cons (.ret (.bl false)) .nil) .nil) (.cons (.ret (.and (.cons (.cmp .gt (.sub (.var 0) (.int 1)) (.int 0)) (.cons (.cmp .eq (.call 2 (.cons (.sub (.var 0) (.int 0)) (.cons (.sub (.var 0) (.int 1)) .nil))) (.int 1)) .nil)))) .nil)) }
def n_p_is_fraction : List PySem.Str := ["thing"]
/- is_share(thing) -/
def d_p_is_share : Def := { np := 1, dfl := [], ns := 1, body := (.cons (.ret (.and (.cons (.call 4 (.cons (.var 0) .nil)) (.cons (.cmp2 .le .le (.int 0) (.sub (.var 0) (.int 0)) (.sub (.var 0) (.int 1))) .nil)))) .nil) }
def n_p_is_share : List PySem.Str := ["thing"]
/- is_less(one, other) -/
def d_p_is_less : Def := { np := 2, dfl := [], ns := 2, body := (.cons (.ret (.cmp .lt (.bin .mul (.sub (.var 0) (.int 0)) (.sub (.var 1) (.int 1))) (.bin .mul (.sub (.var 1) (.int 0)) (.sub (.var 0) (.int 1))))) .nil) }
def n_p_is_less : List PySem.Str := ["one", "other"]
/- is_lasting(thing, most) -/
def d_p_is_lasting : Def := { np := 2, dfl := [], ns := 2, body := (.cons (.ifs (.or (.cons (.not (.isi (.var 0) .tuple)) (.cons (.cmp .ne (.blt .len (.cons (.var 0) .nil)) (.int 3)) (.cons (.not (.call 1 (.cons (.sub (.var 0) (.int 0)) (.cons (.int 0) (.cons (.var 1) .nil))))) .nil)))) (.cons (.ret (.bl false)) .nil) .nil) (.cons (.ret (.and (.cons (.call 1 (.cons (.sub (.var 0) (.int 1)) (.cons (.bin .add (.sub (.var 0) (.int 0)) (.int 1)) (.cons (.var 1) .nil)))) (.cons (.call 1 (.cons (.sub (.var 0) (.int 2)) (.cons (.int 0) (.cons (.blt .len (.cons (.glob 5) .nil)) .nil)))) .nil)))) .nil)) }
def n_p_is_lasting : List PySem.Str := ["thing", "most"]
/- is_span(thing) -/
def d_p_is_span : Def := { np := 1, dfl := [], ns := 1, body := (.cons (.ret (.call 14 (.cons (.var 0) (.cons (.glob 2) .nil)))) .nil) }
def n_p_is_span : List PySem.Str := ["thing"]
/- is_book(thing, one) -/
def d_p_is_book : Def := { np := 1, dfl := [], ns := 2, body := (.cons (.ifs (.or (.cons (.not (.isi (.var 0) .tuple)) (.cons (.not (.cmp2 .le .le (.int 1) (.blt .len (.cons (.var 0) .nil)) (.glob 3))) .nil))) (.cons (.ret (.bl false)) .nil) .nil) (.cons (.ret (.blt .all (.cons (.lc (.nm 1) (.e (.var 0)) .nil (.call 15 (.cons (.var 1) .nil))) .nil))) .nil)) }
def n_p_is_book : List PySem.Str := ["thing", "one"]
/- need_book(thing) -/
def d_p_need_book : Def := { np := 1, dfl := [], ns := 1, body := (.cons (.ifs (.not (.call 16 (.cons (.var 0) .nil))) (.cons (.raise .noBook) .nil) .nil) .nil) }
def n_p_need_book : List PySem.Str := ["thing"]
/- need_share(thing) -/
def d_p_need_share : Def := { np := 1, dfl := [], ns := 1, body := (.cons (.ifs (.not (.call 5 (.cons (.var 0) .nil))) (.cons (.raise .noShare) .nil) .nil) .nil) }
def n_p_need_share : List PySem.Str := ["thing"]
/- need_full(thing, begin, until, end) -/
def d_p_need_full : Def := { np := 1, dfl := [], ns := 4, body := (.cons (.expr (.call 17 (.cons (.var 0) .nil))) (.cons (.ifs (.blt .any (.cons (.lc (.tup [(.nm 1), (.nm 2), (.nm 3)]) (.e (.var 0)) .nil (.or (.cons (.cmp .gt (.var 1) (.int 0)) (.cons (.cmp .eq (.var 3) (.int 0)) .nil)))) .nil)) (.cons (.raise .noFull) .nil) .nil) .nil)) }
def n_p_need_full : List PySem.Str := ["thing", "begin", "until", "end"]
/- need_inner(thing) -/
def d_p_need_inner : Def := { np := 1, dfl := [], ns := 1, body := (.cons (.ifs (.or (.cons (.not (.call 4 (.cons (.var 0) .nil))) (.cons (.not (.cmp2 .lt .lt (.int 0) (.sub (.var 0) (.int 0)) (.sub (.var 0) (.int 1)))) .nil))) (.cons (.raise .noShare) .nil) .nil) .nil) }
def n_p_need_inner : List PySem.Str := ["thing"]
def d_p_chances_b1 : Ss := (.cons (.asg (.nm 4) (.lc (.tup [(.nm 7), (.nm 8)]) (.zip (.bin .add (.var 4) (.lst (.cons (.int 0) .nil))) (.bin .add (.lst (.cons (.int 0) .nil)) (.var 4)) true) .nil (.bin .add (.bin .mul (.var 7) (.bin .sub (.var 3) (.var 2))) (.bin .mul (.var 8) (.var 2))))) (.cons (.asg (.nm 5) (.bin .mul (.var 5) (.var 3))) .nil))
/- chances(many, share, top, bottom, found, whole, turn, here, ahead) -/
def d_p_chances : Def := { np := 2, dfl := [], ns := 9, body := (.cons (.asg (.tup [(.nm 2), (.nm 3)]) (.var 1)) (.cons (.asg (.tup [(.nm 4), (.nm 5)]) (.tup (.cons (.lst (.cons (.int 1) .nil)) (.cons (.int 1) .nil)))) (.cons (.for (.nm 6) (.r1 (.var 0)) d_p_chances_b1) (.cons (.ret (.tup (.cons (.var 4) (.cons (.var 5) .nil)))) .nil)))) }
def n_p_chances : List PySem.Str := ["many", "share", "top", "bottom", "found", "whole", "turn", "here", "ahead"]
/- sureness(many, share, i, j, cases, whole) -/
def d_p_sureness : Def := { np := 4, dfl := [], ns := 6, body := (.cons (.ifs (.not (.call 1 (.cons (.var 0) (.cons (.int 1) (.cons (.glob 3) .nil))))) (.cons (.raise .noNumber) .nil) .nil) (.cons (.expr (.call 46 (.cons (.var 1) .nil))) (.cons (.ifs (.or (.cons (.not (.call 1 (.cons (.var 2) (.cons (.int 1) (.cons (.var 0) .nil))))) (.cons (.not (.call 1 (.cons (.var 3) (.cons (.bin .add (.var 2) (.int 1)) (.cons (.var 0) .nil))))) .nil))) (.cons (.raise .noBand) .nil) .nil) (.cons (.asg (.tup [(.nm 4), (.nm 5)]) (.call 47 (.cons (.var 0) (.cons (.var 1) .nil)))) (.cons (.ret (.call 3 (.cons (.blt .sum (.cons (.slc (.var 4) (.var 2) (.var 3)) .nil)) (.cons (.var 5) .nil)))) .nil))))) }
def n_p_sureness : List PySem.Str := ["many", "share", "i", "j", "cases", "whole"]
def d_p_band_b1 : Ss := (.cons (.ifs (.not (.call 10 (.cons (.call 3 (.cons (.blt .sum (.cons (.slc (.var 4) (.var 7) (.bin .add (.var 7) (.var 6))) .nil)) (.cons (.var 5) .nil))) (.cons (.var 2) .nil)))) (.cons (.ret (.tup (.cons (.sub (.var 3) (.bin .sub (.var 7) (.int 1))) (.cons (.sub (.var 3) (.bin .sub (.bin .add (.var 7) (.var 6)) (.int 1))) (.cons (.var 7) (.cons (.bin .add (.var 7) (.var 6)) .nil)))))) .nil) .nil) .nil)
def d_p_band_b2 : Ss := (.cons (.for (.nm 7) (.r2 (.int 1) (.bin .add (.bin .sub (.blt .len (.cons (.var 3) .nil)) (.var 6)) (.int 1))) d_p_band_b1) .nil)
/- band(book, share, sure, untils, cases, whole, wide, i, begin, until, end) -/
def d_p_band : Def := { np := 3, dfl := [], ns := 11, body := (.cons (.expr (.call 45 (.cons (.var 0) .nil))) (.cons (.expr (.call 46 (.cons (.var 1) .nil))) (.cons (.expr (.call 25 (.cons (.var 2) .nil))) (.cons (.asg (.tup [(.nm 3), (.tup [(.nm 4), (.nm 5)])]) (.tup (.cons (.blt .sorted (.cons (.lc (.tup [(.nm 8), (.nm 9), (.nm 10)]) (.e (.var 0)) .nil (.var 9)) .nil)) (.cons (.call 47 (.cons (.blt .len (.cons (.var 0) .nil)) (.cons (.var 1) .nil))) .nil)))) (.cons (.for (.nm 6) (.r2 (.int 1) (.blt .len (.cons (.var 3) .nil))) d_p_band_b2) (.cons (.ret .non) .nil)))))) }
def n_p_band : List PySem.Str := ["book", "share", "sure", "untils", "cases", "whole", "wide", "i", "begin", "until", "end"]
/- _law_cell_at(script, k) -/
def d_l_cell_at : Def := { np := 2, dfl := [], ns := 2, body := (.cons (.ifs (.cmp .lt (.var 1) (.blt .len (.cons (.var 0) .nil))) (.cons (.ret (.sub (.var 0) (.var 1))) .nil) .nil) (.cons (.ret (.int 0)) .nil)) }
def n_l_cell_at : List PySem.Str := ["_law_script", "_law_k"]
def d_l_pot_b1 : Ss := (.cons (.asg (.nm 3) (.bin .mod (.bin .mul (.bin .add (.bin .add (.bin .mod (.var 0) (.int 2147483629)) (.bin .mul (.int 7919) (.var 2))) (.int 1)) (.int 48271)) (.int 2147483647))) (.cons (.asg (.nm 3) (.bin .mod (.bin .add (.bin .add (.bin .mul (.var 3) (.var 3)) (.bin .mul (.int 69621) (.var 2))) (.int 7)) (.int 2147483587))) (.cons (.asg (.nm 1) (.bin .add (.bin .mul (.var 1) (.int 2147483587)) (.var 3))) .nil)))
/- _law_pot(cell, number, j, more) -/
def d_l_pot : Def := { np := 1, dfl := [], ns := 4, body := (.cons (.ifs (.cmp .ge (.var 0) (.bin .pow (.int 10) (.int 18))) (.cons (.ret (.alloc (.lst (.cons (.bin .sub (.var 0) (.bin .pow (.int 10) (.int 18))) .nil)))) .nil) .nil) (.cons (.asg (.nm 1) (.int 0)) (.cons (.for (.nm 2) (.r1 (.int 64)) d_l_pot_b1) (.cons (.ret (.alloc (.lst (.cons (.var 1) .nil)))) .nil)))) }
def n_l_pot : List PySem.Str := ["_law_cell", "_law_number", "_law_j", "_law_more"]
/- _law_take(pot_here, far, found) -/
def d_l_take : Def := { np := 2, dfl := [], ns := 3, body := (.cons (.asg (.nm 2) (.bin .mod (.sub (.var 0) (.int 0)) (.var 1))) (.cons (.setH (.var 0) (.int 0) (.bin .fdiv (.sub (.var 0) (.int 0)) (.var 1))) (.cons (.ret (.var 2)) .nil))) }
def n_l_take : List PySem.Str := ["_law_pot_here", "_law_far", "_law_found"]
/- _law_whole(thing) -/
def d_l_whole : Def := { np := 1, dfl := [], ns := 1, body := (.cons (.ret (.and (.cons (.isi (.var 0) .int) (.cons (.not (.isi (.var 0) .bool)) .nil)))) .nil) }
def n_l_whole : List PySem.Str := ["_law_thing"]
/- _law_within(thing, low_here, high) -/
def d_l_within : Def := { np := 3, dfl := [], ns := 3, body := (.cons (.ret (.and (.cons (.call 109 (.cons (.var 0) .nil)) (.cons (.cmp2 .le .le (.var 1) (.var 0) (.var 2)) .nil)))) .nil) }
def n_l_within : List PySem.Str := ["_law_thing", "_law_low_here", "_law_high"]
/- _law_odd(pot_here, some) -/
def d_l_odd : Def := { np := 1, dfl := [], ns := 2, body := (.cons (.asg (.nm 1) (.lst (.cons .non (.cons (.bl true) (.cons (.bl false) (.cons (.neg (.int 1)) (.cons (.bin .pow (.int 10) (.int 11)) (.cons (.str []) (.cons (.str [97]) (.cons (.str [49]) (.cons (.tup .nil) (.cons (.lst .nil) (.cons (.dct .nil) (.cons (.tup (.cons (.int 0) (.cons (.int 1) .nil))) (.cons (.tup (.cons (.tup (.cons (.int 0) (.cons (.int 1) (.cons (.int 1) .nil)))) .nil)) (.cons (.tup (.cons (.int 1) (.cons (.int 2) .nil))) (.cons (.lst (.cons (.int 0) .nil)) (.cons (.dct (.cons (.int 0) (.cons (.int 1) .nil))) .nil)))))))))))))))))) (.cons (.ret (.sub (.var 1) (.call 108 (.cons (.var 0) (.cons (.int 16) .nil))))) .nil)) }
def n_l_odd : List PySem.Str := ["_law_pot_here", "_law_some"]
def d_l_low_c1 : E := (.cmp .gt (.var 3) (.int 0))
def d_l_low_b1 : Ss := (.cons (.asg (.tup [(.nm 2), (.nm 3)]) (.tup (.cons (.var 3) (.cons (.bin .mod (.var 2) (.var 3)) .nil)))) .nil)
/- _law_low(top, bottom, one, other) -/
def d_l_low : Def := { np := 2, dfl := [], ns := 4, body := (.cons (.asg (.tup [(.nm 2), (.nm 3)]) (.tup (.cons (.blt .abs (.cons (.var 0) .nil)) (.cons (.var 1) .nil)))) (.cons (.whl d_l_low_c1 d_l_low_b1) (.cons (.ret (.tup (.cons (.bin .fdiv (.var 0) (.var 2)) (.cons (.bin .fdiv (.var 1) (.var 2)) .nil)))) .nil))) }
def n_l_low : List PySem.Str := ["_law_top", "_law_bottom", "_law_one", "_law_other"]
/- _law_refusal(e, some, words) -/
def d_l_refusal : Def := { np := 1, dfl := [], ns := 3, body := (.cons (.asg (.nm 1) (.lst (.cons (.isi (.var 0) (.ex .noBook)) (.cons (.isi (.var 0) (.ex .noTime)) (.cons (.isi (.var 0) (.ex .noShare)) (.cons (.isi (.var 0) (.ex .noParts)) .nil)))))) (.cons (.asg (.nm 1) (.bin .add (.var 1) (.lst (.cons (.isi (.var 0) (.ex .noPlain)) (.cons (.isi (.var 0) (.ex .noKind)) (.cons (.isi (.var 0) (.ex .noMarks)) (.cons (.isi (.var 0) (.ex .noWord)) .nil))))))) (.cons (.asg (.nm 1) (.bin .add (.var 1) (.lst (.cons (.isi (.var 0) (.ex .noFull)) (.cons (.isi (.var 0) (.ex .noNumber)) (.cons (.isi (.var 0) (.ex .noBand)) (.cons (.isi (.var 0) (.ex .noName)) .nil))))))) (.cons (.asg (.nm 1) (.bin .add (.var 1) (.lst (.cons (.isi (.var 0) (.ex .noDay)) (.cons (.isi (.var 0) (.ex .noDeed)) (.cons (.isi (.var 0) (.ex .noFraction)) (.cons (.isi (.var 0) (.ex .noText)) .nil))))))) (.cons (.asg (.nm 1) (.bin .add (.var 1) (.lst (.cons (.isi (.var 0) (.ex .noLine)) (.cons (.isi (.var 0) (.ex .tooMany)) .nil))))) (.cons (.asg (.nm 2) (.lst (.cons (.str [98, 111, 111, 107]) (.cons (.str [116, 105, 109, 101]) (.cons (.str [115, 104, 97, 114, 101]) (.cons (.str [112, 97, 114, 116, 115]) (.cons (.str [112, 108, 97, 105, 110]) (.cons (.str [107, 105, 110, 100]) (.cons (.str [109, 97, 114, 107, 115]) (.cons (.str [119, 111, 114, 100]) (.cons (.str [102, 117, 108, 108]) (.cons (.str [110, 117, 109, 98, 101, 114]) (.cons (.str [98, 97, 110, 100]) (.cons (.str [110, 97, 109, 101]) .nil)))))))))))))) (.cons (.asg (.nm 2) (.bin .add (.var 2) (.lst (.cons (.str [100, 97, 121]) (.cons (.str [100, 101, 101, 100]) (.cons (.str [102, 114, 97, 99, 116, 105, 111, 110]) (.cons (.str [116, 101, 120, 116]) (.cons (.str [108, 105, 110, 101]) (.cons (.str [109, 97, 110, 121]) .nil))))))))) (.cons (.ifs (.or (.cons (.cmp .ne (.bm (.var 1) .count (.cons (.bl true) .nil)) (.int 1)) (.cons (.not (.isi (.var 0) .valueError)) .nil))) (.cons (.ret (.str [111, 116, 104, 101, 114])) .nil) .nil) (.cons (.ret (.sub (.var 2) (.bm (.var 1) .index (.cons (.bl true) .nil)))) .nil))))))))) }
def n_l_refusal : List PySem.Str := ["_law_e", "_law_some", "_law_words"]
def d_l_plain_b1 : Ss := (.cons (.asg (.nm 5) (.sub (.lst (.cons (.bin .add (.int 1) (.call 108 (.cons (.var 0) (.cons (.var 2) .nil)))) (.cons (.bin .add (.int 1) (.call 108 (.cons (.var 0) (.cons (.int 3) .nil)))) (.cons (.int 999) .nil)))) (.blt .min (.cons (.int 2) (.cons (.bin .fdiv (.call 108 (.cons (.var 0) (.cons (.int 9) .nil))) (.int 4)) .nil))))) (.cons (.app 3 (.tup (.cons (.int 0) (.cons (.var 5) (.cons (.sub (.lst (.cons (.int 0) (.cons (.bin .add (.int 1) (.call 108 (.cons (.var 0) (.cons (.int 4) .nil)))) .nil))) (.blt .int (.cons (.cmp .gt (.call 108 (.cons (.var 0) (.cons (.int 3) .nil))) (.int 0)) .nil))) .nil))))) .nil))
/- _law_plain(pot_here, most, far, found, turn, until) -/
def d_l_plain : Def := { np := 3, dfl := [], ns := 6, body := (.cons (.asgO 3 (.lst .nil)) (.cons (.for (.nm 4) (.r1 (.bin .add (.int 1) (.call 108 (.cons (.var 0) (.cons (.var 1) .nil))))) d_l_plain_b1) (.cons (.freeze 3) (.cons (.ret (.blt .tuple (.cons (.var 3) .nil))) .nil)))) }
def n_l_plain : List PySem.Str := ["_law_pot_here", "_law_most", "_law_far", "_law_found", "_law_turn", "_law_until"]
/- _law_full(pot_here, most, far, begin, until, end) -/
def d_l_full : Def := { np := 3, dfl := [], ns := 6, body := (.cons (.ret (.blt .tuple (.cons (.lc (.tup [(.nm 3), (.nm 4), (.nm 5)]) (.e (.call 115 (.cons (.var 0) (.cons (.var 1) (.cons (.var 2) .nil))))) .nil (.tup (.cons (.var 3) (.cons (.var 4) (.cons (.blt .max (.cons (.int 1) (.cons (.var 5) .nil))) .nil))))) .nil))) .nil) }
def n_l_full : List PySem.Str := ["_law_pot_here", "_law_most", "_law_far", "_law_begin", "_law_until", "_law_end"]
/- _law_no_books(some) -/
def d_l_no_books : Def := { np := 0, dfl := [], ns := 1, body := (.cons (.asg (.nm 0) (.lst (.cons .non (.cons (.tup .nil) (.cons (.lst (.cons (.tup (.cons (.int 0) (.cons (.int 1) (.cons (.int 0) .nil)))) .nil)) (.cons (.tup (.cons (.tup (.cons (.int 0) (.cons (.int 0) (.cons (.int 1) .nil)))) .nil)) (.cons (.tup (.cons (.tup (.cons (.int 0) (.cons (.int 1000) (.cons (.int 0) .nil)))) .nil)) (.cons (.tup (.cons (.tup (.cons (.int 0) (.cons (.int 5) (.cons (.int 5) .nil)))) .nil)) (.cons (.tup (.cons (.tup (.cons (.int 0) (.cons (.int 5) (.cons (.bl true) .nil)))) .nil)) .nil))))))))) (.cons (.asg (.nm 0) (.bin .add (.var 0) (.lst (.cons (.tup (.cons (.tup (.cons (.neg (.int 1)) (.cons (.int 5) (.cons (.int 0) .nil)))) .nil)) (.cons (.tup (.cons (.tup (.cons (.int 0) (.cons (.int 5) .nil))) .nil)) .nil))))) (.cons (.ret (.bin .add (.var 0) (.lst (.cons (.bin .mul (.tup (.cons (.tup (.cons (.int 0) (.cons (.int 1) (.cons (.int 1) .nil)))) .nil)) (.int 41)) (.cons (.str [48, 45, 49]) (.cons (.dct .nil) (.cons (.tup (.cons (.tup (.cons (.int 5) (.cons (.int 5) (.cons (.int 0) .nil)))) .nil)) (.cons (.tup (.cons (.lst (.cons (.int 0) (.cons (.int 5) (.cons (.int 1) .nil)))) .nil)) (.cons (.tup (.cons (.tup (.cons (.int 0) (.cons (.int 5) (.cons (.int 1) .nil)))) (.cons .non .nil))) .nil))))))))) .nil))) }
def n_l_no_books : List PySem.Str := ["_law_some"]
/- _law_is_inner(thing) -/
def d_l_is_inner : Def := { np := 1, dfl := [], ns := 1, body := (.cons (.ret (.and (.cons (.call 119 (.cons (.var 0) .nil)) (.cons (.cmp2 .lt .lt (.int 0) (.sub (.var 0) (.int 0)) (.sub (.var 0) (.int 1))) .nil)))) .nil) }
def n_l_is_inner : List PySem.Str := ["_law_thing"]
/- _law_is_share(thing) -/
def d_l_is_share : Def := { np := 1, dfl := [], ns := 1, body := (.cons (.ifs (.or (.cons (.not (.isi (.var 0) .tuple)) (.cons (.cmp .ne (.blt .len (.cons (.var 0) .nil)) (.int 2)) (.cons (.not (.call 109 (.cons (.sub (.var 0) (.int 0)) .nil))) (.cons (.not (.call 109 (.cons (.sub (.var 0) (.int 1)) .nil))) .nil))))) (.cons (.ret (.bl false)) .nil) .nil) (.cons (.ret (.and (.cons (.cmp2 .le .le (.int 0) (.sub (.var 0) (.int 0)) (.sub (.var 0) (.int 1))) (.cons (.cmp .gt (.sub (.var 0) (.int 1)) (.int 0)) (.cons (.cmp .eq (.call 112 (.cons (.sub (.var 0) (.int 0)) (.cons (.sub (.var 0) (.int 1)) .nil))) (.var 0)) .nil))))) .nil)) }
def n_l_is_share : List PySem.Str := ["_law_thing"]
/- _law_first(pairs, word, good) -/
def d_l_first : Def := { np := 1, dfl := [], ns := 3, body := (.cons (.ret (.sub (.bin .add (.lc (.tup [(.nm 1), (.nm 2)]) (.e (.var 0)) (.cons (.not (.var 2)) .nil) (.var 1)) (.lst (.cons (.str [116, 111, 108, 100]) .nil))) (.int 0))) .nil) }
def n_l_first : List PySem.Str := ["_law_pairs", "_law_word", "_law_good"]
/- _law_fractions(pot_here, some) -/
def d_l_fractions : Def := { np := 1, dfl := [], ns := 2, body := (.cons (.asg (.nm 1) (.lst (.cons (.tup (.cons (.int 1) (.cons (.int 2) .nil))) (.cons (.tup (.cons (.int 0) (.cons (.int 1) .nil))) (.cons (.tup (.cons (.int 1) (.cons (.int 1) .nil))) (.cons (.tup (.cons (.int 2) (.cons (.int 4) .nil))) (.cons (.tup (.cons (.int 3) (.cons (.int 2) .nil))) (.cons (.tup (.cons (.neg (.int 1)) (.cons (.int 2) .nil))) (.cons (.tup (.cons (.int 1) (.cons (.int 0) .nil))) (.cons (.tup (.cons (.bl true) (.cons (.int 2) .nil))) (.cons (.tup (.cons (.int 1) (.cons (.bl true) .nil))) .nil))))))))))) (.cons (.asg (.nm 1) (.bin .add (.var 1) (.lst (.cons (.lst (.cons (.int 1) (.cons (.int 2) .nil))) (.cons (.tup (.cons (.int 1) .nil)) (.cons (.tup (.cons (.int 1) (.cons (.int 2) (.cons (.int 3) .nil)))) (.cons .non .nil))))))) (.cons (.ret (.lst (.cons (.sub (.var 1) (.call 108 (.cons (.var 0) (.cons (.int 13) .nil)))) (.cons (.call 111 (.cons (.var 0) .nil)) (.cons (.tup (.cons (.int 1) (.cons (.int 3) .nil))) .nil))))) .nil))) }
def n_l_fractions : List PySem.Str := ["_law_pot_here", "_law_some"]
/- _law_bands(pot_here, many, some) -/
def d_l_bands : Def := { np := 2, dfl := [], ns := 3, body := (.cons (.asg (.nm 2) (.lst (.cons (.tup (.cons (.int 1) (.cons (.var 1) .nil))) (.cons (.tup (.cons (.int 0) (.cons (.int 1) .nil))) (.cons (.tup (.cons (.int 1) (.cons (.int 1) .nil))) (.cons (.tup (.cons (.int 2) (.cons (.int 1) .nil))) (.cons (.tup (.cons (.int 1) (.cons (.bin .add (.var 1) (.int 1)) .nil))) (.cons (.tup (.cons (.bl true) (.cons (.int 2) .nil))) (.cons (.tup (.cons (.int 1) (.cons .non .nil))) (.cons (.tup (.cons (.str [49]) (.cons (.int 2) .nil))) (.cons (.tup (.cons (.tup (.cons (.int 1) .nil)) (.cons (.int 2) .nil))) (.cons (.tup (.cons (.neg (.int 1)) (.cons (.int 3) .nil))) .nil)))))))))))) (.cons (.ret (.lst (.cons (.sub (.var 2) (.call 108 (.cons (.var 0) (.cons (.int 10) .nil)))) (.cons (.tup (.cons (.int 1) (.cons (.int 2) .nil))) (.cons (.tup (.cons (.call 111 (.cons (.var 0) .nil)) (.cons (.int 2) .nil))) (.cons (.tup (.cons (.int 1) (.cons (.call 111 (.cons (.var 0) .nil)) .nil))) .nil)))))) .nil)) }
def n_l_bands : List PySem.Str := ["_law_pot_here", "_law_many", "_law_some"]
def d_l_law_b1 : Ss := (.cons (.asg (.nm 9) (.and (.cons (.call 110 (.cons (.var 7) (.cons (.int 1) (.cons (.var 5) .nil)))) (.cons (.call 110 (.cons (.var 8) (.cons (.bin .add (.var 7) (.int 1)) (.cons (.var 5) .nil)))) .nil)))) (.cons (.asg (.nm 10) (.call 120 (.cons (.lst (.cons (.tup (.cons (.str [110, 117, 109, 98, 101, 114]) (.cons (.cmp .gt (.var 5) (.int 0)) .nil))) (.cons (.tup (.cons (.str [115, 104, 97, 114, 101]) (.cons (.call 118 (.cons (.var 6) .nil)) .nil))) (.cons (.tup (.cons (.str [98, 97, 110, 100]) (.cons (.var 9) .nil))) .nil)))) .nil))) (.cons (.ifs (.cmp .ne (.sub (.said (.call 48 (.cons (.var 4) (.cons (.var 6) (.cons (.var 7) (.cons (.var 8) .nil)))))) (.int 0)) (.var 10)) (.cons (.ret (.bl false)) .nil) .nil) .nil)))
def d_l_law_b2 : Ss := (.cons (.for (.tup [(.nm 7), (.nm 8)]) (.e (.call 122 (.cons (.var 2) (.cons (.var 5) .nil)))) d_l_law_b1) .nil)
def d_l_law_b3 : Ss := (.cons (.asg (.nm 5) (.ifx (.call 110 (.cons (.var 4) (.cons (.int 1) (.cons (.int 40) .nil)))) (.var 4) (.int 0))) (.cons (.for (.nm 6) (.e (.call 121 (.cons (.var 2) .nil))) d_l_law_b2) .nil))
def d_l_law_b4 : Ss := (.cons (.asg (.nm 17) (.lst (.cons (.tup (.cons (.str [115, 104, 97, 114, 101]) (.cons (.call 118 (.cons (.var 6) .nil)) .nil))) (.cons (.tup (.cons (.str [115, 104, 97, 114, 101]) (.cons (.call 119 (.cons (.var 16) .nil)) .nil))) .nil)))) (.cons (.asg (.nm 10) (.ifx (.cmp .ne (.var 15) (.str [116, 111, 108, 100])) (.var 15) (.call 120 (.cons (.var 17) .nil)))) (.cons (.asg (.nm 18) (.blt .repr (.cons (.tup (.cons (.var 14) (.cons (.var 6) (.cons (.var 16) .nil)))) .nil))) (.cons (.ifs (.or (.cons (.cmp .ne (.sub (.said (.call 49 (.cons (.var 14) (.cons (.var 6) (.cons (.var 16) .nil))))) (.int 0)) (.var 10)) (.cons (.cmp .ne (.blt .repr (.cons (.tup (.cons (.var 14) (.cons (.var 6) (.cons (.var 16) .nil)))) .nil)) (.var 18)) .nil))) (.cons (.ret (.bl false)) .nil) .nil) .nil))))
def d_l_law_b5 : Ss := (.cons (.for (.nm 16) (.e (.call 121 (.cons (.var 2) .nil))) d_l_law_b4) .nil)
def d_l_law_b6 : Ss := (.cons (.for (.nm 6) (.e (.call 121 (.cons (.var 2) .nil))) d_l_law_b5) .nil)
def d_l_law_b7 : Ss := (.cons (.asg (.nm 2) (.call 107 (.cons (.call 106 (.cons (.var 0) (.cons (.var 1) .nil))) .nil))) (.cons (.asg (.nm 3) (.call 116 (.cons (.var 2) (.cons (.int 8) (.cons (.int 20) .nil))))) (.cons (.for (.nm 4) (.e (.lst (.cons (.int 0) (.cons (.int 41) (.cons (.int 1) (.cons (.int 40) (.cons (.int 5) (.cons (.bl true) (.cons .non (.cons (.str [53]) (.cons (.tup (.cons (.int 5) .nil)) (.cons (.call 111 (.cons (.var 2) .nil)) .nil)))))))))))) d_l_law_b3) (.cons (.asg (.tup [(.nm 11), (.nm 12)]) (.tup (.cons (.bin .add (.slc (.var 3) (.int 1) .non) (.tup (.cons (.tup (.cons (.int 1) (.cons (.int 5) (.cons (.int 1) .nil)))) .nil))) (.cons (.bin .add (.slc (.var 3) .non (.neg (.int 1))) (.tup (.cons (.tup (.cons (.int 0) (.cons (.int 5) (.cons (.int 0) .nil)))) .nil))) .nil)))) (.cons (.asg (.nm 13) (.bin .add (.lst (.cons (.tup (.cons (.var 3) (.cons (.str [116, 111, 108, 100]) .nil))) (.cons (.tup (.cons (.var 11) (.cons (.str [102, 117, 108, 108]) .nil))) (.cons (.tup (.cons (.var 12) (.cons (.str [102, 117, 108, 108]) .nil))) .nil)))) (.lc (.nm 19) (.e (.call 117 .nil)) .nil (.tup (.cons (.var 19) (.cons (.str [98, 111, 111, 107]) .nil)))))) (.cons (.for (.tup [(.nm 14), (.nm 15)]) (.e (.var 13)) d_l_law_b6) .nil))))))
/- law(script, k, pot_here, book, many, size, part, i, j, good, ought, late, cut, pairs, thing, word, sure, rights, kept, bad) -/
def d_l_law : Def := { np := 1, dfl := [], ns := 20, body := (.cons (.for (.nm 1) (.r1 (.blt .max (.cons (.int 1) (.cons (.blt .min (.cons (.blt .len (.cons (.var 0) .nil)) (.cons (.int 3) .nil))) .nil)))) d_l_law_b7) (.cons (.ret (.bl true)) .nil)) }
def n_l_law : List PySem.Str := ["_law_script", "_law_k", "_law_pot_here", "_law_book", "_law_many", "_law_size", "_law_part", "_law_i", "_law_j", "_law_good", "_law_ought", "_law_late", "_law_cut", "_law_pairs", "_law_thing", "_law_word", "_law_sure", "_law_rights", "_law_kept", "_law_bad"]
abbrev F_p_is_whole : Nat := 0
abbrev F_p_is_from_to : Nat := 1
abbrev F_p_common : Nat := 2
abbrev F_p_put : Nat := 3
abbrev F_p_is_fraction : Nat := 4
abbrev F_p_is_share : Nat := 5
abbrev F_p_is_less : Nat := 10
abbrev F_p_is_lasting : Nat := 14
abbrev F_p_is_span : Nat := 15
abbrev F_p_is_book : Nat := 16
abbrev F_p_need_book : Nat := 17
abbrev F_p_need_share : Nat := 25
abbrev F_p_need_full : Nat := 45
abbrev F_p_need_inner : Nat := 46
abbrev F_p_chances : Nat := 47
abbrev F_p_sureness : Nat := 48
abbrev F_p_band : Nat := 49
abbrev F_l_cell_at : Nat := 106
abbrev F_l_pot : Nat := 107
abbrev F_l_take : Nat := 108
abbrev F_l_whole : Nat := 109
abbrev F_l_within : Nat := 110
abbrev F_l_odd : Nat := 111
abbrev F_l_low : Nat := 112
abbrev F_l_refusal : Nat := 113
abbrev F_l_plain : Nat := 115
abbrev F_l_full : Nat := 116
abbrev F_l_no_books : Nat := 117
abbrev F_l_is_inner : Nat := 118
abbrev F_l_is_share : Nat := 119
abbrev F_l_first : Nat := 120
abbrev F_l_fractions : Nat := 121
abbrev F_l_bands : Nat := 122
abbrev F_l_law : Nat := 123
def fnOf : Nat → Option Def
  | 0 => some d_p_is_whole
  | 1 => some d_p_is_from_to
  | 2 => some d_p_common
  | 3 => some d_p_put
  | 4 => some d_p_is_fraction
  | 5 => some d_p_is_share
  | 10 => some d_p_is_less
  | 14 => some d_p_is_lasting
  | 15 => some d_p_is_span
  | 16 => some d_p_is_book
  | 17 => some d_p_need_book
  | 25 => some d_p_need_share
  | 45 => some d_p_need_full
  | 46 => some d_p_need_inner
  | 47 => some d_p_chances
  | 48 => some d_p_sureness
  | 49 => some d_p_band
  | 106 => some d_l_cell_at
  | 107 => some d_l_pot
  | 108 => some d_l_take
  | 109 => some d_l_whole
  | 110 => some d_l_within
  | 111 => some d_l_odd
  | 112 => some d_l_low
  | 113 => some d_l_refusal
  | 115 => some d_l_plain
  | 116 => some d_l_full
  | 117 => some d_l_no_books
  | 118 => some d_l_is_inner
  | 119 => some d_l_is_share
  | 120 => some d_l_first
  | 121 => some d_l_fractions
  | 122 => some d_l_bands
  | 123 => some d_l_law
  | _ => none
def glOf : Nat → Option D
  | 2 => some (.int 999)
  | 3 => some (.int 40)
  | 5 => some (.tup [(.int 1), (.int 2), (.int 3), (.int 4)])
  | _ => none
def meOf : Cl → Nat → Option Nat
  | _, _ => none
def inOf : Cl → Nat
  | .ledger => 84
  | .desk => 102
def P : Prog := { fn := fnOf, gl := glOf, me := meOf, init := inOf, rz := true }
@[simp] theorem gl_c2 : P.gl 2 = some (.int 999) := rfl
@[simp] theorem gl_c3 : P.gl 3 = some (.int 40) := rfl
@[simp] theorem gl_c5 : P.gl 5 = some (.tup [(.int 1), (.int 2), (.int 3), (.int 4)]) := rfl
def topS (i : Nat) : Stmt := PySem.Challenge.pw_outlasts_k62_bands_refused.main.body.getD i (.Pass ⟨0, 0, 0, 0⟩)
def fnTab : List (Str × Nat) := [(("is_whole" : Str), 0), (("is_from_to" : Str), 1), (("common" : Str), 2), (("put" : Str), 3), (("is_fraction" : Str), 4), (("is_share" : Str), 5), (("is_less" : Str), 10), (("is_lasting" : Str), 14), (("is_span" : Str), 15), (("is_book" : Str), 16), (("need_book" : Str), 17), (("need_share" : Str), 25), (("need_full" : Str), 45), (("need_inner" : Str), 46), (("chances" : Str), 47), (("sureness" : Str), 48), (("band" : Str), 49), (("_law_cell_at" : Str), 106), (("_law_pot" : Str), 107), (("_law_take" : Str), 108), (("_law_whole" : Str), 109), (("_law_within" : Str), 110), (("_law_odd" : Str), 111), (("_law_low" : Str), 112), (("_law_plain" : Str), 115), (("_law_full" : Str), 116), (("_law_no_books" : Str), 117), (("_law_is_inner" : Str), 118), (("_law_is_share" : Str), 119), (("_law_first" : Str), 120), (("_law_fractions" : Str), 121), (("_law_bands" : Str), 122), (("law" : Str), 123)]
def glTab : List (Str × Nat) := [("MOST_AGE", 2), ("MOST_SPANS", 3), ("KINDS", 5)]
def btTab : List Str := ["ValueError", "abs", "all", "any", "bool", "int", "isinstance", "len", "max", "min", "range", "repr", "sorted", "sum", "tuple", "zip"]
def tb : Tb := { fn := fun x => fnTab.lookup x, gl := fun x => glTab.lookup x, bt := fun x => btTab.contains x, sd := fun x => x == ("_law_said" : Str), rz := true }
def lams : List Str := ["law"]
abbrev s_p_is_whole : Stmt := topS 21
theorem sc_p_is_whole : FnScope n_p_is_whole ["thing"] (defScope s_p_is_whole) := ⟨rfl, rfl, rfl, by decide +kernel, rfl, by decide +kernel, by decide +kernel⟩
theorem ok_p_is_whole : okDef tb ⟨n_p_is_whole, d_p_is_whole, false⟩ s_p_is_whole ["thing"] = true := by decide +kernel
abbrev s_p_is_from_to : Stmt := topS 22
theorem sc_p_is_from_to : FnScope n_p_is_from_to ["thing", "low", "high"] (defScope s_p_is_from_to) := ⟨rfl, rfl, rfl, by decide +kernel, rfl, by decide +kernel, by decide +kernel⟩
theorem ok_p_is_from_to : okDef tb ⟨n_p_is_from_to, d_p_is_from_to, false⟩ s_p_is_from_to ["thing", "low", "high"] = true := by decide +kernel
abbrev s_p_common : Stmt := topS 23
theorem sc_p_common : FnScope n_p_common ["one", "other"] (defScope s_p_common) := ⟨rfl, rfl, rfl, by decide +kernel, rfl, by decide +kernel, by decide +kernel⟩
theorem ok_p_common : okDef tb ⟨n_p_common, d_p_common, false⟩ s_p_common ["one", "other"] = true := by decide +kernel
abbrev s_p_put : Stmt := topS 24
theorem sc_p_put : FnScope n_p_put ["top", "bottom"] (defScope s_p_put) := ⟨rfl, rfl, rfl, by decide +kernel, rfl, by decide +kernel, by decide +kernel⟩
theorem ok_p_put : okDef tb ⟨n_p_put, d_p_put, false⟩ s_p_put ["top", "bottom"] = true := by decide +kernel
abbrev s_p_is_fraction : Stmt := topS 25
theorem sc_p_is_fraction : FnScope n_p_is_fraction ["thing"] (defScope s_p_is_fraction) := ⟨rfl, rfl, rfl, by decide +kernel, rfl, by decide +kernel, by decide +kernel⟩
theorem ok_p_is_fraction : okDef tb ⟨n_p_is_fraction, d_p_is_fraction, false⟩ s_p_is_fraction ["thing"] = true := by decide +kernel
abbrev s_p_is_share : Stmt := topS 26
theorem sc_p_is_share : FnScope n_p_is_share ["thing"] (defScope s_p_is_share) := ⟨rfl, rfl, rfl, by decide +kernel, rfl, by decide +kernel, by decide +kernel⟩
theorem ok_p_is_share : okDef tb ⟨n_p_is_share, d_p_is_share, false⟩ s_p_is_share ["thing"] = true := by decide +kernel
abbrev s_p_is_less : Stmt := topS 27
theorem sc_p_is_less : FnScope n_p_is_less ["one", "other"] (defScope s_p_is_less) := ⟨rfl, rfl, rfl, by decide +kernel, rfl, by decide +kernel, by decide +kernel⟩
theorem ok_p_is_less : okDef tb ⟨n_p_is_less, d_p_is_less, false⟩ s_p_is_less ["one", "other"] = true := by decide +kernel
abbrev s_p_is_lasting : Stmt := topS 32
theorem sc_p_is_lasting : FnScope n_p_is_lasting ["thing", "most"] (defScope s_p_is_lasting) := ⟨rfl, rfl, rfl, by decide +kernel, rfl, by decide +kernel, by decide +kernel⟩
theorem ok_p_is_lasting : okDef tb ⟨n_p_is_lasting, d_p_is_lasting, false⟩ s_p_is_lasting ["thing", "most"] = true := by decide +kernel
abbrev s_p_is_span : Stmt := topS 33
theorem sc_p_is_span : FnScope n_p_is_span ["thing"] (defScope s_p_is_span) := ⟨rfl, rfl, rfl, by decide +kernel, rfl, by decide +kernel, by decide +kernel⟩
theorem ok_p_is_span : okDef tb ⟨n_p_is_span, d_p_is_span, false⟩ s_p_is_span ["thing"] = true := by decide +kernel
abbrev s_p_is_book : Stmt := topS 34
theorem sc_p_is_book : FnScope n_p_is_book ["thing"] (defScope s_p_is_book) := ⟨rfl, rfl, rfl, by decide +kernel, rfl, by decide +kernel, by decide +kernel⟩
theorem ok_p_is_book : okDef tb ⟨n_p_is_book, d_p_is_book, false⟩ s_p_is_book ["thing"] = true := by decide +kernel
abbrev s_p_need_book : Stmt := topS 35
theorem sc_p_need_book : FnScope n_p_need_book ["thing"] (defScope s_p_need_book) := ⟨rfl, rfl, rfl, by decide +kernel, rfl, by decide +kernel, by decide +kernel⟩
theorem ok_p_need_book : okDef tb ⟨n_p_need_book, d_p_need_book, false⟩ s_p_need_book ["thing"] = true := by decide +kernel
abbrev s_p_need_share : Stmt := topS 37
theorem sc_p_need_share : FnScope n_p_need_share ["thing"] (defScope s_p_need_share) := ⟨rfl, rfl, rfl, by decide +kernel, rfl, by decide +kernel, by decide +kernel⟩
theorem ok_p_need_share : okDef tb ⟨n_p_need_share, d_p_need_share, false⟩ s_p_need_share ["thing"] = true := by decide +kernel
abbrev s_p_need_full : Stmt := topS 39
theorem sc_p_need_full : FnScope n_p_need_full ["thing"] (defScope s_p_need_full) := ⟨rfl, rfl, rfl, by decide +kernel, rfl, by decide +kernel, by decide +kernel⟩
theorem ok_p_need_full : okDef tb ⟨n_p_need_full, d_p_need_full, false⟩ s_p_need_full ["thing"] = true := by decide +kernel
abbrev s_p_need_inner : Stmt := topS 40
theorem sc_p_need_inner : FnScope n_p_need_inner ["thing"] (defScope s_p_need_inner) := ⟨rfl, rfl, rfl, by decide +kernel, rfl, by decide +kernel, by decide +kernel⟩
theorem ok_p_need_inner : okDef tb ⟨n_p_need_inner, d_p_need_inner, false⟩ s_p_need_inner ["thing"] = true := by decide +kernel
abbrev s_p_chances : Stmt := topS 41
theorem sc_p_chances : FnScope n_p_chances ["many", "share"] (defScope s_p_chances) := ⟨rfl, rfl, rfl, by decide +kernel, rfl, by decide +kernel, by decide +kernel⟩
theorem ok_p_chances : okDef tb ⟨n_p_chances, d_p_chances, false⟩ s_p_chances ["many", "share"] = true := by decide +kernel
abbrev s_p_sureness : Stmt := topS 42
theorem sc_p_sureness : FnScope n_p_sureness ["many", "share", "i", "j"] (defScope s_p_sureness) := ⟨rfl, rfl, rfl, by decide +kernel, rfl, by decide +kernel, by decide +kernel⟩
theorem ok_p_sureness : okDef tb ⟨n_p_sureness, d_p_sureness, false⟩ s_p_sureness ["many", "share", "i", "j"] = true := by decide +kernel
abbrev s_p_band : Stmt := topS 43
theorem sc_p_band : FnScope n_p_band ["book", "share", "sure"] (defScope s_p_band) := ⟨rfl, rfl, rfl, by decide +kernel, rfl, by decide +kernel, by decide +kernel⟩
theorem ok_p_band : okDef tb ⟨n_p_band, d_p_band, false⟩ s_p_band ["book", "share", "sure"] = true := by decide +kernel
abbrev s_l_cell_at : Stmt := topS 45
theorem sc_l_cell_at : FnScope n_l_cell_at ["_law_script", "_law_k"] (defScope s_l_cell_at) := ⟨rfl, rfl, rfl, by decide +kernel, rfl, by decide +kernel, by decide +kernel⟩
theorem ok_l_cell_at : okDef tb ⟨n_l_cell_at, d_l_cell_at, false⟩ s_l_cell_at ["_law_script", "_law_k"] = true := by decide +kernel
abbrev s_l_pot : Stmt := topS 46
theorem sc_l_pot : FnScope n_l_pot ["_law_cell"] (defScope s_l_pot) := ⟨rfl, rfl, rfl, by decide +kernel, rfl, by decide +kernel, by decide +kernel⟩
theorem ok_l_pot : okDef tb ⟨n_l_pot, d_l_pot, false⟩ s_l_pot ["_law_cell"] = true := by decide +kernel
abbrev s_l_take : Stmt := topS 47
theorem sc_l_take : FnScope n_l_take ["_law_pot_here", "_law_far"] (defScope s_l_take) := ⟨rfl, rfl, rfl, by decide +kernel, rfl, by decide +kernel, by decide +kernel⟩
theorem ok_l_take : okDef tb ⟨n_l_take, d_l_take, false⟩ s_l_take ["_law_pot_here", "_law_far"] = true := by decide +kernel
abbrev s_l_whole : Stmt := topS 48
theorem sc_l_whole : FnScope n_l_whole ["_law_thing"] (defScope s_l_whole) := ⟨rfl, rfl, rfl, by decide +kernel, rfl, by decide +kernel, by decide +kernel⟩
theorem ok_l_whole : okDef tb ⟨n_l_whole, d_l_whole, false⟩ s_l_whole ["_law_thing"] = true := by decide +kernel
abbrev s_l_within : Stmt := topS 49
theorem sc_l_within : FnScope n_l_within ["_law_thing", "_law_low_here", "_law_high"] (defScope s_l_within) := ⟨rfl, rfl, rfl, by decide +kernel, rfl, by decide +kernel, by decide +kernel⟩
theorem ok_l_within : okDef tb ⟨n_l_within, d_l_within, false⟩ s_l_within ["_law_thing", "_law_low_here", "_law_high"] = true := by decide +kernel
abbrev s_l_odd : Stmt := topS 50
theorem sc_l_odd : FnScope n_l_odd ["_law_pot_here"] (defScope s_l_odd) := ⟨rfl, rfl, rfl, by decide +kernel, rfl, by decide +kernel, by decide +kernel⟩
theorem ok_l_odd : okDef tb ⟨n_l_odd, d_l_odd, false⟩ s_l_odd ["_law_pot_here"] = true := by decide +kernel
abbrev s_l_low : Stmt := topS 51
theorem sc_l_low : FnScope n_l_low ["_law_top", "_law_bottom"] (defScope s_l_low) := ⟨rfl, rfl, rfl, by decide +kernel, rfl, by decide +kernel, by decide +kernel⟩
theorem ok_l_low : okDef tb ⟨n_l_low, d_l_low, false⟩ s_l_low ["_law_top", "_law_bottom"] = true := by decide +kernel
abbrev s_l_plain : Stmt := topS 54
theorem sc_l_plain : FnScope n_l_plain ["_law_pot_here", "_law_most", "_law_far"] (defScope s_l_plain) := ⟨rfl, rfl, rfl, by decide +kernel, rfl, by decide +kernel, by decide +kernel⟩
theorem ok_l_plain : okDef tb ⟨n_l_plain, d_l_plain, false⟩ s_l_plain ["_law_pot_here", "_law_most", "_law_far"] = true := by decide +kernel
abbrev s_l_full : Stmt := topS 55
theorem sc_l_full : FnScope n_l_full ["_law_pot_here", "_law_most", "_law_far"] (defScope s_l_full) := ⟨rfl, rfl, rfl, by decide +kernel, rfl, by decide +kernel, by decide +kernel⟩
theorem ok_l_full : okDef tb ⟨n_l_full, d_l_full, false⟩ s_l_full ["_law_pot_here", "_law_most", "_law_far"] = true := by decide +kernel
abbrev s_l_no_books : Stmt := topS 56
theorem sc_l_no_books : FnScope n_l_no_books [] (defScope s_l_no_books) := ⟨rfl, rfl, rfl, by decide +kernel, rfl, by decide +kernel, by decide +kernel⟩
theorem ok_l_no_books : okDef tb ⟨n_l_no_books, d_l_no_books, false⟩ s_l_no_books [] = true := by decide +kernel
abbrev s_l_is_inner : Stmt := topS 57
theorem sc_l_is_inner : FnScope n_l_is_inner ["_law_thing"] (defScope s_l_is_inner) := ⟨rfl, rfl, rfl, by decide +kernel, rfl, by decide +kernel, by decide +kernel⟩
theorem ok_l_is_inner : okDef tb ⟨n_l_is_inner, d_l_is_inner, false⟩ s_l_is_inner ["_law_thing"] = true := by decide +kernel
abbrev s_l_is_share : Stmt := topS 58
theorem sc_l_is_share : FnScope n_l_is_share ["_law_thing"] (defScope s_l_is_share) := ⟨rfl, rfl, rfl, by decide +kernel, rfl, by decide +kernel, by decide +kernel⟩
theorem ok_l_is_share : okDef tb ⟨n_l_is_share, d_l_is_share, false⟩ s_l_is_share ["_law_thing"] = true := by decide +kernel
abbrev s_l_first : Stmt := topS 59
theorem sc_l_first : FnScope n_l_first ["_law_pairs"] (defScope s_l_first) := ⟨rfl, rfl, rfl, by decide +kernel, rfl, by decide +kernel, by decide +kernel⟩
theorem ok_l_first : okDef tb ⟨n_l_first, d_l_first, false⟩ s_l_first ["_law_pairs"] = true := by decide +kernel
abbrev s_l_fractions : Stmt := topS 60
theorem sc_l_fractions : FnScope n_l_fractions ["_law_pot_here"] (defScope s_l_fractions) := ⟨rfl, rfl, rfl, by decide +kernel, rfl, by decide +kernel, by decide +kernel⟩
theorem ok_l_fractions : okDef tb ⟨n_l_fractions, d_l_fractions, false⟩ s_l_fractions ["_law_pot_here"] = true := by decide +kernel
abbrev s_l_bands : Stmt := topS 61
theorem sc_l_bands : FnScope n_l_bands ["_law_pot_here", "_law_many"] (defScope s_l_bands) := ⟨rfl, rfl, rfl, by decide +kernel, rfl, by decide +kernel, by decide +kernel⟩
theorem ok_l_bands : okDef tb ⟨n_l_bands, d_l_bands, false⟩ s_l_bands ["_law_pot_here", "_law_many"] = true := by decide +kernel
abbrev s_l_law : Stmt := topS 62
theorem sc_l_law : FnScope n_l_law ["_law_script"] (defScope s_l_law) := ⟨rfl, rfl, rfl, by decide +kernel, rfl, by decide +kernel, by decide +kernel⟩
theorem ok_l_law : okDef tb ⟨n_l_law, d_l_law, true⟩ s_l_law ["_law_script"] = true := by decide +kernel
abbrev s_l_refusal : Stmt := topS 52
abbrev s_l_said : Stmt := topS 53
theorem sc_l_refusal : FnScope n_l_refusal ["_law_e"] (defScope s_l_refusal) := ⟨rfl, rfl, rfl, by decide +kernel, rfl, by decide +kernel, by decide +kernel⟩
theorem sc_l_said : FnScope ["_law_call", "_law_e"] ["_law_call"] (defScope s_l_said) := ⟨rfl, rfl, rfl, by decide +kernel, rfl, by decide +kernel, by decide +kernel⟩
theorem ok_l_refusal : okHSs tb n_l_refusal (defScope s_l_refusal) d_l_refusal.body (defBody s_l_refusal) = true := by decide +kernel
theorem ok_l_said : saidC false "_law_call" "_law_e" "_law_refusal" s_l_said = true := by decide +kernel
theorem run_l_refusal : ∀ c : Ex, c.okc = true → runDef P (fun _ _ _ => .stk) d_l_refusal [.exc c] [] = .ok (.v (wdD false c)) [] := fun c h => by cases c <;> first | (cases h; done) | rfl
theorem all_mk {l : PySem.W.OpenLaw} {w : World} {K : PySem.W.Frag} {h : Heap} {mg : Str → Option Value} {fa : Addr} (X : K.In h) (G : h.Ns mainGlobals mg) (hfa : mg "law" = some (.ref fa))
    {f0 : Addr} {od0 an0 : Option Addr} {sl0 : Array (Option Value)} {oc0 kV0 dc0 pm0 cd0 ct0 : Value}
    {f1 : Addr} {od1 an1 : Option Addr} {sl1 : Array (Option Value)} {oc1 kV1 dc1 pm1 cd1 ct1 : Value}
    {f2 : Addr} {od2 an2 : Option Addr} {sl2 : Array (Option Value)} {oc2 kV2 dc2 pm2 cd2 ct2 : Value}
    {f3 : Addr} {od3 an3 : Option Addr} {sl3 : Array (Option Value)} {oc3 kV3 dc3 pm3 cd3 ct3 : Value}
    {f4 : Addr} {od4 an4 : Option Addr} {sl4 : Array (Option Value)} {oc4 kV4 dc4 pm4 cd4 ct4 : Value}
    {f5 : Addr} {od5 an5 : Option Addr} {sl5 : Array (Option Value)} {oc5 kV5 dc5 pm5 cd5 ct5 : Value}
    {f6 : Addr} {od6 an6 : Option Addr} {sl6 : Array (Option Value)} {oc6 kV6 dc6 pm6 cd6 ct6 : Value}
    {f7 : Addr} {od7 an7 : Option Addr} {sl7 : Array (Option Value)} {oc7 kV7 dc7 pm7 cd7 ct7 : Value}
    {f8 : Addr} {od8 an8 : Option Addr} {sl8 : Array (Option Value)} {oc8 kV8 dc8 pm8 cd8 ct8 : Value}
    {f9 : Addr} {od9 an9 : Option Addr} {sl9 : Array (Option Value)} {oc9 kV9 dc9 pm9 cd9 ct9 : Value}
    {f10 : Addr} {od10 an10 : Option Addr} {sl10 : Array (Option Value)} {oc10 kV10 dc10 pm10 cd10 ct10 : Value}
    {f11 : Addr} {od11 an11 : Option Addr} {sl11 : Array (Option Value)} {oc11 kV11 dc11 pm11 cd11 ct11 : Value}
    {f12 : Addr} {od12 an12 : Option Addr} {sl12 : Array (Option Value)} {oc12 kV12 dc12 pm12 cd12 ct12 : Value}
    {f13 : Addr} {od13 an13 : Option Addr} {sl13 : Array (Option Value)} {oc13 kV13 dc13 pm13 cd13 ct13 : Value}
    {f14 : Addr} {od14 an14 : Option Addr} {sl14 : Array (Option Value)} {oc14 kV14 dc14 pm14 cd14 ct14 : Value}
    {f15 : Addr} {od15 an15 : Option Addr} {sl15 : Array (Option Value)} {oc15 kV15 dc15 pm15 cd15 ct15 : Value}
    {f16 : Addr} {od16 an16 : Option Addr} {sl16 : Array (Option Value)} {oc16 kV16 dc16 pm16 cd16 ct16 : Value}
    {f17 : Addr} {od17 an17 : Option Addr} {sl17 : Array (Option Value)} {oc17 kV17 dc17 pm17 cd17 ct17 : Value}
    {f18 : Addr} {od18 an18 : Option Addr} {sl18 : Array (Option Value)} {oc18 kV18 dc18 pm18 cd18 ct18 : Value}
    {f19 : Addr} {od19 an19 : Option Addr} {sl19 : Array (Option Value)} {oc19 kV19 dc19 pm19 cd19 ct19 : Value}
    {f20 : Addr} {od20 an20 : Option Addr} {sl20 : Array (Option Value)} {oc20 kV20 dc20 pm20 cd20 ct20 : Value}
    {f21 : Addr} {od21 an21 : Option Addr} {sl21 : Array (Option Value)} {oc21 kV21 dc21 pm21 cd21 ct21 : Value}
    {f22 : Addr} {od22 an22 : Option Addr} {sl22 : Array (Option Value)} {oc22 kV22 dc22 pm22 cd22 ct22 : Value}
    {f23 : Addr} {od23 an23 : Option Addr} {sl23 : Array (Option Value)} {oc23 kV23 dc23 pm23 cd23 ct23 : Value}
    {f24 : Addr} {od24 an24 : Option Addr} {sl24 : Array (Option Value)} {oc24 kV24 dc24 pm24 cd24 ct24 : Value}
    {f25 : Addr} {od25 an25 : Option Addr} {sl25 : Array (Option Value)} {oc25 kV25 dc25 pm25 cd25 ct25 : Value}
    {f26 : Addr} {od26 an26 : Option Addr} {sl26 : Array (Option Value)} {oc26 kV26 dc26 pm26 cd26 ct26 : Value}
    {f27 : Addr} {od27 an27 : Option Addr} {sl27 : Array (Option Value)} {oc27 kV27 dc27 pm27 cd27 ct27 : Value}
    {f28 : Addr} {od28 an28 : Option Addr} {sl28 : Array (Option Value)} {oc28 kV28 dc28 pm28 cd28 ct28 : Value}
    {f29 : Addr} {od29 an29 : Option Addr} {sl29 : Array (Option Value)} {oc29 kV29 dc29 pm29 cd29 ct29 : Value}
    {f30 : Addr} {od30 an30 : Option Addr} {sl30 : Array (Option Value)} {oc30 kV30 dc30 pm30 cd30 ct30 : Value}
    {f31 : Addr} {od31 an31 : Option Addr} {sl31 : Array (Option Value)} {oc31 kV31 dc31 pm31 cd31 ct31 : Value}
    {f32 : Addr} {od32 an32 : Option Addr} {sl32 : Array (Option Value)} {oc32 kV32 dc32 pm32 cd32 ct32 : Value}
    {f33 : Addr} {od33 an33 : Option Addr} {sl33 : Array (Option Value)} {oc33 kV33 dc33 pm33 cd33 ct33 : Value}
    {f34 : Addr} {od34 an34 : Option Addr} {sl34 : Array (Option Value)} {oc34 kV34 dc34 pm34 cd34 ct34 : Value}
    {gt0 : Tok}
    {gt1 : Tok}
    {ga2 : Addr} {gd2 : Option Addr} {gn2 : Nat} {gs2 : Array (Option Value)} {gt2_0 gt2_1 gt2_2 gt2_3 : Tok}
    (a0 : PySem.W.nsIn K mainGlobals "is_whole" = some (some (.ref f0))) (l0 : K.lookup f0 = some ⟨oc0, od0, .func (PySem.W.fnOf "is_whole" "is_whole" (defArgs s_p_is_whole) (defBody s_p_is_whole) (defScope s_p_is_whole) .none kV0 dc0 pm0 an0 cd0 ct0), sl0⟩) (c0 : PySem.W.codeIn K cd0 "is_whole" = true) (k0 : PySem.W.keepIn K (.ref f0) = true)
    (a1 : PySem.W.nsIn K mainGlobals "is_from_to" = some (some (.ref f1))) (l1 : K.lookup f1 = some ⟨oc1, od1, .func (PySem.W.fnOf "is_from_to" "is_from_to" (defArgs s_p_is_from_to) (defBody s_p_is_from_to) (defScope s_p_is_from_to) .none kV1 dc1 pm1 an1 cd1 ct1), sl1⟩) (c1 : PySem.W.codeIn K cd1 "is_from_to" = true) (k1 : PySem.W.keepIn K (.ref f1) = true)
    (a2 : PySem.W.nsIn K mainGlobals "common" = some (some (.ref f2))) (l2 : K.lookup f2 = some ⟨oc2, od2, .func (PySem.W.fnOf "common" "common" (defArgs s_p_common) (defBody s_p_common) (defScope s_p_common) .none kV2 dc2 pm2 an2 cd2 ct2), sl2⟩) (c2 : PySem.W.codeIn K cd2 "common" = true) (k2 : PySem.W.keepIn K (.ref f2) = true)
    (a3 : PySem.W.nsIn K mainGlobals "put" = some (some (.ref f3))) (l3 : K.lookup f3 = some ⟨oc3, od3, .func (PySem.W.fnOf "put" "put" (defArgs s_p_put) (defBody s_p_put) (defScope s_p_put) .none kV3 dc3 pm3 an3 cd3 ct3), sl3⟩) (c3 : PySem.W.codeIn K cd3 "put" = true) (k3 : PySem.W.keepIn K (.ref f3) = true)
    (a4 : PySem.W.nsIn K mainGlobals "is_fraction" = some (some (.ref f4))) (l4 : K.lookup f4 = some ⟨oc4, od4, .func (PySem.W.fnOf "is_fraction" "is_fraction" (defArgs s_p_is_fraction) (defBody s_p_is_fraction) (defScope s_p_is_fraction) .none kV4 dc4 pm4 an4 cd4 ct4), sl4⟩) (c4 : PySem.W.codeIn K cd4 "is_fraction" = true) (k4 : PySem.W.keepIn K (.ref f4) = true)
    (a5 : PySem.W.nsIn K mainGlobals "is_share" = some (some (.ref f5))) (l5 : K.lookup f5 = some ⟨oc5, od5, .func (PySem.W.fnOf "is_share" "is_share" (defArgs s_p_is_share) (defBody s_p_is_share) (defScope s_p_is_share) .none kV5 dc5 pm5 an5 cd5 ct5), sl5⟩) (c5 : PySem.W.codeIn K cd5 "is_share" = true) (k5 : PySem.W.keepIn K (.ref f5) = true)
    (a6 : PySem.W.nsIn K mainGlobals "is_less" = some (some (.ref f6))) (l6 : K.lookup f6 = some ⟨oc6, od6, .func (PySem.W.fnOf "is_less" "is_less" (defArgs s_p_is_less) (defBody s_p_is_less) (defScope s_p_is_less) .none kV6 dc6 pm6 an6 cd6 ct6), sl6⟩) (c6 : PySem.W.codeIn K cd6 "is_less" = true) (k6 : PySem.W.keepIn K (.ref f6) = true)
    (a7 : PySem.W.nsIn K mainGlobals "is_lasting" = some (some (.ref f7))) (l7 : K.lookup f7 = some ⟨oc7, od7, .func (PySem.W.fnOf "is_lasting" "is_lasting" (defArgs s_p_is_lasting) (defBody s_p_is_lasting) (defScope s_p_is_lasting) .none kV7 dc7 pm7 an7 cd7 ct7), sl7⟩) (c7 : PySem.W.codeIn K cd7 "is_lasting" = true) (k7 : PySem.W.keepIn K (.ref f7) = true)
    (a8 : PySem.W.nsIn K mainGlobals "is_span" = some (some (.ref f8))) (l8 : K.lookup f8 = some ⟨oc8, od8, .func (PySem.W.fnOf "is_span" "is_span" (defArgs s_p_is_span) (defBody s_p_is_span) (defScope s_p_is_span) .none kV8 dc8 pm8 an8 cd8 ct8), sl8⟩) (c8 : PySem.W.codeIn K cd8 "is_span" = true) (k8 : PySem.W.keepIn K (.ref f8) = true)
    (a9 : PySem.W.nsIn K mainGlobals "is_book" = some (some (.ref f9))) (l9 : K.lookup f9 = some ⟨oc9, od9, .func (PySem.W.fnOf "is_book" "is_book" (defArgs s_p_is_book) (defBody s_p_is_book) (defScope s_p_is_book) .none kV9 dc9 pm9 an9 cd9 ct9), sl9⟩) (c9 : PySem.W.codeIn K cd9 "is_book" = true) (k9 : PySem.W.keepIn K (.ref f9) = true)
    (a10 : PySem.W.nsIn K mainGlobals "need_book" = some (some (.ref f10))) (l10 : K.lookup f10 = some ⟨oc10, od10, .func (PySem.W.fnOf "need_book" "need_book" (defArgs s_p_need_book) (defBody s_p_need_book) (defScope s_p_need_book) .none kV10 dc10 pm10 an10 cd10 ct10), sl10⟩) (c10 : PySem.W.codeIn K cd10 "need_book" = true) (k10 : PySem.W.keepIn K (.ref f10) = true)
    (a11 : PySem.W.nsIn K mainGlobals "need_share" = some (some (.ref f11))) (l11 : K.lookup f11 = some ⟨oc11, od11, .func (PySem.W.fnOf "need_share" "need_share" (defArgs s_p_need_share) (defBody s_p_need_share) (defScope s_p_need_share) .none kV11 dc11 pm11 an11 cd11 ct11), sl11⟩) (c11 : PySem.W.codeIn K cd11 "need_share" = true) (k11 : PySem.W.keepIn K (.ref f11) = true)
    (a12 : PySem.W.nsIn K mainGlobals "need_full" = some (some (.ref f12))) (l12 : K.lookup f12 = some ⟨oc12, od12, .func (PySem.W.fnOf "need_full" "need_full" (defArgs s_p_need_full) (defBody s_p_need_full) (defScope s_p_need_full) .none kV12 dc12 pm12 an12 cd12 ct12), sl12⟩) (c12 : PySem.W.codeIn K cd12 "need_full" = true) (k12 : PySem.W.keepIn K (.ref f12) = true)
    (a13 : PySem.W.nsIn K mainGlobals "need_inner" = some (some (.ref f13))) (l13 : K.lookup f13 = some ⟨oc13, od13, .func (PySem.W.fnOf "need_inner" "need_inner" (defArgs s_p_need_inner) (defBody s_p_need_inner) (defScope s_p_need_inner) .none kV13 dc13 pm13 an13 cd13 ct13), sl13⟩) (c13 : PySem.W.codeIn K cd13 "need_inner" = true) (k13 : PySem.W.keepIn K (.ref f13) = true)
    (a14 : PySem.W.nsIn K mainGlobals "chances" = some (some (.ref f14))) (l14 : K.lookup f14 = some ⟨oc14, od14, .func (PySem.W.fnOf "chances" "chances" (defArgs s_p_chances) (defBody s_p_chances) (defScope s_p_chances) .none kV14 dc14 pm14 an14 cd14 ct14), sl14⟩) (c14 : PySem.W.codeIn K cd14 "chances" = true) (k14 : PySem.W.keepIn K (.ref f14) = true)
    (a15 : PySem.W.nsIn K mainGlobals "sureness" = some (some (.ref f15))) (l15 : K.lookup f15 = some ⟨oc15, od15, .func (PySem.W.fnOf "sureness" "sureness" (defArgs s_p_sureness) (defBody s_p_sureness) (defScope s_p_sureness) .none kV15 dc15 pm15 an15 cd15 ct15), sl15⟩) (c15 : PySem.W.codeIn K cd15 "sureness" = true) (k15 : PySem.W.keepIn K (.ref f15) = true)
    (a16 : PySem.W.nsIn K mainGlobals "band" = some (some (.ref f16))) (l16 : K.lookup f16 = some ⟨oc16, od16, .func (PySem.W.fnOf "band" "band" (defArgs s_p_band) (defBody s_p_band) (defScope s_p_band) .none kV16 dc16 pm16 an16 cd16 ct16), sl16⟩) (c16 : PySem.W.codeIn K cd16 "band" = true) (k16 : PySem.W.keepIn K (.ref f16) = true)
    (a17 : PySem.W.nsIn K mainGlobals "_law_cell_at" = some (some (.ref f17))) (l17 : K.lookup f17 = some ⟨oc17, od17, .func (PySem.W.fnOf "_law_cell_at" "_law_cell_at" (defArgs s_l_cell_at) (defBody s_l_cell_at) (defScope s_l_cell_at) .none kV17 dc17 pm17 an17 cd17 ct17), sl17⟩) (c17 : PySem.W.codeIn K cd17 "_law_cell_at" = true) (k17 : PySem.W.keepIn K (.ref f17) = true)
    (a18 : PySem.W.nsIn K mainGlobals "_law_pot" = some (some (.ref f18))) (l18 : K.lookup f18 = some ⟨oc18, od18, .func (PySem.W.fnOf "_law_pot" "_law_pot" (defArgs s_l_pot) (defBody s_l_pot) (defScope s_l_pot) .none kV18 dc18 pm18 an18 cd18 ct18), sl18⟩) (c18 : PySem.W.codeIn K cd18 "_law_pot" = true) (k18 : PySem.W.keepIn K (.ref f18) = true)
    (a19 : PySem.W.nsIn K mainGlobals "_law_take" = some (some (.ref f19))) (l19 : K.lookup f19 = some ⟨oc19, od19, .func (PySem.W.fnOf "_law_take" "_law_take" (defArgs s_l_take) (defBody s_l_take) (defScope s_l_take) .none kV19 dc19 pm19 an19 cd19 ct19), sl19⟩) (c19 : PySem.W.codeIn K cd19 "_law_take" = true) (k19 : PySem.W.keepIn K (.ref f19) = true)
    (a20 : PySem.W.nsIn K mainGlobals "_law_whole" = some (some (.ref f20))) (l20 : K.lookup f20 = some ⟨oc20, od20, .func (PySem.W.fnOf "_law_whole" "_law_whole" (defArgs s_l_whole) (defBody s_l_whole) (defScope s_l_whole) .none kV20 dc20 pm20 an20 cd20 ct20), sl20⟩) (c20 : PySem.W.codeIn K cd20 "_law_whole" = true) (k20 : PySem.W.keepIn K (.ref f20) = true)
    (a21 : PySem.W.nsIn K mainGlobals "_law_within" = some (some (.ref f21))) (l21 : K.lookup f21 = some ⟨oc21, od21, .func (PySem.W.fnOf "_law_within" "_law_within" (defArgs s_l_within) (defBody s_l_within) (defScope s_l_within) .none kV21 dc21 pm21 an21 cd21 ct21), sl21⟩) (c21 : PySem.W.codeIn K cd21 "_law_within" = true) (k21 : PySem.W.keepIn K (.ref f21) = true)
    (a22 : PySem.W.nsIn K mainGlobals "_law_odd" = some (some (.ref f22))) (l22 : K.lookup f22 = some ⟨oc22, od22, .func (PySem.W.fnOf "_law_odd" "_law_odd" (defArgs s_l_odd) (defBody s_l_odd) (defScope s_l_odd) .none kV22 dc22 pm22 an22 cd22 ct22), sl22⟩) (c22 : PySem.W.codeIn K cd22 "_law_odd" = true) (k22 : PySem.W.keepIn K (.ref f22) = true)
    (a23 : PySem.W.nsIn K mainGlobals "_law_low" = some (some (.ref f23))) (l23 : K.lookup f23 = some ⟨oc23, od23, .func (PySem.W.fnOf "_law_low" "_law_low" (defArgs s_l_low) (defBody s_l_low) (defScope s_l_low) .none kV23 dc23 pm23 an23 cd23 ct23), sl23⟩) (c23 : PySem.W.codeIn K cd23 "_law_low" = true) (k23 : PySem.W.keepIn K (.ref f23) = true)
    (a24 : PySem.W.nsIn K mainGlobals "_law_plain" = some (some (.ref f24))) (l24 : K.lookup f24 = some ⟨oc24, od24, .func (PySem.W.fnOf "_law_plain" "_law_plain" (defArgs s_l_plain) (defBody s_l_plain) (defScope s_l_plain) .none kV24 dc24 pm24 an24 cd24 ct24), sl24⟩) (c24 : PySem.W.codeIn K cd24 "_law_plain" = true) (k24 : PySem.W.keepIn K (.ref f24) = true)
    (a25 : PySem.W.nsIn K mainGlobals "_law_full" = some (some (.ref f25))) (l25 : K.lookup f25 = some ⟨oc25, od25, .func (PySem.W.fnOf "_law_full" "_law_full" (defArgs s_l_full) (defBody s_l_full) (defScope s_l_full) .none kV25 dc25 pm25 an25 cd25 ct25), sl25⟩) (c25 : PySem.W.codeIn K cd25 "_law_full" = true) (k25 : PySem.W.keepIn K (.ref f25) = true)
    (a26 : PySem.W.nsIn K mainGlobals "_law_no_books" = some (some (.ref f26))) (l26 : K.lookup f26 = some ⟨oc26, od26, .func (PySem.W.fnOf "_law_no_books" "_law_no_books" (defArgs s_l_no_books) (defBody s_l_no_books) (defScope s_l_no_books) .none kV26 dc26 pm26 an26 cd26 ct26), sl26⟩) (c26 : PySem.W.codeIn K cd26 "_law_no_books" = true) (k26 : PySem.W.keepIn K (.ref f26) = true)
    (a27 : PySem.W.nsIn K mainGlobals "_law_is_inner" = some (some (.ref f27))) (l27 : K.lookup f27 = some ⟨oc27, od27, .func (PySem.W.fnOf "_law_is_inner" "_law_is_inner" (defArgs s_l_is_inner) (defBody s_l_is_inner) (defScope s_l_is_inner) .none kV27 dc27 pm27 an27 cd27 ct27), sl27⟩) (c27 : PySem.W.codeIn K cd27 "_law_is_inner" = true) (k27 : PySem.W.keepIn K (.ref f27) = true)
    (a28 : PySem.W.nsIn K mainGlobals "_law_is_share" = some (some (.ref f28))) (l28 : K.lookup f28 = some ⟨oc28, od28, .func (PySem.W.fnOf "_law_is_share" "_law_is_share" (defArgs s_l_is_share) (defBody s_l_is_share) (defScope s_l_is_share) .none kV28 dc28 pm28 an28 cd28 ct28), sl28⟩) (c28 : PySem.W.codeIn K cd28 "_law_is_share" = true) (k28 : PySem.W.keepIn K (.ref f28) = true)
    (a29 : PySem.W.nsIn K mainGlobals "_law_first" = some (some (.ref f29))) (l29 : K.lookup f29 = some ⟨oc29, od29, .func (PySem.W.fnOf "_law_first" "_law_first" (defArgs s_l_first) (defBody s_l_first) (defScope s_l_first) .none kV29 dc29 pm29 an29 cd29 ct29), sl29⟩) (c29 : PySem.W.codeIn K cd29 "_law_first" = true) (k29 : PySem.W.keepIn K (.ref f29) = true)
    (a30 : PySem.W.nsIn K mainGlobals "_law_fractions" = some (some (.ref f30))) (l30 : K.lookup f30 = some ⟨oc30, od30, .func (PySem.W.fnOf "_law_fractions" "_law_fractions" (defArgs s_l_fractions) (defBody s_l_fractions) (defScope s_l_fractions) .none kV30 dc30 pm30 an30 cd30 ct30), sl30⟩) (c30 : PySem.W.codeIn K cd30 "_law_fractions" = true) (k30 : PySem.W.keepIn K (.ref f30) = true)
    (a31 : PySem.W.nsIn K mainGlobals "_law_bands" = some (some (.ref f31))) (l31 : K.lookup f31 = some ⟨oc31, od31, .func (PySem.W.fnOf "_law_bands" "_law_bands" (defArgs s_l_bands) (defBody s_l_bands) (defScope s_l_bands) .none kV31 dc31 pm31 an31 cd31 ct31), sl31⟩) (c31 : PySem.W.codeIn K cd31 "_law_bands" = true) (k31 : PySem.W.keepIn K (.ref f31) = true)
    (a32 : PySem.W.nsIn K mainGlobals "law" = some (some (.ref f32))) (l32 : K.lookup f32 = some ⟨oc32, od32, .func (PySem.W.fnOf "law" "law" (defArgs s_l_law) (defBody s_l_law) (defScope s_l_law) .none kV32 dc32 pm32 an32 cd32 ct32), sl32⟩) (c32 : PySem.W.codeIn K cd32 "law" = true) (k32 : PySem.W.keepIn K (.ref f32) = true)
    (a33 : PySem.W.nsIn K mainGlobals "_law_refusal" = some (some (.ref f33))) (l33 : K.lookup f33 = some ⟨oc33, od33, .func (PySem.W.fnOf "_law_refusal" "_law_refusal" (defArgs s_l_refusal) (defBody s_l_refusal) (defScope s_l_refusal) .none kV33 dc33 pm33 an33 cd33 ct33), sl33⟩) (c33 : PySem.W.codeIn K cd33 "_law_refusal" = true) (k33 : PySem.W.keepIn K (.ref f33) = true)
    (a34 : PySem.W.nsIn K mainGlobals "_law_said" = some (some (.ref f34))) (l34 : K.lookup f34 = some ⟨oc34, od34, .func (PySem.W.fnOf "_law_said" "_law_said" (defArgs s_l_said) (defBody s_l_said) (defScope s_l_said) .none kV34 dc34 pm34 an34 cd34 ct34), sl34⟩) (c34 : PySem.W.codeIn K cd34 "_law_said" = true) (k34 : PySem.W.keepIn K (.ref f34) = true)
    (g0 : PySem.W.nsIn K mainGlobals "MOST_AGE" = some (some (.int 999 gt0)))
    (g1 : PySem.W.nsIn K mainGlobals "MOST_SPANS" = some (some (.int 40 gt1)))
    (g2 : PySem.W.nsIn K mainGlobals "KINDS" = some (some (.ref ga2))) (o2 : K.lookup ga2 = some ⟨.type "tuple", gd2, .seq #[.int 1 gt2_0, .int 2 gt2_1, .int 3 gt2_2, .int 4 gt2_3] gn2, gs2⟩)
    (z0 : PySem.W.nsIn K mainGlobals "ValueError" = some none)
    (z1 : PySem.W.nsIn K mainGlobals "abs" = some none)
    (z2 : PySem.W.nsIn K mainGlobals "all" = some none)
    (z3 : PySem.W.nsIn K mainGlobals "any" = some none)
    (z4 : PySem.W.nsIn K mainGlobals "bool" = some none)
    (z5 : PySem.W.nsIn K mainGlobals "int" = some none)
    (z6 : PySem.W.nsIn K mainGlobals "isinstance" = some none)
    (z7 : PySem.W.nsIn K mainGlobals "len" = some none)
    (z8 : PySem.W.nsIn K mainGlobals "max" = some none)
    (z9 : PySem.W.nsIn K mainGlobals "min" = some none)
    (z10 : PySem.W.nsIn K mainGlobals "range" = some none)
    (z11 : PySem.W.nsIn K mainGlobals "repr" = some none)
    (z12 : PySem.W.nsIn K mainGlobals "sorted" = some none)
    (z13 : PySem.W.nsIn K mainGlobals "sum" = some none)
    (z14 : PySem.W.nsIn K mainGlobals "tuple" = some none)
    (z15 : PySem.W.nsIn K mainGlobals "zip" = some none)
    (ck : lamChk K lams = true)
    (xk : exChk K = true) :
    ∃ fd : FuncData, (∀ (s : Shared) (v : Value), BindsTo s fd ⟨[v], []⟩ [("_law_script", v)]) ∧ ∀ base : Heap, K.In base → base.Ns mainGlobals mg → (∃ m, base.Ns sysModules m) → (∀ t ∈ tabsK K lams, LamX.TabB base mg t.1 t.2.1) → FnG l.prog w K mg base (3 * 30 + 3) fa fd ["_law_script"] (spK K (stcK K lams) 1 fun ds h => runDef P (callK P 30) d_l_law ds h) := by
  have e := hfa.symm.trans (PySem.W.mg_of X G a32)
  cases e
  have F0 := fun_mk (st := s_p_is_whole) l0 c0 k0
  have R0 : Row tb P K mg lams "is_whole" 0 := ⟨⟨_, _, _, _, ["thing"], ⟨n_p_is_whole, d_p_is_whole, false⟩, PySem.W.mg_of X G a0, F0, sc_p_is_whole, ok_p_is_whole, rfl, rfl, F0.binds (ps := ["thing"]) (fun _ _ _ _ _ _ us hl => match us, hl with | [_], _ => rfl), fun h => nomatch (show false = true from h)⟩⟩
  have F1 := fun_mk (st := s_p_is_from_to) l1 c1 k1
  have R1 : Row tb P K mg lams "is_from_to" 1 := ⟨⟨_, _, _, _, ["thing", "low", "high"], ⟨n_p_is_from_to, d_p_is_from_to, false⟩, PySem.W.mg_of X G a1, F1, sc_p_is_from_to, ok_p_is_from_to, rfl, rfl, F1.binds (ps := ["thing", "low", "high"]) (fun _ _ _ _ _ _ us hl => match us, hl with | [_, _, _], _ => rfl), fun h => nomatch (show false = true from h)⟩⟩
  have F2 := fun_mk (st := s_p_common) l2 c2 k2
  have R2 : Row tb P K mg lams "common" 2 := ⟨⟨_, _, _, _, ["one", "other"], ⟨n_p_common, d_p_common, false⟩, PySem.W.mg_of X G a2, F2, sc_p_common, ok_p_common, rfl, rfl, F2.binds (ps := ["one", "other"]) (fun _ _ _ _ _ _ us hl => match us, hl with | [_, _], _ => rfl), fun h => nomatch (show false = true from h)⟩⟩
  have F3 := fun_mk (st := s_p_put) l3 c3 k3
  have R3 : Row tb P K mg lams "put" 3 := ⟨⟨_, _, _, _, ["top", "bottom"], ⟨n_p_put, d_p_put, false⟩, PySem.W.mg_of X G a3, F3, sc_p_put, ok_p_put, rfl, rfl, F3.binds (ps := ["top", "bottom"]) (fun _ _ _ _ _ _ us hl => match us, hl with | [_, _], _ => rfl), fun h => nomatch (show false = true from h)⟩⟩
  have F4 := fun_mk (st := s_p_is_fraction) l4 c4 k4
  have R4 : Row tb P K mg lams "is_fraction" 4 := ⟨⟨_, _, _, _, ["thing"], ⟨n_p_is_fraction, d_p_is_fraction, false⟩, PySem.W.mg_of X G a4, F4, sc_p_is_fraction, ok_p_is_fraction, rfl, rfl, F4.binds (ps := ["thing"]) (fun _ _ _ _ _ _ us hl => match us, hl with | [_], _ => rfl), fun h => nomatch (show false = true from h)⟩⟩
  have F5 := fun_mk (st := s_p_is_share) l5 c5 k5
  have R5 : Row tb P K mg lams "is_share" 5 := ⟨⟨_, _, _, _, ["thing"], ⟨n_p_is_share, d_p_is_share, false⟩, PySem.W.mg_of X G a5, F5, sc_p_is_share, ok_p_is_share, rfl, rfl, F5.binds (ps := ["thing"]) (fun _ _ _ _ _ _ us hl => match us, hl with | [_], _ => rfl), fun h => nomatch (show false = true from h)⟩⟩
  have F6 := fun_mk (st := s_p_is_less) l6 c6 k6
  have R6 : Row tb P K mg lams "is_less" 10 := ⟨⟨_, _, _, _, ["one", "other"], ⟨n_p_is_less, d_p_is_less, false⟩, PySem.W.mg_of X G a6, F6, sc_p_is_less, ok_p_is_less, rfl, rfl, F6.binds (ps := ["one", "other"]) (fun _ _ _ _ _ _ us hl => match us, hl with | [_, _], _ => rfl), fun h => nomatch (show false = true from h)⟩⟩
  have F7 := fun_mk (st := s_p_is_lasting) l7 c7 k7
  have R7 : Row tb P K mg lams "is_lasting" 14 := ⟨⟨_, _, _, _, ["thing", "most"], ⟨n_p_is_lasting, d_p_is_lasting, false⟩, PySem.W.mg_of X G a7, F7, sc_p_is_lasting, ok_p_is_lasting, rfl, rfl, F7.binds (ps := ["thing", "most"]) (fun _ _ _ _ _ _ us hl => match us, hl with | [_, _], _ => rfl), fun h => nomatch (show false = true from h)⟩⟩
  have F8 := fun_mk (st := s_p_is_span) l8 c8 k8
  have R8 : Row tb P K mg lams "is_span" 15 := ⟨⟨_, _, _, _, ["thing"], ⟨n_p_is_span, d_p_is_span, false⟩, PySem.W.mg_of X G a8, F8, sc_p_is_span, ok_p_is_span, rfl, rfl, F8.binds (ps := ["thing"]) (fun _ _ _ _ _ _ us hl => match us, hl with | [_], _ => rfl), fun h => nomatch (show false = true from h)⟩⟩
  have F9 := fun_mk (st := s_p_is_book) l9 c9 k9
  have R9 : Row tb P K mg lams "is_book" 16 := ⟨⟨_, _, _, _, ["thing"], ⟨n_p_is_book, d_p_is_book, false⟩, PySem.W.mg_of X G a9, F9, sc_p_is_book, ok_p_is_book, rfl, rfl, F9.binds (ps := ["thing"]) (fun _ _ _ _ _ _ us hl => match us, hl with | [_], _ => rfl), fun h => nomatch (show false = true from h)⟩⟩
  have F10 := fun_mk (st := s_p_need_book) l10 c10 k10
  have R10 : Row tb P K mg lams "need_book" 17 := ⟨⟨_, _, _, _, ["thing"], ⟨n_p_need_book, d_p_need_book, false⟩, PySem.W.mg_of X G a10, F10, sc_p_need_book, ok_p_need_book, rfl, rfl, F10.binds (ps := ["thing"]) (fun _ _ _ _ _ _ us hl => match us, hl with | [_], _ => rfl), fun h => nomatch (show false = true from h)⟩⟩
  have F11 := fun_mk (st := s_p_need_share) l11 c11 k11
  have R11 : Row tb P K mg lams "need_share" 25 := ⟨⟨_, _, _, _, ["thing"], ⟨n_p_need_share, d_p_need_share, false⟩, PySem.W.mg_of X G a11, F11, sc_p_need_share, ok_p_need_share, rfl, rfl, F11.binds (ps := ["thing"]) (fun _ _ _ _ _ _ us hl => match us, hl with | [_], _ => rfl), fun h => nomatch (show false = true from h)⟩⟩
  have F12 := fun_mk (st := s_p_need_full) l12 c12 k12
  have R12 : Row tb P K mg lams "need_full" 45 := ⟨⟨_, _, _, _, ["thing"], ⟨n_p_need_full, d_p_need_full, false⟩, PySem.W.mg_of X G a12, F12, sc_p_need_full, ok_p_need_full, rfl, rfl, F12.binds (ps := ["thing"]) (fun _ _ _ _ _ _ us hl => match us, hl with | [_], _ => rfl), fun h => nomatch (show false = true from h)⟩⟩
  have F13 := fun_mk (st := s_p_need_inner) l13 c13 k13
  have R13 : Row tb P K mg lams "need_inner" 46 := ⟨⟨_, _, _, _, ["thing"], ⟨n_p_need_inner, d_p_need_inner, false⟩, PySem.W.mg_of X G a13, F13, sc_p_need_inner, ok_p_need_inner, rfl, rfl, F13.binds (ps := ["thing"]) (fun _ _ _ _ _ _ us hl => match us, hl with | [_], _ => rfl), fun h => nomatch (show false = true from h)⟩⟩
  have F14 := fun_mk (st := s_p_chances) l14 c14 k14
  have R14 : Row tb P K mg lams "chances" 47 := ⟨⟨_, _, _, _, ["many", "share"], ⟨n_p_chances, d_p_chances, false⟩, PySem.W.mg_of X G a14, F14, sc_p_chances, ok_p_chances, rfl, rfl, F14.binds (ps := ["many", "share"]) (fun _ _ _ _ _ _ us hl => match us, hl with | [_, _], _ => rfl), fun h => nomatch (show false = true from h)⟩⟩
  have F15 := fun_mk (st := s_p_sureness) l15 c15 k15
  have R15 : Row tb P K mg lams "sureness" 48 := ⟨⟨_, _, _, _, ["many", "share", "i", "j"], ⟨n_p_sureness, d_p_sureness, false⟩, PySem.W.mg_of X G a15, F15, sc_p_sureness, ok_p_sureness, rfl, rfl, F15.binds (ps := ["many", "share", "i", "j"]) (fun _ _ _ _ _ _ us hl => match us, hl with | [_, _, _, _], _ => rfl), fun h => nomatch (show false = true from h)⟩⟩
  have F16 := fun_mk (st := s_p_band) l16 c16 k16
  have R16 : Row tb P K mg lams "band" 49 := ⟨⟨_, _, _, _, ["book", "share", "sure"], ⟨n_p_band, d_p_band, false⟩, PySem.W.mg_of X G a16, F16, sc_p_band, ok_p_band, rfl, rfl, F16.binds (ps := ["book", "share", "sure"]) (fun _ _ _ _ _ _ us hl => match us, hl with | [_, _, _], _ => rfl), fun h => nomatch (show false = true from h)⟩⟩
  have F17 := fun_mk (st := s_l_cell_at) l17 c17 k17
  have R17 : Row tb P K mg lams "_law_cell_at" 106 := ⟨⟨_, _, _, _, ["_law_script", "_law_k"], ⟨n_l_cell_at, d_l_cell_at, false⟩, PySem.W.mg_of X G a17, F17, sc_l_cell_at, ok_l_cell_at, rfl, rfl, F17.binds (ps := ["_law_script", "_law_k"]) (fun _ _ _ _ _ _ us hl => match us, hl with | [_, _], _ => rfl), fun h => nomatch (show false = true from h)⟩⟩
  have F18 := fun_mk (st := s_l_pot) l18 c18 k18
  have R18 : Row tb P K mg lams "_law_pot" 107 := ⟨⟨_, _, _, _, ["_law_cell"], ⟨n_l_pot, d_l_pot, false⟩, PySem.W.mg_of X G a18, F18, sc_l_pot, ok_l_pot, rfl, rfl, F18.binds (ps := ["_law_cell"]) (fun _ _ _ _ _ _ us hl => match us, hl with | [_], _ => rfl), fun h => nomatch (show false = true from h)⟩⟩
  have F19 := fun_mk (st := s_l_take) l19 c19 k19
  have R19 : Row tb P K mg lams "_law_take" 108 := ⟨⟨_, _, _, _, ["_law_pot_here", "_law_far"], ⟨n_l_take, d_l_take, false⟩, PySem.W.mg_of X G a19, F19, sc_l_take, ok_l_take, rfl, rfl, F19.binds (ps := ["_law_pot_here", "_law_far"]) (fun _ _ _ _ _ _ us hl => match us, hl with | [_, _], _ => rfl), fun h => nomatch (show false = true from h)⟩⟩
  have F20 := fun_mk (st := s_l_whole) l20 c20 k20
  have R20 : Row tb P K mg lams "_law_whole" 109 := ⟨⟨_, _, _, _, ["_law_thing"], ⟨n_l_whole, d_l_whole, false⟩, PySem.W.mg_of X G a20, F20, sc_l_whole, ok_l_whole, rfl, rfl, F20.binds (ps := ["_law_thing"]) (fun _ _ _ _ _ _ us hl => match us, hl with | [_], _ => rfl), fun h => nomatch (show false = true from h)⟩⟩
  have F21 := fun_mk (st := s_l_within) l21 c21 k21
  have R21 : Row tb P K mg lams "_law_within" 110 := ⟨⟨_, _, _, _, ["_law_thing", "_law_low_here", "_law_high"], ⟨n_l_within, d_l_within, false⟩, PySem.W.mg_of X G a21, F21, sc_l_within, ok_l_within, rfl, rfl, F21.binds (ps := ["_law_thing", "_law_low_here", "_law_high"]) (fun _ _ _ _ _ _ us hl => match us, hl with | [_, _, _], _ => rfl), fun h => nomatch (show false = true from h)⟩⟩
  have F22 := fun_mk (st := s_l_odd) l22 c22 k22
  have R22 : Row tb P K mg lams "_law_odd" 111 := ⟨⟨_, _, _, _, ["_law_pot_here"], ⟨n_l_odd, d_l_odd, false⟩, PySem.W.mg_of X G a22, F22, sc_l_odd, ok_l_odd, rfl, rfl, F22.binds (ps := ["_law_pot_here"]) (fun _ _ _ _ _ _ us hl => match us, hl with | [_], _ => rfl), fun h => nomatch (show false = true from h)⟩⟩
  have F23 := fun_mk (st := s_l_low) l23 c23 k23
  have R23 : Row tb P K mg lams "_law_low" 112 := ⟨⟨_, _, _, _, ["_law_top", "_law_bottom"], ⟨n_l_low, d_l_low, false⟩, PySem.W.mg_of X G a23, F23, sc_l_low, ok_l_low, rfl, rfl, F23.binds (ps := ["_law_top", "_law_bottom"]) (fun _ _ _ _ _ _ us hl => match us, hl with | [_, _], _ => rfl), fun h => nomatch (show false = true from h)⟩⟩
  have F24 := fun_mk (st := s_l_plain) l24 c24 k24
  have R24 : Row tb P K mg lams "_law_plain" 115 := ⟨⟨_, _, _, _, ["_law_pot_here", "_law_most", "_law_far"], ⟨n_l_plain, d_l_plain, false⟩, PySem.W.mg_of X G a24, F24, sc_l_plain, ok_l_plain, rfl, rfl, F24.binds (ps := ["_law_pot_here", "_law_most", "_law_far"]) (fun _ _ _ _ _ _ us hl => match us, hl with | [_, _, _], _ => rfl), fun h => nomatch (show false = true from h)⟩⟩
  have F25 := fun_mk (st := s_l_full) l25 c25 k25
  have R25 : Row tb P K mg lams "_law_full" 116 := ⟨⟨_, _, _, _, ["_law_pot_here", "_law_most", "_law_far"], ⟨n_l_full, d_l_full, false⟩, PySem.W.mg_of X G a25, F25, sc_l_full, ok_l_full, rfl, rfl, F25.binds (ps := ["_law_pot_here", "_law_most", "_law_far"]) (fun _ _ _ _ _ _ us hl => match us, hl with | [_, _, _], _ => rfl), fun h => nomatch (show false = true from h)⟩⟩
  have F26 := fun_mk (st := s_l_no_books) l26 c26 k26
  have R26 : Row tb P K mg lams "_law_no_books" 117 := ⟨⟨_, _, _, _, [], ⟨n_l_no_books, d_l_no_books, false⟩, PySem.W.mg_of X G a26, F26, sc_l_no_books, ok_l_no_books, rfl, rfl, F26.binds (ps := []) (fun _ _ _ _ _ _ us hl => match us, hl with | [], _ => rfl), fun h => nomatch (show false = true from h)⟩⟩
  have F27 := fun_mk (st := s_l_is_inner) l27 c27 k27
  have R27 : Row tb P K mg lams "_law_is_inner" 118 := ⟨⟨_, _, _, _, ["_law_thing"], ⟨n_l_is_inner, d_l_is_inner, false⟩, PySem.W.mg_of X G a27, F27, sc_l_is_inner, ok_l_is_inner, rfl, rfl, F27.binds (ps := ["_law_thing"]) (fun _ _ _ _ _ _ us hl => match us, hl with | [_], _ => rfl), fun h => nomatch (show false = true from h)⟩⟩
  have F28 := fun_mk (st := s_l_is_share) l28 c28 k28
  have R28 : Row tb P K mg lams "_law_is_share" 119 := ⟨⟨_, _, _, _, ["_law_thing"], ⟨n_l_is_share, d_l_is_share, false⟩, PySem.W.mg_of X G a28, F28, sc_l_is_share, ok_l_is_share, rfl, rfl, F28.binds (ps := ["_law_thing"]) (fun _ _ _ _ _ _ us hl => match us, hl with | [_], _ => rfl), fun h => nomatch (show false = true from h)⟩⟩
  have F29 := fun_mk (st := s_l_first) l29 c29 k29
  have R29 : Row tb P K mg lams "_law_first" 120 := ⟨⟨_, _, _, _, ["_law_pairs"], ⟨n_l_first, d_l_first, false⟩, PySem.W.mg_of X G a29, F29, sc_l_first, ok_l_first, rfl, rfl, F29.binds (ps := ["_law_pairs"]) (fun _ _ _ _ _ _ us hl => match us, hl with | [_], _ => rfl), fun h => nomatch (show false = true from h)⟩⟩
  have F30 := fun_mk (st := s_l_fractions) l30 c30 k30
  have R30 : Row tb P K mg lams "_law_fractions" 121 := ⟨⟨_, _, _, _, ["_law_pot_here"], ⟨n_l_fractions, d_l_fractions, false⟩, PySem.W.mg_of X G a30, F30, sc_l_fractions, ok_l_fractions, rfl, rfl, F30.binds (ps := ["_law_pot_here"]) (fun _ _ _ _ _ _ us hl => match us, hl with | [_], _ => rfl), fun h => nomatch (show false = true from h)⟩⟩
  have F31 := fun_mk (st := s_l_bands) l31 c31 k31
  have R31 : Row tb P K mg lams "_law_bands" 122 := ⟨⟨_, _, _, _, ["_law_pot_here", "_law_many"], ⟨n_l_bands, d_l_bands, false⟩, PySem.W.mg_of X G a31, F31, sc_l_bands, ok_l_bands, rfl, rfl, F31.binds (ps := ["_law_pot_here", "_law_many"]) (fun _ _ _ _ _ _ us hl => match us, hl with | [_, _], _ => rfl), fun h => nomatch (show false = true from h)⟩⟩
  have F32 := fun_mk (st := s_l_law) l32 c32 k32
  have R32 : Row tb P K mg lams "law" 123 := ⟨⟨_, _, _, _, ["_law_script"], ⟨n_l_law, d_l_law, true⟩, PySem.W.mg_of X G a32, F32, sc_l_law, ok_l_law, rfl, rfl, F32.binds (ps := ["_law_script"]) (fun _ _ _ _ _ _ us hl => match us, hl with | [_], _ => rfl), fun _ => ⟨rfl, by decide +kernel⟩⟩⟩
  have hfn : ∀ x f, tb.fn x = some f → Row tb P K mg lams x f := look_all (l := fnTab) (Q := Row tb P K mg lams) (fa_cons R0 (fa_cons R1 (fa_cons R2 (fa_cons R3 (fa_cons R4 (fa_cons R5 (fa_cons R6 (fa_cons R7 (fa_cons R8 (fa_cons R9 (fa_cons R10 (fa_cons R11 (fa_cons R12 (fa_cons R13 (fa_cons R14 (fa_cons R15 (fa_cons R16 (fa_cons R17 (fa_cons R18 (fa_cons R19 (fa_cons R20 (fa_cons R21 (fa_cons R22 (fa_cons R23 (fa_cons R24 (fa_cons R25 (fa_cons R26 (fa_cons R27 (fa_cons R28 (fa_cons R29 (fa_cons R30 (fa_cons R31 (fa_cons R32 fa_nil)))))))))))))))))))))))))))))))))
  have hgl : ∀ x g, tb.gl x = some g → GlOk P K mg x g := look_all (l := glTab) (Q := GlOk P K mg) (fa_cons (gl_int (n := 999) (PySem.W.mg_of X G g0) rfl) (fa_cons (gl_int (n := 40) (PySem.W.mg_of X G g1) rfl) (fa_cons (gl_ints (ns := [1, 2, 3, 4]) (PySem.W.mg_of X G g2) o2 (.cons ⟨_, rfl⟩ (.cons ⟨_, rfl⟩ (.cons ⟨_, rfl⟩ (.cons ⟨_, rfl⟩ .nil)))) (by simp) rfl) fa_nil)))
  have hbt : ∀ x, tb.bt x = true → mg x = none := cont_all (l := btTab) (Q := fun x => mg x = none) (fn_cons (PySem.W.mg_none_of X G z0) (fn_cons (PySem.W.mg_none_of X G z1) (fn_cons (PySem.W.mg_none_of X G z2) (fn_cons (PySem.W.mg_none_of X G z3) (fn_cons (PySem.W.mg_none_of X G z4) (fn_cons (PySem.W.mg_none_of X G z5) (fn_cons (PySem.W.mg_none_of X G z6) (fn_cons (PySem.W.mg_none_of X G z7) (fn_cons (PySem.W.mg_none_of X G z8) (fn_cons (PySem.W.mg_none_of X G z9) (fn_cons (PySem.W.mg_none_of X G z10) (fn_cons (PySem.W.mg_none_of X G z11) (fn_cons (PySem.W.mg_none_of X G z12) (fn_cons (PySem.W.mg_none_of X G z13) (fn_cons (PySem.W.mg_none_of X G z14) (fn_cons (PySem.W.mg_none_of X G z15) fn_nil))))))))))))))))
  have E := exAll_of X G xk
  have F33 := fun_mk (st := s_l_refusal) l33 c33 k33
  have F34 := fun_mk (st := s_l_said) l34 c34 k34
  have B33 := F33.binds (ps := ["_law_e"]) fun _ _ _ _ _ _ us hl => match us, hl with | [_], _ => rfl
  have B34 := F34.binds (ps := ["_law_call"]) fun _ _ _ _ _ _ us hl => match us, hl with | [_], _ => rfl
  have hsd : ∀ x, tb.sd x = true → SaidR l.prog w K mg (stcK K lams).tabs x := fun x hx => by
    have hx : (x == ("_law_said" : Str)) = true := hx
    obtain rfl := beq_iff_eq.mp hx
    exact saidR_of (PySem.W.mg_of X G a34) F34 sc_l_said B34 ok_l_said (PySem.W.mg_of X G a33) k33 B33 (fnX_of (C := stcK K lams) F33 sc_l_refusal E hbt ok_l_refusal rfl rfl run_l_refusal) E
  have cx : Ctx tb P K mg lams l.prog w := ⟨rfl, ck, hfn, hgl, hbt, hsd, fun _ => E⟩
  exact ⟨_, fun s v => .of_eq rfl, fun base X2 N2 sm2 tb2 => law_def (g := ⟨n_l_law, d_l_law, true⟩) cx X2 N2 sm2 tb2 F32 sc_l_law ok_l_law (PySem.W.mg_of X G a32) (fun h => by decide +kernel) 30⟩
end MP


set_option Elab.async false
set_option linter.all false
set_option maxRecDepth 100000
set_option exponentiation.threshold 5000
set_option maxHeartbeats 4000000
namespace MP
/-! ### whole numbers, Euclid, fractions of any size that comes up -/
@[simp] theorem c_is_whole (k : Nat) (i : Int) (h : Hh) : callK P (k + 1) F_p_is_whole [.int i] h = .ok (.v (.bl true)) h := by
  rw [call_run (d := d_p_is_whole) rfl rfl]
  simp [runDef, d_p_is_whole]
@[simp] theorem c_is_from_to (k : Nat) (i l m : Int) (h : Hh) : callK P (k + 2) F_p_is_from_to [.int i, .int l, .int m] h = .ok (.v (.bl (decide (l ≤ i) && decide (i ≤ m)))) h := by
  rw [call_run (d := d_p_is_from_to) rfl rfl]
  have e := c_is_whole k i h
  simp [runDef, d_p_is_from_to, e]
  by_cases h1 : l ≤ i <;> simp [h1]
theorem fuBig (n : Nat) (h : n < 2 ^ 4900) : ∃ m, FU = m + 1 + n := by
  have : (2 : Nat) ^ 4900 < FU := Nat.pow_lt_pow_right (by decide) (by decide)
  exact ⟨FU - (n + 1), by omega⟩
theorem logLt {x : Int} {n : Nat} (h : x.natAbs < 2 ^ n) (hn : 0 < n) : x.natAbs.log2 < n := by
  by_cases z : x.natAbs = 0
  · rw [z]
    exact hn
  · exact (Nat.log2_lt z).mpr h
theorem natAbs_lt {x : Int} {n : Nat} (h0 : 0 ≤ x) (h : x < 2 ^ n) : x.natAbs < 2 ^ n := by
  have e : ((2 ^ n : Nat) : Int) = (2 : Int) ^ n := by rw [Int.natCast_pow]; rfl
  omega
theorem mulOk {x y : Int} {n m : Nat} (hx : x.natAbs < 2 ^ n) (hy : y.natAbs < 2 ^ m) (hn : n + m < 999990) : x.natAbs.log2 + y.natAbs.log2 < 1000000 := by
  have a : x.natAbs.log2 < n + 1 := logLt (Nat.lt_of_lt_of_le hx (Nat.pow_le_pow_right (by decide) (by omega))) (by omega)
  have b : y.natAbs.log2 < m + 1 := logLt (Nat.lt_of_lt_of_le hy (Nat.pow_le_pow_right (by decide) (by omega))) (by omega)
  omega
theorem gcdStep (a b : Int) (ha : 0 ≤ a) (hb : 0 < b) : Int.gcd b (a % b) = Int.gcd a b := by
  obtain ⟨m, rfl⟩ := Int.eq_ofNat_of_zero_le ha
  obtain ⟨n, rfl⟩ := Int.eq_ofNat_of_zero_le (Int.le_of_lt hb)
  show Nat.gcd n (m % n) = Nat.gcd m n
  rw [Nat.gcd_comm n (m % n), ← Nat.gcd_rec, Nat.gcd_comm]
/-- a loop of Euclid; the two numbers stand behind some slots -/
theorem wEuclid (pre : Env) {ck : Env → Hh → Res Bool} {bd : Env → Hh → SRes} {h : Hh} (hck : ∀ a b : Int, 0 ≤ b → ck (pre ++ [.v (.int a), .v (.int b)]) h = .ok (decide (b ≠ 0)) h) (hbd : ∀ a b : Int, 0 < b → bd (pre ++ [.v (.int a), .v (.int b)]) h = .nx (pre ++ [.v (.int b), .v (.int (a % b))]) h) :
    ∀ (n : Nat) (a b : Int) (m : Nat), 0 ≤ a → 0 ≤ b → b.toNat ≤ n → whileGo ck bd (m + 1 + n) (pre ++ [.v (.int a), .v (.int b)]) h = .nx (pre ++ [.v (.int (Int.gcd a b)), .v (.int 0)]) h
  | n, a, b, m, ha, hb, hn => by
    by_cases z : b = 0
    · subst z
      rw [show m + 1 + n = (m + n) + 1 by omega, whileGo, hck _ _ (Int.le_refl _)]
      simp
      omega
    · have hp : 0 < b := by omega
      have lt : (a % b).toNat < b.toNat := by
        have := Int.emod_lt_of_pos a hp
        have := Int.emod_nonneg a z
        omega
      cases n with
      | zero => omega
      | succ n =>
        rw [show m + 1 + (n + 1) = (m + 1 + n) + 1 by omega, whileGo, hck _ _ hb]
        simp only [ne_eq, z, not_false_eq_true, decide_true]
        rw [hbd a b hp]
        simp only
        rw [wEuclid pre hck hbd n b (a % b) m hb (Int.emod_nonneg a z) (by omega), gcdStep a b ha hp]
theorem c_common (k : Nat) (a b : Int) (h : Hh) (ha : 0 ≤ a) (hb : 0 ≤ b) (hs : b < 2 ^ 4000) : callK P (k + 1) F_p_common [.int a, .int b] h = .ok (.v (.int (Int.gcd a b))) h := by
  rw [call_run (d := d_p_common) rfl rfl]
  simp [runDef, d_p_common]
  obtain ⟨m, hm⟩ := fuBig b.toNat (by have := natAbs_lt hb hs; have : (2 : Nat) ^ 4000 < 2 ^ 4900 := Nat.pow_lt_pow_right (by decide) (by decide); omega)
  have e := wEuclid [] (h := h) (ck := evC P (callK P k) d_p_common_c1) (bd := fun r h => evSs P (callK P k) d_p_common_b1 r h) (fun a b hb => by simp [d_p_common_c1]) (fun a b hp => by simp [d_p_common_b1, hp]) b.toNat a b m ha hb (Nat.le_refl _)
  simp only [List.nil_append] at e
  rw [hm, e]
  have : ¬ ((Int.gcd a b : Nat) : Int) < 0 := by omega
  simp [this]
/-- in lowest terms -/
def lowD (t b : Int) : D := .tup [.int (t / (Int.gcd t b : Nat)), .int (b / (Int.gcd t b : Nat))]
theorem gcd_le (t b : Int) (hb : 0 < b) : 0 < ((Int.gcd t b : Nat) : Int) ∧ ((Int.gcd t b : Nat) : Int) ≤ b := by
  have h1 : 0 < Int.gcd t b := Int.gcd_pos_of_ne_zero_right t (by omega)
  have h2 : ((Int.gcd t b : Nat) : Int) ∣ b := Int.gcd_dvd_right ..
  exact ⟨by omega, Int.le_of_dvd hb h2⟩
theorem gcdSmall (t b : Int) (hb : 0 < b) (hs : b < 2 ^ 4000) : ((Int.gcd t b : Nat) : Int).natAbs < 2 ^ 4000 := by
  obtain ⟨g1, g2⟩ := gcd_le t b hb
  exact natAbs_lt (by omega) (by omega)
theorem c_put (k : Nat) (t b : Int) (h : Hh) (ht : 0 ≤ t) (hb : 0 < b) (hs : b < 2 ^ 4000) : callK P (k + 2) F_p_put [.int t, .int b] h = .ok (.v (lowD t b)) h := by
  rw [call_run (d := d_p_put) rfl rfl]
  obtain ⟨g1, g2⟩ := gcd_le t b hb
  have gs := gcdSmall t b hb hs
  have lg := logLt gs (by decide)
  have lg2 := mulOk (y := 1) (m := 1) gs (by decide) (by decide)
  have e := c_common k t b h ht (by omega) hs
  simp [runDef, d_p_put, e, hb]
  simp at lg lg2
  have e1 : 0 < Int.gcd t b := by omega
  have e3 : (Int.gcd t b).log2 < 9000 := by omega
  simp [e1, lg2, e3, lowD]
end MP


set_option Elab.async false
set_option linter.all false
set_option maxRecDepth 100000
set_option maxHeartbeats 4000000
namespace MP
theorem log_small {x : Int} (h0 : 0 ≤ x) (h : x < 2 ^ 64) : x.natAbs.log2 < 64 := by
  by_cases z : x.natAbs = 0
  · rw [z]; decide
  · exact (Nat.log2_lt z).mpr (by omega)
/-- a loop that keeps something -/
theorem for_inv {body : Env → Hh → SRes} {bd : D → Env → Hh → Option Env} (N : Nat) (I : Nat → Env → Hh → Prop) : ∀ (xs : List D) (i : Nat) (r : Env) (h : Hh), i + xs.length ≤ N → (∀ x ∈ xs, ∀ i r h, i < N → I i r h → ∃ r1 r' h', bd x r h = some r1 ∧ body r1 h = .nx r' h' ∧ I (i + 1) r' h') → I i r h →
    ∃ r' h', forGo bd body xs r h = .nx r' h' ∧ I (i + xs.length) r' h'
  | [], i, r, h, _, _, h0 => ⟨r, h, by simp, h0⟩
  | x :: xs, i, r, h, hn, st, h0 => by
    rw [List.length_cons] at hn
    obtain ⟨r1, r2, h2, e1, e2, i2⟩ := st x (by simp) i r h (by omega) h0
    obtain ⟨r3, h3, e3, i3⟩ := for_inv N I xs (i + 1) r2 h2 (by omega) (fun y hy => st y (by simp [hy])) i2
    refine ⟨r3, h3, ?_, by rw [List.length_cons, show i + (xs.length + 1) = i + 1 + xs.length by omega]; exact i3⟩
    rw [forGo, e1]
    simp only [e2, e3]
theorem for_invG {G : SRes → Prop} {body : Env → Hh → SRes} {bd : D → Env → Hh → Option Env} (I : Nat → Env → Hh → Prop) {xs : List D} {r : Env} {h : Hh} (st : ∀ x ∈ xs, ∀ i r h, i < xs.length → I i r h → ∃ r1 r' h', bd x r h = some r1 ∧ body r1 h = .nx r' h' ∧ I (i + 1) r' h') (h0 : I 0 r h)
    (hG : ∀ r' h', I xs.length r' h' → G (.nx r' h')) : G (forGo bd body xs r h) := by
  obtain ⟨r', h', e, i⟩ := for_inv xs.length I xs 0 r h (by omega) st h0
  rw [e]
  exact hG r' h' (by simpa using i)
/-- the same, the item known by its place -/
theorem for_at {body : Env → Hh → SRes} {bd : D → Env → Hh → Option Env} (I : Nat → Env → Hh → Prop) : ∀ (xs : List D) (o : Nat) (r : Env) (h : Hh), (∀ (i : Nat) x, xs[i]? = some x → ∀ r h, I (o + i) r h → ∃ r1 r' h', bd x r h = some r1 ∧ body r1 h = .nx r' h' ∧ I (o + i + 1) r' h') → I o r h →
    ∃ r' h', forGo bd body xs r h = .nx r' h' ∧ I (o + xs.length) r' h'
  | [], o, r, h, _, h0 => ⟨r, h, by simp, h0⟩
  | x :: xs, o, r, h, st, h0 => by
    obtain ⟨r1, r2, h2, e1, e2, i2⟩ := st 0 x rfl r h h0
    obtain ⟨r3, h3, e3, i3⟩ := for_at I xs (o + 1) r2 h2 (fun i y hy r h hi => by
      rw [show o + 1 + i = o + (i + 1) by omega] at hi ⊢
      exact st (i + 1) y (by simpa using hy) r h hi) i2
    refine ⟨r3, h3, ?_, by rw [List.length_cons, show o + (xs.length + 1) = o + 1 + xs.length by omega]; exact i3⟩
    rw [forGo, e1]
    simp only [e2, e3]
theorem for_atG {G : SRes → Prop} {body : Env → Hh → SRes} {bd : D → Env → Hh → Option Env} (I : Nat → Env → Hh → Prop) {xs : List D} {r : Env} {h : Hh} (st : ∀ (i : Nat) x, xs[i]? = some x → ∀ r h, I i r h → ∃ r1 r' h', bd x r h = some r1 ∧ body r1 h = .nx r' h' ∧ I (i + 1) r' h') (h0 : I 0 r h)
    (hG : ∀ r' h', I xs.length r' h' → G (.nx r' h')) : G (forGo bd body xs r h) := by
  obtain ⟨r', h', e, i⟩ := for_at I xs 0 r h (fun i x hx r h hi => by rw [Nat.zero_add] at hi ⊢; exact st i x hx r h hi) h0
  rw [e]
  exact hG r' h' (by simpa using i)
theorem atN {α : Type} {l : List α} {i : Nat} {x : α} (h : l[i]? = some x) : L2.atI l (i : Int) = some x := by
  have hl := (List.getElem?_eq_some_iff.mp h).1
  have a1 : (0 : Int) ≤ (i : Int) := by omega
  have a2 : (i : Int) < (l.length : Nat) := by omega
  unfold L2.atI L2.ixN
  simp [a1, a2]
  exact h
theorem range_at {n i : Nat} {x : D} (h : ((List.range n).map fun i : Nat => D.int (i : Nat))[i]? = some x) : x = .int (i : Nat) ∧ i < n := by
  rw [List.getElem?_map] at h
  by_cases hi : i < n
  · rw [List.getElem?_range hi] at h
    simp at h
    exact ⟨h.symm, hi⟩
  · rw [List.getElem?_eq_none (by simp; omega)] at h
    cases h
theorem range2_at {lo : Int} {n i : Nat} {x : D} (h : (rangeL lo n 1)[i]? = some x) : x = .int (lo + (i : Nat)) ∧ i < n := by
  unfold rangeL at h
  rw [List.getElem?_map] at h
  by_cases hi : i < n
  · rw [List.getElem?_range hi] at h
    simp at h
    exact ⟨h.symm, hi⟩
  · rw [List.getElem?_eq_none (by simp; omega)] at h
    cases h
/-! ### the pot -/
def Pot (n : Nat) (h : Hh) : Prop := ∃ p : Int, 0 ≤ p ∧ h[n]? = some (.lst [.int p])
theorem take_ok (k n : Nat) (f : Int) (h : Hh) (hp : Pot n h) (hf : 0 < f) (hf2 : f < 2 ^ 64) : ∃ v h', callK P (k + 1) F_l_take [.ref n, .int f] h = .ok (.v (.int v)) h' ∧ 0 ≤ v ∧ v < f ∧ Pot n h' := by
  obtain ⟨p, h0, e⟩ := hp
  have hl := (List.getElem?_eq_some_iff.mp e).1
  have lg := log_small (x := f) (by omega) hf2
  have lg2 : f.natAbs.log2 < 9000 := by omega
  refine ⟨p % f, h.set n (.lst [.int (p / f)]), ?_, Int.emod_nonneg p (by omega), Int.emod_lt_of_pos p hf, p / f, Int.ediv_nonneg h0 (by omega), by rw [List.getElem?_set_self hl]⟩
  rw [call_run (d := d_l_take) rfl rfl]
  simp [runDef, d_l_take, sub_ref _ e, hf, lg2, e, L2.ixN]
theorem rangeL_map (n : Nat) : rangeL 0 n 1 = (List.range n).map fun i => .int (i : Nat) := by
  unfold rangeL
  congr 1
  funext i
  simp
/-- the loop that makes a pot of a small number -/
theorem f_pot {body : Env → Hh → SRes} {bd : D → Env → Hh → Option Env} {x : SV} {h : Hh} (hb : ∀ (a : Int) (j : Nat) (w1 w2 : SV) (i : Nat), i < 64 → j < 64 → 0 ≤ a → a < 2 ^ (32 * i) → ∃ r a' w1' w2', bd (.int (j : Nat)) [x, .v (.int a), w1, w2] h = some r ∧
      body r h = .nx [x, .v (.int a'), w1', w2'] h ∧ 0 ≤ a' ∧ a' < 2 ^ (32 * (i + 1))) :
    ∀ (l : List Nat) (a : Int) (w1 w2 : SV) (i : Nat), i + l.length ≤ 64 → (∀ j ∈ l, j < 64) → 0 ≤ a → a < 2 ^ (32 * i) → ∃ a' w1' w2', 0 ≤ a' ∧ forGo bd body (l.map fun j => .int (j : Nat)) [x, .v (.int a), w1, w2] h = .nx [x, .v (.int a'), w1', w2'] h
  | [], a, w1, w2, i, _, _, h0, _ => ⟨a, w1, w2, h0, by simp⟩
  | j :: l, a, w1, w2, i, hl, hj, h0, h1 => by
    simp only [List.length_cons] at hl
    obtain ⟨r, a', v1, v2, e1, e2, e3, e4⟩ := hb a j w1 w2 i (by omega) (hj j (by simp)) h0 h1
    obtain ⟨a2, u1, u2, z, e5⟩ := f_pot hb l a' v1 v2 (i + 1) (by omega) (fun j hj' => hj j (by simp [hj'])) e3 e4
    refine ⟨a2, u1, u2, z, ?_⟩
    rw [List.map_cons, forGo, e1]
    simp only [e2, e5]
theorem log_pow {x : Int} {m : Nat} (h0 : 0 ≤ x) (h : x < 2 ^ m) (hm : m ≤ 500000) : x.natAbs.log2 < 500001 := by
  by_cases z : x.natAbs = 0
  · rw [z]; decide
  · have : x.natAbs < 2 ^ m := by
      have e : ((2 ^ m : Nat) : Int) = (2 : Int) ^ m := by rw [Int.natCast_pow]; rfl
      omega
    have := (Nat.log2_lt z).mpr this
    omega
theorem pot_ok (k : Nat) (c : Int) (h : Hh) : ∃ h', callK P (k + 1) F_l_pot [.int c] h = .ok (.v (.ref h.length)) h' ∧ Pot h.length h' := by
  rw [call_run (d := d_l_pot) rfl rfl]
  by_cases big : 1000000000000000000 ≤ c
  · refine ⟨h ++ [.lst [.int (c - 1000000000000000000)]], ?_, c - 1000000000000000000, by omega, by simp⟩
    simp [runDef, d_l_pot, big]
  · simp [runDef, d_l_pot, big]
    rw [rangeL_map]
    generalize hf : forGo _ _ _ _ _ = res
    have key : ∃ a' w1 w2, 0 ≤ a' ∧ res = .nx [.v (.int c), .v (.int a'), w1, w2] h := by
      rw [← hf]
      refine f_pot (x := .v (.int c)) ?_ (List.range 64) 0 .un .un 0 (by simp) (fun j hj => by simpa using hj) (by omega) (by decide)
      intro a j w1 w2 i hi hj h0 h1
      have j0 : (0 : Int) ≤ (j : Nat) := by omega
      have j1 : ((j : Nat) : Int) < 64 := by omega
      have c0 := Int.emod_nonneg c (show (2147483629 : Int) ≠ 0 by decide)
      have c1 := Int.emod_lt_of_pos c (show (0 : Int) < 2147483629 by decide)
      generalize hcc : c % 2147483629 = cc at c0 c1
      have n1 : (cc + 7919 * (j : Int) + 1).natAbs.log2 + Nat.log2 48271 < 1000000 := by
        have := log_small (x := cc + 7919 * (j : Int) + 1) (by omega) (by omega)
        have : Nat.log2 48271 < 64 := by decide
        omega
      have n2 : Nat.log2 7919 + Nat.log2 j < 1000000 := by
        have := log_small (x := (j : Int)) (by omega) (by omega)
        simp at this
        have : Nat.log2 7919 < 64 := by decide
        omega
      have n3 : Nat.log2 69621 + Nat.log2 j < 1000000 := by
        have := log_small (x := (j : Int)) (by omega) (by omega)
        simp at this
        have : Nat.log2 69621 < 64 := by decide
        omega
      have d0 := Int.emod_nonneg ((cc + 7919 * (j : Int) + 1) * 48271) (show (2147483647 : Int) ≠ 0 by decide)
      have d1 := Int.emod_lt_of_pos ((cc + 7919 * (j : Int) + 1) * 48271) (show (0 : Int) < 2147483647 by decide)
      generalize hdd : (cc + 7919 * (j : Int) + 1) * 48271 % 2147483647 = dd at d0 d1
      have n4 : dd.natAbs.log2 + dd.natAbs.log2 < 1000000 := by
        have := log_small (x := dd) (by omega) (by omega)
        omega
      have e0 := Int.emod_nonneg (dd * dd + 69621 * (j : Int) + 7) (show (2147483587 : Int) ≠ 0 by decide)
      have e1 := Int.emod_lt_of_pos (dd * dd + 69621 * (j : Int) + 7) (show (0 : Int) < 2147483587 by decide)
      generalize hee : (dd * dd + 69621 * (j : Int) + 7) % 2147483587 = ee at e0 e1
      have n5 : a.natAbs.log2 + Nat.log2 2147483587 < 1000000 := by
        have := log_pow (x := a) (m := 32 * i) h0 h1 (by omega)
        have : Nat.log2 2147483587 < 64 := by decide
        omega
      refine ⟨_, a * 2147483587 + ee, .v (.int (j : Nat)), .v (.int ee), rfl, ?_, by omega, ?_⟩
      · simp [d_l_pot_b1, hcc, n1, n2, n3, n5, hdd, n4, hee]
      · have p : (2 : Int) ^ (32 * (i + 1)) = 2 ^ (32 * i) * 4294967296 := by
          rw [show 32 * (i + 1) = 32 * i + 32 by omega, Int.pow_add]
          rfl
        have q : (1 : Int) ≤ 2 ^ (32 * i) := by omega
        omega
    obtain ⟨a', w1, w2, h0, e⟩ := key
    refine ⟨h ++ [.lst [.int a']], ?_, a', h0, by simp⟩
    rw [e]
    simp
theorem cell_ok (k : Nat) (ns : List Int) (j : Nat) (h : Hh) : ∃ c, callK P (k + 1) F_l_cell_at [.scr ns, .int j] h = .ok (.v (.int c)) h := by
  rw [call_run (d := d_l_cell_at) rfl rfl]
  by_cases c : j < ns.length
  · refine ⟨ns[j], ?_⟩
    simp [runDef, d_l_cell_at, c, L2.atI, L2.ixN]
  · refine ⟨0, ?_⟩
    simp [runDef, d_l_cell_at, c]
@[simp] theorem blt_repr (d : D) (h : Hh) : blt .repr [d] h = reprD d := rfl
end MP


set_option Elab.async false
set_option linter.all false
set_option maxRecDepth 100000
set_option maxHeartbeats 4000000
set_option exponentiation.threshold 5000
namespace MP
/-! ### spans, books, truths -/
def sp (x : Int × Int × Int) : D := .tup [.int x.1, .int x.2.1, .int x.2.2]
def bk (l : List (Int × Int × Int)) : D := .tup (l.map sp)
/-- a span of a book -/
def okSp (m : Int) (x : Int × Int × Int) : Prop := 0 ≤ x.1 ∧ x.1 < x.2.1 ∧ x.2.1 ≤ m ∧ 0 ≤ x.2.2 ∧ x.2.2 ≤ 4
theorem c_is_span (k : Nat) (x : Int × Int × Int) (h : Hh) (o : okSp 999 x) : callK P (k + 4) F_p_is_span [sp x] h = .ok (.v (.bl true)) h := by
  obtain ⟨b, u, e⟩ := x
  obtain ⟨o1, o2, o3, o4, o5⟩ := o
  simp only at o1 o2 o3 o4 o5
  have a1 : b ≤ 999 := by omega
  have a2 : b + 1 ≤ u := by omega
  rw [call_run (d := d_p_is_span) rfl rfl]
  simp [runDef, d_p_is_span, sp]
  rw [call_run (d := d_p_is_lasting) rfl rfl]
  simp [runDef, d_p_is_lasting, o1, o3, o4, o5, a1, a2]
/-- a comprehension whose parts are known -/
theorem comp_map {bd : D → Hh → Option Env} {el : Env → Hh → Res D} {h : Hh} (g : D → D) : ∀ l : List D, (∀ x ∈ l, ∃ r, bd x h = some r ∧ el r h = .ok (g x) h) → compGo bd (fun r' h' => .ok true h') el l h = .ok (l.map g) h
  | [], _ => rfl
  | x :: l, e => by
    obtain ⟨r, e1, e2⟩ := e x (by simp)
    rw [compGo, e1]
    simp [e2, comp_map g l (fun y hy => e y (by simp [hy]))]
/-- over a book -/
theorem comp_bk {bd : D → Hh → Option Env} {el : Env → Hh → Res D} {h : Hh} (g : Int × Int × Int → D) (l : List (Int × Int × Int)) (e : ∀ x ∈ l, ∃ r, bd (sp x) h = some r ∧ el r h = .ok (g x) h) : compGo bd (fun r' h' => .ok true h') el (l.map sp) h = .ok (l.map g) h := by
  induction l with
  | nil => rfl
  | cons x l ih =>
    obtain ⟨r, e1, e2⟩ := e x (by simp)
    rw [List.map_cons, compGo, e1]
    simp [e2, ih (fun y hy => e y (by simp [hy]))]
theorem comp_bkIf {bd : D → Hh → Option Env} {ck : Env → Hh → Res Bool} {el : Env → Hh → Res D} {h : Hh} (c : Int × Int × Int → Bool) (g : Int × Int × Int → D) (l : List (Int × Int × Int)) (e : ∀ x ∈ l, ∃ r, bd (sp x) h = some r ∧ ck r h = .ok (c x) h ∧ el r h = .ok (g x) h) :
    compGo bd ck el (l.map sp) h = .ok ((l.filter c).map g) h := by
  induction l with
  | nil => rfl
  | cons x l ih =>
    obtain ⟨r, e1, e2, e3⟩ := e x (by simp)
    rw [List.map_cons, compGo, e1]
    have ih := ih (fun y hy => e y (by simp [hy]))
    cases hc : c x <;> simp [e2, e3, hc, ih]
theorem bools_map {α : Type} (l : List α) (f : α → Bool) : boolsD (l.map fun x => .bl (f x)) = some (l.map f) := by
  induction l with
  | nil => rfl
  | cons x l ih => rw [List.map_cons, boolsD, ih]; rfl
theorem c_is_book (k : Nat) (l : List (Int × Int × Int)) (h : Hh) (o : ∀ x ∈ l, okSp 999 x) (h1 : 1 ≤ l.length) (h2 : l.length ≤ 40) : callK P (k + 5) F_p_is_book [bk l] h = .ok (.v (.bl true)) h := by
  rw [call_run (d := d_p_is_book) rfl rfl]
  have a1 : (1 : Int) ≤ l.length := by omega
  have a2 : (l.length : Int) ≤ 40 := by omega
  simp [runDef, d_p_is_book, bk, a1, a2]
  rw [comp_bk (fun _ => .bl true) l fun x hx => ⟨_, rfl, by simp [c_is_span k x h (o x hx)]⟩]
  simp [bools_map]
theorem c_need_book (k : Nat) (l : List (Int × Int × Int)) (h : Hh) (o : ∀ x ∈ l, okSp 999 x) (h1 : 1 ≤ l.length) (h2 : l.length ≤ 40) : callK P (k + 6) F_p_need_book [bk l] h = .ok (.v .non) h := by
  rw [call_run (d := d_p_need_book) rfl rfl]
  simp [runDef, d_p_need_book, c_is_book k l h o h1 h2]
/-! ### the soonest and the latest truth -/
def soon (x : Int × Int × Int) : Int × Int × Int := if 0 < x.2.2 then x else (0, x.2.1 + 1, 1)
def late (x : Int × Int × Int) : Int × Int × Int := if 0 < x.2.2 then x else (0, 2000, 1)
/-- a plain book -/
def Good (l : List (Int × Int × Int)) : Prop := (∀ x ∈ l, okSp 999 x) ∧ ∀ x ∈ l, x.1 = 0
theorem plain_ok (k n : Nat) (m f : Int) (h : Hh) (hp : Pot n h) (m1 : 0 < m) (m2 : m ≤ 40) (f1 : 0 < f) (f2 : f ≤ 30) : ∃ l h', callK P (k + 2) F_l_plain [.ref n, .int m, .int f] h = .ok (.v (bk l)) h' ∧ Pot n h' ∧ Good l ∧ 1 ≤ l.length ∧ (l.length : Int) ≤ m := by
  rw [call_run (d := d_l_plain) rfl rfl]
  obtain ⟨v, h1, e1, v0, v1, p1⟩ := take_ok k n m h hp m1 (by omega)
  have c1 : -1000000 ≤ 1 + v := by omega
  have c2 : 1 + v ≤ 1000000 := by omega
  simp [runDef, d_l_plain, e1, c1, c2]
  rw [rangeL_map]
  generalize hf : forGo _ _ _ _ _ = res
  have key : ∃ l w1 w2 h', res = .nx [.v (.ref n), .v (.int m), .v (.int f), .ol (l.map sp), w1, w2] h' ∧ Pot n h' ∧ Good l ∧ l.length = (1 + v).toNat := by
    rw [← hf]
    refine for_invG (G := fun z => ∃ l w1 w2 h', z = .nx [.v (.ref n), .v (.int m), .v (.int f), .ol (l.map sp), w1, w2] h' ∧ Pot n h' ∧ Good l ∧ l.length = (1 + v).toNat)
      (fun i r h => ∃ l w1 w2, r = [.v (.ref n), .v (.int m), .v (.int f), .ol (l.map sp), w1, w2] ∧ Pot n h ∧ Good l ∧ l.length = i) ?_ ?_ ?_
    · rintro x hx i r h hi ⟨l, w1, w2, rfl, hp, hg, hl⟩
      obtain ⟨a1, g1, b1, o1, d1, q1⟩ := take_ok k n f h hp f1 (by omega)
      obtain ⟨a2, g2, b2, o2, d2, q2⟩ := take_ok k n 3 g1 q1 (by omega) (by omega)
      obtain ⟨a3, g3, b3, o3, d3, q3⟩ := take_ok k n 9 g2 q2 (by omega) (by omega)
      obtain ⟨a4, g4, b4, o4, d4, q4⟩ := take_ok k n 4 g3 q3 (by omega) (by omega)
      obtain ⟨a5, g5, b5, o5, d5, q5⟩ := take_ok k n 3 g4 q4 (by omega) (by omega)
      have l4 : Nat.log2 4 < 9000 := by decide
      have ix : a3 / 4 = 0 ∨ a3 / 4 = 1 ∨ a3 / 4 = 2 := by omega
      have ll : l.length < lim := by
        simp at hi
        unfold lim
        omega
      have lu : ∃ u : Int, L2.atI [D.int (1 + a1), D.int (1 + a2), D.int 999] (if a3 / 4 < 2 then a3 / 4 else 2) = some (.int u) ∧ 0 < u ∧ u ≤ 999 := by
        rcases ix with z | z | z <;> rw [z]
        · exact ⟨1 + a1, by simp, by omega, by omega⟩
        · exact ⟨1 + a2, by simp, by omega, by omega⟩
        · exact ⟨999, by simp, by omega, by omega⟩
      obtain ⟨u, e6, u1, u2⟩ := lu
      have le : ∃ w : Int, L2.atI [D.int 0, D.int (1 + a4)] (if 0 < a5 then 1 else 0) = some (.int w) ∧ 0 ≤ w ∧ w ≤ 4 := by
        by_cases z : 0 < a5
        · exact ⟨1 + a4, by simp [z], by omega, by omega⟩
        · exact ⟨0, by simp [z], by omega, by omega⟩
      obtain ⟨w, e7, x1, x2⟩ := le
      refine ⟨_, [.v (.ref n), .v (.int m), .v (.int f), .ol ((l ++ [(0, u, w)]).map sp), .v x, .v (.int u)], g5, rfl, ?_, l ++ [(0, u, w)], .v x, .v (.int u), rfl, q5, ⟨fun y hy => ?_, fun y hy => ?_⟩, by simp [hl]⟩
      · simp [d_l_plain_b1, b1, b2, b3, b4, b5, l4, e6, e7, ll, sp]
      · rcases List.mem_append.mp hy with hy | hy
        · exact hg.1 y hy
        · simp at hy
          subst hy
          exact ⟨Int.le_refl _, u1, u2, x1, x2⟩
      · rcases List.mem_append.mp hy with hy | hy
        · exact hg.2 y hy
        · simp at hy
          subst hy
          rfl
    · exact ⟨[], .un, .un, by simp, p1, ⟨by simp, by simp⟩, rfl⟩
    · rintro r' h' ⟨l, w1, w2, rfl, hp, hg, hl⟩
      exact ⟨l, w1, w2, h', rfl, hp, hg, by simpa using hl⟩
  obtain ⟨l, w1, w2, h', e, hp', hg, hl⟩ := key
  refine ⟨l, h', ?_, hp', hg, by omega, by omega⟩
  rw [e]
  simp [bk]
theorem full_ok (k n : Nat) (m f : Int) (h : Hh) (hp : Pot n h) (m1 : 0 < m) (m2 : m ≤ 40) (f1 : 0 < f) (f2 : f ≤ 30) : ∃ l h', callK P (k + 3) F_l_full [.ref n, .int m, .int f] h = .ok (.v (bk l)) h' ∧ Pot n h' ∧ Good l ∧ 1 ≤ l.length ∧ (l.length : Int) ≤ m := by
  obtain ⟨l, h', e, p, g, l1, l2⟩ := plain_ok k n m f h hp m1 m2 f1 f2
  refine ⟨l.map fun x => (x.1, x.2.1, if x.2.2 > 1 then x.2.2 else 1), h', ?_, p, ⟨fun x hx => ?_, fun x hx => ?_⟩, by simpa using l1, by simpa using l2⟩
  · rw [call_run (d := d_l_full) rfl rfl]
    simp [runDef, d_l_full, e, bk]
    rw [comp_bk (fun x => sp (x.1, x.2.1, if x.2.2 > 1 then x.2.2 else 1)) l fun x hx => ⟨_, rfl, by simp [sp]⟩]
    simp
  · obtain ⟨y, hy, rfl⟩ := List.mem_map.mp hx
    obtain ⟨o1, o2, o3, o4, o5⟩ := g.1 y hy
    refine ⟨o1, o2, o3, ?_, ?_⟩ <;> dsimp only <;> split <;> omega
  · obtain ⟨y, hy, rfl⟩ := List.mem_map.mp hx
    exact g.2 y hy
end MP


set_option Elab.async false
set_option linter.all false
set_option maxRecDepth 100000
set_option maxHeartbeats 4000000
set_option exponentiation.threshold 5000
namespace MP
/-- a fraction in lowest terms, as data -/
def fr (t b : Int) : D := .tup [.int t, .int b]
theorem c_is_fraction (k : Nat) (t b : Int) (h : Hh) (ht : 0 ≤ t) (hb : 0 < b) (hs : b < 2 ^ 4000) (g : Int.gcd t b = 1) : callK P (k + 2) F_p_is_fraction [fr t b] h = .ok (.v (.bl true)) h := by
  rw [call_run (d := d_p_is_fraction) rfl rfl]
  have e := c_common k t b h ht (by omega) hs
  have w1 := c_is_whole k t h
  have w2 := c_is_whole k b h
  simp [runDef, d_p_is_fraction, fr, e, w1, w2, hb, g]
/-- above 0 and below 1 -/
structure Inner (t b : Int) : Prop where
  t0 : 0 < t
  tb : t < b
  bs : b ≤ 1000001
  g : Int.gcd t b = 1
theorem two_pow_mono {x : Int} {n m : Nat} (h : x < 2 ^ n) (hn : n ≤ m) : x < 2 ^ m := by
  have : (2 : Int) ^ n ≤ 2 ^ m := by exact_mod_cast Nat.pow_le_pow_right (n := 2) (by decide) hn
  omega
theorem Inner.small {t b : Int} (i : Inner t b) : b < 2 ^ 4000 := two_pow_mono (n := 20) (by have := i.bs; omega) (by decide)
theorem c_need_inner (k : Nat) (t b : Int) (h : Hh) (i : Inner t b) : callK P (k + 3) F_p_need_inner [fr t b] h = .ok (.v .non) h := by
  rw [call_run (d := d_p_need_inner) rfl rfl]
  have a0 := i.t0
  have a1 := i.tb
  have e := c_is_fraction k t b h (by omega) (by omega) i.small i.g
  simp only [fr] at e
  simp [runDef, d_p_need_inner, fr, e, i.t0, i.tb]
/-! ### choices and chances -/
def csL : Nat → List Int
  | 0 => [1]
  | n + 1 => List.zipWith (fun a b => a + b) (csL n ++ [0]) (0 :: csL n)
def chL (t b : Int) : Nat → List Int
  | 0 => [1]
  | n + 1 => List.zipWith (fun here ahead => here * (b - t) + ahead * t) (chL t b n ++ [0]) (0 :: chL t b n)
theorem csL_len : ∀ n, (csL n).length = n + 1
  | 0 => rfl
  | n + 1 => by simp [csL, csL_len n]
theorem chL_len (t b : Int) : ∀ n, (chL t b n).length = n + 1
  | 0 => rfl
  | n + 1 => by simp [chL, chL_len t b n]
theorem zip_mem {f : Int → Int → Int} {Q : Int → Prop} {x y : List Int} (h : ∀ a ∈ x, ∀ b ∈ y, Q (f a b)) : ∀ z ∈ List.zipWith f x y, Q z := by
  intro z hz
  obtain ⟨i, hi, rfl⟩ := List.getElem_of_mem hz
  rw [List.getElem_zipWith]
  simp at hi
  exact h _ (List.getElem_mem _) _ (List.getElem_mem _)
theorem csL_bd : ∀ n, ∀ z ∈ csL n, 0 ≤ z ∧ z ≤ 2 ^ n
  | 0 => by simp [csL]
  | n + 1 => by
    refine zip_mem fun a ha b hb => ?_
    have q : ∀ z ∈ csL n ++ [0], 0 ≤ z ∧ z ≤ 2 ^ n := fun z hz => by
      rcases List.mem_append.mp hz with hz | hz
      · exact csL_bd n z hz
      · simp at hz
        subst hz
        exact ⟨Int.le_refl _, Int.le_of_lt (Int.pow_pos (by decide))⟩
    have q1 := q a ha
    have q2 := q b (by simp at hb ⊢; exact hb.symm)
    rw [Int.pow_succ]
    omega
theorem chL_bd (t b : Int) (ht : 0 ≤ t) (hb : t ≤ b) : ∀ n, ∀ z ∈ chL t b n, 0 ≤ z ∧ z ≤ b ^ n
  | 0 => by simp [chL]
  | n + 1 => by
    refine zip_mem fun x hx y hy => ?_
    have pn : 0 ≤ b ^ n := Int.pow_nonneg (by omega)
    have q : ∀ z ∈ chL t b n ++ [0], 0 ≤ z ∧ z ≤ b ^ n := fun z hz => by
      rcases List.mem_append.mp hz with hz | hz
      · exact chL_bd t b ht hb n z hz
      · simp at hz
        subst hz
        exact ⟨Int.le_refl _, pn⟩
    obtain ⟨x0, x1⟩ := q x hx
    obtain ⟨y0, y1⟩ := q y (by simp at hy ⊢; exact hy.symm)
    have m1 : x * (b - t) ≤ b ^ n * (b - t) := Int.mul_le_mul_of_nonneg_right x1 (by omega)
    have m2 : y * t ≤ b ^ n * t := Int.mul_le_mul_of_nonneg_right y1 ht
    have m3 : 0 ≤ x * (b - t) := Int.mul_nonneg x0 (by omega)
    have m4 : 0 ≤ y * t := Int.mul_nonneg y0 ht
    have e : b ^ (n + 1) = b ^ n * (b - t) + b ^ n * t := by grind
    omega
/-- a case has as many chances as choices, weighed -/
theorem chL_cs (t b : Int) : ∀ n k, k ≤ n → (chL t b n)[k]? = (csL n)[k]?.map fun c => c * (t ^ k * (b - t) ^ (n - k))
  | 0, k, hk => by
    obtain rfl : k = 0 := by omega
    simp [chL, csL]
  | n + 1, k, hk => by
    have l1 := csL_len n
    have l2 := chL_len t b n
    cases k with
    | zero =>
      have ih := chL_cs t b n 0 (by omega)
      obtain ⟨c, hc⟩ : ∃ c, (csL n)[0]? = some c := ⟨(csL n)[0], by simp⟩
      rw [hc] at ih
      have h1 : (chL t b n ++ [0])[0]? = some (c * (t ^ 0 * (b - t) ^ (n - 0))) := by rw [List.getElem?_append_left (by omega)]; exact ih
      have h2 : (csL n ++ [0])[0]? = some c := by rw [List.getElem?_append_left (by omega)]; exact hc
      simp only [chL, csL, List.getElem?_zipWith, h1, h2, List.getElem?_cons_zero, Option.map_some]
      congr 1
      simp
      grind
    | succ k =>
      have ih := chL_cs t b n k (by omega)
      obtain ⟨c, hc⟩ : ∃ c, (csL n)[k]? = some c := ⟨(csL n)[k], by simp⟩
      rw [hc] at ih
      by_cases hk2 : k + 1 ≤ n
      · have ih2 := chL_cs t b n (k + 1) hk2
        obtain ⟨c2, hc2⟩ : ∃ c, (csL n)[k + 1]? = some c := ⟨(csL n)[k + 1], by simp⟩
        rw [hc2] at ih2
        have h1 : (chL t b n ++ [0])[k + 1]? = some (c2 * (t ^ (k + 1) * (b - t) ^ (n - (k + 1)))) := by rw [List.getElem?_append_left (by omega)]; exact ih2
        have h2 : (csL n ++ [0])[k + 1]? = some c2 := by rw [List.getElem?_append_left (by omega)]; exact hc2
        simp only [chL, csL, List.getElem?_zipWith, h1, h2, List.getElem?_cons_succ, hc, ih, Option.map_some]
        congr 1
        have e1 : n - k = (n - (k + 1)) + 1 := by omega
        have e2 : n + 1 - (k + 1) = (n - (k + 1)) + 1 := by omega
        rw [e1, e2]
        grind
      · obtain rfl : k = n := by omega
        have h1 : (chL t b k ++ [0])[k + 1]? = some 0 := by rw [List.getElem?_append_right (by omega), l2]; simp
        have h2 : (csL k ++ [0])[k + 1]? = some 0 := by rw [List.getElem?_append_right (by omega), l1]; simp
        simp only [chL, csL, List.getElem?_zipWith, h1, h2, List.getElem?_cons_succ, hc, ih, Option.map_some]
        congr 1
        simp
        grind
theorem comp_zip {bd : D → Hh → Option Env} {ck : Env → Hh → Res Bool} {el : Env → Hh → Res D} {h : Hh} (f : Int → Int → Int) : ∀ (xs ys : List Int), (∀ x ∈ xs, ∀ y ∈ ys, ∃ r, bd (.tup [.int x, .int y]) h = some r ∧ ck r h = .ok true h ∧ el r h = .ok (.int (f x y)) h) →
    compGo bd ck el (List.zipWith (fun x y => .tup [x, y]) (xs.map .int) (ys.map .int)) h = .ok ((List.zipWith f xs ys).map .int) h
  | [], _, _ => by simp
  | _ :: _, [], _ => by simp
  | x :: xs, y :: ys, H => by
    obtain ⟨r, e1, e2, e3⟩ := H x (by simp) y (by simp)
    have ih := comp_zip (bd := bd) (ck := ck) (el := el) (h := h) f xs ys fun a ha b hb => H a (by simp [ha]) b (by simp [hb])
    simp only [List.map_cons, List.zipWith_cons_cons]
    rw [compGo, e1]
    simp only [e2, e3, ih, Res.bind_ok, if_true]
theorem lim_big : lim = 16777216 := rfl
theorem pow_bits {b : Int} {n m : Nat} (h0 : 0 ≤ b) (h : b ≤ 2 ^ m) : b ^ n ≤ 2 ^ (m * n) := by
  induction n with
  | zero => simp
  | succ n ih =>
    rw [Int.pow_succ, Nat.mul_succ, Int.pow_add]
    exact Int.mul_le_mul ih h h0 (Int.le_of_lt (Int.pow_pos (by decide)))
theorem lt_of_le_pow {x : Int} {n : Nat} (h0 : 0 ≤ x) (h : x ≤ 2 ^ n) : x.natAbs < 2 ^ (n + 1) := natAbs_lt h0 (by
  have : (2 : Int) ^ (n + 1) = 2 ^ n * 2 := Int.pow_succ _ _
  have : (0 : Int) < 2 ^ n := Int.pow_pos (by decide)
  omega)
section
variable {t b : Int} (i : Inner t b)
include i
theorem Inner.b20 : b ≤ 2 ^ 20 := by have := i.bs; omega
theorem Inner.pw (n : Nat) : 0 < b ^ n ∧ b ^ n ≤ 2 ^ (20 * n) := ⟨Int.pow_pos (by have := i.t0; have := i.tb; omega), pow_bits (by have := i.t0; have := i.tb; omega) i.b20⟩
theorem Inner.nb (n : Nat) {x : Int} (h0 : 0 ≤ x) (h : x ≤ b ^ n) : x.natAbs < 2 ^ (20 * n + 1) := lt_of_le_pow h0 (Int.le_trans h (i.pw n).2)
end
theorem chances_b1 (k : Nat) (t b : Int) (i : Inner t b) (n : Nat) (hn : n ≤ 40) (h : Hh) (s0 s1 w : SV) : evSs P (callK P k) d_p_chances_b1 [s0, s1, .v (.int t), .v (.int b), .v (.lst ((chL t b n).map .int)), .v (.int (b ^ n)), w, .un, .un] h =
    .nx [s0, s1, .v (.int t), .v (.int b), .v (.lst ((chL t b (n + 1)).map .int)), .v (.int (b ^ (n + 1))), w, .un, .un] h := by
  have l := chL_len t b n
  have a1 : (chL t b n).length + 1 ≤ lim := by rw [lim_big]; omega
  have a2 : 1 + (chL t b n).length ≤ lim := by rw [lim_big]; omega
  have t0 := i.t0
  have tb := i.tb
  have bd := chL_bd t b (by omega) (by omega) n
  have pw := i.pw n
  have m1 : (b ^ n).natAbs.log2 + b.natAbs.log2 < 1000000 := mulOk (i.nb n (by omega) (Int.le_refl _)) (lt_of_le_pow (by omega) i.b20) (by omega)
  have ez : List.zipWith (fun x y => D.tup [x, y]) ((chL t b n).map D.int ++ [D.int 0]) (D.int 0 :: (chL t b n).map D.int) = List.zipWith (fun x y => D.tup [x, y]) ((chL t b n ++ [0]).map D.int) ((0 :: chL t b n).map D.int) := by simp
  simp [-Int.natAbs_pow, d_p_chances_b1, a1, a2, m1]
  rw [ez, comp_zip (fun here ahead => here * (b - t) + ahead * t)]
  · simp [-Int.natAbs_pow, m1, chL, Int.pow_succ]
  · intro x hx y hy
    have q : ∀ z ∈ chL t b n ++ [0], 0 ≤ z ∧ z ≤ b ^ n := fun z hz => by
      rcases List.mem_append.mp hz with hz | hz
      · exact bd z hz
      · simp at hz
        omega
    obtain ⟨x0, x1⟩ := q x hx
    obtain ⟨y0, y1⟩ := q y (by simp at hy ⊢; exact hy.symm)
    have n1 : x.natAbs.log2 + (b - t).natAbs.log2 < 1000000 := mulOk (i.nb n x0 x1) (lt_of_le_pow (n := 20) (by omega) (by have := i.b20; omega)) (by omega)
    have n2 : y.natAbs.log2 + t.natAbs.log2 < 1000000 := mulOk (i.nb n y0 y1) (lt_of_le_pow (n := 20) (by omega) (by have := i.b20; omega)) (by omega)
    exact ⟨_, rfl, by simp, by simp [n1, n2]⟩
theorem c_chances (k : Nat) (t b : Int) (i : Inner t b) (n : Nat) (hn : n ≤ 40) (h : Hh) : callK P (k + 1) F_p_chances [.int (n : Nat), fr t b] h = .ok (.v (.tup [.lst ((chL t b n).map .int), .int (b ^ n)])) h := by
  rw [call_run (d := d_p_chances) rfl rfl]
  have c1 : -1000000 ≤ (n : Int) ∧ (n : Int) ≤ 1000000 := by omega
  simp [runDef, d_p_chances, fr, c1]
  rw [rangeL_map]
  generalize hf : forGo _ _ _ _ _ = res
  have key : ∃ w, res = .nx [.v (.int (n : Nat)), .v (fr t b), .v (.int t), .v (.int b), .v (.lst ((chL t b n).map .int)), .v (.int (b ^ n)), w, .un, .un] h := by
    rw [← hf]
    refine for_invG (G := fun z => ∃ w, z = .nx [.v (.int (n : Nat)), .v (fr t b), .v (.int t), .v (.int b), .v (.lst ((chL t b n).map .int)), .v (.int (b ^ n)), w, .un, .un] h)
      (fun j r h' => h' = h ∧ ∃ w, r = [.v (.int (n : Nat)), .v (fr t b), .v (.int t), .v (.int b), .v (.lst ((chL t b j).map .int)), .v (.int (b ^ j)), w, .un, .un]) ?_ ?_ ?_
    · rintro x hx j r h' hj ⟨rfl, w, rfl⟩
      simp at hj
      exact ⟨_, _, _, rfl, chances_b1 k t b i j (by omega) h' _ _ _, rfl, _, rfl⟩
    · exact ⟨rfl, .un, by simp [fr, chL]⟩
    · rintro r' h' ⟨rfl, w, rfl⟩
      exact ⟨w, by simp⟩
  obtain ⟨w, rfl⟩ := key
  simp
theorem cut_map (l : List Int) (i j : Nat) (h : i ≤ j) (hj : j ≤ l.length) : cutD (l.map D.int) (some i) (some j) = ((l.drop i).take (j - i)).map D.int := by
  unfold cutD
  have e1 : HT.sIx (l.map D.int).length 0 (some (i : Int)) = i := by
    have : ¬ (i : Int) < 0 := by omega
    simp [HT.sIx, this]
    omega
  have e2 : HT.sIx (l.map D.int).length (l.map D.int).length (some (j : Int)) = j := by
    have : ¬ (j : Int) < 0 := by omega
    simp [HT.sIx, this]
    omega
  rw [e1, e2, List.map_take, List.map_drop]
theorem ints_map (l : List Int) : intsD (l.map D.int) = some l := by
  induction l with
  | nil => rfl
  | cons x l ih => rw [List.map_cons, intsD, ih]; rfl
/-- the sum of a band's cases -/
def bandSum (t b : Int) (n i j : Nat) : Int := (((chL t b n).drop i).take (j - i)).sum
theorem sum_nonneg {l : List Int} (h : ∀ z ∈ l, 0 ≤ z) : 0 ≤ l.sum := by
  induction l with
  | nil => simp
  | cons x l ih =>
    rw [List.sum_cons]
    have := h x (by simp)
    have := ih fun z hz => h z (by simp [hz])
    omega
theorem bandSum_nonneg (t b : Int) (ht : 0 ≤ t) (hb : t ≤ b) (n i j : Nat) : 0 ≤ bandSum t b n i j := sum_nonneg fun z hz => (chL_bd t b ht hb n z (List.mem_of_mem_drop (List.mem_of_mem_take hz))).1
theorem c_sureness (k : Nat) (t b : Int) (q : Inner t b) (n i j : Nat) (hn : n ≤ 40) (hi : 1 ≤ i) (hij : i < j) (hj : j ≤ n) (h : Hh) : callK P (k + 4) F_p_sureness [.int (n : Nat), fr t b, .int (i : Nat), .int (j : Nat)] h = .ok (.v (lowD (bandSum t b n i j) (b ^ n))) h := by
  rw [call_run (d := d_p_sureness) rfl rfl]
  have t0 := q.t0
  have tb := q.tb
  have e1 := c_need_inner k t b h q
  have e2 := c_chances (k + 2) t b q n hn h
  have pw := q.pw n
  have e3 := c_put (k + 1) (bandSum t b n i j) (b ^ n) h (bandSum_nonneg t b (by omega) (by omega) n i j) pw.1 (Int.lt_of_le_of_lt pw.2 (Int.lt_of_lt_of_le (b := 2 ^ 801) (by
    have : (2 : Int) ^ (20 * n) ≤ 2 ^ 800 := by exact_mod_cast Nat.pow_le_pow_right (n := 2) (by decide) (by omega)
    have : (2 : Int) ^ 801 = 2 ^ 800 * 2 := Int.pow_succ _ _
    have : (0 : Int) < 2 ^ 800 := Int.pow_pos (by decide)
    omega) (by exact_mod_cast Nat.pow_le_pow_right (n := 2) (by decide) (by decide))))
  have f1 := c_is_from_to (k + 1) (n : Nat) 1 40 h
  have f2 := c_is_from_to (k + 1) (i : Nat) 1 (n : Nat) h
  have f3 := c_is_from_to (k + 1) (j : Nat) ((i : Nat) + 1) (n : Nat) h
  have l := chL_len t b n
  have g1 : (1 : Int) ≤ n := by omega
  have g2 : (n : Int) ≤ 40 := by omega
  have g3 : (1 : Int) ≤ i := by omega
  have g4 : (i : Int) ≤ n := by omega
  have g5 : (i : Int) + 1 ≤ j := by omega
  have g6 : (j : Int) ≤ n := by omega
  have cu := cut_map (chL t b n) i j (by omega) (by omega)
  simp [-List.map_take, -List.map_drop, runDef, d_p_sureness, e1, e2, f1, f2, f3, g1, g2, g3, g4, g5, g6, cutO, deref, cu, ints_map]
  rw [show (List.take (j - i) (List.drop i (chL t b n))).sum = bandSum t b n i j from rfl, e3]
  simp
theorem l_low (k : Nat) (t b : Int) (h : Hh) (ht : 0 ≤ t) (hb : 0 < b) (hs : b < 2 ^ 4000) : callK P (k + 1) F_l_low [.int t, .int b] h = .ok (.v (lowD t b)) h := by
  rw [call_run (d := d_l_low) rfl rfl]
  obtain ⟨g1, g2⟩ := gcd_le t b hb
  have lg := logLt (gcdSmall t b hb hs) (by decide)
  have nt : ¬ t < 0 := by omega
  simp [runDef, d_l_low, nt]
  obtain ⟨m, hm⟩ := fuBig b.toNat (by have := natAbs_lt (Int.le_of_lt hb) hs; have : (2 : Nat) ^ 4000 < 2 ^ 4900 := Nat.pow_lt_pow_right (by decide) (by decide); omega)
  have e := wEuclid [.v (.int t), .v (.int b)] (h := h) (ck := evC P (callK P k) d_l_low_c1) (bd := fun r h => evSs P (callK P k) d_l_low_b1 r h) (fun a b hb => by
    have : (0 < b) = (b ≠ 0) := propext ⟨fun z => by omega, fun z => by omega⟩
    simp [d_l_low_c1, this]) (fun a b hp => by simp [d_l_low_b1, hp]) b.toNat t b m ht (by omega) (Nat.le_refl _)
  simp only [List.cons_append, List.nil_append] at e
  rw [hm, e]
  simp at lg
  have e1 : 0 < Int.gcd t b := by omega
  have e3 : (Int.gcd t b).log2 < 9000 := by omega
  simp [e1, e3, lowD]
theorem low_inner {t b : Int} (h0 : 0 < t) (h1 : t < b) (h2 : b ≤ 1000001) : ∃ t' b', lowD t b = fr t' b' ∧ Inner t' b' := by
  obtain ⟨g1, g2⟩ := gcd_le t b (by omega)
  obtain ⟨x, hx⟩ : ((Int.gcd t b : Nat) : Int) ∣ t := Int.gcd_dvd_left ..
  obtain ⟨y, hy⟩ : ((Int.gcd t b : Nat) : Int) ∣ b := Int.gcd_dvd_right ..
  have ex : t / (Int.gcd t b : Nat) = x := Int.ediv_eq_of_eq_mul_right (by omega) hx
  have ey : b / (Int.gcd t b : Nat) = y := Int.ediv_eq_of_eq_mul_right (by omega) hy
  have gg := Int.gcd_ediv_gcd_ediv_gcd_of_ne_zero_right (n := t) (m := b) (by omega)
  refine ⟨x, y, by rw [lowD, ex, ey]; rfl, ?_, ?_, ?_, ?_⟩
  · exact Int.pos_of_mul_pos_right (by rw [← hx]; exact h0) (by omega)
  · have : ((Int.gcd t b : Nat) : Int) * x < (Int.gcd t b : Nat) * y := by rw [← hx, ← hy]; exact h1
    exact Int.lt_of_mul_lt_mul_left this (by omega)
  · have : b / (Int.gcd t b : Nat) ≤ b := Int.ediv_le_self _ (by omega)
    omega
  · rw [← ex, ← ey]
    exact gg
/-- t as often as k is above what was gone through, the rest behind -/
def wei (t b : Int) (k m : Nat) : Int := t ^ (min m k) * (b - t) ^ (m - k)
theorem wei_succ (t b : Int) (k m : Nat) : wei t b k (m + 1) = wei t b k m * (if (m : Int) < k then t else b - t) := by
  unfold wei
  by_cases h : m < k
  · rw [if_pos (by omega), Nat.min_eq_left (by omega), Nat.min_eq_left (by omega), show m + 1 - k = 0 by omega, show m - k = 0 by omega]
    simp [Int.pow_succ]
  · rw [if_neg (by omega), Nat.min_eq_right (by omega), Nat.min_eq_right (by omega), show m + 1 - k = (m - k) + 1 by omega]
    grind
theorem wei_bd (t b : Int) (i : Inner t b) (k m : Nat) : 0 ≤ wei t b k m ∧ wei t b k m ≤ b ^ m := by
  induction m with
  | zero => simp [wei]
  | succ m ih =>
    have t0 := i.t0
    have tb := i.tb
    rw [wei_succ, Int.pow_succ]
    have q : 0 ≤ (if (m : Int) < k then t else b - t) ∧ (if (m : Int) < k then t else b - t) ≤ b := by split <;> omega
    exact ⟨Int.mul_nonneg ih.1 q.1, Int.mul_le_mul ih.2 q.2 q.1 (Int.le_of_lt (i.pw m).1)⟩
theorem csL_60 {n : Nat} (hn : n ≤ 40) {c : Int} (hc : c ∈ csL n) : c.natAbs < 2 ^ 60 := by
  obtain ⟨c0, c1⟩ := csL_bd n c hc
  have := lt_of_le_pow c0 c1
  exact Nat.lt_of_lt_of_le this (Nat.pow_le_pow_right (by decide) (by omega))
theorem take_sum (l : List Int) (m : Nat) (x : Int) (h : l[m]? = some x) : (l.take (m + 1)).sum = (l.take m).sum + x := by
  rw [List.take_succ, h]
  simp
theorem pow_small {t b : Int} (q : Inner t b) {n : Nat} (hn : n ≤ 40) : 0 < b ^ n ∧ b ^ n < 2 ^ 4000 := by
  obtain ⟨p0, p1⟩ := q.pw n
  have a1 : (2 : Int) ^ (20 * n) ≤ 2 ^ 800 := by exact_mod_cast Nat.pow_le_pow_right (n := 2) (by decide) (by omega)
  have a2 : (2 : Int) ^ 800 < 2 ^ 4000 := by exact_mod_cast Nat.pow_lt_pow_right (a := 2) (by decide) (by decide)
  omega
/-! ### what is shown -/
theorem sum_le {l : List Int} {M : Int} (h : ∀ z ∈ l, z ≤ M) : l.sum ≤ (l.length : Int) * M := by
  induction l with
  | nil => simp
  | cons x l ih =>
    rw [List.sum_cons, List.length_cons]
    have a := h x (by simp)
    have b := ih fun z hz => h z (by simp [hz])
    have e : ((l.length + 1 : Nat) : Int) * M = (l.length : Int) * M + M := by grind
    omega
theorem bandSum_le (t b : Int) (q : Inner t b) (n i j : Nat) (hn : n ≤ 40) : bandSum t b n i j < 2 ^ 810 := by
  have t0 := q.t0
  have tb := q.tb
  have l : (((chL t b n).drop i).take (j - i)).length ≤ 41 := by
    rw [List.length_take, List.length_drop, chL_len]
    omega
  have s := sum_le (l := ((chL t b n).drop i).take (j - i)) (M := 2 ^ 800) fun z hz => by
    have a := (chL_bd t b (by omega) (by omega) n z (List.mem_of_mem_drop (List.mem_of_mem_take hz))).2
    have b' := (q.pw n).2
    have a1 : (2 : Int) ^ (20 * n) ≤ 2 ^ 800 := by exact_mod_cast Nat.pow_le_pow_right (n := 2) (by decide) (by omega)
    omega
  unfold bandSum
  have e : (2 : Int) ^ 810 = 1024 * 2 ^ 800 := by rw [show 810 = 10 + 800 by rfl, Int.pow_add]; rfl
  have p : (0 : Int) < 2 ^ 800 := Int.pow_pos (by decide)
  generalize (2 : Int) ^ 800 = M at *
  have : ((((chL t b n).drop i).take (j - i)).length : Int) * M ≤ 41 * M := Int.mul_le_mul_of_nonneg_right (by omega) (by omega)
  omega
theorem intW_some {x : Int} (h : x.natAbs < 2 ^ 1900) : ∃ w, intW x = some w ∧ w ≤ 1921 := by
  unfold intW
  by_cases c : x.natAbs < 1048576
  · exact ⟨21, if_pos c, by decide⟩
  · rw [if_neg c, if_pos (by have := logLt h (by decide); omega)]
    exact ⟨1921, rfl, Nat.le_refl _⟩
theorem repr_pair {x y : Int} (hx : x.natAbs < 2 ^ 1900) (hy : y.natAbs < 2 ^ 1900) : ∃ s, reprD (.tup [.int x, .int y]) = some (.str s) := by
  obtain ⟨a, ea, la⟩ := intW_some hx
  obtain ⟨b, eb, lb⟩ := intW_some hy
  have e : shw 60 (.tup [.int x, .int y]) = some (a + 1 + (b + 1)) := by simp [shw, shws, ea, eb]
  unfold reprD
  rw [e]
  exact ⟨_, if_pos (by omega)⟩
theorem repr_lowD {t b : Int} (ht : 0 ≤ t) (ht2 : t < 2 ^ 1900) (hb : 0 < b) (hb2 : b < 2 ^ 1900) : ∃ s, reprD (lowD t b) = some (.str s) := by
  obtain ⟨g1, g2⟩ := gcd_le t b hb
  have a1 : 0 ≤ t / (Int.gcd t b : Nat) := Int.ediv_nonneg ht (by omega)
  have a2 : t / (Int.gcd t b : Nat) ≤ t := Int.ediv_le_self _ ht
  have b1 : 0 ≤ b / (Int.gcd t b : Nat) := Int.ediv_nonneg (by omega) (by omega)
  have b2 : b / (Int.gcd t b : Nat) ≤ b := Int.ediv_le_self _ (by omega)
  exact repr_pair (natAbs_lt a1 (by omega)) (natAbs_lt b1 (by omega))
theorem half_inner : Inner 1 2 := ⟨by decide, by decide, by decide, by decide⟩
theorem third_inner : Inner 1 3 := ⟨by decide, by decide, by decide, by decide⟩
end MP


set_option Elab.async false
set_option linter.all false
set_option maxRecDepth 100000
set_option maxHeartbeats 4000000
set_option exponentiation.threshold 5000
namespace MP
abbrev Book := List (Int × Int × Int)
/-! ### shares by truths -/
def above (t : Int) (x : Int × Int × Int) : Bool := decide (t < x.2.1)
def cnt (t : Int) (l : Book) : Nat := (l.filter (above t)).length
theorem cnt_is (t : Int) (l : Book) : (l.filter (above t)).length = cnt t l := rfl
theorem cnt_le (t : Int) (l : Book) : cnt t l ≤ l.length := List.length_filter_le ..
theorem lt4000 {x : Int} (h : x < 2 ^ 64) : x < 2 ^ 4000 := Int.lt_trans h (by decide)
theorem lt_low {a n b m : Int} (hn : 0 < n) (hm : 0 < m) : (a / (Int.gcd a n : Nat)) * (m / (Int.gcd b m : Nat)) < (b / (Int.gcd b m : Nat)) * (n / (Int.gcd a n : Nat)) ↔ a * m < b * n := by
  obtain ⟨g1, _⟩ := gcd_le a n hn
  obtain ⟨g2, _⟩ := gcd_le b m hm
  obtain ⟨a', ha⟩ : ((Int.gcd a n : Nat) : Int) ∣ a := Int.gcd_dvd_left ..
  obtain ⟨n', hn'⟩ : ((Int.gcd a n : Nat) : Int) ∣ n := Int.gcd_dvd_right ..
  obtain ⟨b', hb⟩ : ((Int.gcd b m : Nat) : Int) ∣ b := Int.gcd_dvd_left ..
  obtain ⟨m', hm'⟩ : ((Int.gcd b m : Nat) : Int) ∣ m := Int.gcd_dvd_right ..
  generalize ((Int.gcd a n : Nat) : Int) = g at *
  generalize ((Int.gcd b m : Nat) : Int) = q at *
  subst ha hn' hb hm'
  rw [Int.mul_ediv_cancel_left _ (by omega), Int.mul_ediv_cancel_left _ (by omega), Int.mul_ediv_cancel_left _ (by omega), Int.mul_ediv_cancel_left _ (by omega)]
  have e1 : g * a' * (q * m') = (g * q) * (a' * m') := by grind
  have e2 : q * b' * (g * n') = (g * q) * (b' * n') := by grind
  rw [e1, e2]
  have p : 0 < g * q := Int.mul_pos g1 g2
  exact ⟨fun h => Int.mul_lt_mul_of_pos_left h p, fun h => Int.lt_of_mul_lt_mul_left h (Int.le_of_lt p)⟩
theorem low_bits {t b : Int} {n : Nat} (ht : 0 ≤ t) (ht2 : t < 2 ^ n) (hb : 0 < b) (hb2 : b < 2 ^ n) : (t / (Int.gcd t b : Nat)).natAbs < 2 ^ n ∧ (b / (Int.gcd t b : Nat)).natAbs < 2 ^ n := by
  obtain ⟨g1, g2⟩ := gcd_le t b hb
  have a1 : 0 ≤ t / (Int.gcd t b : Nat) := Int.ediv_nonneg ht (by omega)
  have a2 : t / (Int.gcd t b : Nat) ≤ t := Int.ediv_le_self _ ht
  have b1 : 0 ≤ b / (Int.gcd t b : Nat) := Int.ediv_nonneg (by omega) (by omega)
  have b2 : b / (Int.gcd t b : Nat) ≤ b := Int.ediv_le_self _ (by omega)
  exact ⟨natAbs_lt a1 (by omega), natAbs_lt b1 (by omega)⟩
theorem c_is_less (k : Nat) (a n b m : Int) (h : Hh) (ha : 0 ≤ a) (ha2 : a < 2 ^ 4000) (hn : 0 < n) (hn2 : n < 2 ^ 4000) (hb : 0 ≤ b) (hb2 : b < 2 ^ 4000) (hm : 0 < m) (hm2 : m < 2 ^ 4000) : callK P (k + 1) F_p_is_less [lowD a n, lowD b m] h = .ok (.v (.bl (decide (a * m < b * n)))) h := by
  rw [call_run (d := d_p_is_less) rfl rfl]
  obtain ⟨x1, x2⟩ := low_bits ha ha2 hn hn2
  obtain ⟨y1, y2⟩ := low_bits hb hb2 hm hm2
  have m1 := mulOk x1 y2 (by decide)
  have m2 := mulOk y1 x2 (by decide)
  simp only [runDef, d_p_is_less, lowD]
  simp [-Int.natAbs_mul, -Int.natAbs_ediv, m1, m2, lt_low hn hm]
/-- the first truth's share is less -/
def lessAt (A B : Book) (t : Int) : Bool := decide ((cnt t A : Int) * (B.length : Nat) < (cnt t B : Int) * (A.length : Nat))
def optT : Option Int → D
  | none => .non
  | some t => .int t
/-- a loop that looks for something -/
theorem for_find {body : Env → Hh → SRes} {bd : D → Env → Hh → Option Env} {h : Hh} (p : Int → Bool) (I : Env → Prop) : ∀ (l : List Int) (r : Env), (∀ t ∈ l, ∀ r, I r → ∃ r1, bd (.int t) r h = some r1 ∧ ((p t = true ∧ body r1 h = .rt (.v (.int t)) h) ∨ (p t = false ∧ ∃ r', body r1 h = .nx r' h ∧ I r'))) → I r →
    (∃ t, l.find? p = some t ∧ forGo bd body (l.map .int) r h = .rt (.v (.int t)) h) ∨ (l.find? p = none ∧ ∃ r', forGo bd body (l.map .int) r h = .nx r' h ∧ I r')
  | [], r, _, i => .inr ⟨rfl, r, rfl, i⟩
  | t :: l, r, st, i => by
    obtain ⟨r1, e1, q⟩ := st t (by simp) r i
    rw [List.map_cons, forGo, e1]
    rcases q with ⟨c, e2⟩ | ⟨c, r', e2, i'⟩
    · exact .inl ⟨t, by simp [c], by simp only [e2]⟩
    · simp only [e2, List.find?_cons, c]
      exact for_find p I l r' (fun u hu => st u (by simp [hu])) i'
theorem lessAt_small {A B : Book} (t : Int) (a1 : 1 ≤ A.length) (a2 : A.length ≤ 40) (b1 : 1 ≤ B.length) (b2 : B.length ≤ 40) (k : Nat) (h : Hh) : callK P (k + 1) F_p_is_less [lowD (cnt t A) (A.length : Nat), lowD (cnt t B) (B.length : Nat)] h = .ok (.v (.bl (lessAt A B t))) h := by
  have p : ∀ x : Int, x < 2 ^ 64 → x < 2 ^ 4000 := fun x hx => Int.lt_trans hx (by decide)
  have q1 := cnt_le t A
  have q2 := cnt_le t B
  exact c_is_less k _ _ _ _ h (by omega) (p _ (by omega)) (by omega) (p _ (by omega)) (by omega) (p _ (by omega)) (by omega) (p _ (by omega))
def untils (l : Book) : List Int := l.map fun x => x.2.1
theorem ints_untils (l : Book) : intsD (l.map fun x => D.int x.2.1) = some (untils l) := by
  induction l with
  | nil => rfl
  | cons x l ih => rw [List.map_cons, intsD, ih]; rfl
/-- gone through time by time -/
def times : List Int := (List.range 2001).map fun i : Nat => (i : Int)
/-! ### the least time is an until -/
theorem find_least {p : Int → Bool} {l : List Int} (hl : l.Pairwise (· < ·)) {t : Int} (ht : t ∈ l) (hp : p t = true) (hu : ∀ u ∈ l, u < t → p u = false) : l.find? p = some t := by
  induction l with
  | nil => cases ht
  | cons x l ih =>
    rw [List.pairwise_cons] at hl
    rcases List.mem_cons.mp ht with rfl | ht
    · simp [hp]
    · have := hu x (by simp) (hl.1 t ht)
      rw [List.find?_cons, this]
      exact ih hl.2 ht fun u hm => hu u (by simp [hm])
theorem find_min {p : Int → Bool} {l : List Int} (hl : l.Pairwise (· < ·)) {t : Int} (h : l.find? p = some t) : t ∈ l ∧ p t = true ∧ ∀ u ∈ l, u < t → p u = false := by
  rw [List.find?_eq_some_iff_append] at h
  obtain ⟨hp, as, bs, rfl, ha⟩ := h
  refine ⟨by simp, hp, fun u hu hlt => ?_⟩
  rw [List.pairwise_append] at hl
  rcases List.mem_append.mp hu with hu | hu
  · simpa using ha u hu
  · rcases List.mem_cons.mp hu with rfl | hu
    · omega
    · have := (List.pairwise_cons.mp hl.2.1).1 u hu
      omega
theorem times_pw : times.Pairwise (· < ·) := by
  unfold times
  rw [List.pairwise_map]
  exact List.pairwise_lt_range.imp fun h => by omega
theorem times_mem (t : Int) : t ∈ times ↔ 0 ≤ t ∧ t ≤ 2000 := by
  unfold times
  rw [List.mem_map]
  constructor
  · rintro ⟨i, hi, rfl⟩
    have := List.mem_range.mp hi
    omega
  · rintro ⟨h0, h1⟩
    exact ⟨t.toNat, List.mem_range.mpr (by omega), by omega⟩
theorem find_step {p : Int → Bool} {U : List Int} (hU : ∀ u ∈ U, 0 ≤ u ∧ u ≤ 2000) (hp : ∀ t : Int, 0 ≤ t → p t = true → t ∈ U ∨ (1 ≤ t ∧ p (t - 1) = true)) : (sortU U).find? p = times.find? p := by
  cases e : times.find? p with
  | none =>
    rw [List.find?_eq_none] at e ⊢
    intro u hu
    rw [sortU_mem] at hu
    exact e u ((times_mem u).mpr (hU u hu))
  | some t =>
    obtain ⟨m, pt, least⟩ := find_min times_pw e
    rw [times_mem] at m
    have tU : t ∈ U := by
      rcases hp t m.1 pt with h | ⟨h1, h2⟩
      · exact h
      · have := least (t - 1) ((times_mem _).mpr (by omega)) (by omega)
        rw [this] at h2
        cases h2
    refine find_least (sortU_pw U) ((sortU_mem t U).mpr tU) pt fun u hu hlt => ?_
    rw [sortU_mem] at hu
    exact least u ((times_mem u).mpr (hU u hu)) hlt
theorem cnt_step {t : Int} {l : Book} (h : t ∉ untils l) : cnt t l = cnt (t - 1) l := by
  unfold cnt
  congr 1
  apply List.filter_congr
  intro x hx
  have : x.2.1 ≠ t := fun e => h (List.mem_map.mpr ⟨x, hx, e⟩)
  unfold above
  by_cases c : t < x.2.1
  · rw [decide_eq_true c, decide_eq_true (by omega)]
  · rw [decide_eq_false c, decide_eq_false (by omega)]
theorem cnt_zero {l : Book} (h : ∀ u ∈ untils l, 0 < u) : cnt 0 l = l.length := by
  unfold cnt
  rw [List.filter_eq_self.mpr]
  intro x hx
  exact decide_eq_true (h _ (List.mem_map.mpr ⟨x, hx, rfl⟩))
theorem find_times {A B : Book} (hA : ∀ u ∈ untils A, 0 < u ∧ u ≤ 2000) (hB : ∀ u ∈ untils B, 0 < u ∧ u ≤ 2000) : (sortU (untils (A ++ B))).find? (lessAt A B) = times.find? (lessAt A B) := by
  have eU : untils (A ++ B) = untils A ++ untils B := by simp [untils]
  rw [eU]
  refine find_step (fun u hu => ?_) fun t t0 ht => ?_
  · rcases List.mem_append.mp hu with hu | hu
    · have := hA u hu; omega
    · have := hB u hu; omega
  · by_cases m : t ∈ untils A ++ untils B
    · exact .inl m
    · rw [List.mem_append, not_or] at m
      by_cases z : t = 0
      · subst z
        have := of_decide_eq_true ht
        rw [cnt_zero fun u hu => (hA u hu).1, cnt_zero fun u hu => (hB u hu).1, Int.mul_comm] at this
        omega
      · refine .inr ⟨by omega, ?_⟩
        unfold lessAt at ht ⊢
        rw [← cnt_step m.1, ← cnt_step m.2]
        exact ht
end MP


set_option Elab.async false
set_option linter.all false
set_option maxRecDepth 100000
set_option maxHeartbeats 4000000
set_option exponentiation.threshold 5000
namespace MP
/-- a loop that tells the first that is found -/
theorem for_first {α : Type} {body : Env → Hh → SRes} {bd : D → Env → Hh → Option Env} {h : Hh} (g : α → Option SV) (enc : α → D) (I : Env → Prop) : ∀ (l : List α) (r : Env), (∀ a ∈ l, ∀ r, I r → ∃ r1, bd (enc a) r h = some r1 ∧ ((∃ v, g a = some v ∧ body r1 h = .rt v h) ∨ (g a = none ∧ ∃ r', body r1 h = .nx r' h ∧ I r'))) → I r →
    (∃ v, l.findSome? g = some v ∧ forGo bd body (l.map enc) r h = .rt v h) ∨ (l.findSome? g = none ∧ ∃ r', forGo bd body (l.map enc) r h = .nx r' h ∧ I r')
  | [], r, _, i => .inr ⟨rfl, r, rfl, i⟩
  | a :: l, r, st, i => by
    obtain ⟨r1, e1, q⟩ := st a (by simp) r i
    rw [List.map_cons, forGo, e1]
    rcases q with ⟨v, c, e2⟩ | ⟨c, r', e2, i'⟩
    · exact .inl ⟨v, by simp [c], by simp only [e2]⟩
    · simp only [e2, List.findSome?_cons, c]
      exact for_first g enc I l r' (fun u hu => st u (by simp [hu])) i'
/-- the numbers from lo on below hi -/
def rng (lo hi : Nat) : List Nat := (List.range (hi - lo)).map fun i => lo + i
theorem rng_mem {lo hi i : Nat} : i ∈ rng lo hi ↔ lo ≤ i ∧ i < hi := by
  unfold rng
  rw [List.mem_map]
  constructor
  · rintro ⟨j, hj, rfl⟩
    have := List.mem_range.mp hj
    omega
  · rintro ⟨h1, h2⟩
    exact ⟨i - lo, List.mem_range.mpr (by omega), by omega⟩
theorem rangeL_rng (lo hi : Nat) : rangeL (lo : Int) ((hi : Int) - (lo : Int)).toNat 1 = (rng lo hi).map fun i => .int (i : Nat) := by
  unfold rangeL rng
  rw [show ((hi : Int) - (lo : Int)).toNat = hi - lo by omega, List.map_map]
  apply List.map_congr_left
  intro i _
  simp
/-! ### full books, shares -/
structure Full (A : Book) : Prop where
  g : Good A
  f : ∀ x ∈ A, 0 < x.2.2
  l1 : 1 ≤ A.length
  l2 : A.length ≤ 40
theorem c_need_full (k : Nat) (A : Book) (h : Hh) (a : Full A) : callK P (k + 7) F_p_need_full [bk A] h = .ok (.v .non) h := by
  rw [call_run (d := d_p_need_full) rfl rfl]
  have nb := c_need_book k A h a.g.1 a.l1 a.l2
  simp only [bk] at nb
  simp [runDef, d_p_need_full, bk, nb]
  rw [comp_bk (fun _ => .bl false) A fun x hx => ⟨_, rfl, by
    have h1 := a.g.2 x hx
    have h2 := a.f x hx
    have h3 : ¬ x.2.2 = 0 := by omega
    simp [sp, h1, h3]⟩]
  simp [bools_map]
structure Share (t b : Int) : Prop where
  t0 : 0 ≤ t
  tb : t ≤ b
  b0 : 0 < b
  bs : b < 2 ^ 1000
  g : Int.gcd t b = 1
theorem Inner.share {t b : Int} (i : Inner t b) : Share t b := ⟨Int.le_of_lt i.t0, Int.le_of_lt i.tb, by have := i.t0; have := i.tb; omega, two_pow_mono (n := 20) (by have := i.bs; omega) (by decide), i.g⟩
theorem low_id {t b : Int} (g : Int.gcd t b = 1) : lowD t b = fr t b := by
  unfold lowD fr
  rw [g]
  simp
theorem c_need_share (k : Nat) (t b : Int) (h : Hh) (s : Share t b) : callK P (k + 4) F_p_need_share [fr t b] h = .ok (.v .non) h := by
  have e := c_is_fraction k t b h s.t0 s.b0 (two_pow_mono s.bs (by decide)) s.g
  have t0 := s.t0
  have tb := s.tb
  have e2 : callK P (k + 3) F_p_is_share [fr t b] h = .ok (.v (.bl true)) h := by
    rw [call_run (d := d_p_is_share) rfl rfl]
    simp only [fr] at e
    simp [runDef, d_p_is_share, fr, e, t0, tb]
  rw [call_run (d := d_p_need_share) rfl rfl]
  simp [runDef, d_p_need_share, e2]
/-! ### bands -/
/-- the band's sureness is not less than what is wanted -/
def bandOk (t b w v : Int) (n i j : Nat) : Bool := decide (¬ bandSum t b n i j * v < w * b ^ n)
def uAt (U : List Int) (i : Nat) : Int := (U[i]?).getD 0
def bandV (U : List Int) (i j : Nat) : D := .tup [.int (uAt U (i - 1)), .int (uAt U (j - 1)), .int (i : Nat), .int (j : Nat)]
def bandF (t b w v : Int) (U : List Int) : Option SV := (rng 1 U.length).findSome? fun wide => (rng 1 (U.length - wide + 1)).findSome? fun i => if bandOk t b w v U.length i (i + wide) = true then some (.v (bandV U i (i + wide))) else none
theorem sortI_len : ∀ l : List Int, (sortI l).length = l.length
  | [] => rfl
  | i :: l => by
    have ins : ∀ (i : Int) (l : List Int), (insI i l).length = l.length + 1 := by
      intro i l
      induction l with
      | nil => rfl
      | cons j l ih => unfold insI; split <;> simp [ih]
    rw [sortI, ins, sortI_len l, List.length_cons]
theorem uAt_at {U : List Int} {i : Nat} (h : i < U.length) : L2.atI (U.map D.int) (i : Int) = some (.int (uAt U i)) := by
  refine atN ?_
  rw [List.getElem?_map]
  unfold uAt
  simp [h]
theorem small_put {t b : Int} (q : Inner t b) {n : Nat} (hn : n ≤ 40) (i j : Nat) : 0 ≤ bandSum t b n i j ∧ bandSum t b n i j < 2 ^ 4000 ∧ 0 < b ^ n ∧ b ^ n < 2 ^ 4000 := by
  obtain ⟨p0, p1⟩ := pow_small q hn
  exact ⟨bandSum_nonneg t b (Int.le_of_lt q.t0) (Int.le_of_lt q.tb) n i j, two_pow_mono (bandSum_le t b q n i j hn) (by decide), p0, p1⟩
theorem band_less (k : Nat) {t b w v : Int} (q : Inner t b) (s : Share w v) {n : Nat} (hn : n ≤ 40) (i j : Nat) (h : Hh) : callK P (k + 1) F_p_is_less [lowD (bandSum t b n i j) (b ^ n), fr w v] h = .ok (.v (.bl (!bandOk t b w v n i j))) h := by
  obtain ⟨a0, a1, a2, a3⟩ := small_put q hn i j
  have e := c_is_less k (bandSum t b n i j) (b ^ n) w v h a0 a1 a2 a3 s.t0 (two_pow_mono (Int.lt_of_le_of_lt s.tb s.bs) (by decide)) s.b0 (two_pow_mono s.bs (by decide))
  rw [low_id s.g] at e
  rw [e]
  unfold bandOk
  by_cases c : bandSum t b n i j * v < w * b ^ n <;> simp [c]
theorem band_b1 (k : Nat) {t b w v : Int} (q : Inner t b) (s : Share w v) (U : List Int) (hn : U.length ≤ 40) (wide i : Nat) (hi : 1 ≤ i) (hw : 1 ≤ wide) (hiw : i + wide ≤ U.length) (h : Hh) (s0 s1 x8 x9 x10 : SV) :
    (bandOk t b w v U.length i (i + wide) = true → evSs P (callK P (k + 3)) d_p_band_b1 [s0, s1, .v (fr w v), .v (.lst (U.map .int)), .v (.lst ((chL t b U.length).map .int)), .v (.int (b ^ U.length)), .v (.int (wide : Nat)), .v (.int (i : Nat)), x8, x9, x10] h = .rt (.v (bandV U i (i + wide))) h) ∧
    (bandOk t b w v U.length i (i + wide) = false → evSs P (callK P (k + 3)) d_p_band_b1 [s0, s1, .v (fr w v), .v (.lst (U.map .int)), .v (.lst ((chL t b U.length).map .int)), .v (.int (b ^ U.length)), .v (.int (wide : Nat)), .v (.int (i : Nat)), x8, x9, x10] h =
      .nx [s0, s1, .v (fr w v), .v (.lst (U.map .int)), .v (.lst ((chL t b U.length).map .int)), .v (.int (b ^ U.length)), .v (.int (wide : Nat)), .v (.int (i : Nat)), x8, x9, x10] h) := by
  obtain ⟨a0, a1, a2, a3⟩ := small_put q hn i (i + wide)
  have cu := cut_map (chL t b U.length) i (i + wide) (by omega) (by rw [chL_len]; omega)
  have e1 := c_put (k + 1) (bandSum t b U.length i (i + wide)) (b ^ U.length) h a0 a2 a3
  have e2 := band_less (k + 2) q s hn i (i + wide) h
  have u1 := uAt_at (U := U) (i := i - 1) (by omega)
  have u2 := uAt_at (U := U) (i := i + wide - 1) (by omega)
  rw [show ((i - 1 : Nat) : Int) = (i : Int) - 1 by omega] at u1
  rw [show ((i + wide - 1 : Nat) : Int) = (i : Int) + (wide : Int) - 1 by omega] at u2
  rw [Int.natCast_add] at cu
  have bs : (List.take wide (List.drop i (chL t b U.length))).sum = bandSum t b U.length i (i + wide) := by
    unfold bandSum
    rw [Nat.add_sub_cancel_left]
  constructor <;> intro c
  · simp [-List.map_take, -List.map_drop, d_p_band_b1, cutO, deref, cu, ints_map, bs, e1, e2, c, u1, u2, bandV]
  · simp [-List.map_take, -List.map_drop, d_p_band_b1, cutO, deref, cu, ints_map, bs, e1, e2, c]
theorem band_b2 (k : Nat) {t b w v : Int} (q : Inner t b) (s : Share w v) (U : List Int) (hn : U.length ≤ 40) (wide : Nat) (hw : 1 ≤ wide) (hw2 : wide < U.length) (h : Hh) (s0 s1 w7 x8 x9 x10 : SV) :
    (∃ z, (rng 1 (U.length - wide + 1)).findSome? (fun i => if bandOk t b w v U.length i (i + wide) = true then some (SV.v (bandV U i (i + wide))) else none) = some z ∧
      evSs P (callK P (k + 3)) d_p_band_b2 [s0, s1, .v (fr w v), .v (.lst (U.map .int)), .v (.lst ((chL t b U.length).map .int)), .v (.int (b ^ U.length)), .v (.int (wide : Nat)), w7, x8, x9, x10] h = .rt z h) ∨
    ((rng 1 (U.length - wide + 1)).findSome? (fun i => if bandOk t b w v U.length i (i + wide) = true then some (SV.v (bandV U i (i + wide))) else none) = none ∧
      ∃ w7', evSs P (callK P (k + 3)) d_p_band_b2 [s0, s1, .v (fr w v), .v (.lst (U.map .int)), .v (.lst ((chL t b U.length).map .int)), .v (.int (b ^ U.length)), .v (.int (wide : Nat)), w7, x8, x9, x10] h =
        .nx [s0, s1, .v (fr w v), .v (.lst (U.map .int)), .v (.lst ((chL t b U.length).map .int)), .v (.int (b ^ U.length)), .v (.int (wide : Nat)), w7', x8, x9, x10] h) := by
  have c1 : (-1000000 ≤ (1 : Int) ∧ (1 : Int) ≤ 1000000) ∧ -1000000 ≤ (U.length : Int) - (wide : Int) + 1 ∧ (U.length : Int) - (wide : Int) + 1 ≤ 1000000 := by omega
  have er := rangeL_rng 1 (U.length - wide + 1)
  rw [show ((U.length - wide + 1 : Nat) : Int) - ((1 : Nat) : Int) = (U.length : Int) - (wide : Int) + 1 - 1 by omega] at er
  simp only [Int.natCast_one] at er
  have key := for_first (bd := bindTg (.nm 7)) (body := fun r h => evSs P (callK P (k + 3)) d_p_band_b1 r h) (h := h) (fun i => if bandOk t b w v U.length i (i + wide) = true then some (SV.v (bandV U i (i + wide))) else none) (fun i : Nat => D.int (i : Nat))
    (fun r => ∃ z, r = [s0, s1, .v (fr w v), .v (.lst (U.map .int)), .v (.lst ((chL t b U.length).map .int)), .v (.int (b ^ U.length)), .v (.int (wide : Nat)), z, x8, x9, x10]) (rng 1 (U.length - wide + 1)) [s0, s1, .v (fr w v), .v (.lst (U.map .int)), .v (.lst ((chL t b U.length).map .int)), .v (.int (b ^ U.length)), .v (.int (wide : Nat)), w7, x8, x9, x10] (by
      rintro i hi r ⟨z, rfl⟩
      rw [rng_mem] at hi
      obtain ⟨p1, p2⟩ := band_b1 k q s U hn wide i hi.1 hw (by omega) h s0 s1 x8 x9 x10
      refine ⟨_, rfl, ?_⟩
      by_cases c : bandOk t b w v U.length i (i + wide) = true
      · exact .inl ⟨_, if_pos c, p1 c⟩
      · exact .inr ⟨if_neg c, _, p2 (by simpa using c), _, rfl⟩) ⟨_, rfl⟩
  rcases key with ⟨z, e1, e2⟩ | ⟨e1, r', e2, z, rfl⟩
  · refine .inl ⟨z, e1, ?_⟩
    simp [-q_forGo_1, -q_forGo_2, d_p_band_b2, c1]
    simp at er
    rw [er, e2]
  · refine .inr ⟨e1, z, ?_⟩
    simp [-q_forGo_1, -q_forGo_2, d_p_band_b2, c1]
    simp at er
    rw [er, e2]
def bandD (t b w v : Int) (A : Book) : SV := (bandF t b w v (sortI (untils A))).getD (.v .non)
theorem c_band (k : Nat) {t b w v : Int} (q : Inner t b) (s : Share w v) (A : Book) (a : Full A) (h : Hh) : callK P (k + 8) F_p_band [bk A, fr t b, fr w v] h = .ok (bandD t b w v A) h := by
  rw [call_run (d := d_p_band) rfl rfl]
  have n1 := c_need_full k A h a
  have n2 := c_need_inner (k + 4) t b h q
  have n3 := c_need_share (k + 3) w v h s
  have hU : (sortI (untils A)).length = A.length := by rw [sortI_len]; simp [untils]
  have c2 := c_chances (k + 6) t b q A.length a.l2 h
  have c1 : (-1000000 ≤ (1 : Int) ∧ (1 : Int) ≤ 1000000) ∧ -1000000 ≤ (A.length : Int) ∧ (A.length : Int) ≤ 1000000 := by have := a.l2; omega
  simp only [bk] at n1
  simp [-q_forGo_1, -q_forGo_2, runDef, d_p_band, bk, n1, n2, n3, c2]
  rw [comp_bk (fun x => .int x.2.1) A fun x hx => ⟨_, rfl, by simp [sp]⟩]
  simp only [Res.bind_ok]
  have bs : blt .sorted [.lst (A.map fun x => D.int x.2.1)] h = some (.lst ((sortI (untils A)).map .int)) := by
    simp [blt, itemsL, ints_untils]
  simp [-q_forGo_1, -q_forGo_2, bs, c2, hU, c1]
  have er := rangeL_rng 1 A.length
  simp at er
  have er2 : rangeL 1 (A.length - 1) 1 = (rng 1 A.length).map fun i : Nat => D.int (i : Nat) := er
  rw [er2]
  generalize hf : forGo _ _ _ _ _ = res
  have key := for_first (bd := bindTg (.nm 6)) (body := fun r h => evSs P (callK P (k + 7)) d_p_band_b2 r h) (h := h) (fun wide => (rng 1 (A.length - wide + 1)).findSome? fun i => if bandOk t b w v A.length i (i + wide) = true then some (SV.v (bandV (sortI (untils A)) i (i + wide))) else none) (fun i : Nat => D.int (i : Nat))
    (fun r => ∃ z7 z, r = [.v (bk A), .v (fr t b), .v (fr w v), .v (.lst ((sortI (untils A)).map .int)), .v (.lst ((chL t b A.length).map .int)), .v (.int (b ^ A.length)), z, z7, .un, .un, .un]) (rng 1 A.length) [.v (bk A), .v (fr t b), .v (fr w v), .v (.lst ((sortI (untils A)).map .int)), .v (.lst ((chL t b A.length).map .int)), .v (.int (b ^ A.length)), .un, .un, .un, .un, .un] (by
      rintro wide hw r ⟨z7, z, rfl⟩
      rw [rng_mem] at hw
      have p := band_b2 (k + 4) q s (sortI (untils A)) (by rw [hU]; exact a.l2) wide hw.1 (by rw [hU]; exact hw.2) h (.v (bk A)) (.v (fr t b)) z7 .un .un .un
      rw [hU] at p
      refine ⟨_, rfl, ?_⟩
      rcases p with ⟨u, e1, e2⟩ | ⟨e1, w7, e2⟩
      · exact .inl ⟨u, e1, e2⟩
      · exact .inr ⟨e1, _, e2, _, _, rfl⟩) ⟨_, _, rfl⟩
  simp only [bk] at key
  rw [hf] at key
  unfold bandD bandF
  rw [hU]
  rcases key with ⟨u, e1, e2⟩ | ⟨e1, r', e2, z7, z, rfl⟩
  · simp [e1, e2]
  · simp [e1, e2]
end MP


set_option Elab.async false
set_option linter.all false
set_option maxRecDepth 100000
set_option maxHeartbeats 4000000
set_option exponentiation.threshold 5000
namespace MP
/-! ### the first band that is found -/
theorem rng_pw (lo hi : Nat) : (rng lo hi).Pairwise (· < ·) := by
  unfold rng
  rw [List.pairwise_map]
  exact List.pairwise_lt_range.imp fun h => by omega
theorem first_min {α : Type} {l : List Nat} (hl : l.Pairwise (· < ·)) {f : Nat → Option α} {b : α} (h : l.findSome? f = some b) : ∃ a ∈ l, f a = some b ∧ ∀ x ∈ l, x < a → f x = none := by
  rw [List.findSome?_eq_some_iff] at h
  obtain ⟨l1, a, l2, rfl, fa, hn⟩ := h
  refine ⟨a, by simp, fa, fun x hx lt => ?_⟩
  rcases List.mem_append.mp hx with hx | hx
  · exact hn x hx
  · rcases List.mem_cons.mp hx with rfl | hx
    · omega
    · rw [List.pairwise_append] at hl
      have := (List.pairwise_cons.mp hl.2.1).1 x hx
      omega
theorem bandF_none {t b w v : Int} {U : List Int} (h : bandF t b w v U = none) : ∀ wide i, 1 ≤ wide → 1 ≤ i → i + wide ≤ U.length → bandOk t b w v U.length i (i + wide) = false := by
  intro wide i hw hi hiw
  unfold bandF at h
  rw [List.findSome?_eq_none_iff] at h
  have h1 := h wide (rng_mem.mpr ⟨hw, by omega⟩)
  rw [List.findSome?_eq_none_iff] at h1
  have h2 := h1 i (rng_mem.mpr ⟨hi, by omega⟩)
  by_cases c : bandOk t b w v U.length i (i + wide) = true
  · rw [if_pos c] at h2
    cases h2
  · simpa using c
theorem bandF_some {t b w v : Int} {U : List Int} {z : SV} (h : bandF t b w v U = some z) : ∃ wide i, 1 ≤ wide ∧ 1 ≤ i ∧ i + wide ≤ U.length ∧ bandOk t b w v U.length i (i + wide) = true ∧ z = .v (bandV U i (i + wide)) ∧
    (∀ wide' i', 1 ≤ wide' → wide' < wide → 1 ≤ i' → i' + wide' ≤ U.length → bandOk t b w v U.length i' (i' + wide') = false) ∧ ∀ i', 1 ≤ i' → i' < i → bandOk t b w v U.length i' (i' + wide) = false := by
  unfold bandF at h
  obtain ⟨wide, hw, fw, less⟩ := first_min (rng_pw _ _) h
  obtain ⟨i, hi, fi, lessi⟩ := first_min (rng_pw _ _) fw
  rw [rng_mem] at hw hi
  by_cases c : bandOk t b w v U.length i (i + wide) = true
  · rw [if_pos c] at fi
    cases fi
    refine ⟨wide, i, hw.1, hi.1, by omega, c, rfl, fun wide' i' a1 a2 a3 a4 => ?_, fun i' a1 a2 => ?_⟩
    · have := less wide' (rng_mem.mpr ⟨a1, by omega⟩) a2
      rw [List.findSome?_eq_none_iff] at this
      have := this i' (rng_mem.mpr ⟨a3, by omega⟩)
      by_cases d : bandOk t b w v U.length i' (i' + wide') = true
      · rw [if_pos d] at this
        cases this
      · simpa using d
    · have := lessi i' (rng_mem.mpr ⟨a1, by omega⟩) a2
      by_cases d : bandOk t b w v U.length i' (i' + wide) = true
      · rw [if_pos d] at this
        cases this
      · simpa using d
  · rw [if_neg c] at fi
    cases fi
/-! ### sorting -/
theorem insI_pw (i : Int) : ∀ l : List Int, l.Pairwise (· ≤ ·) → (insI i l).Pairwise (· ≤ ·)
  | [], _ => by simp [insI]
  | j :: l, h => by
    rw [List.pairwise_cons] at h
    unfold insI
    split
    · rename_i c
      rw [List.pairwise_cons]
      refine ⟨fun a ha => ?_, by rw [List.pairwise_cons]; exact h⟩
      rcases List.mem_cons.mp ha with rfl | ha
      · exact c
      · have := h.1 a ha
        omega
    · rename_i c
      rw [List.pairwise_cons]
      refine ⟨fun a ha => ?_, insI_pw i l h.2⟩
      rcases List.mem_cons.mp ((insI_perm i l).mem_iff.mp ha) with rfl | ha
      · omega
      · exact h.1 a ha
theorem sortI_pw : ∀ l : List Int, (sortI l).Pairwise (· ≤ ·)
  | [] => by simp [sortI]
  | i :: l => insI_pw i _ (sortI_pw l)
theorem sorted_eq : ∀ {l m : List Int}, l.Pairwise (· ≤ ·) → m.Pairwise (· ≤ ·) → l.Perm m → l = m
  | [], m, _, _, p => (List.nil_perm.mp p).symm
  | a :: l, [], _, _, p => absurd p.length_eq (by simp)
  | a :: l, b :: m, hl, hm, p => by
    have hl' := List.pairwise_cons.mp hl
    have hm' := List.pairwise_cons.mp hm
    have e : a = b := by
      have h1 := p.mem_iff.mp (List.mem_cons_self (a := a) (l := l))
      have h2 := p.mem_iff.mpr (List.mem_cons_self (a := b) (l := m))
      rcases List.mem_cons.mp h1 with z | z
      · exact z
      · rcases List.mem_cons.mp h2 with y | y
        · exact y.symm
        · have := hl'.1 b y
          have := hm'.1 a z
          omega
    subst e
    rw [sorted_eq hl'.2 hm'.2 (List.Perm.cons_inv p)]
theorem sortI_same {l m : List Int} (p : l.Perm m) : sortI l = sortI m := sorted_eq (sortI_pw l) (sortI_pw m) ((sortI_perm l).trans (p.trans (sortI_perm m).symm))
theorem sortI_map {f : Int → Int} (hf : ∀ a b, a ≤ b → f a ≤ f b) (l : List Int) : sortI (l.map f) = (sortI l).map f := by
  refine sorted_eq (sortI_pw _) ?_ ((sortI_perm _).trans ((sortI_perm l).map f).symm)
  rw [List.pairwise_map]
  exact (sortI_pw l).imp fun h => hf _ _ h
/-! ### lowest terms -/
theorem lowD_eq {a n b m : Int} (hn : 0 < n) (hm : 0 < m) (e : a * m = b * n) : lowD a n = lowD b m := by
  obtain ⟨g1, _⟩ := gcd_le a n hn
  obtain ⟨g2, _⟩ := gcd_le b m hm
  obtain ⟨a', ha⟩ : ((Int.gcd a n : Nat) : Int) ∣ a := Int.gcd_dvd_left ..
  obtain ⟨n', hn'⟩ : ((Int.gcd a n : Nat) : Int) ∣ n := Int.gcd_dvd_right ..
  obtain ⟨b', hb⟩ : ((Int.gcd b m : Nat) : Int) ∣ b := Int.gcd_dvd_left ..
  obtain ⟨m', hm'⟩ : ((Int.gcd b m : Nat) : Int) ∣ m := Int.gcd_dvd_right ..
  have c1 := Int.gcd_ediv_gcd_ediv_gcd_of_ne_zero_right (n := a) (m := n) (by omega)
  have c2 := Int.gcd_ediv_gcd_ediv_gcd_of_ne_zero_right (n := b) (m := m) (by omega)
  have ea : a / (Int.gcd a n : Nat) = a' := Int.ediv_eq_of_eq_mul_right (by omega) ha
  have en : n / (Int.gcd a n : Nat) = n' := Int.ediv_eq_of_eq_mul_right (by omega) hn'
  have eb : b / (Int.gcd b m : Nat) = b' := Int.ediv_eq_of_eq_mul_right (by omega) hb
  have em : m / (Int.gcd b m : Nat) = m' := Int.ediv_eq_of_eq_mul_right (by omega) hm'
  rw [ea, en] at c1
  rw [eb, em] at c2
  unfold lowD
  rw [ea, en, eb, em]
  generalize ((Int.gcd a n : Nat) : Int) = g at *
  generalize ((Int.gcd b m : Nat) : Int) = q at *
  have e2 : a' * m' = b' * n' := by
    have p : 0 < g * q := Int.mul_pos g1 g2
    have : (g * q) * (a' * m') = (g * q) * (b' * n') := by
      have e1 : (g * q) * (a' * m') = (g * a') * (q * m') := by grind
      have e2 : (g * q) * (b' * n') = (q * b') * (g * n') := by grind
      rw [e1, e2, ← ha, ← hm', ← hb, ← hn']
      exact e
    exact Int.eq_of_mul_eq_mul_left (by omega) this
  have n0 : 0 < n' := Int.pos_of_mul_pos_right (by rw [← hn']; exact hn) (by omega)
  have m0 : 0 < m' := Int.pos_of_mul_pos_right (by rw [← hm']; exact hm) (by omega)
  have dv : ∀ x y u z : Int, Int.gcd x y = 1 → x * u = z * y → y ∣ u := fun x y u z c e => by
    have c' : Nat.Coprime y.natAbs x.natAbs := by
      rw [Nat.coprime_comm]
      exact c
    have : y.natAbs ∣ x.natAbs * u.natAbs := ⟨z.natAbs, by rw [← Int.natAbs_mul, e, Int.natAbs_mul, Nat.mul_comm]⟩
    exact Int.natAbs_dvd_natAbs.mp (c'.dvd_of_dvd_mul_left this)
  have d1 : n' ∣ m' := dv a' n' m' b' c1 e2
  have d2 : m' ∣ n' := dv b' m' n' a' c2 e2.symm
  have e3 : n' = m' := Int.le_antisymm (Int.le_of_dvd m0 d1) (Int.le_of_dvd n0 d2)
  subst e3
  have e4 : a' = b' := Int.eq_of_mul_eq_mul_right (by omega) e2
  rw [e4]
end MP


set_option Elab.async false
set_option linter.all false
set_option maxRecDepth 100000
set_option maxHeartbeats 4000000
set_option exponentiation.threshold 5000
namespace MP
/-! ### sums of chances -/
/-- the k-th of the chances, nought beyond -/
def ch (t b : Int) (n k : Nat) : Int := ((chL t b n)[k]?).getD 0
theorem ch_beyond (t b : Int) {n k : Nat} (h : n < k) : ch t b n k = 0 := by
  unfold ch
  rw [List.getElem?_eq_none (by rw [chL_len]; omega)]
  rfl
theorem ch_zero (t b : Int) (n : Nat) : ch t b (n + 1) 0 = ch t b n 0 * (b - t) := by
  have l := chL_len t b n
  have : (chL t b n ++ [0])[0]? = (chL t b n)[0]? := List.getElem?_append_left (by omega)
  obtain ⟨c, hc⟩ : ∃ c, (chL t b n)[0]? = some c := ⟨(chL t b n)[0], by simp⟩
  unfold ch
  simp only [chL, List.getElem?_zipWith, this, hc, List.getElem?_cons_zero]
  simp
theorem ch_succ (t b : Int) (n k : Nat) : ch t b (n + 1) (k + 1) = ch t b n (k + 1) * (b - t) + ch t b n k * t := by
  have l := chL_len t b n
  by_cases h1 : k + 1 ≤ n
  · have e1 : (chL t b n ++ [0])[k + 1]? = (chL t b n)[k + 1]? := List.getElem?_append_left (by omega)
    obtain ⟨c, hc⟩ : ∃ c, (chL t b n)[k + 1]? = some c := ⟨(chL t b n)[k + 1], by simp⟩
    obtain ⟨d, hd⟩ : ∃ c, (chL t b n)[k]? = some c := ⟨(chL t b n)[k], by simp⟩
    unfold ch
    simp only [chL, List.getElem?_zipWith, e1, hc, hd, List.getElem?_cons_succ]
    simp
  · by_cases h2 : k = n
    · subst h2
      have e1 : (chL t b k ++ [0])[k + 1]? = some 0 := by rw [List.getElem?_append_right (by omega), l]; simp
      obtain ⟨d, hd⟩ : ∃ c, (chL t b k)[k]? = some c := ⟨(chL t b k)[k], by simp⟩
      rw [ch_beyond t b (show k < k + 1 by omega)]
      unfold ch
      simp only [chL, List.getElem?_zipWith, e1, hd, List.getElem?_cons_succ]
      simp
    · rw [ch_beyond t b (show n + 1 < k + 1 by omega), ch_beyond t b (show n < k + 1 by omega), ch_beyond t b (show n < k by omega)]
      simp
/-- the other way about -/
theorem ch_flip (t b : Int) : ∀ n k, k ≤ n → ch t b n k = ch (b - t) b n (n - k)
  | 0, k, h => by
    obtain rfl : k = 0 := by omega
    rfl
  | n + 1, 0, _ => by
    rw [ch_zero, Nat.sub_zero, ch_succ, ch_beyond _ _ (show n < n + 1 by omega), ch_flip t b n 0 (by omega), Nat.sub_zero]
    simp
  | n + 1, k + 1, h => by
    rw [ch_succ, Nat.add_sub_add_right]
    by_cases h1 : k = n
    · subst h1
      rw [ch_beyond t b (show k < k + 1 by omega), Nat.sub_self, ch_zero, ch_flip t b k k (by omega), Nat.sub_self, show b - (b - t) = t by omega]
      simp
    · obtain ⟨m, hm⟩ : ∃ m, n - k = m + 1 := ⟨n - k - 1, by omega⟩
      rw [hm, ch_succ, ch_flip t b n (k + 1) (by omega), ch_flip t b n k (by omega), show n - (k + 1) = m by omega, hm, show b - (b - t) = t by omega]
      omega
/-- the sum from i on over m of them -/
def cs (t b : Int) (n i : Nat) : Nat → Int
  | 0 => 0
  | m + 1 => cs t b n i m + ch t b n (i + m)
theorem bandSum_cs (t b : Int) (n i : Nat) : ∀ m, i + m ≤ n + 1 → bandSum t b n i (i + m) = cs t b n i m
  | 0, _ => by simp [bandSum, cs]
  | m + 1, h => by
    have l := chL_len t b n
    have ih := bandSum_cs t b n i m (by omega)
    obtain ⟨c, hc⟩ : ∃ c, (chL t b n)[i + m]? = some c := ⟨(chL t b n)[i + m]'(by omega), by simp⟩
    unfold bandSum at ih ⊢
    rw [show i + (m + 1) - i = m + 1 by omega, take_sum _ m c (by rw [List.getElem?_drop]; exact hc)]
    rw [show i + m - i = m by omega] at ih
    rw [ih, cs, ch, hc]
    rfl
theorem cs_left (t b : Int) (n i : Nat) : ∀ m, cs t b n i (m + 1) = ch t b n i + cs t b n (i + 1) m
  | 0 => by simp [cs]
  | m + 1 => by
    rw [cs, cs_left t b n i m, cs, show i + (m + 1) = i + 1 + m by omega]
    omega
theorem cs_flip (t b : Int) (n : Nat) : ∀ m i, i + m ≤ n + 1 → cs t b n i m = cs (b - t) b n (n + 1 - (i + m)) m
  | 0, i, h => rfl
  | m + 1, i, h => by
    rw [cs_left, cs, ch_flip t b n i (by omega), cs_flip t b n m (i + 1) (by omega), show n + 1 - (i + 1 + m) = n + 1 - (i + (m + 1)) by omega, show n + 1 - (i + (m + 1)) + m = n - i by omega]
    omega
theorem cs_more (t b : Int) (n i : Nat) : ∀ m, cs t b (n + 1) (i + 1) m = cs t b n (i + 1) m * (b - t) + cs t b n i m * t
  | 0 => by simp [cs]
  | m + 1 => by
    rw [cs, cs_more t b n i m, cs, cs, show i + 1 + m = (i + m) + 1 by omega, ch_succ]
    grind
theorem cs_all (t b : Int) : ∀ n, cs t b n 0 (n + 1) = b ^ n
  | 0 => by simp [cs, ch, chL]
  | n + 1 => by
    have ih := cs_all t b n
    rw [cs_left, cs_more, ch_zero, ih, Int.pow_succ]
    have e : cs t b n (0 + 1) (n + 1) = cs t b n 1 n := by
      rw [cs, ch_beyond t b (by omega)]
      simp
    have e2 := cs_left t b n 0 n
    rw [ih] at e2
    rw [e]
    simp only [Nat.zero_add] at e2
    have : ch t b n 0 = b ^ n - cs t b n 1 n := by omega
    rw [this]
    grind
theorem ch_first (t b : Int) : ∀ n, ch t b n 0 = (b - t) ^ n
  | 0 => by simp [ch, chL]
  | n + 1 => by rw [ch_zero, ch_first t b n, Int.pow_succ]
theorem ch_last (t b : Int) (n : Nat) : ch t b n n = t ^ n := by
  rw [ch_flip t b n n (Nat.le_refl _), Nat.sub_self, ch_first, show b - (b - t) = t by omega]
theorem cs_split (t b : Int) (n i : Nat) : ∀ m k, cs t b n i (m + k) = cs t b n i m + cs t b n (i + m) k
  | m, 0 => by simp [cs]
  | m, k + 1 => by
    rw [← Nat.add_assoc, cs, cs_split t b n i m k, cs, show i + (m + k) = i + m + k by omega]
    omega
theorem sub_low (a n : Int) (h : Hh) : subD (lowD a n) (.int 0) h = some (.int (a / (Int.gcd a n : Nat))) ∧ subD (lowD a n) (.int 1) h = some (.int (n / (Int.gcd a n : Nat))) := by
  constructor <;> simp [lowD]
theorem low_parts (a n : Int) (hn : 0 < n) : ∃ g a' n' : Int, 0 < g ∧ a = g * a' ∧ n = g * n' ∧ a / (Int.gcd a n : Nat) = a' ∧ n / (Int.gcd a n : Nat) = n' ∧ 0 < n' := by
  obtain ⟨g1, _⟩ := gcd_le a n hn
  obtain ⟨a', ha⟩ : ((Int.gcd a n : Nat) : Int) ∣ a := Int.gcd_dvd_left ..
  obtain ⟨n', hn'⟩ : ((Int.gcd a n : Nat) : Int) ∣ n := Int.gcd_dvd_right ..
  exact ⟨_, a', n', g1, ha, hn', Int.ediv_eq_of_eq_mul_right (by omega) ha, Int.ediv_eq_of_eq_mul_right (by omega) hn', Int.pos_of_mul_pos_right (by rw [← hn']; exact hn) (by omega)⟩
theorem full_ok63 (k n : Nat) (m f : Int) (h : Hh) (hp : Pot n h) (m1 : 0 < m) (m2 : m ≤ 40) (f1 : 0 < f) (f2 : f ≤ 30) : ∃ l h', callK P (k + 3) F_l_full [.ref n, .int m, .int f] h = .ok (.v (bk l)) h' ∧ Pot n h' ∧ Full l := by
  obtain ⟨l, h', e, p, g, l1, l2⟩ := plain_ok k n m f h hp m1 m2 f1 f2
  refine ⟨l.map fun x => (x.1, x.2.1, if x.2.2 > 1 then x.2.2 else 1), h', ?_, p, ⟨⟨fun x hx => ?_, fun x hx => ?_⟩, fun x hx => ?_, by simpa using l1, by simp; omega⟩⟩
  · rw [call_run (d := d_l_full) rfl rfl]
    simp [runDef, d_l_full, e, bk]
    rw [comp_bk (fun x => sp (x.1, x.2.1, if x.2.2 > 1 then x.2.2 else 1)) l fun x hx => ⟨_, rfl, by simp [sp]⟩]
    simp
  · obtain ⟨y, hy, rfl⟩ := List.mem_map.mp hx
    obtain ⟨o1, o2, o3, o4, o5⟩ := g.1 y hy
    refine ⟨o1, o2, o3, ?_, ?_⟩ <;> dsimp only <;> split <;> omega
  · obtain ⟨y, hy, rfl⟩ := List.mem_map.mp hx
    exact g.2 y hy
  · obtain ⟨y, hy, rfl⟩ := List.mem_map.mp hx
    dsimp only
    split <;> omega
theorem lt900 {x : Int} (h : x ≤ 2 ^ 20) : x < 2 ^ 900 := Int.lt_of_le_of_lt h (by exact_mod_cast Nat.pow_lt_pow_right (a := 2) (by decide) (by decide))
theorem ch_nonneg (t b : Int) (h0 : 0 ≤ t) (h1 : t ≤ b) (n k : Nat) : 0 ≤ ch t b n k := by
  unfold ch
  cases e : (chL t b n)[k]? with
  | none => exact Int.le_refl 0
  | some c => exact (chL_bd t b h0 h1 n c (List.mem_of_getElem? e)).1
theorem cs_nonneg (t b : Int) (h0 : 0 ≤ t) (h1 : t ≤ b) (n i : Nat) : ∀ m, 0 ≤ cs t b n i m
  | 0 => Int.le_refl 0
  | m + 1 => by
    have := cs_nonneg t b h0 h1 n i m
    have := ch_nonneg t b h0 h1 n (i + m)
    rw [cs]
    omega
theorem band_le (t b : Int) (h0 : 0 ≤ t) (h1 : t ≤ b) (n i j : Nat) (hij : i ≤ j) (hj : j ≤ n + 1) : bandSum t b n i j ≤ b ^ n := by
  have e := bandSum_cs t b n i (j - i) (by omega)
  rw [show i + (j - i) = j by omega] at e
  have e1 := cs_all t b n
  have e2 := cs_split t b n 0 i (n + 1 - i)
  rw [show i + (n + 1 - i) = n + 1 by omega, Nat.zero_add] at e2
  have e3 := cs_split t b n i (j - i) (n + 1 - j)
  rw [show j - i + (n + 1 - j) = n + 1 - i by omega] at e3
  have n1 := cs_nonneg t b h0 h1 n 0 i
  have n2 := cs_nonneg t b h0 h1 n (i + (j - i)) (n + 1 - j)
  omega
/-- a share in lowest terms -/
theorem low_share {a n : Int} (a0 : 0 ≤ a) (an : a ≤ n) (n0 : 0 < n) (nb : n < 2 ^ 1000) : ∃ w v, lowD a n = fr w v ∧ Share w v := by
  obtain ⟨g, w, v, g0, gw, gv, ew, ev, v0⟩ := low_parts a n n0
  have c := Int.gcd_ediv_gcd_ediv_gcd_of_ne_zero_right (n := a) (m := n) (by omega)
  rw [ew, ev] at c
  have wv : w ≤ v := by
    have : g * w ≤ g * v := by rw [← gw, ← gv]; exact an
    exact Int.le_of_mul_le_mul_left this g0
  refine ⟨w, v, by unfold lowD fr; rw [ew, ev], Int.nonneg_of_mul_nonneg_right (by rw [← gw]; exact a0) g0, wv, v0, ?_, c⟩
  have : 1 * v ≤ g * v := Int.mul_le_mul_of_nonneg_right (by omega) (by omega)
  omega
end MP


set_option Elab.async false
set_option linter.all false
set_option maxRecDepth 100000
set_option maxHeartbeats 4000000
set_option exponentiation.threshold 5000
namespace MP
/-! ### what is shown, once more -/
theorem repr_some {d : D} {w : Nat} (h : shw 60 d = some w) (hw : w ≤ 8000) : ∃ s, reprD d = some (.str s) := by
  unfold reprD
  rw [h]
  exact ⟨_, if_pos hw⟩
theorem shws_bk' (l : Book) (n : Nat) (h : ∀ x ∈ l, x.1.natAbs < 1048576 ∧ x.2.1.natAbs < 1048576 ∧ x.2.2.natAbs < 1048576) : shws (n + 1) (l.map sp) = some (67 * l.length) := by
  induction l with
  | nil => rfl
  | cons x l ih =>
    obtain ⟨h1, h2, h3⟩ := h x (by simp)
    rw [List.map_cons, shws, ih (fun y hy => h y (by simp [hy]))]
    have : shw (n + 1) (sp x) = some 66 := by simp [sp, shw, shws, intW, h1, h2, h3]
    rw [this, List.length_cons]
    simp
    omega
def tiny (l : Book) : Prop := ∀ x ∈ l, x.1.natAbs < 1048576 ∧ x.2.1.natAbs < 1048576 ∧ x.2.2.natAbs < 1048576
theorem shw_bk (l : Book) (n : Nat) (h : tiny l) : shw (n + 2) (bk l) = some (67 * l.length) := shws_bk' l n h
theorem tiny_good {l : Book} (g : Good l) : tiny l ∧ tiny (l.map soon) ∧ tiny (l.map late) := by
  refine ⟨fun x hx => ?_, fun x hx => ?_, fun x hx => ?_⟩
  · obtain ⟨o1, o2, o3, o4, o5⟩ := g.1 x hx
    omega
  · obtain ⟨y, hy, rfl⟩ := List.mem_map.mp hx
    obtain ⟨o1, o2, o3, o4, o5⟩ := g.1 y hy
    unfold soon
    split
    · omega
    · dsimp only; omega
  · obtain ⟨y, hy, rfl⟩ := List.mem_map.mp hx
    obtain ⟨o1, o2, o3, o4, o5⟩ := g.1 y hy
    unfold late
    split
    · omega
    · dsimp only; omega
theorem untils_soon {l : Book} (g : Good l) : ∀ u ∈ untils (l.map soon), 0 < u ∧ u ≤ 2000 := by
  intro u hu
  simp only [untils, List.map_map, List.mem_map] at hu
  obtain ⟨y, hy, rfl⟩ := hu
  obtain ⟨o1, o2, o3, o4, o5⟩ := g.1 y hy
  simp only [Function.comp, soon]
  split
  · omega
  · dsimp only; omega
theorem untils_late {l : Book} (g : Good l) : ∀ u ∈ untils (l.map late), 0 < u ∧ u ≤ 2000 := by
  intro u hu
  simp only [untils, List.map_map, List.mem_map] at hu
  obtain ⟨y, hy, rfl⟩ := hu
  obtain ⟨o1, o2, o3, o4, o5⟩ := g.1 y hy
  simp only [Function.comp, late]
  split
  · omega
  · dsimp only; omega
/-! ### may and must -/
def wMay : List Nat := [109, 97, 121]
def wNever : List Nat := [110, 101, 118, 101, 114]
def wMust : List Nat := [109, 117, 115, 116]
def wNot : List Nat := [110, 111, 116]
def mayT (A B : Book) : Option Int := times.find? (lessAt (A.map late) (B.map soon))
def mustT (A B : Book) : Option Int := times.find? (lessAt (A.map soon) (B.map late))
def mayD (A B : Book) : D := match mayT A B with
  | none => .tup [.str wMay, bk (A.map late), bk (B.map soon)]
  | some t => .tup [.str wNever, .int t]
def mustD (A B : Book) : D := match mustT A B with
  | none => .tup [.str wMust]
  | some t => .tup [.str wNot, bk (A.map soon), bk (B.map late), .int t]
structure Sized (A : Book) : Prop where
  g : Good A
  l1 : 1 ≤ A.length
  l2 : A.length ≤ 25
@[simp] theorem is_non (d : D) (h : Hh) : cmpop .is d .non h = some d.isNon := rfl
/-- a comprehension over a book that draws from the pot -/
theorem comp_pot {p : Nat} {bd : D → Hh → Option Env} {ck : Env → Hh → Res Bool} {el : Env → Hh → Res D} {Q : Int × Int × Int → Prop} : ∀ (l : Book) (h : Hh), Pot p h → (∀ x ∈ l, ∀ h, Pot p h → ∃ r y h', bd (sp x) h = some r ∧ ck r h = .ok true h ∧ el r h = .ok (sp y) h' ∧ Q y ∧ Pot p h') →
    ∃ (ys : Book) (h' : Hh), compGo bd ck el (l.map sp) h = .ok (ys.map sp) h' ∧ Pot p h' ∧ ys.length = l.length ∧ ∀ y ∈ ys, Q y
  | [], h, hp, _ => ⟨[], h, rfl, hp, rfl, by simp⟩
  | x :: l, h, hp, st => by
    obtain ⟨r, y, h1, e1, e2, e3, q, p1⟩ := st x (by simp) h hp
    obtain ⟨ys, h2, e4, p2, hl, hq⟩ := comp_pot l h1 p1 fun z hz => st z (by simp [hz])
    refine ⟨y :: ys, h2, ?_, p2, by simp [hl], fun z hz => ?_⟩
    · rw [List.map_cons, compGo, e1]
      simp only [e2, e3, e4, Res.bind_ok, if_true, List.map_cons]
    · rcases List.mem_cons.mp hz with rfl | hz
      · exact q
      · exact hq z hz
end MP


set_option Elab.async false
set_option linter.all false
set_option maxRecDepth 100000
set_option maxHeartbeats 4000000
set_option exponentiation.threshold 5000
namespace MP
/-! ### truths -/
abbrev Spn := Int × Int × Int
inductive Fa (R : Spn → Spn → Prop) : Book → Book → Prop where
  | nil : Fa R [] []
  | cons {x y : Spn} {A B : Book} (h : R x y) (t : Fa R A B) : Fa R (x :: A) (y :: B)
theorem Fa.len {R : Spn → Spn → Prop} : ∀ {A B : Book}, Fa R A B → B.length = A.length
  | _, _, .nil => rfl
  | _, _, .cons _ t => by rw [List.length_cons, List.length_cons, t.len]
theorem Fa.imp {R S : Spn → Spn → Prop} (h : ∀ x y, R x y → S x y) : ∀ {A B : Book}, Fa R A B → Fa S A B
  | _, _, .nil => .nil
  | _, _, .cons a t => .cons (h _ _ a) (t.imp h)
theorem Fa.snoc {R : Spn → Spn → Prop} {x y : Spn} (h : R x y) : ∀ {A B : Book}, Fa R A B → Fa R (A ++ [x]) (B ++ [y])
  | _, _, .nil => .cons h .nil
  | _, _, .cons a t => .cons a (t.snoc h)
theorem Fa.ofMap {R : Spn → Spn → Prop} {f : Spn → Spn} : ∀ {A : Book}, (∀ x ∈ A, R x (f x)) → Fa R A (A.map f)
  | [], _ => .nil
  | x :: A, h => .cons (h x (by simp)) (Fa.ofMap fun y hy => h y (by simp [hy]))
theorem Fa.mapL {R S : Spn → Spn → Prop} {f : Spn → Spn} (h : ∀ x y, R x y → S (f x) y) : ∀ {A B : Book}, Fa R A B → Fa S (A.map f) B
  | _, _, .nil => .nil
  | _, _, .cons a t => .cons (h _ _ a) (t.mapL h)
theorem Fa.mapR {R S : Spn → Spn → Prop} {f : Spn → Spn} (h : ∀ x y, R x y → S x (f y)) : ∀ {A B : Book}, Fa R A B → Fa S A (B.map f)
  | _, _, .nil => .nil
  | _, _, .cons a t => .cons (h _ _ a) (t.mapR h)
theorem Fa.memR {R : Spn → Spn → Prop} : ∀ {A B : Book}, Fa R A B → ∀ y ∈ B, ∃ x ∈ A, R x y
  | _, _, .nil, y, hy => by cases hy
  | _, _, .cons (x := x) a t, y, hy => by
    rcases List.mem_cons.mp hy with rfl | hy
    · exact ⟨x, by simp, a⟩
    · obtain ⟨z, hz, r⟩ := t.memR y hy
      exact ⟨z, by simp [hz], r⟩
theorem Fa.and {R S : Spn → Spn → Prop} : ∀ {A B : Book}, Fa R A B → (∀ x ∈ A, ∀ y, R x y → S x y) → Fa S A B
  | _, _, .nil, _ => .nil
  | _, _, .cons a t, h => .cons (h _ (by simp) _ a) (t.and fun x hx => h x (by simp [hx]))
/-- a span's truth -/
def TruthOf (x y : Spn) : Prop := (0 < x.2.2 ∧ y = x) ∨ (¬ 0 < x.2.2 ∧ y.1 = 0 ∧ x.2.1 < y.2.1 ∧ y.2.1 ≤ 2000 ∧ 0 < y.2.2 ∧ y.2.2 ≤ 4)
def Ule (x y : Spn) : Prop := x.2.1 ≤ y.2.1
theorem cnt_cons (t : Int) (x : Spn) (A : Book) : cnt t (x :: A) = cnt t A + (if t < x.2.1 then 1 else 0) := by
  unfold cnt
  by_cases c : t < x.2.1
  · simp [above, c]
  · simp [above, c]
theorem cnt_mono (t : Int) : ∀ {A B : Book}, Fa Ule A B → cnt t A ≤ cnt t B
  | _, _, .nil => Nat.le_refl _
  | _, _, .cons (x := x) (y := y) h r => by
    have ih := cnt_mono t r
    rw [cnt_cons, cnt_cons]
    have h : x.2.1 ≤ y.2.1 := h
    by_cases c : t < x.2.1
    · rw [if_pos c, if_pos (by omega)]
      omega
    · rw [if_neg c]
      omega
theorem truth_soon {A : Book} (g : Good A) : Fa TruthOf A (A.map soon) := Fa.ofMap fun x hx => by
  obtain ⟨o1, o2, o3, o4, o5⟩ := g.1 x hx
  by_cases c : 0 < x.2.2
  · exact .inl ⟨c, by simp [soon, c]⟩
  · exact .inr ⟨c, by simp [soon, c]; omega⟩
theorem truth_late {A : Book} (g : Good A) : Fa TruthOf A (A.map late) := Fa.ofMap fun x hx => by
  obtain ⟨o1, o2, o3, o4, o5⟩ := g.1 x hx
  by_cases c : 0 < x.2.2
  · exact .inl ⟨c, by simp [late, c]⟩
  · exact .inr ⟨c, by simp [late, c]; omega⟩
theorem soon_le {A T : Book} (h : Fa TruthOf A T) : Fa Ule (A.map soon) T := h.mapL fun x y h => by
  rcases h with ⟨c, rfl⟩ | ⟨c, h1, h2, h3, h4, h5⟩
  · simp [Ule, soon, c]
  · simp [Ule, soon, c]; omega
theorem le_late {A T : Book} (h : Fa TruthOf A T) : ∀ t, cnt t T ≤ cnt t (A.map late) := fun t => by
  induction h with
  | nil => exact Nat.le_refl _
  | cons h r ih =>
    rw [List.map_cons, cnt_cons, cnt_cons]
    rename_i x y A B
    have hu : y.2.1 ≤ (late x).2.1 := by
      rcases h with ⟨c, rfl⟩ | ⟨c, h1, h2, h3, h4, h5⟩
      · simp [late, c]
      · simp [late, c]; omega
    by_cases c : t < y.2.1
    · rw [if_pos c, if_pos (by omega)]
      omega
    · rw [if_neg c]
      omega
theorem truth_untils {A T : Book} (g : Good A) (h : Fa TruthOf A T) : ∀ u ∈ untils T, 0 < u ∧ u ≤ 2000 := by
  intro u hu
  obtain ⟨y, hy, rfl⟩ := List.mem_map.mp hu
  obtain ⟨x, hx, r⟩ := h.memR y hy
  obtain ⟨o1, o2, o3, o4, o5⟩ := g.1 x hx
  rcases r with ⟨c, rfl⟩ | ⟨c, h1, h2, h3, h4, h5⟩ <;> omega
theorem truth_ok {A T : Book} (g : Good A) (h : Fa TruthOf A T) : ∀ y ∈ T, okSp 2000 y := by
  intro y hy
  obtain ⟨x, hx, r⟩ := h.memR y hy
  obtain ⟨o1, o2, o3, o4, o5⟩ := g.1 x hx
  unfold okSp
  rcases r with ⟨c, rfl⟩ | ⟨c, h1, h2, h3, h4, h5⟩ <;> omega
/-- the first outlasts the second -/
def Out (A B : Book) : Prop := times.find? (lessAt A B) = none
theorem out_iff {A B : Book} : Out A B ↔ ∀ t ∈ times, (cnt t B : Int) * (A.length : Nat) ≤ (cnt t A : Int) * (B.length : Nat) := by
  unfold Out
  rw [List.find?_eq_none]
  constructor
  · intro h t ht
    have := h t ht
    simp only [lessAt, decide_eq_true_eq] at this
    omega
  · intro h t ht
    have := h t ht
    simp only [lessAt, decide_eq_true_eq]
    omega
theorem Out.mono {A B A' B' : Book} (h : Out A B) (la : A'.length = A.length) (lb : B'.length = B.length) (ha : ∀ t, cnt t A ≤ cnt t A') (hb : ∀ t, cnt t B' ≤ cnt t B) : Out A' B' := by
  rw [out_iff] at h ⊢
  intro t ht
  have h := h t ht
  rw [la, lb]
  have h1 : (cnt t B' : Int) * (A.length : Nat) ≤ (cnt t B : Int) * (A.length : Nat) := Int.mul_le_mul_of_nonneg_right (by have := hb t; omega) (by omega)
  have h2 : (cnt t A : Int) * (B.length : Nat) ≤ (cnt t A' : Int) * (B.length : Nat) := Int.mul_le_mul_of_nonneg_right (by have := ha t; omega) (by omega)
  omega
theorem Out.trans {A B C : Book} (h1 : Out A B) (h2 : Out B C) (lb : 1 ≤ B.length) : Out A C := by
  rw [out_iff] at h1 h2 ⊢
  intro t ht
  have h1 := h1 t ht
  have h2 := h2 t ht
  generalize (cnt t A : Int) = a at *
  generalize (cnt t B : Int) = b at *
  generalize (cnt t C : Int) = c at *
  have ha : (0 : Int) ≤ (A.length : Nat) := by omega
  have hc : (0 : Int) ≤ (C.length : Nat) := by omega
  have hb : (0 : Int) < (B.length : Nat) := by omega
  generalize ((A.length : Nat) : Int) = n at *
  generalize ((B.length : Nat) : Int) = m at *
  generalize ((C.length : Nat) : Int) = k at *
  have e1 := Int.mul_le_mul_of_nonneg_right h1 hc
  have e2 := Int.mul_le_mul_of_nonneg_right h2 ha
  have e3 : m * (c * n) ≤ m * (a * k) := by
    have : b * n * k = b * k * n := by grind
    have : a * m * k = m * (a * k) := by grind
    have : c * m * n = m * (c * n) := by grind
    omega
  exact Int.le_of_mul_le_mul_left e3 hb
theorem may_out (A B : Book) : mayT A B = none ↔ Out (A.map late) (B.map soon) := Iff.rfl
theorem must_out (A B : Book) : mustT A B = none ↔ Out (A.map soon) (B.map late) := Iff.rfl
/-! ### the program's looks -/
theorem c_is_lasting (k : Nat) (x : Spn) (m : Int) (h : Hh) (o : okSp m x) : callK P (k + 3) F_p_is_lasting [sp x, .int m] h = .ok (.v (.bl true)) h := by
  obtain ⟨b, u, e⟩ := x
  obtain ⟨o1, o2, o3, o4, o5⟩ := o
  simp only at o1 o2 o3 o4 o5
  have a1 : b ≤ m := by omega
  have a2 : b + 1 ≤ u := by omega
  rw [call_run (d := d_p_is_lasting) rfl rfl]
  simp [runDef, d_p_is_lasting, sp, o1, o3, o4, o5, a1, a2]
theorem cmp_sp (x y : Spn) (h : Hh) : cmpop .eq (sp x) (sp y) h = some (decide (x = y)) := by
  obtain ⟨a, b, c⟩ := x
  obtain ⟨d, e, f⟩ := y
  simp only [cmpop, sp, D.isStr, deref, D.plain, D.plains, D.eqv, D.eqvs, Prod.mk.injEq]
  by_cases h1 : a = d <;> by_cases h2 : b = e <;> by_cases h3 : c = f <;> simp [h1, h2, h3]
theorem comp_zip2 {bd : D → Hh → Option Env} {ck : Env → Hh → Res Bool} {el : Env → Hh → Res D} {h : Hh} {R : Spn → Spn → Prop} (g : D) : ∀ {A B : Book}, Fa R A B → (∀ x ∈ A, ∀ y ∈ B, R x y → ∃ r, bd (.tup [sp x, sp y]) h = some r ∧ ck r h = .ok true h ∧ el r h = .ok g h) →
    compGo bd ck el (List.zipWith (fun x y => .tup [sp x, sp y]) A B) h = .ok (A.map fun _ => g) h
  | _, _, .nil, _ => rfl
  | _, _, .cons (x := x) (y := y) a t, H => by
    obtain ⟨r, e1, e2, e3⟩ := H x (by simp) y (by simp) a
    have ih := comp_zip2 (bd := bd) (ck := ck) (el := el) (h := h) g t fun x hx y hy => H x (by simp [hx]) y (by simp [hy])
    simp only [List.map_cons, List.zipWith_cons_cons]
    rw [compGo, e1]
    simp only [e2, e3, ih, Res.bind_ok, if_true]
@[simp] theorem isnot_non (d : D) (h : Hh) : cmpop .isNot d .non h = some (!d.isNon) := rfl
end MP


set_option Elab.async false
set_option linter.all false
set_option maxRecDepth 100000
set_option maxHeartbeats 4000000
set_option exponentiation.threshold 5000
namespace MP
end MP


set_option Elab.async false
set_option linter.all false
set_option maxRecDepth 100000
set_option maxHeartbeats 4000000
namespace MP
/-! ### what may be shown, by either way -/
def shB : Bool → Nat → D → Option Nat
  | false => shw
  | true => shwD
def shBs : Bool → Nat → List D → Option Nat
  | false => shws
  | true => shwDs
theorem shB_tup (b : Bool) (n : Nat) (ys : List D) : shB b (n + 1) (.tup ys) = shBs b n ys := by cases b <;> rfl
theorem shBs_nil (b : Bool) (n : Nat) : shBs b n [] = some 0 := by cases b <;> cases n <;> rfl
theorem shBs_cons (b : Bool) (n : Nat) (x : D) (xs : List D) : shBs b n (x :: xs) = match shB b n x, shBs b n xs with
    | some a, some c => some (a + 1 + c)
    | _, _ => none := by cases b <;> cases n <;> rfl
/-- at every depth from k on it weighs no more than w -/
def Wg (b : Bool) (k w : Nat) (d : D) : Prop := ∀ n, k ≤ n → ∃ v, shB b n d = some v ∧ v ≤ w
def Wl (b : Bool) (k w : Nat) (l : List D) : Prop := ∀ n, k ≤ n → ∃ v, shBs b n l = some v ∧ v ≤ w
theorem Wg.mono {b : Bool} {k j w v : Nat} {d : D} (h : Wg b k w d) (hk : k ≤ j) (hw : w ≤ v) : Wg b j v d := fun n hn => by
  obtain ⟨u, e, l⟩ := h n (by omega)
  exact ⟨u, e, by omega⟩
theorem Wl.mono {b : Bool} {k j w v : Nat} {d : List D} (h : Wl b k w d) (hk : k ≤ j) (hw : w ≤ v) : Wl b j v d := fun n hn => by
  obtain ⟨u, e, l⟩ := h n (by omega)
  exact ⟨u, e, by omega⟩
theorem Wl.nil {b : Bool} {k : Nat} : Wl b k 0 [] := fun n _ => ⟨0, shBs_nil b n, Nat.le_refl _⟩
theorem Wl.cons {b : Bool} {k a c : Nat} {x : D} {xs : List D} (h : Wg b k a x) (r : Wl b k c xs) : Wl b k (a + 1 + c) (x :: xs) := fun n hn => by
  obtain ⟨u, e, l⟩ := h n hn
  obtain ⟨v, e2, l2⟩ := r n hn
  exact ⟨u + 1 + v, by rw [shBs_cons, e, e2], by omega⟩
theorem Wl.app {b : Bool} {k a c : Nat} : ∀ {xs ys : List D}, Wl b k a xs → Wl b k c ys → Wl b k (a + c) (xs ++ ys) := by
  intro xs ys h r n hn
  obtain ⟨u, e, l⟩ := h n hn
  obtain ⟨v, e2, l2⟩ := r n hn
  have key : ∀ (xs : List D) (u : Nat), shBs b n xs = some u → shBs b n (xs ++ ys) = some (u + v) := by
    intro xs
    induction xs with
    | nil =>
      intro u h
      rw [shBs_nil] at h
      cases h
      simpa using e2
    | cons x xs ih =>
      intro u h
      rw [shBs_cons] at h
      rw [List.cons_append, shBs_cons]
      split at h
      · rename_i a c e1 e3
        cases h
        rw [e1, ih c e3]
        simp only [Option.some.injEq]
        omega
      · cases h
  exact ⟨u + v, key xs u e, by omega⟩
theorem Wl.all {b : Bool} {k m : Nat} : ∀ {xs : List D}, (∀ x ∈ xs, Wg b k m x) → Wl b k ((m + 1) * xs.length) xs
  | [], _ => Wl.nil.mono (Nat.le_refl _) (Nat.zero_le _)
  | x :: xs, h => (Wl.cons (h x (by simp)) (Wl.all fun y hy => h y (by simp [hy]))).mono (Nat.le_refl _) (by
      rw [List.length_cons, Nat.mul_add, Nat.mul_one]
      omega)
theorem Wl.some {b : Bool} {k m L : Nat} {xs : List D} (h : ∀ x ∈ xs, Wg b k m x) (hl : xs.length ≤ L) : Wl b k ((m + 1) * L) xs := (Wl.all h).mono (Nat.le_refl _) (Nat.mul_le_mul_left _ hl)
theorem Wl.tup {b : Bool} {k w : Nat} {xs : List D} (h : Wl b k w xs) : Wg b (k + 1) w (.tup xs) := fun n hn => by
  obtain ⟨m, rfl⟩ : ∃ m, n = m + 1 := ⟨n - 1, by omega⟩
  obtain ⟨u, e, l⟩ := h m (by omega)
  exact ⟨u, by rw [shB_tup, e], l⟩
theorem shB_lst (b : Bool) (n : Nat) (ys : List D) : shB b (n + 1) (.lst ys) = shBs b n ys := by cases b <;> rfl
theorem Wl.lst {b : Bool} {k w : Nat} {xs : List D} (h : Wl b k w xs) : Wg b (k + 1) w (.lst xs) := fun n hn => by
  obtain ⟨m, rfl⟩ : ∃ m, n = m + 1 := ⟨n - 1, by omega⟩
  obtain ⟨u, e, l⟩ := h m (by omega)
  exact ⟨u, by rw [shB_lst, e], l⟩
theorem Wg.int {b : Bool} {i : Int} (h : i.natAbs < 1048576) : Wg b 0 21 (.int i) := fun n _ => ⟨21, by cases b <;> cases n <;> exact if_pos h, Nat.le_refl _⟩
theorem Wg.bl {b c : Bool} : Wg b 0 0 (.bl c) := fun n _ => ⟨0, by cases b <;> cases n <;> rfl, Nat.le_refl _⟩
theorem Wg.non {b : Bool} : Wg b 0 0 .non := fun n _ => ⟨0, by cases b <;> cases n <;> rfl, Nat.le_refl _⟩
mutual
theorem sh_up : ∀ (n : Nat) (d : D) (u : Nat), shw n d = some u → shwD n d = some u
  | n, .non, u, h => by cases n <;> simp_all [shw, shwD]
  | n, .bl _, u, h => by cases n <;> simp_all [shw, shwD]
  | n, .int _, u, h => by cases n <;> simp_all [shw, shwD]
  | n, .str _, u, h => by cases n <;> simp_all [shw, shwD]
  | 0, .tup _, u, h => by simp [shw] at h
  | n + 1, .tup ys, u, h => by
    simp only [shw] at h
    simp only [shwD]
    exact shs_up n ys u h
  | 0, .lst _, u, h => by simp [shw] at h
  | n + 1, .lst ys, u, h => by
    simp only [shw] at h
    simp only [shwD]
    exact shs_up n ys u h
  | n, .dct _, u, h => by cases n <;> simp [shw] at h
  | n, .ref _, u, h => by cases n <;> simp [shw] at h
  | n, .exc _, u, h => by cases n <;> simp [shw] at h
  | n, .scr _, u, h => by cases n <;> simp [shw] at h
theorem shs_up : ∀ (n : Nat) (ys : List D) (u : Nat), shws n ys = some u → shwDs n ys = some u
  | n, [], u, h => by cases n <;> simp_all [shws, shwDs]
  | n, x :: xs, u, h => by
    simp only [shws] at h
    simp only [shwDs]
    split at h
    · rename_i a c e1 e2
      cases h
      rw [sh_up n x a e1, shs_up n xs c e2]
    · cases h
end
theorem sh_same (n : Nat) (d : D) (u v : Nat) (h : shw n d = some u) (g : shwD n d = some v) : u = v := by
  rw [sh_up n d u h] at g
  cases g
  rfl
theorem Wg.up {b : Bool} {k w : Nat} {d : D} (h : Wg b k w d) : Wg true k w d := fun n hn => by
  obtain ⟨u, e, l⟩ := h n hn
  cases b with
  | true => exact ⟨u, e, l⟩
  | false => exact ⟨u, sh_up n d u e, l⟩
/-- it is shown -/
theorem Wg.repr {b : Bool} {w : Nat} {d : D} (h : Wg b 60 w d) (hw : w ≤ 8000) : ∃ z, reprD d = some (.str z) := by
  obtain ⟨u, e, l⟩ := h 60 (Nat.le_refl _)
  unfold reprD
  cases e1 : shw 60 d with
  | some v =>
    cases b with
    | false =>
      have : shw 60 d = some u := e
      rw [e1] at this
      cases this
      exact ⟨_, if_pos (by omega)⟩
    | true =>
      have e2 : shwD 60 d = some u := e
      have := sh_same 60 d v u e1 e2
      exact ⟨_, if_pos (by omega)⟩
  | none =>
    cases b with
    | false =>
      have : shw 60 d = some u := e
      rw [e1] at this
      cases this
    | true =>
      have : shwD 60 d = some u := e
      simp only [reprX, this]
      exact ⟨_, if_pos (by omega)⟩
/-! ### data -/
/-- shown somehow -/
def Shn (d : D) : Prop := ∃ b n w, shB b n d = some w
theorem Wg.shn {b : Bool} {k w : Nat} {d : D} (h : Wg b k w d) : Shn d := by
  obtain ⟨u, e, _⟩ := h k (Nat.le_refl _)
  exact ⟨b, k, u, e⟩
theorem Shn.items {ys : List D} (h : Shn (.tup ys)) : ∀ y ∈ ys, Shn y := by
  obtain ⟨b, n, w, e⟩ := h
  cases n with
  | zero => cases b <;> simp [shB, shw, shwD] at e
  | succ n =>
    rw [shB_tup] at e
    have key : ∀ (ys : List D) (w : Nat), shBs b n ys = some w → ∀ y ∈ ys, Shn y := by
      intro ys
      induction ys with
      | nil => simp
      | cons x xs ih =>
        intro w h y hy
        rw [shBs_cons] at h
        split at h
        · rename_i a c e1 e2
          rcases List.mem_cons.mp hy with rfl | hy
          · exact ⟨b, n, a, e1⟩
          · exact ih c e2 y hy
        · cases h
    exact key ys w e
theorem Shn.isi {d : D} (h : Shn d) (t : Ty) (hh : Hh) (ht : t = .int ∨ t = .bool ∨ t = .tuple) : ∃ c, isiD d t hh = some c := by
  obtain ⟨b, n, w, e⟩ := h
  cases d <;> rcases ht with rfl | rfl | rfl <;> first | exact ⟨_, rfl⟩ | (cases b <;> cases n <;> simp [shB, shw, shwD] at e)
/-! ### looks at anything -/
def isW : D → Bool
  | .int _ => true
  | _ => false
def ftB (d : D) (lo hi : Int) : Bool := match d with
  | .int i => decide (lo ≤ i) && decide (i ≤ hi)
  | _ => false
theorem Shn.no {d : D} (s : Shn d) : (∀ c, d ≠ .exc c) ∧ (∀ c, d ≠ .scr c) ∧ ∀ c, d ≠ .ref c := by
  obtain ⟨b, n, w, e⟩ := s
  refine ⟨?_, ?_, ?_⟩ <;> rintro c rfl <;> cases b <;> cases n <;> simp [shB, shw, shwD] at e
theorem whole_any (k : Nat) (d : D) (h : Hh) (s : Shn d) : callK P (k + 1) F_p_is_whole [d] h = .ok (.v (.bl (isW d))) h := by
  obtain ⟨s1, s2, s3⟩ := s.no
  rw [call_run (d := d_p_is_whole) rfl rfl]
  cases d with
  | exc c => exact absurd rfl (s1 c)
  | scr c => exact absurd rfl (s2 c)
  | ref c => exact absurd rfl (s3 c)
  | _ => simp [runDef, d_p_is_whole, isiD, isW]
theorem lwhole_any (k : Nat) (d : D) (h : Hh) (s : Shn d) : callK P (k + 1) F_l_whole [d] h = .ok (.v (.bl (isW d))) h := by
  obtain ⟨s1, s2, s3⟩ := s.no
  rw [call_run (d := d_l_whole) rfl rfl]
  cases d with
  | exc c => exact absurd rfl (s1 c)
  | scr c => exact absurd rfl (s2 c)
  | ref c => exact absurd rfl (s3 c)
  | _ => simp [runDef, d_l_whole, isiD, isW]
theorem ft_any (k : Nat) (d : D) (lo hi : Int) (h : Hh) (s : Shn d) : callK P (k + 2) F_p_is_from_to [d, .int lo, .int hi] h = .ok (.v (.bl (ftB d lo hi))) h := by
  have e := whole_any k d h s
  rw [call_run (d := d_p_is_from_to) rfl rfl]
  cases d <;> simp [isW] at e <;> simp [runDef, d_p_is_from_to, e, ftB]
  rename_i i
  by_cases c1 : lo ≤ i <;> simp [c1]
/-- three ints -/
def ints3 : D → Option (Int × Int × Int)
  | .tup [.int a, .int b, .int c] => some (a, b, c)
  | _ => none
def lastB (d : D) (m : Int) : Bool := match ints3 d with
  | some (a, b, c) => decide (0 ≤ a ∧ a ≤ m ∧ a + 1 ≤ b ∧ b ≤ m ∧ 0 ≤ c ∧ c ≤ 4)
  | none => false
def isT : D → Bool
  | .tup _ => true
  | _ => false
theorem isi_tup {d : D} (s : Shn d) (h : Hh) : isiD d .tuple h = some (isT d) := by
  obtain ⟨s1, s2, s3⟩ := s.no
  cases d with
  | exc c => exact absurd rfl (s1 c)
  | scr c => exact absurd rfl (s2 c)
  | ref c => exact absurd rfl (s3 c)
  | _ => rfl
theorem last_any (k : Nat) (d : D) (m : Int) (h : Hh) (s : Shn d) : callK P (k + 3) F_p_is_lasting [d, .int m] h = .ok (.v (.bl (lastB d m))) h := by
  have it := isi_tup s h
  rw [call_run (d := d_p_is_lasting) rfl rfl]
  cases d with
  | tup ys =>
    have si := s.items
    match ys, si, it with
    | [], _, it => simp [runDef, d_p_is_lasting, it, isT, lastB, ints3]
    | [x], _, it => simp [runDef, d_p_is_lasting, it, isT, lastB, ints3]
    | [x, y], _, it => simp [runDef, d_p_is_lasting, it, isT, lastB, ints3]
    | [x, y, z], si, it =>
      have e1 := ft_any k x 0 m h (si x (by simp))
      have e2 := fun lo => ft_any k y lo m h (si y (by simp))
      have e3 := ft_any k z 0 4 h (si z (by simp))
      cases x with
      | int a =>
        by_cases c1 : 0 ≤ a ∧ a ≤ m
        · cases y with
          | int b =>
            by_cases c2 : a + 1 ≤ b ∧ b ≤ m
            · cases z with
              | int c =>
                by_cases c3 : 0 ≤ c ∧ c ≤ 4
                · simp [runDef, d_p_is_lasting, it, isT, lastB, ints3, ftB, e1, e2, e3, c1, c2, c3]
                · have n : ¬ (0 ≤ a ∧ a ≤ m ∧ a + 1 ≤ b ∧ b ≤ m ∧ 0 ≤ c ∧ c ≤ 4) := by omega
                  have n2 : (decide (0 ≤ c) && decide (c ≤ 4)) = false := by simp; omega
                  simp [runDef, d_p_is_lasting, it, isT, lastB, ints3, ftB, e1, e2, e3, c1, c2, n2, n]
              | _ => simp [runDef, d_p_is_lasting, it, isT, lastB, ints3, ftB, e1, e2, e3, c1, c2]
            · have n : ∀ c : Int, ¬ (0 ≤ a ∧ a ≤ m ∧ a + 1 ≤ b ∧ b ≤ m ∧ 0 ≤ c ∧ c ≤ 4) := by omega
              have n2 : (decide (a + 1 ≤ b) && decide (b ≤ m)) = false := by simp; omega
              cases z <;> simp [runDef, d_p_is_lasting, it, isT, lastB, ints3, ftB, e1, e2, c1, n2, n]
              omega
          | _ => simp [runDef, d_p_is_lasting, it, isT, lastB, ints3, ftB, e1, e2, c1]
        · have n : ∀ b c : Int, ¬ (0 ≤ a ∧ a ≤ m ∧ a + 1 ≤ b ∧ b ≤ m ∧ 0 ≤ c ∧ c ≤ 4) := by omega
          have n2 : (decide (0 ≤ a) && decide (a ≤ m)) = false := by simp; omega
          cases y <;> cases z <;> simp [runDef, d_p_is_lasting, it, isT, lastB, ints3, ftB, e1, n2, n]
      | _ => simp [runDef, d_p_is_lasting, it, isT, lastB, ints3, ftB, e1]
    | x :: y :: z :: w :: l, _, it =>
      have c : ¬ ((l.length : Int) + 1 + 1 + 1 + 1 = 3) := by omega
      simp [runDef, d_p_is_lasting, it, isT, lastB, ints3, c]
  | _ => simp [runDef, d_p_is_lasting, it, isT, lastB, ints3]
theorem ints3_some {d : D} {y : Spn} (h : ints3 d = some y) : d = sp y := by
  unfold ints3 at h
  split at h
  · cases h
    rfl
  · cases h
def trueB (x : Spn) (d : D) : Bool := match ints3 d with
  | some y => if 0 < x.2.2 then decide (y = x) else decide (y.1 = 0 ∧ x.2.1 < y.2.1 ∧ y.2.1 ≤ 2000 ∧ 1 ≤ y.2.2 ∧ y.2.2 ≤ 4)
  | none => false
def truthB (A : Book) (d : D) : Bool := match d with
  | .tup ys => decide (ys.length = A.length) && (List.zipWith trueB A ys).all id
  | _ => false
theorem comp_zipT {bd : D → Hh → Option Env} {el : Env → Hh → Res D} {h : Hh} : ∀ (A : Book) (ys : List D), (∀ x ∈ A, ∀ y ∈ ys, ∃ r, bd (.tup [sp x, y]) h = some r ∧ el r h = .ok (.bl (trueB x y)) h) →
    compGo bd (fun r' h' => .ok true h') el (List.zipWith (fun x y => .tup [x, y]) (A.map sp) ys) h = .ok ((List.zipWith trueB A ys).map .bl) h
  | [], ys, _ => by simp
  | x :: A, [], _ => by simp
  | x :: A, y :: ys, e => by
    obtain ⟨r, e1, e2⟩ := e x (by simp) y (by simp)
    have ih := comp_zipT (bd := bd) (el := el) (h := h) A ys fun a ha b hb => e a (by simp [ha]) b (by simp [hb])
    simp [compGo, e1, e2, ih]
theorem bools_back (bs : List Bool) : boolsD (bs.map D.bl) = some bs := by
  have := bools_map bs id
  simpa using this
theorem all_bools (bs : List Bool) (h : Hh) : blt .all [.lst (bs.map .bl)] h = some (.bl (bs.all id)) := by
  have : boolsD (bs.map D.bl) = some bs := by
    have := bools_map bs id
    simpa using this
  simp [blt, itemsL, this]
theorem comp_none {bd : D → Hh → Option Env} {ck : Env → Hh → Res Bool} {el : Env → Hh → Res D} {h : Hh} (cc : D → Prop) : ∀ l : List D, (∀ x ∈ l, ∃ r b, ∃ i : Int, bd x h = some r ∧ ck r h = .ok b h ∧ el r h = .ok (.int i) h ∧ (b = false ↔ cc x)) →
    ∃ R : List Int, compGo bd ck el l h = .ok (R.map .int) h ∧ (R = [] ↔ ∀ x ∈ l, cc x)
  | [], _ => ⟨[], by simp, by simp⟩
  | x :: l, e => by
    obtain ⟨r, b, i, e1, e2, e3, e4⟩ := e x (by simp)
    obtain ⟨R, r1, r2⟩ := comp_none (bd := bd) (ck := ck) (el := el) (h := h) cc l fun y hy => e y (by simp [hy])
    cases b with
    | false =>
      refine ⟨R, by simp [compGo, e1, e2, r1], ?_⟩
      rw [r2]
      simp [e4.mp rfl]
    | true =>
      refine ⟨i :: R, by simp [compGo, e1, e2, e3, r1], ?_⟩
      have : ¬ cc x := fun c => by simpa using e4.mpr c
      simp [this]
theorem eq_none (R : List Int) (h : Hh) : cmpop .eq (.lst (R.map .int)) (.lst []) h = some (decide (R = [])) := by
  have pl : ∀ R : List Int, D.plains 59 (R.map .int) = true := by
    intro R
    induction R with
    | nil => rfl
    | cons a R ih => simp [D.plains, D.plain, ih]
  have p := pl R
  cases R with
  | nil => rfl
  | cons a R =>
    simp only [List.map_cons] at p
    simp [cmpop, D.isStr, deref, D.plain, D.plains, D.eqv, D.eqvs, p]
    simpa [D.plains, D.plain] using p
end MP


set_option Elab.async false
set_option linter.all false
set_option maxRecDepth 100000
set_option maxHeartbeats 4000000
namespace MP
/-! ### odd things -/
def oddL : List D := [.non, .bl true, .bl false, .int (-1), .int 100000000000, .str [], .str [97], .str [49], .tup [], .lst [], .dct [], .tup [.int 0, .int 1], .tup [.tup [.int 0, .int 1, .int 1]], .tup [.int 1, .int 2], .lst [.int 0], .dct [(.inl 0, .int 1)]]
/-- a thing: shown, of some weight -/
def Thg (k w : Nat) (d : D) : Prop := ∃ b, Wg b k w d
theorem Thg.mono {k j w v : Nat} {d : D} (h : Thg k w d) (hk : k ≤ j) (hw : w ≤ v) : Thg j v d := by
  obtain ⟨b, h⟩ := h
  exact ⟨b, h.mono hk hw⟩
theorem odd_thg : ∀ d ∈ oddL, Thg 3 1930 d := by
  have i : ∀ {b : Bool} {i : Int}, i.natAbs < 1048576 → Wg b 0 21 (.int i) := Wg.int
  have st : ∀ {s : List Nat}, s.length ≤ 5 → (s.all fun c => decide (c < 128)) = true → Wg false 0 5 (.str s) := fun hl ha n _ => ⟨_, by cases n <;> exact if_pos ha, hl⟩
  intro d hd
  simp only [oddL, List.mem_cons, List.not_mem_nil, or_false] at hd
  rcases hd with rfl | rfl | rfl | rfl | rfl | rfl | rfl | rfl | rfl | rfl | rfl | rfl | rfl | rfl | rfl | rfl
  · exact ⟨false, Wg.non.mono (by decide) (by decide)⟩
  · exact ⟨false, Wg.bl.mono (by decide) (by decide)⟩
  · exact ⟨false, Wg.bl.mono (by decide) (by decide)⟩
  · exact ⟨false, (i (by decide)).mono (by decide) (by decide)⟩
  · refine ⟨false, fun n _ => ⟨1921, ?_, by decide⟩⟩
    have : intW 100000000000 = some 1921 := by decide
    cases n <;> exact this
  · exact ⟨false, (st (by decide) (by decide)).mono (by decide) (by decide)⟩
  · exact ⟨false, (st (by decide) (by decide)).mono (by decide) (by decide)⟩
  · exact ⟨false, (st (by decide) (by decide)).mono (by decide) (by decide)⟩
  · exact ⟨false, (Wl.nil (k := 0)).tup.mono (by decide) (by decide)⟩
  · exact ⟨false, (Wl.nil (k := 0)).lst.mono (by decide) (by decide)⟩
  · refine ⟨true, fun n hn => ⟨0, ?_, by decide⟩⟩
    obtain ⟨m, rfl⟩ : ∃ m, n = m + 1 := ⟨n - 1, by omega⟩
    cases m <;> rfl
  · exact ⟨false, (Wl.cons (i (by decide)) (Wl.cons (i (by decide)) Wl.nil)).tup.mono (by decide) (by decide)⟩
  · exact ⟨false, (Wl.cons (Wl.cons (i (by decide)) (Wl.cons (i (by decide)) (Wl.cons (i (by decide)) Wl.nil))).tup Wl.nil).tup.mono (by decide) (by decide)⟩
  · exact ⟨false, (Wl.cons (i (by decide)) (Wl.cons (i (by decide)) Wl.nil)).tup.mono (by decide) (by decide)⟩
  · exact ⟨false, (Wl.cons (i (by decide)) Wl.nil).lst.mono (by decide) (by decide)⟩
  · refine ⟨true, fun n hn => ⟨44, ?_, by decide⟩⟩
    obtain ⟨m, rfl⟩ : ∃ m, n = m + 1 := ⟨n - 1, by omega⟩
    cases m <;> rfl
theorem odd_ok (k p : Nat) (h : Hh) (hp : Pot p h) : ∃ d h', callK P (k + 2) F_l_odd [.ref p] h = .ok (.v d) h' ∧ Pot p h' ∧ Thg 3 1930 d := by
  obtain ⟨v, h', e, v0, v1, p'⟩ := take_ok k p 16 h hp (by omega) (by omega)
  obtain ⟨i, rfl⟩ : ∃ i : Nat, v = (i : Int) := ⟨v.toNat, by omega⟩
  have hi : i < oddL.length := by
    show i < 16
    omega
  have hx : oddL[i]? = some oddL[i] := by simp
  have at' := atN hx
  refine ⟨oddL[i], h', ?_, p', odd_thg _ (by simp)⟩
  generalize oddL[i] = d at at' hx ⊢
  have d1 : ∀ r h, evE P (callK P (k + 1)) (.dct .nil) r h = .ok (.dct []) h := fun _ _ => rfl
  have d2 : ∀ r h, evE P (callK P (k + 1)) (.dct (.cons (.int 0) (.cons (.int 1) .nil))) r h = .ok (.dct [(.inl 0, .int 1)]) h := fun _ _ => rfl
  rw [call_run (d := d_l_odd) rfl rfl]
  unfold oddL at at'
  simp [runDef, d_l_odd, e, d1, d2, at']
theorem cut_to {α : Type} (l : List α) (i : Nat) (h : i ≤ l.length) : cutD l none (some (i : Int)) = l.take i := by
  have a1 : ¬ ((i : Int) < 0) := by omega
  simp [cutD, HT.sIx, a1]
theorem cut_from {α : Type} (l : List α) (i : Nat) (h : i ≤ l.length) : cutD l (some (i : Int)) none = l.drop i := by
  have a1 : ¬ ((i : Int) < 0) := by omega
  simp [cutD, HT.sIx, a1]
  rw [show min i l.length = i by omega, List.take_of_length_le (by simp)]
theorem cut_mem {α : Type} (l : List α) (lo hi : Option Int) : ∀ x ∈ cutD l lo hi, x ∈ l := fun x hx => List.mem_of_mem_drop (List.mem_of_mem_take hx)
theorem cut_len {α : Type} (l : List α) (lo hi : Option Int) : (cutD l lo hi).length ≤ l.length := by
  unfold cutD
  simp
  omega
theorem two_le {m a b L : Nat} (h : a + b ≤ L) : (m + 1) * a + (m + 1) * b ≤ (m + 1) * L := by
  rw [← Nat.mul_add]
  exact Nat.mul_le_mul_left _ h
theorem Wl.one {b : Bool} {k w : Nat} {d : D} (h : Wg b k w d) : Wl b k (w + 1) [d] := (Wl.cons h Wl.nil).mono (Nat.le_refl _) (by omega)
theorem plain_shw : ∀ (n : Nat) (d : D) (w : Nat), shw n d = some w → D.plain n d = true
  | n, .non, w, h => by cases n <;> rfl
  | n, .bl _, w, h => by cases n <;> rfl
  | n, .int _, w, h => by cases n <;> rfl
  | n, .str s, w, h => by
    have h : strW s = some w := by cases n <;> exact h
    unfold strW at h
    split at h
    · rename_i c
      cases n <;> exact c
    · cases h
  | 0, .tup _, w, h => by simp [shw] at h
  | n + 1, .tup ys, w, h => by
    simp only [shw] at h
    have key : ∀ (ys : List D) (w : Nat), shws n ys = some w → D.plains n ys = true := by
      intro ys
      induction ys with
      | nil => intro w h; cases n <;> rfl
      | cons x xs ih =>
        intro w h
        simp only [shws] at h
        split at h
        · rename_i a c e1 e2
          have h1 := plain_shw n x a e1
          have h2 := ih c e2
          cases n <;> simp [D.plains, h1, h2]
        · cases h
    rw [D.plain]
    exact key ys w h
  | 0, .lst _, w, h => by simp [shw] at h
  | n + 1, .lst ys, w, h => by
    simp only [shw] at h
    have key : ∀ (ys : List D) (w : Nat), shws n ys = some w → D.plains n ys = true := by
      intro ys
      induction ys with
      | nil => intro w h; cases n <;> rfl
      | cons x xs ih =>
        intro w h
        simp only [shws] at h
        split at h
        · rename_i a c e1 e2
          have h1 := plain_shw n x a e1
          have h2 := ih c e2
          cases n <;> simp [D.plains, h1, h2]
        · cases h
    rw [D.plain]
    exact key ys w h
  | n, .dct _, w, h => by cases n <;> simp [shw] at h
  | n, .ref _, w, h => by cases n <;> simp [shw] at h
  | n, .exc _, w, h => by cases n <;> simp [shw] at h
  | n, .scr _, w, h => by cases n <;> simp [shw] at h
theorem eq_unit (ys : List D) (ne : ys ≠ []) (h : Hh) (s : ∃ w, shw 60 (.tup ys) = some w) : cmpop .eq (.tup ys) (.tup []) h = some false := by
  obtain ⟨w, e⟩ := s
  have p := plain_shw 60 _ w e
  cases ys with
  | nil => exact absurd rfl ne
  | cons y ys =>
    unfold cmpop
    simp only [D.isStr, deref, p]
    rfl
/-- numbers that are near -/
def Near (x : Spn) : Prop := x.1.natAbs ≤ 3000 ∧ x.2.1.natAbs ≤ 3000 ∧ x.2.2.natAbs ≤ 3000
theorem near_ok {x : Spn} (o : okSp 2000 x) : Near x := by
  obtain ⟨o1, o2, o3, o4, o5⟩ := o
  exact ⟨by omega, by omega, by omega⟩
theorem sp_wg {b : Bool} {x : Spn} (n : Near x) : Wg b 1 66 (sp x) := by
  obtain ⟨n1, n2, n3⟩ := n
  exact (Wl.cons (Wg.int (by omega)) (Wl.cons (Wg.int (by omega)) (Wl.cons (Wg.int (by omega)) Wl.nil))).tup
end MP


set_option Elab.async false
set_option linter.all false
set_option maxRecDepth 100000
set_option maxHeartbeats 4000000
set_option exponentiation.threshold 5000
namespace MP
@[simp] theorem P_rz : P.rz = true := rfl
/-! ### fractions, looked at -/
def fracT : D → Option (Int × Int)
  | .tup [.int t, .int b] => some (t, b)
  | _ => none
theorem fracT_some {d : D} {x : Int × Int} (h : fracT d = some x) : d = fr x.1 x.2 := by
  unfold fracT at h
  split at h
  · cases h; rfl
  · cases h
def shareB (d : D) : Bool := match fracT d with
  | some (t, b) => decide (0 ≤ t ∧ t ≤ b ∧ 0 < b ∧ Int.gcd t b = 1)
  | none => false
def innerB (d : D) : Bool := match fracT d with
  | some (t, b) => decide (0 < t ∧ t < b ∧ Int.gcd t b = 1)
  | none => false
/-- no great bottoms -/
def Smf (d : D) : Prop := ∀ t b, fracT d = some (t, b) → b ≤ 1000
/-- Euclid from below 0 -/
theorem common_any (k : Nat) (a b : Int) (h : Hh) (hb : 0 < b) (hs : b ≤ 1000) : ∃ g : Int, callK P (k + 1) F_p_common [.int a, .int b] h = .ok (.v (.int g)) h ∧ (0 ≤ a → g = Int.gcd a b) := by
  by_cases ha : 0 ≤ a
  · exact ⟨_, c_common k a b h ha (by omega) (by have : (1000 : Int) < 2 ^ 4000 := two_pow_mono (n := 10) (by decide) (by decide); omega), fun _ => rfl⟩
  · refine ⟨(Int.gcd b (a % b) : Nat), ?_, fun z => absurd z ha⟩
    rw [call_run (d := d_p_common) rfl rfl]
    simp [runDef, d_p_common]
    obtain ⟨m, hm⟩ := fuBig (b.toNat + 1) (by
      have : (2 : Nat) ^ 12 ≤ 2 ^ 4900 := Nat.pow_le_pow_right (by decide) (by decide)
      have : (2 : Nat) ^ 12 = 4096 := by decide
      omega)
    have m0 := Int.emod_nonneg a (show b ≠ 0 by omega)
    have m1 := Int.emod_lt_of_pos a hb
    have e := wEuclid [] (h := h) (ck := evC P (callK P k) d_p_common_c1) (bd := fun r h => evSs P (callK P k) d_p_common_b1 r h) (fun a b hb => by simp [d_p_common_c1]) (fun a b hp => by simp [d_p_common_b1, hp]) b.toNat b (a % b) m (by omega) m0 (by omega)
    simp only [List.nil_append] at e
    have hb0 : ¬ b = 0 := by omega
    have c1 : evC P (callK P k) d_p_common_c1 [.v (.int a), .v (.int b)] h = .ok true h := by simp [d_p_common_c1, hb0]
    have b1 : evSs P (callK P k) d_p_common_b1 [.v (.int a), .v (.int b)] h = .nx [.v (.int b), .v (.int (a % b))] h := by simp [d_p_common_b1, hb]
    rw [show FU = (m + 1 + b.toNat) + 1 by omega, whileGo, c1]
    dsimp only
    rw [b1]
    dsimp only
    rw [e]
    have : ¬ ((Int.gcd b (a % b) : Nat) : Int) < 0 := by omega
    simp [this]
theorem frac_any (k : Nat) (d : D) (h : Hh) (s : Shn d) (sm : Smf d) : ∃ c, callK P (k + 2) F_p_is_fraction [d] h = .ok (.v (.bl c)) h ∧ (∀ t b, fracT d = some (t, b) → 0 ≤ t → c = decide (0 < b ∧ Int.gcd t b = 1)) ∧ (fracT d = none → c = false) := by
  have it := isi_tup s h
  rw [call_run (d := d_p_is_fraction) rfl rfl]
  cases d with
  | tup ys =>
    have si := s.items
    match ys, si, it, sm with
    | [], _, it, _ => exact ⟨false, by simp [runDef, d_p_is_fraction, it, isT], fun _ _ z => by simp [fracT] at z, fun _ => rfl⟩
    | [x], _, it, _ => exact ⟨false, by simp [runDef, d_p_is_fraction, it, isT], fun _ _ z => by simp [fracT] at z, fun _ => rfl⟩
    | x :: y :: z :: l, _, it, _ =>
      have c : ¬ ((l.length : Int) + 1 + 1 + 1 = 2) := by omega
      exact ⟨false, by simp [runDef, d_p_is_fraction, it, isT, c], fun _ _ z => by simp [fracT] at z, fun _ => rfl⟩
    | [x, y], si, it, sm =>
      have e1 := whole_any k x h (si x (by simp))
      have e2 := whole_any k y h (si y (by simp))
      cases x with
      | int t =>
        cases y with
        | int b =>
          have hb := sm t b rfl
          by_cases b0 : 0 < b
          · obtain ⟨g, e, eg⟩ := common_any k t b h b0 hb
            refine ⟨decide (g = 1), ?_, fun t' b' z t0 => ?_, fun z => by simp [fracT] at z⟩
            · simp [runDef, d_p_is_fraction, it, isT, e1, e2, isW, b0, e]
            · simp only [fracT, Option.some.injEq, Prod.mk.injEq] at z
              obtain ⟨rfl, rfl⟩ := z
              rw [eg t0]
              simp [b0]
              omega
          · refine ⟨false, ?_, fun t' b' z t0 => ?_, fun z => by simp [fracT] at z⟩
            · simp [runDef, d_p_is_fraction, it, isT, e1, e2, isW, b0]
            · simp only [fracT, Option.some.injEq, Prod.mk.injEq] at z
              obtain ⟨rfl, rfl⟩ := z
              simp [b0]
        | _ => exact ⟨false, by simp [runDef, d_p_is_fraction, it, isT, e1, e2, isW], fun _ _ z => by simp [fracT] at z, fun _ => rfl⟩
      | _ => exact ⟨false, by simp [runDef, d_p_is_fraction, it, isT, e1, isW], fun _ _ z => by simp [fracT] at z, fun _ => rfl⟩
  | _ => exact ⟨false, by simp [runDef, d_p_is_fraction, it, isT], fun _ _ z => by simp [fracT] at z, fun _ => rfl⟩
theorem inner_any (k : Nat) (d : D) (h : Hh) (s : Shn d) (sm : Smf d) : callK P (k + 3) F_p_need_inner [d] h = if innerB d = true then .ok (.v .non) h else .exc .noShare h := by
  obtain ⟨c, e, c1, c2⟩ := frac_any k d h s sm
  rw [call_run (d := d_p_need_inner) rfl rfl]
  cases ef : fracT d with
  | none =>
    have := c2 ef
    subst this
    have : innerB d = false := by unfold innerB; rw [ef]
    rw [this]
    simp [runDef, d_p_need_inner, e]
  | some x =>
    obtain ⟨t, b⟩ := x
    obtain rfl := fracT_some ef
    unfold innerB
    rw [ef]
    simp only [fr] at e ⊢
    by_cases t0 : 0 ≤ t
    · have := c1 t b ef t0
      subst this
      by_cases b0 : 0 < b
      · by_cases g : Int.gcd t b = 1
        · by_cases t1 : 0 < t
          · by_cases tb : t < b
            · simp [b0, g] at e
              simp [runDef, d_p_need_inner, e, t1, tb, g]
            · simp [b0, g] at e
              simp [runDef, d_p_need_inner, e, t1, tb, g]
          · simp [b0, g] at e
            simp [runDef, d_p_need_inner, e, t1, g]
        · simp [b0, g] at e
          simp [runDef, d_p_need_inner, e, g]
      · have n : ¬ (0 < t ∧ t < b ∧ Int.gcd t b = 1) := by omega
        simp [b0] at e
        simp [runDef, d_p_need_inner, e, n]
    · have n : ¬ 0 < t := by omega
      cases c <;> simp [runDef, d_p_need_inner, e, n]
theorem share_any (k : Nat) (d : D) (h : Hh) (s : Shn d) (sm : Smf d) : callK P (k + 4) F_p_need_share [d] h = if shareB d = true then .ok (.v .non) h else .exc .noShare h := by
  obtain ⟨c, e, c1, c2⟩ := frac_any k d h s sm
  have e2 : callK P (k + 3) F_p_is_share [d] h = .ok (.v (.bl (shareB d))) h := by
    rw [call_run (d := d_p_is_share) rfl rfl]
    cases ef : fracT d with
    | none =>
      have := c2 ef
      subst this
      have : shareB d = false := by unfold shareB; rw [ef]
      rw [this]
      simp [runDef, d_p_is_share, e]
    | some x =>
      obtain ⟨t, b⟩ := x
      obtain rfl := fracT_some ef
      unfold shareB
      rw [ef]
      simp only [fr] at e ⊢
      by_cases t0 : 0 ≤ t
      · have := c1 t b ef t0
        subst this
        by_cases b0 : 0 < b
        · by_cases g : Int.gcd t b = 1
          · simp [b0, g] at e
            by_cases tb : t ≤ b <;> simp [runDef, d_p_is_share, e, t0, tb, g, b0]
          · simp [b0, g] at e
            simp [runDef, d_p_is_share, e, g]
        · simp [b0] at e
          simp [runDef, d_p_is_share, e, b0]
      · cases c <;> simp [runDef, d_p_is_share, e, t0]
  rw [call_run (d := d_p_need_share) rfl rfl]
  cases hs : shareB d <;> simp [runDef, d_p_need_share, e2, hs]
/-! ### the law's looks -/
theorem lft_any (k : Nat) (d : D) (lo hi : Int) (h : Hh) (s : Shn d) : callK P (k + 2) F_l_within [d, .int lo, .int hi] h = .ok (.v (.bl (ftB d lo hi))) h := by
  have e := lwhole_any k d h s
  rw [call_run (d := d_l_within) rfl rfl]
  cases d <;> simp [isW] at e <;> simp [runDef, d_l_within, e, ftB]
  rename_i i
  by_cases c1 : lo ≤ i <;> simp [c1]
theorem low_eq_iff {t b : Int} (hb : 0 < b) : (t / (Int.gcd t b : Nat) = t ∧ b / (Int.gcd t b : Nat) = b) ↔ Int.gcd t b = 1 := by
  constructor
  · rintro ⟨_, z⟩
    obtain ⟨g1, g2⟩ := gcd_le t b hb
    by_cases c : ((Int.gcd t b : Nat) : Int) = 1
    · omega
    · have : b / ((Int.gcd t b : Nat) : Int) < b := by
        apply Int.ediv_lt_of_lt_mul g1
        have := Int.mul_lt_mul_of_pos_left (show (1 : Int) < (Int.gcd t b : Nat) by omega) hb
        omega
      omega
  · intro z
    rw [z]
    simp
theorem cmp_fr (a b c d : Int) (h : Hh) : cmpop .eq (.tup [.int a, .int b]) (.tup [.int c, .int d]) h = some (decide (a = c ∧ b = d)) := by
  simp only [cmpop, D.isStr, deref, D.plain, D.plains, D.eqv, D.eqvs]
  by_cases h1 : a = c <;> by_cases h2 : b = d <;> simp [h1, h2]
theorem lshare_any (k : Nat) (d : D) (h : Hh) (s : Shn d) (sm : Smf d) : callK P (k + 2) F_l_is_share [d] h = .ok (.v (.bl (shareB d))) h := by
  have it := isi_tup s h
  rw [call_run (d := d_l_is_share) rfl rfl]
  cases d with
  | tup ys =>
    have si := s.items
    match ys, si, it, sm with
    | [], _, it, _ => simp [runDef, d_l_is_share, it, isT, shareB, fracT]
    | [x], _, it, _ => simp [runDef, d_l_is_share, it, isT, shareB, fracT]
    | x :: y :: z :: l, _, it, _ =>
      have c : ¬ ((l.length : Int) + 1 + 1 + 1 = 2) := by omega
      simp [runDef, d_l_is_share, it, isT, shareB, fracT, c]
    | [x, y], si, it, sm =>
      have e1 := lwhole_any k x h (si x (by simp))
      have e2 := lwhole_any k y h (si y (by simp))
      cases x with
      | int t =>
        cases y with
        | int b =>
          have hb := sm t b rfl
          by_cases t0 : 0 ≤ t
          · by_cases tb : t ≤ b
            · by_cases b0 : 0 < b
              · have e := l_low k t b h t0 b0 (by have : (1000 : Int) < 2 ^ 4000 := two_pow_mono (n := 10) (by decide) (by decide); omega)
                simp only [lowD] at e
                have q := low_eq_iff (t := t) b0
                by_cases g : Int.gcd t b = 1
                · obtain ⟨q1, q2⟩ := q.mpr g
                  simp [runDef, d_l_is_share, it, isT, e1, e2, isW, t0, tb, b0, e, cmp_fr, q1, q2, shareB, fracT, g]
                · have n : ¬ (t / (Int.gcd t b : Nat) = t ∧ b / (Int.gcd t b : Nat) = b) := fun z => g (q.mp z)
                  simp [runDef, d_l_is_share, it, isT, e1, e2, isW, t0, tb, b0, e, cmp_fr, n, shareB, fracT, g]
              · simp [runDef, d_l_is_share, it, isT, e1, e2, isW, t0, tb, b0, shareB, fracT]
            · simp [runDef, d_l_is_share, it, isT, e1, e2, isW, t0, tb, shareB, fracT]
          · simp [runDef, d_l_is_share, it, isT, e1, e2, isW, t0, shareB, fracT]
        | _ => simp [runDef, d_l_is_share, it, isT, e1, e2, isW, shareB, fracT]
      | _ => simp [runDef, d_l_is_share, it, isT, e1, isW, shareB, fracT]
  | _ => simp [runDef, d_l_is_share, it, isT, shareB, fracT]
theorem linner_any (k : Nat) (d : D) (h : Hh) (s : Shn d) (sm : Smf d) : callK P (k + 3) F_l_is_inner [d] h = .ok (.v (.bl (innerB d))) h := by
  have e := lshare_any k d h s sm
  rw [call_run (d := d_l_is_inner) rfl rfl]
  cases ef : fracT d with
  | none =>
    have e3 : shareB d = false := by unfold shareB; rw [ef]
    have e4 : innerB d = false := by unfold innerB; rw [ef]
    rw [e3] at e
    rw [e4]
    simp [runDef, d_l_is_inner, e]
  | some x =>
    obtain ⟨t, b⟩ := x
    obtain rfl := fracT_some ef
    unfold shareB at e
    unfold innerB
    rw [ef] at e ⊢
    simp only [fr] at e ⊢
    by_cases c : 0 ≤ t ∧ t ≤ b ∧ 0 < b ∧ Int.gcd t b = 1
    · simp [c] at e
      by_cases c1 : 0 < t <;> by_cases c2 : t < b <;> simp [runDef, d_l_is_inner, e, c1, c2, c]
    · have n : ¬ (0 < t ∧ t < b ∧ Int.gcd t b = 1) := by omega
      simp [c] at e
      simp [runDef, d_l_is_inner, e, n]
end MP


set_option Elab.async false
set_option linter.all false
set_option maxRecDepth 100000
set_option maxHeartbeats 4000000
set_option exponentiation.threshold 5000
namespace MP
/-! ### sureness, of anything -/
def goodB (m i j : D) : Bool := match m, i with
  | .int n, .int a => ftB (.int a) 1 n && ftB j (a + 1) n
  | _, _ => false
def wordS (m p i j : D) : Option Ex := if ftB m 1 40 = false then some .noNumber else if innerB p = false then some .noShare else if goodB m i j = false then some .noBand else none
theorem inner_of {p : D} (h : innerB p = true) (f : Smf p) : ∃ t b, p = fr t b ∧ Inner t b := by
  unfold innerB at h
  cases e : fracT p with
  | none => rw [e] at h; cases h
  | some x =>
    obtain ⟨t, b⟩ := x
    rw [e] at h
    have h := of_decide_eq_true h
    have := f t b e
    exact ⟨t, b, fracT_some e, h.1, h.2.1, by omega, h.2.2⟩
theorem share_of {p : D} (h : shareB p = true) (f : Smf p) : ∃ t b, p = fr t b ∧ Share t b := by
  unfold shareB at h
  cases e : fracT p with
  | none => rw [e] at h; cases h
  | some x =>
    obtain ⟨t, b⟩ := x
    rw [e] at h
    have h := of_decide_eq_true h
    have := f t b e
    exact ⟨t, b, fracT_some e, h.1, h.2.1, h.2.2.1, two_pow_mono (n := 10) (by omega) (by decide), h.2.2.2⟩
theorem ftB_int {d : D} {lo hi : Int} (h : ftB d lo hi = true) : ∃ i, d = .int i ∧ lo ≤ i ∧ i ≤ hi := by
  unfold ftB at h
  split at h
  · rename_i i
    simp at h
    exact ⟨i, rfl, h.1, h.2⟩
  · cases h
theorem sure_any (k : Nat) (m p i j : D) (h : Hh) (sm : Shn m) (sp : Shn p) (si : Shn i) (sj : Shn j) (f : Smf p) :
    (∀ e, wordS m p i j = some e → callK P (k + 4) F_p_sureness [m, p, i, j] h = .exc e h) ∧ (wordS m p i j = none → ∃ v, callK P (k + 4) F_p_sureness [m, p, i, j] h = .ok (.v v) h) := by
  have a1 := ft_any (k + 1) m 1 40 h sm
  have a2 := inner_any k p h sp f
  unfold wordS
  cases c1 : ftB m 1 40 with
  | false =>
    rw [c1] at a1
    refine ⟨fun e z => ?_, fun z => by simp at z⟩
    simp at z
    subst z
    rw [call_run (d := d_p_sureness) rfl rfl]
    simp [runDef, d_p_sureness, a1]
  | true =>
    rw [c1] at a1
    cases c2 : innerB p with
    | false =>
      rw [c2] at a2
      refine ⟨fun e z => ?_, fun z => by simp at z⟩
      simp at z
      subst z
      rw [call_run (d := d_p_sureness) rfl rfl]
      simp at a2
      simp [runDef, d_p_sureness, a1, a2]
    | true =>
      rw [c2] at a2
      simp at a2
      obtain ⟨n, rfl, n1, n2⟩ := ftB_int c1
      have a3 := ft_any (k + 1) i 1 n h si
      cases c3 : goodB (.int n) i j with
      | false =>
        refine ⟨fun e z => ?_, fun z => by simp at z⟩
        simp at z
        subst z
        rw [call_run (d := d_p_sureness) rfl rfl]
        cases c4 : ftB i 1 n with
        | false =>
          rw [c4] at a3
          simp [runDef, d_p_sureness, a1, a2, a3]
        | true =>
          rw [c4] at a3
          obtain ⟨a, rfl, a4, a5⟩ := ftB_int c4
          have a6 := ft_any (k + 1) j (a + 1) n h sj
          have c5 : ftB j (a + 1) n = false := by
            unfold goodB at c3
            simp only [c4, Bool.true_and] at c3
            exact c3
          rw [c5] at a6
          have lg : (a + 1).natAbs < 2 ^ 60 := by omega
          simp [runDef, d_p_sureness, a1, a2, a3, a6]
      | true =>
        refine ⟨fun e z => by simp at z, fun _ => ?_⟩
        cases i with
        | int a =>
          have c3 : (ftB (.int a) 1 n && ftB j (a + 1) n) = true := c3
          simp only [Bool.and_eq_true] at c3
          obtain ⟨a', z, a4, a5⟩ := ftB_int c3.1
          cases z
          obtain ⟨c, rfl, c4, c5⟩ := ftB_int c3.2
          obtain ⟨t, b, rfl, q⟩ := inner_of c2 f
          have e := c_sureness k t b q n.toNat a.toNat c.toNat (by omega) (by omega) (by omega) (by omega) h
          rw [show ((n.toNat : Nat) : Int) = n by omega, show ((a.toNat : Nat) : Int) = a by omega, show ((c.toNat : Nat) : Int) = c by omega] at e
          exact ⟨_, e⟩
        | _ => simp [goodB] at c3
/-! ### band -/
def bookB : D → Bool
  | .tup ys => decide (1 ≤ ys.length ∧ ys.length ≤ 40) && ys.all fun y => lastB y 999
  | _ => false
theorem span_any (k : Nat) (d : D) (h : Hh) (s : Shn d) : callK P (k + 4) F_p_is_span [d] h = .ok (.v (.bl (lastB d 999))) h := by
  have e := last_any k d 999 h s
  rw [call_run (d := d_p_is_span) rfl rfl]
  simp [runDef, d_p_is_span, e]
theorem book_any (k : Nat) (d : D) (h : Hh) (s : Shn d) : callK P (k + 5) F_p_is_book [d] h = .ok (.v (.bl (bookB d))) h := by
  have it := isi_tup s h
  rw [call_run (d := d_p_is_book) rfl rfl]
  cases d with
  | tup ys =>
    have si := s.items
    by_cases c1 : 1 ≤ ys.length
    · by_cases c2 : ys.length ≤ 40
      · have c3 : (1 : Int) ≤ ys.length := by omega
        have c4 : (ys.length : Int) ≤ 40 := by omega
        simp [runDef, d_p_is_book, it, isT, c3, c4]
        rw [comp_map (fun y => .bl (lastB y 999)) ys fun x hx => ⟨_, rfl, by simp [span_any k x h (si x hx)]⟩]
        simp [bools_map, bookB, c1, c2]
      · have c3 : (1 : Int) ≤ ys.length := by omega
        have c4 : ¬ (ys.length : Int) ≤ 40 := by omega
        simp [runDef, d_p_is_book, it, isT, c3, c4, bookB, c2]
    · have c3 : ¬ (1 : Int) ≤ ys.length := by omega
      simp [runDef, d_p_is_book, it, isT, c3, bookB, c1]
  | _ => simp [runDef, d_p_is_book, it, isT, bookB]
theorem band_bad (k : Nat) (d p s : D) (h : Hh) (sd : Shn d) (n : bookB d = false) : callK P (k + 8) F_p_band [d, p, s] h = .exc .noBook h := by
  have e := book_any k d h sd
  rw [n] at e
  have e2 : callK P (k + 6) F_p_need_book [d] h = .exc .noBook h := by
    rw [call_run (d := d_p_need_book) rfl rfl]
    simp [runDef, d_p_need_book, e]
  have e3 : callK P (k + 7) F_p_need_full [d] h = .exc .noBook h := by
    rw [call_run (d := d_p_need_full) rfl rfl]
    simp [runDef, d_p_need_full, e2]
  rw [call_run (d := d_p_band) rfl rfl]
  simp [runDef, d_p_band, e3]
theorem band_cut (k : Nat) (A : List (Int × Int × Int)) (p s : D) (h : Hh) (o : ∀ x ∈ A, okSp 999 x) (h1 : 1 ≤ A.length) (h2 : A.length ≤ 40) (n : (A.any fun x => decide (0 < x.1) || decide (x.2.2 = 0)) = true) : callK P (k + 8) F_p_band [bk A, p, s] h = .exc .noFull h := by
  have nb := c_need_book k A h o h1 h2
  have e3 : callK P (k + 7) F_p_need_full [bk A] h = .exc .noFull h := by
    rw [call_run (d := d_p_need_full) rfl rfl]
    simp only [bk] at nb
    simp [runDef, d_p_need_full, bk, nb]
    rw [comp_bk (fun x => .bl (decide (0 < x.1) || decide (x.2.2 = 0))) A fun x hx => ⟨_, rfl, by
      by_cases c : 0 < x.1 <;> simp [sp, c]⟩]
    simp [bools_map, n]
  rw [call_run (d := d_p_band) rfl rfl]
  simp [runDef, d_p_band, e3]
theorem band_share (k : Nat) (A : Book) (p s : D) (h : Hh) (a : Full A) (sp : Shn p) (fp : Smf p) (ss : Shn s) (fs : Smf s) (n : innerB p = false ∨ shareB s = false) : callK P (k + 8) F_p_band [bk A, p, s] h = .exc .noShare h := by
  have e1 := c_need_full k A h a
  have e2 := inner_any (k + 4) p h sp fp
  have e3 := share_any (k + 3) s h ss fs
  rw [call_run (d := d_p_band) rfl rfl]
  cases c : innerB p with
  | false =>
    rw [c] at e2
    simp at e2
    simp [runDef, d_p_band, e1, e2]
  | true =>
    rw [c] at e2
    simp at e2
    rcases n with n | n
    · rw [n] at c; cases c
    · rw [n] at e3
      simp at e3
      simp [runDef, d_p_band, e1, e2, e3]
theorem band_good (k : Nat) (A : Book) (p s : D) (h : Hh) (a : Full A) (fp : Smf p) (fs : Smf s) (n1 : innerB p = true) (n2 : shareB s = true) : ∃ v, callK P (k + 8) F_p_band [bk A, p, s] h = .ok v h ∧ ∃ d, v = .v d := by
  obtain ⟨t, b, rfl, q⟩ := inner_of n1 fp
  obtain ⟨w, u, rfl, s⟩ := share_of n2 fs
  refine ⟨_, c_band k q s A a h, ?_⟩
  unfold bandD
  cases e : bandF t b w u (sortI (untils A)) with
  | none => exact ⟨_, rfl⟩
  | some v =>
    unfold bandF at e
    obtain ⟨wide, _, e⟩ := List.exists_of_findSome?_eq_some e
    obtain ⟨i, _, e⟩ := List.exists_of_findSome?_eq_some e
    split at e
    · cases e
      exact ⟨_, rfl⟩
    · cases e
end MP


set_option Elab.async false
set_option linter.all false
set_option maxRecDepth 100000
set_option maxHeartbeats 4000000
set_option exponentiation.threshold 5000
namespace MP
/-! ### weights of what is written out -/
mutual
theorem shD_mono : ∀ (n : Nat) (d : D) (w : Nat), shwD n d = some w → ∀ m, n ≤ m → shwD m d = some w
  | n, .non, w, h, m, _ => by cases n <;> cases m <;> simpa [shwD] using h
  | n, .bl _, w, h, m, _ => by cases n <;> cases m <;> simpa [shwD] using h
  | n, .int _, w, h, m, _ => by cases n <;> cases m <;> simpa [shwD] using h
  | n, .str _, w, h, m, _ => by cases n <;> cases m <;> simpa [shwD] using h
  | 0, .tup _, w, h, m, _ => by simp [shwD] at h
  | n + 1, .tup ys, w, h, m, hm => by
    obtain ⟨m, rfl⟩ : ∃ k, m = k + 1 := ⟨m - 1, by omega⟩
    simp only [shwD] at h ⊢
    exact shDs_mono n ys w h m (by omega)
  | 0, .lst _, w, h, m, _ => by simp [shwD] at h
  | n + 1, .lst ys, w, h, m, hm => by
    obtain ⟨m, rfl⟩ : ∃ k, m = k + 1 := ⟨m - 1, by omega⟩
    simp only [shwD] at h ⊢
    exact shDs_mono n ys w h m (by omega)
  | 0, .dct _, w, h, m, _ => by simp [shwD] at h
  | n + 1, .dct ys, w, h, m, hm => by
    obtain ⟨m, rfl⟩ : ∃ k, m = k + 1 := ⟨m - 1, by omega⟩
    simp only [shwD] at h ⊢
    exact shDk_mono n ys w h m (by omega)
  | n, .ref _, w, h, m, _ => by cases n <;> simp [shwD] at h
  | n, .exc _, w, h, m, _ => by cases n <;> simp [shwD] at h
  | n, .scr _, w, h, m, _ => by cases n <;> simp [shwD] at h
theorem shDs_mono : ∀ (n : Nat) (ys : List D) (w : Nat), shwDs n ys = some w → ∀ m, n ≤ m → shwDs m ys = some w
  | n, [], w, h, m, _ => by cases n <;> cases m <;> simpa [shwDs] using h
  | n, x :: xs, w, h, m, hm => by
    simp only [shwDs] at h ⊢
    split at h
    · rename_i a c e1 e2
      rw [shD_mono n x a e1 m hm, shDs_mono n xs c e2 m hm]
      exact h
    · cases h
theorem shDk_mono : ∀ (n : Nat) (ys : List (Ky × D)) (w : Nat), shwDk n ys = some w → ∀ m, n ≤ m → shwDk m ys = some w
  | n, [], w, h, m, _ => by cases n <;> cases m <;> simpa [shwDk] using h
  | n, (q, x) :: xs, w, h, m, hm => by
    simp only [shwDk] at h ⊢
    split at h
    · rename_i c a b e0 e1 e2
      rw [e0, shD_mono n x a e1 m hm, shDk_mono n xs b e2 m hm]
      exact h
    · cases h
end
theorem Wg.of {k v w : Nat} {d : D} (h : shwD k d = some v) (hw : v ≤ w) : Wg true k w d := fun n hn => ⟨v, shD_mono k d v h n hn, hw⟩
def wgB (k w : Nat) (d : D) : Bool := match shwD k d with
  | some v => decide (v ≤ w)
  | none => false
theorem wgB_ok {k w : Nat} {d : D} (h : wgB k w d = true) : Wg true k w d := by
  unfold wgB at h
  cases e : shwD k d with
  | none => rw [e] at h; cases h
  | some v => rw [e] at h; exact Wg.of e (of_decide_eq_true h)
theorem odd_in (k p : Nat) (h : Hh) (hp : Pot p h) : ∃ d h', callK P (k + 2) F_l_odd [.ref p] h = .ok (.v d) h' ∧ Pot p h' ∧ d ∈ oddL := by
  obtain ⟨v, h', e, v0, v1, p'⟩ := take_ok k p 16 h hp (by omega) (by omega)
  obtain ⟨i, rfl⟩ : ∃ i : Nat, v = (i : Int) := ⟨v.toNat, by omega⟩
  have hi : i < oddL.length := by
    show i < 16
    omega
  have hx : oddL[i]? = some oddL[i] := by simp
  have at' := atN hx
  refine ⟨oddL[i], h', ?_, p', by simp⟩
  generalize oddL[i] = d at at' hx ⊢
  have d1 : ∀ r h, evE P (callK P (k + 1)) (.dct .nil) r h = .ok (.dct []) h := fun _ _ => rfl
  have d2 : ∀ r h, evE P (callK P (k + 1)) (.dct (.cons (.int 0) (.cons (.int 1) .nil))) r h = .ok (.dct [(.inl 0, .int 1)]) h := fun _ _ => rfl
  rw [call_run (d := d_l_odd) rfl rfl]
  unfold oddL at at'
  simp [runDef, d_l_odd, e, d1, d2, at']
theorem odd_wg : ∀ d ∈ oddL, Wg true 5 1930 d := fun d hd => by
  obtain ⟨b, w⟩ := odd_thg d hd
  exact (w.up).mono (by decide) (Nat.le_refl _)
/-! ### fractions, fair and foul -/
def fracL : List D := [fr 1 2, fr 0 1, fr 1 1, fr 2 4, fr 3 2, fr (-1) 2, fr 1 0, .tup [.bl true, .int 2], .tup [.int 1, .bl true], .lst [.int 1, .int 2], .tup [.int 1], .tup [.int 1, .int 2, .int 3], .non]
structure Okf (d : D) : Prop where
  w : Wg true 5 1930 d
  f : Smf d
theorem Okf.s {d : D} (o : Okf d) : Shn d := o.w.shn
def smB (d : D) : Bool := match fracT d with
  | some (_, b) => decide (b ≤ 1000)
  | none => true
theorem smB_ok {d : D} (h : smB d = true) : Smf d := fun t b e => by
  unfold smB at h
  rw [e] at h
  exact of_decide_eq_true h
theorem okf_all : ∀ d ∈ fr 1 3 :: (fracL ++ oddL), Okf d := by
  have key : ∀ d ∈ fr 1 3 :: (fracL ++ oddL), wgB 5 1930 d = true ∧ smB d = true := by
    have h : ((fr 1 3 :: (fracL ++ oddL)).all fun d => wgB 5 1930 d && smB d) = true := by decide +kernel
    intro d hd
    have := List.all_eq_true.mp h d hd
    simpa using this
  exact fun d hd => ⟨wgB_ok (key d hd).1, smB_ok (key d hd).2⟩
theorem fractions_ok (k p : Nat) (h : Hh) (hp : Pot p h) : ∃ x y h', callK P (k + 3) F_l_fractions [.ref p] h = .ok (.v (.lst [x, y, fr 1 3])) h' ∧ Pot p h' ∧ ∀ d ∈ [x, y, fr 1 3], Okf d := by
  obtain ⟨v, h1, e1, v0, v1, p1⟩ := take_ok (k + 1) p 13 h hp (by omega) (by omega)
  obtain ⟨y, h2, e2, p2, hy⟩ := odd_in k p h1 p1
  obtain ⟨i, rfl⟩ : ∃ i : Nat, v = (i : Int) := ⟨v.toNat, by omega⟩
  have hi : i < fracL.length := by
    show i < 13
    omega
  have hx : fracL[i]? = some fracL[i] := by simp
  have at' := atN hx
  refine ⟨fracL[i], y, h2, ?_, p2, ?_⟩
  · generalize fracL[i] = d at at' hx ⊢
    rw [call_run (d := d_l_fractions) rfl rfl]
    unfold fracL fr at at'
    simp [runDef, d_l_fractions, e1, e2, at', fr, lim_big]
  · intro d hd
    simp only [List.mem_cons, List.not_mem_nil, or_false] at hd
    rcases hd with rfl | rfl | rfl
    · exact okf_all _ (by simp)
    · exact okf_all _ (by simp [hy])
    · exact okf_all _ (by simp)
/-! ### bands -/
def bandL (s : Int) : List (D × D) := [(.int 1, .int s), (.int 0, .int 1), (.int 1, .int 1), (.int 2, .int 1), (.int 1, .int (s + 1)), (.bl true, .int 2), (.int 1, .non), (.str [49], .int 2), (.tup [.int 1], .int 2), (.int (-1), .int 3)]
def two (q : D × D) : D := .tup [q.1, q.2]
theorem bandL_shn (s : Int) (s0 : 0 ≤ s) (s1 : s ≤ 40) : ∀ q ∈ bandL s, Shn q.1 ∧ Shn q.2 := by
  have i : ∀ {i : Int}, i.natAbs < 1048576 → Shn (.int i) := fun h => (Wg.int (b := true) h).shn
  intro q hq
  simp only [bandL, List.mem_cons, List.not_mem_nil, or_false] at hq
  rcases hq with rfl | rfl | rfl | rfl | rfl | rfl | rfl | rfl | rfl | rfl <;> refine ⟨?_, ?_⟩ <;> first
    | exact i (by omega)
    | exact (wgB_ok (k := 3) (w := 30) (by decide +kernel)).shn
theorem bands_ok (k p : Nat) (s : Int) (s0 : 0 ≤ s) (s1 : s ≤ 40) (h : Hh) (hp : Pot p h) : ∃ (L : List (D × D)) (h' : Hh), callK P (k + 3) F_l_bands [.ref p, .int s] h = .ok (.v (.lst (L.map two))) h' ∧ Pot p h' ∧ ∀ q ∈ L, Shn q.1 ∧ Shn q.2 := by
  obtain ⟨v, h1, e1, v0, v1, p1⟩ := take_ok (k + 1) p 10 h hp (by omega) (by omega)
  obtain ⟨y, h2, e2, p2, hy⟩ := odd_in k p h1 p1
  obtain ⟨z, h3, e3, p3, hz⟩ := odd_in k p h2 p2
  obtain ⟨i, rfl⟩ : ∃ i : Nat, v = (i : Int) := ⟨v.toNat, by omega⟩
  have hi : i < (bandL s).length := by
    show i < 10
    omega
  have hx : (bandL s)[i]? = some (bandL s)[i] := by simp
  have hx2 : ((bandL s).map two)[i]? = some (two (bandL s)[i]) := by rw [List.getElem?_map, hx]; rfl
  have at' := atN hx2
  have io : ∀ {i : Int}, i.natAbs < 1048576 → Shn (.int i) := fun h => (Wg.int (b := true) h).shn
  refine ⟨[(bandL s)[i], (.int 1, .int 2), (y, .int 2), (.int 1, z)], h3, ?_, p3, ?_⟩
  · generalize (bandL s)[i] = d at at' hx ⊢
    rw [call_run (d := d_l_bands) rfl rfl]
    simp only [bandL, two, List.map_cons, List.map_nil] at at'
    have lg : (s + 1).natAbs.log2 < 9000 := Nat.lt_of_le_of_lt (Nat.log2_le_self _) (by omega)
    simp [runDef, d_l_bands, e1, e2, e3, at', two, lg, lim_big]
  · intro q hq
    simp only [List.mem_cons, List.not_mem_nil, or_false] at hq
    rcases hq with rfl | rfl | rfl | rfl
    · exact bandL_shn s s0 s1 _ (by simp)
    · exact ⟨io (by decide), io (by decide)⟩
    · exact ⟨(odd_wg y hy).shn, io (by decide)⟩
    · exact ⟨io (by decide), (odd_wg z hz).shn⟩
/-! ### the first of the words -/
theorem first3 (k : Nat) (a b c : List Nat) (x y z : Bool) (h : Hh) : callK P (k + 1) F_l_first [.lst [.tup [.str a, .bl x], .tup [.str b, .bl y], .tup [.str c, .bl z]]] h = .ok (.v (.str (if x = false then a else if y = false then b else if z = false then c else wTold))) h := by
  rw [call_run (d := d_l_first) rfl rfl]
  cases x <;> cases y <;> cases z <;> simp [runDef, d_l_first, wTold, lim_big]
theorem first2 (k : Nat) (a b : List Nat) (x y : Bool) (h : Hh) : callK P (k + 1) F_l_first [.lst [.tup [.str a, .bl x], .tup [.str b, .bl y]]] h = .ok (.v (.str (if x = false then a else if y = false then b else wTold))) h := by
  rw [call_run (d := d_l_first) rfl rfl]
  cases x <;> cases y <;> simp [runDef, d_l_first, wTold, lim_big]
/-! ### no books -/
def noB : List D := [.non, .tup [], .lst [.tup [.int 0, .int 1, .int 0]], .tup [.tup [.int 0, .int 0, .int 1]], .tup [.tup [.int 0, .int 1000, .int 0]], .tup [.tup [.int 0, .int 5, .int 5]], .tup [.tup [.int 0, .int 5, .bl true]], .tup [.tup [.int (-1), .int 5, .int 0]], .tup [.tup [.int 0, .int 5]],
  .tup (List.replicate 41 (.tup [.int 0, .int 1, .int 1])), .str [48, 45, 49], .dct [], .tup [.tup [.int 5, .int 5, .int 0]], .tup [.lst [.int 0, .int 5, .int 1]], .tup [.tup [.int 0, .int 5, .int 1], .non]]
theorem no_books_ok (k : Nat) (h : Hh) : callK P (k + 1) F_l_no_books [] h = .ok (.v (.lst noB)) h := by
  rw [call_run (d := d_l_no_books) rfl rfl]
  rfl
theorem noB_all : ∀ d ∈ noB, Wg true 5 3000 d ∧ bookB d = false := by
  have h : (noB.all fun d => wgB 5 3000 d && !bookB d) = true := by decide +kernel
  intro d hd
  have := List.all_eq_true.mp h d hd
  simp only [Bool.and_eq_true, Bool.not_eq_true'] at this
  exact ⟨wgB_ok this.1, this.2⟩
end MP


set_option Elab.async false
set_option linter.all false
set_option maxRecDepth 100000
set_option maxHeartbeats 4000000
set_option exponentiation.threshold 5000
namespace MP
def sizeI (m : D) : Int := match m with
  | .int n => if ftB (.int n) 1 40 = true then n else 0
  | _ => 0
theorem sizeI_bd (m : D) : 0 ≤ sizeI m ∧ sizeI m ≤ 40 := by
  unfold sizeI
  split
  · split
    · rename_i n h
      simp [ftB] at h
      omega
    · omega
  · omega
theorem sizeI_no {m : D} (h : ftB m 1 40 = false) : sizeI m = 0 := by
  cases m with
  | int n => exact if_neg (by rw [h]; decide)
  | _ => rfl
theorem sizeI_yes {m : D} (h : ftB m 1 40 = true) : m = .int (sizeI m) ∧ 1 ≤ sizeI m := by
  obtain ⟨n, rfl, n1, n2⟩ := ftB_int h
  have : sizeI (.int n) = n := if_pos h
  rw [this]
  exact ⟨rfl, n1⟩
theorem law_b1 (k : Nat) (m p i j : D) (sm : Shn m) (sp : Shn p) (si : Shn i) (sj : Shn j) (f : Smf p) (h : Hh) (s0 s1 s2 s3 s9 s10 s11 s12 s13 s14 s15 s16 s17 s18 s19 : SV) :
    ∃ w9 w10, evSs P (callK P (k + 30)) d_l_law_b1 [s0, s1, s2, s3, .v m, .v (.int (sizeI m)), .v p, .v i, .v j, s9, s10, s11, s12, s13, s14, s15, s16, s17, s18, s19] h =
      .nx [s0, s1, s2, s3, .v m, .v (.int (sizeI m)), .v p, .v i, .v j, w9, w10, s11, s12, s13, s14, s15, s16, s17, s18, s19] h := by
  obtain ⟨q1, q2⟩ := sure_any (k + 26) m p i j h sm sp si sj f
  have a1 := lft_any (k + 28) i 1 (sizeI m) h si
  have a3 := linner_any (k + 27) p h sp f
  have ff := fun (x y z : Bool) => first3 (k + 29) [110, 117, 109, 98, 101, 114] [115, 104, 97, 114, 101] [98, 97, 110, 100] x y z h
  have x1 : exW .noNumber = [110, 117, 109, 98, 101, 114] := rfl
  have x2 : exW .noShare = [115, 104, 97, 114, 101] := rfl
  have x3 : exW .noBand = [98, 97, 110, 100] := rfl
  cases c1 : ftB m 1 40 with
  | false =>
    have e0 := sizeI_no c1
    rw [e0] at a1 ⊢
    have c2 : ftB i 1 0 = false := by
      unfold ftB
      split
      · simp
        omega
      · rfl
    rw [c2] at a1
    have e := q1 .noNumber (by unfold wordS; simp [c1])
    refine ⟨.v (.bl false), .v (.str [110, 117, 109, 98, 101, 114]), ?_⟩
    simp [d_l_law_b1, a1, a3, ff, e, x1, Ex.okc]
  | true =>
    obtain ⟨e0, e1⟩ := sizeI_yes c1
    have n0 : 0 < sizeI m := by omega
    cases c2 : innerB p with
    | false =>
      rw [c2] at a3
      have e := q1 .noShare (by unfold wordS; simp [c1, c2])
      cases c3 : ftB i 1 (sizeI m) with
      | false =>
        rw [c3] at a1
        refine ⟨.v (.bl false), .v (.str [115, 104, 97, 114, 101]), ?_⟩
        simp [d_l_law_b1, a1, a3, ff, e, x2, Ex.okc, n0]
      | true =>
        rw [c3] at a1
        obtain ⟨a, rfl, _, _⟩ := ftB_int c3
        have a2 := lft_any (k + 28) j (a + 1) (sizeI m) h sj
        have lg : (a + 1).natAbs.log2 < 9000 := Nat.lt_of_le_of_lt (Nat.log2_le_self _) (by have := sizeI_bd m; omega)
        refine ⟨.v (.bl (ftB j (a + 1) (sizeI m))), .v (.str [115, 104, 97, 114, 101]), ?_⟩
        simp [d_l_law_b1, a1, a2, lg, a3, ff, e, x2, Ex.okc, n0]
    | true =>
      rw [c2] at a3
      cases c3 : ftB i 1 (sizeI m) with
      | false =>
        rw [c3] at a1
        have g : goodB m i j = false := by
          rw [e0]
          cases i with
          | int a =>
            show (ftB (.int a) 1 (sizeI m) && ftB j (a + 1) (sizeI m)) = false
            rw [c3]
            rfl
          | _ => rfl
        have e := q1 .noBand (by unfold wordS; simp [c1, c2, g])
        refine ⟨.v (.bl false), .v (.str [98, 97, 110, 100]), ?_⟩
        simp [d_l_law_b1, a1, a3, ff, e, x3, Ex.okc, n0]
      | true =>
        rw [c3] at a1
        obtain ⟨a, rfl, _, _⟩ := ftB_int c3
        have a2 := lft_any (k + 28) j (a + 1) (sizeI m) h sj
        have lg : (a + 1).natAbs.log2 < 9000 := Nat.lt_of_le_of_lt (Nat.log2_le_self _) (by have := sizeI_bd m; omega)
        have g : goodB m (.int a) j = ftB j (a + 1) (sizeI m) := by
          conv => lhs; rw [e0]
          show (ftB (.int a) 1 (sizeI m) && ftB j (a + 1) (sizeI m)) = _
          rw [c3]
          rfl
        cases c4 : ftB j (a + 1) (sizeI m) with
        | false =>
          rw [c4] at a2 g
          have e := q1 .noBand (by unfold wordS; simp [c1, c2, g])
          refine ⟨.v (.bl false), .v (.str [98, 97, 110, 100]), ?_⟩
          simp [d_l_law_b1, a1, a2, lg, a3, ff, e, x3, Ex.okc, n0]
        | true =>
          rw [c4] at a2 g
          obtain ⟨v, e⟩ := q2 (by unfold wordS; simp [c1, c2, g])
          refine ⟨.v (.bl true), .v (.str wTold), ?_⟩
          simp [d_l_law_b1, a1, a2, lg, a3, ff, e, n0, wTold]
theorem law_b2 (k : Nat) (m p : D) (sm : Shn m) (sp : Shn p) (f : Smf p) (q : Nat) (h : Hh) (hp : Pot q h) (s0 s1 s3 s7 s8 s9 s10 s11 s12 s13 s14 s15 s16 s17 s18 s19 : SV) :
    ∃ w7 w8 w9 w10 h', evSs P (callK P (k + 30)) d_l_law_b2 [s0, s1, .v (.ref q), s3, .v m, .v (.int (sizeI m)), .v p, s7, s8, s9, s10, s11, s12, s13, s14, s15, s16, s17, s18, s19] h =
      .nx [s0, s1, .v (.ref q), s3, .v m, .v (.int (sizeI m)), .v p, w7, w8, w9, w10, s11, s12, s13, s14, s15, s16, s17, s18, s19] h' ∧ Pot q h' := by
  obtain ⟨z1, z2⟩ := sizeI_bd m
  obtain ⟨L, h1, e, p1, hL⟩ := bands_ok (k + 27) q (sizeI m) z1 z2 h hp
  have loop : ∃ w7 w8 w9 w10 h', forGo (bindTg (.tup [.nm 7, .nm 8])) (fun r h => evSs P (callK P (k + 30)) d_l_law_b1 r h) (L.map two) [s0, s1, .v (.ref q), s3, .v m, .v (.int (sizeI m)), .v p, s7, s8, s9, s10, s11, s12, s13, s14, s15, s16, s17, s18, s19] h1 =
      .nx [s0, s1, .v (.ref q), s3, .v m, .v (.int (sizeI m)), .v p, w7, w8, w9, w10, s11, s12, s13, s14, s15, s16, s17, s18, s19] h' ∧ Pot q h' := by
    refine for_invG (G := fun z => ∃ w7 w8 w9 w10 h', z = .nx [s0, s1, .v (.ref q), s3, .v m, .v (.int (sizeI m)), .v p, w7, w8, w9, w10, s11, s12, s13, s14, s15, s16, s17, s18, s19] h' ∧ Pot q h') (fun o r h' => Pot q h' ∧ ∃ w7 w8 w9 w10, r = [s0, s1, .v (.ref q), s3, .v m, .v (.int (sizeI m)), .v p, w7, w8, w9, w10, s11, s12, s13, s14, s15, s16, s17, s18, s19]) ?_ ?_ ?_
    · rintro d hd o r h' _ ⟨hp', w7, w8, w9, w10, rfl⟩
      obtain ⟨x, hx, rfl⟩ := List.mem_map.mp hd
      obtain ⟨w9', w10', e⟩ := law_b1 k m p x.1 x.2 sm sp (hL x hx).1 (hL x hx).2 f h' s0 s1 (.v (.ref q)) s3 w9 w10 s11 s12 s13 s14 s15 s16 s17 s18 s19
      exact ⟨_, _, _, rfl, e, hp', _, _, _, _, rfl⟩
    · exact ⟨p1, _, _, _, _, rfl⟩
    · rintro r' h' ⟨hp', w7, w8, w9, w10, rfl⟩
      exact ⟨_, _, _, _, h', rfl, hp'⟩
  obtain ⟨w7, w8, w9, w10, h', el, hp'⟩ := loop
  refine ⟨w7, w8, w9, w10, h', ?_, hp'⟩
  generalize L.map two = L' at e el
  simp [-q_forGo_1, -q_forGo_2, d_l_law_b2, e, el]
theorem law_b3 (k : Nat) (m : D) (sm : Shn m) (q : Nat) (h : Hh) (hp : Pot q h) (s0 s1 s3 s5 s6 s7 s8 s9 s10 s11 s12 s13 s14 s15 s16 s17 s18 s19 : SV) :
    ∃ w5 w6 w7 w8 w9 w10 h', evSs P (callK P (k + 30)) d_l_law_b3 [s0, s1, .v (.ref q), s3, .v m, s5, s6, s7, s8, s9, s10, s11, s12, s13, s14, s15, s16, s17, s18, s19] h =
      .nx [s0, s1, .v (.ref q), s3, .v m, w5, w6, w7, w8, w9, w10, s11, s12, s13, s14, s15, s16, s17, s18, s19] h' ∧ Pot q h' := by
  have a1 := lft_any (k + 28) m 1 40 h sm
  obtain ⟨x, y, h1, e, p1, ho⟩ := fractions_ok (k + 27) q h hp
  have loop : ∃ w6 w7 w8 w9 w10 h', forGo (bindTg (.nm 6)) (fun r h => evSs P (callK P (k + 30)) d_l_law_b2 r h) [x, y, fr 1 3] [s0, s1, .v (.ref q), s3, .v m, .v (.int (sizeI m)), s6, s7, s8, s9, s10, s11, s12, s13, s14, s15, s16, s17, s18, s19] h1 =
      .nx [s0, s1, .v (.ref q), s3, .v m, .v (.int (sizeI m)), w6, w7, w8, w9, w10, s11, s12, s13, s14, s15, s16, s17, s18, s19] h' ∧ Pot q h' := by
    refine for_invG (G := fun z => ∃ w6 w7 w8 w9 w10 h', z = .nx [s0, s1, .v (.ref q), s3, .v m, .v (.int (sizeI m)), w6, w7, w8, w9, w10, s11, s12, s13, s14, s15, s16, s17, s18, s19] h' ∧ Pot q h') (fun o r h' => Pot q h' ∧ ∃ w6 w7 w8 w9 w10, r = [s0, s1, .v (.ref q), s3, .v m, .v (.int (sizeI m)), w6, w7, w8, w9, w10, s11, s12, s13, s14, s15, s16, s17, s18, s19]) ?_ ?_ ?_
    · rintro d hd o r h' _ ⟨hp', w6, w7, w8, w9, w10, rfl⟩
      have od := ho d hd
      obtain ⟨w7', w8', w9', w10', h2, e, hp2⟩ := law_b2 k m d sm od.s od.f q h' hp' s0 s1 s3 w7 w8 w9 w10 s11 s12 s13 s14 s15 s16 s17 s18 s19
      exact ⟨_, _, _, rfl, e, hp2, _, _, _, _, _, rfl⟩
    · exact ⟨p1, _, _, _, _, _, rfl⟩
    · rintro r' h' ⟨hp', w6, w7, w8, w9, w10, rfl⟩
      exact ⟨_, _, _, _, _, h', rfl, hp'⟩
  obtain ⟨w6, w7, w8, w9, w10, h', el, hp'⟩ := loop
  refine ⟨.v (.int (sizeI m)), w6, w7, w8, w9, w10, h', ?_, hp'⟩
  cases c1 : ftB m 1 40 with
  | false =>
    rw [c1] at a1
    have e0 := sizeI_no c1
    rw [e0] at el ⊢
    simp [-q_forGo_1, -q_forGo_2, d_l_law_b3, a1, e, el]
  | true =>
    rw [c1] at a1
    have e0 := (sizeI_yes c1).1
    generalize sizeI m = n at e0 el ⊢
    subst e0
    simp [-q_forGo_1, -q_forGo_2, d_l_law_b3, a1, e, el]
end MP


set_option Elab.async false
set_option linter.all false
set_option maxRecDepth 100000
set_option maxHeartbeats 4000000
set_option exponentiation.threshold 5000
namespace MP
def wFull : List Nat := [102, 117, 108, 108]
def wBook : List Nat := [98, 111, 111, 107]
/-- a thing and its word -/
def Kd (x : D) (w : List Nat) : Prop := Wg true 5 3000 x ∧ ((∃ A, Full A ∧ x = bk A ∧ w = wTold) ∨ (∃ A : List (Int × Int × Int), (∀ y ∈ A, okSp 999 y) ∧ 1 ≤ A.length ∧ A.length ≤ 40 ∧ (A.any fun y => decide (0 < y.1) || decide (y.2.2 = 0)) = true ∧ x = bk A ∧ w = wFull) ∨ (bookB x = false ∧ w = wBook))
theorem ne_strs (s t : List Nat) (h : Hh) : cmpop .ne (.str s) (.str t) h = some (!decide (s = t)) := by
  by_cases e : s = t
  · subst e
    simp
  · simp [e]
theorem repr3 {x p s : D} (a : Wg true 5 3000 x) (b : Wg true 5 1930 p) (c : Wg true 5 1930 s) : ∃ z, reprD (.tup [x, p, s]) = some (.str z) :=
  (((Wl.cons a (Wl.cons b (Wl.cons c Wl.nil))).tup).mono (j := 60) (by decide) (Nat.le_refl _)).repr (by decide)
/-- what is said of a band -/
theorem band_said (k : Nat) {x p s : D} {w : List Nat} (kd : Kd x w) (op : Okf p) (os : Okf s) (h : Hh) :
    ∃ t, Res.said ((callK P (k + 8) F_p_band [x, p, s] h).bind fun v h2 => opt v.fz h2) = .ok (.tup (.str (if w = wTold then (if innerB p = false then [115, 104, 97, 114, 101] else if shareB s = false then [115, 104, 97, 114, 101] else wTold) else w) :: t)) h := by
  obtain ⟨wx, ⟨A, a, rfl, rfl⟩ | ⟨A, o, h1, h2, n, rfl, rfl⟩ | ⟨n, rfl⟩⟩ := kd
  · by_cases c1 : innerB p = true
    · by_cases c2 : shareB s = true
      · obtain ⟨v, e, d, rfl⟩ := band_good k A p s h a op.f os.f c1 c2
        exact ⟨[d], by rw [e]; simp [c1, c2]⟩
      · have c2 : shareB s = false := by simpa using c2
        have e := band_share k A p s h a op.s op.f os.s os.f (.inr c2)
        exact ⟨[], by rw [e]; simp [c1, c2, Ex.okc]; rfl⟩
    · have c1 : innerB p = false := by simpa using c1
      have e := band_share k A p s h a op.s op.f os.s os.f (.inl c1)
      exact ⟨[], by rw [e]; simp [c1, Ex.okc]; rfl⟩
  · have e := band_cut k A p s h o h1 h2 n
    have ne : ¬ wFull = wTold := by decide
    exact ⟨[], by rw [e]; simp [Ex.okc, ne]; rfl⟩
  · have e := band_bad k x p s h wx.shn n
    have ne : ¬ wBook = wTold := by decide
    exact ⟨[], by rw [e]; simp [Ex.okc, ne]; rfl⟩
theorem law_b4 (k : Nat) {x p s : D} {w : List Nat} (kd : Kd x w) (op : Okf p) (os : Okf s) (h : Hh) (s0 s1 s2 s3 s4 s5 s7 s8 s9 s10 s11 s12 s13 s17 s18 s19 : SV) :
    ∃ w10 w17 w18, evSs P (callK P (k + 30)) d_l_law_b4 [s0, s1, s2, s3, s4, s5, .v p, s7, s8, s9, s10, s11, s12, s13, .v x, .v (.str w), .v s, s17, s18, s19] h =
      .nx [s0, s1, s2, s3, s4, s5, .v p, s7, s8, s9, w10, s11, s12, s13, .v x, .v (.str w), .v s, w17, w18, s19] h := by
  obtain ⟨t, e⟩ := band_said (k + 22) kd op os h
  obtain ⟨z, er⟩ := repr3 kd.1 op.w os.w
  have a1 := linner_any (k + 27) p h op.s op.f
  have a2 := lshare_any (k + 28) s h os.s os.f
  have ff := first2 (k + 29) [115, 104, 97, 114, 101] [115, 104, 97, 114, 101] (innerB p) (shareB s) h
  generalize hW : (if innerB p = false then [115, 104, 97, 114, 101] else if shareB s = false then [115, 104, 97, 114, 101] else wTold) = W at *
  have nt : ([116, 111, 108, 100] : List Nat) = wTold := rfl
  generalize innerB p = b1 at *
  generalize shareB s = b2 at *
  by_cases c : w = wTold
  · subst c
    simp only [if_true] at e
    refine ⟨.v (.str W), .v (.lst [.tup [.str [115, 104, 97, 114, 101], .bl b1], .tup [.str [115, 104, 97, 114, 101], .bl b2]]), .v (.str z), ?_⟩
    have n1 : cmpop .ne (.str wTold) (.str [116, 111, 108, 100]) h = some false := by rw [ne_strs]; rfl
    simp [d_l_law_b4, a1, a2, ff, n1, er, e, ne_strs]
  · rw [if_neg c] at e
    refine ⟨.v (.str w), .v (.lst [.tup [.str [115, 104, 97, 114, 101], .bl b1], .tup [.str [115, 104, 97, 114, 101], .bl b2]]), .v (.str z), ?_⟩
    have n1 : cmpop .ne (.str w) (.str [116, 111, 108, 100]) h = some true := by rw [ne_strs, nt]; simp [c]
    simp [d_l_law_b4, a1, a2, n1, er, e, ne_strs]
theorem law_b5 (k : Nat) {x p : D} {w : List Nat} (kd : Kd x w) (op : Okf p) (q : Nat) (h : Hh) (hp : Pot q h) (s0 s1 s3 s4 s5 s7 s8 s9 s10 s11 s12 s13 s16 s17 s18 s19 : SV) :
    ∃ w10 w16 w17 w18 h', evSs P (callK P (k + 30)) d_l_law_b5 [s0, s1, .v (.ref q), s3, s4, s5, .v p, s7, s8, s9, s10, s11, s12, s13, .v x, .v (.str w), s16, s17, s18, s19] h =
      .nx [s0, s1, .v (.ref q), s3, s4, s5, .v p, s7, s8, s9, w10, s11, s12, s13, .v x, .v (.str w), w16, w17, w18, s19] h' ∧ Pot q h' := by
  obtain ⟨y1, y2, h1, e, p1, ho⟩ := fractions_ok (k + 27) q h hp
  have loop : ∃ w10 w16 w17 w18 h', forGo (bindTg (.nm 16)) (fun r h => evSs P (callK P (k + 30)) d_l_law_b4 r h) [y1, y2, fr 1 3] [s0, s1, .v (.ref q), s3, s4, s5, .v p, s7, s8, s9, s10, s11, s12, s13, .v x, .v (.str w), s16, s17, s18, s19] h1 =
      .nx [s0, s1, .v (.ref q), s3, s4, s5, .v p, s7, s8, s9, w10, s11, s12, s13, .v x, .v (.str w), w16, w17, w18, s19] h' ∧ Pot q h' := by
    refine for_invG (G := fun z => ∃ w10 w16 w17 w18 h', z = .nx [s0, s1, .v (.ref q), s3, s4, s5, .v p, s7, s8, s9, w10, s11, s12, s13, .v x, .v (.str w), w16, w17, w18, s19] h' ∧ Pot q h') (fun o r h' => Pot q h' ∧ ∃ w10 w16 w17 w18, r = [s0, s1, .v (.ref q), s3, s4, s5, .v p, s7, s8, s9, w10, s11, s12, s13, .v x, .v (.str w), w16, w17, w18, s19]) ?_ ?_ ?_
    · rintro d hd o r h' _ ⟨hp', w10, w16, w17, w18, rfl⟩
      obtain ⟨v10, v17, v18, e⟩ := law_b4 k kd op (ho d hd) h' s0 s1 (.v (.ref q)) s3 s4 s5 s7 s8 s9 w10 s11 s12 s13 w17 w18 s19
      exact ⟨_, _, _, rfl, e, hp', _, _, _, _, rfl⟩
    · exact ⟨p1, _, _, _, _, rfl⟩
    · rintro r' h' ⟨hp', w10, w16, w17, w18, rfl⟩
      exact ⟨_, _, _, _, h', rfl, hp'⟩
  obtain ⟨w10, w16, w17, w18, h', el, hp'⟩ := loop
  refine ⟨w10, w16, w17, w18, h', ?_, hp'⟩
  simp [-q_forGo_1, -q_forGo_2, d_l_law_b5, e, el]
theorem law_b6 (k : Nat) {x : D} {w : List Nat} (kd : Kd x w) (q : Nat) (h : Hh) (hp : Pot q h) (s0 s1 s3 s4 s5 s6 s7 s8 s9 s10 s11 s12 s13 s16 s17 s18 s19 : SV) :
    ∃ w6 w10 w16 w17 w18 h', evSs P (callK P (k + 30)) d_l_law_b6 [s0, s1, .v (.ref q), s3, s4, s5, s6, s7, s8, s9, s10, s11, s12, s13, .v x, .v (.str w), s16, s17, s18, s19] h =
      .nx [s0, s1, .v (.ref q), s3, s4, s5, w6, s7, s8, s9, w10, s11, s12, s13, .v x, .v (.str w), w16, w17, w18, s19] h' ∧ Pot q h' := by
  obtain ⟨y1, y2, h1, e, p1, ho⟩ := fractions_ok (k + 27) q h hp
  have loop : ∃ w6 w10 w16 w17 w18 h', forGo (bindTg (.nm 6)) (fun r h => evSs P (callK P (k + 30)) d_l_law_b5 r h) [y1, y2, fr 1 3] [s0, s1, .v (.ref q), s3, s4, s5, s6, s7, s8, s9, s10, s11, s12, s13, .v x, .v (.str w), s16, s17, s18, s19] h1 =
      .nx [s0, s1, .v (.ref q), s3, s4, s5, w6, s7, s8, s9, w10, s11, s12, s13, .v x, .v (.str w), w16, w17, w18, s19] h' ∧ Pot q h' := by
    refine for_invG (G := fun z => ∃ w6 w10 w16 w17 w18 h', z = .nx [s0, s1, .v (.ref q), s3, s4, s5, w6, s7, s8, s9, w10, s11, s12, s13, .v x, .v (.str w), w16, w17, w18, s19] h' ∧ Pot q h') (fun o r h' => Pot q h' ∧ ∃ w6 w10 w16 w17 w18, r = [s0, s1, .v (.ref q), s3, s4, s5, w6, s7, s8, s9, w10, s11, s12, s13, .v x, .v (.str w), w16, w17, w18, s19]) ?_ ?_ ?_
    · rintro d hd o r h' _ ⟨hp', w6, w10, w16, w17, w18, rfl⟩
      obtain ⟨v10, v16, v17, v18, h2, e, hp2⟩ := law_b5 k kd (ho d hd) q h' hp' s0 s1 s3 s4 s5 s7 s8 s9 w10 s11 s12 s13 w16 w17 w18 s19
      exact ⟨_, _, _, rfl, e, hp2, _, _, _, _, _, rfl⟩
    · exact ⟨p1, _, _, _, _, _, rfl⟩
    · rintro r' h' ⟨hp', w6, w10, w16, w17, w18, rfl⟩
      exact ⟨_, _, _, _, _, h', rfl, hp'⟩
  obtain ⟨w6, w10, w16, w17, w18, h', el, hp'⟩ := loop
  refine ⟨w6, w10, w16, w17, w18, h', ?_, hp'⟩
  simp [-q_forGo_1, -q_forGo_2, d_l_law_b6, e, el]
end MP


set_option Elab.async false
set_option linter.all false
set_option maxRecDepth 100000
set_option maxHeartbeats 4000000
set_option exponentiation.threshold 5000
namespace MP
theorem cut_last {α : Type} (l : List α) : cutD l none (some (-1)) = l.dropLast := by
  simp only [cutD, HT.sIx, List.dropLast_eq_take]
  simp
  by_cases c : l.length = 0
  · simp [List.length_eq_zero_iff.mp c]
  · congr 1
    omega
def lateB (A : Book) : Book := A.drop 1 ++ [(1, 5, 1)]
def cutB (A : Book) : Book := A.dropLast ++ [(0, 5, 0)]
theorem bk_wg {A : Book} (o : ∀ y ∈ A, okSp 999 y) (l : A.length ≤ 40) : Wg true 5 3000 (bk A) := by
  have t : tiny A := fun y hy => by
    obtain ⟨h1, h2, h3, h4, h5⟩ := o y hy
    omega
  exact (Wg.of (sh_up 2 _ _ (shw_bk A 0 t)) (w := 3000) (by omega)).mono (by decide) (Nat.le_refl _)
theorem kd_told {A : Book} (a : Full A) : Kd (bk A) wTold := ⟨bk_wg a.g.1 a.l2, .inl ⟨A, a, rfl, rfl⟩⟩
theorem kd_late {A : Book} (a : Full A) : Kd (bk (lateB A)) wFull := by
  have o : ∀ y ∈ lateB A, okSp 999 y := fun y hy => by
    rcases List.mem_append.mp hy with hy | hy
    · exact a.g.1 y (List.mem_of_mem_drop hy)
    · simp at hy
      subst hy
      unfold okSp
      decide
  have l : (lateB A).length = A.length := by
    have := a.l1
    simp [lateB]
    omega
  exact ⟨bk_wg o (by rw [l]; exact a.l2), .inr (.inl ⟨_, o, by rw [l]; exact a.l1, by rw [l]; exact a.l2, by simp [lateB], rfl, rfl⟩)⟩
theorem kd_cut {A : Book} (a : Full A) : Kd (bk (cutB A)) wFull := by
  have o : ∀ y ∈ cutB A, okSp 999 y := fun y hy => by
    rcases List.mem_append.mp hy with hy | hy
    · exact a.g.1 y (List.dropLast_subset _ hy)
    · simp at hy
      subst hy
      unfold okSp
      decide
  have l : (cutB A).length = A.length := by
    have := a.l1
    simp [cutB]
    omega
  exact ⟨bk_wg o (by rw [l]; exact a.l2), .inr (.inl ⟨_, o, by rw [l]; exact a.l1, by rw [l]; exact a.l2, by simp [cutB], rfl, rfl⟩)⟩
def pr (q : D × List Nat) : D := .tup [q.1, .str q.2]
def things (A : Book) : List (D × List Nat) := (bk A, wTold) :: (bk (lateB A), wFull) :: (bk (cutB A), wFull) :: noB.map fun b => (b, wBook)
theorem things_kd {A : Book} (a : Full A) : ∀ q ∈ things A, Kd q.1 q.2 := fun q hq => by
  simp only [things, List.mem_cons] at hq
  rcases hq with rfl | rfl | rfl | hq
  · exact kd_told a
  · exact kd_late a
  · exact kd_cut a
  · obtain ⟨b, hb, rfl⟩ := List.mem_map.mp hq
    obtain ⟨h1, h2⟩ := noB_all b hb
    exact ⟨h1, .inr (.inr ⟨h2, rfl⟩)⟩
def manys (d : D) : List D := [.int 0, .int 41, .int 1, .int 40, .int 5, .bl true, .non, .str [53], .tup [.int 5], d]
theorem manys_shn {d : D} (hd : d ∈ oddL) : ∀ m ∈ manys d, Shn m := by
  have key : ∀ m ∈ [D.int 0, .int 41, .int 1, .int 40, .int 5, .bl true, .non, .str [53], .tup [.int 5]], Shn m := by
    have h : (([D.int 0, .int 41, .int 1, .int 40, .int 5, .bl true, .non, .str [53], .tup [.int 5]]).all fun d => wgB 5 3000 d) = true := by decide +kernel
    exact fun m hm => (wgB_ok (List.all_eq_true.mp h m hm)).shn
  intro m hm
  have hm : m ∈ [D.int 0, .int 41, .int 1, .int 40, .int 5, .bl true, .non, .str [53], .tup [.int 5]] ++ [d] := hm
  rcases List.mem_append.mp hm with hm | hm
  · exact key m hm
  · simp at hm
    subst hm
    exact (odd_wg m hd).shn
theorem law_b7 (k : Nat) (ns : List Int) (j : Nat) (h : Hh) (s2 s3 s4 s5 s6 s7 s8 s9 s10 s11 s12 s13 s14 s15 s16 s17 s18 : SV) :
    ∃ w2 w3 w4 w5 w6 w7 w8 w9 w10 w11 w12 w13 w14 w15 w16 w17 w18 h', evSs P (callK P (k + 30)) d_l_law_b7 [.v (.scr ns), .v (.int (j : Nat)), s2, s3, s4, s5, s6, s7, s8, s9, s10, s11, s12, s13, s14, s15, s16, s17, s18, .un] h =
      .nx [.v (.scr ns), .v (.int (j : Nat)), w2, w3, w4, w5, w6, w7, w8, w9, w10, w11, w12, w13, w14, w15, w16, w17, w18, .un] h' := by
  obtain ⟨c, ec⟩ := cell_ok (k + 29) ns j h
  obtain ⟨h1, e1, p1⟩ := pot_ok (k + 29) c h
  obtain ⟨A, h2, e2, p2, a⟩ := full_ok63 (k + 27) h.length 8 20 h1 p1 (by omega) (by omega) (by omega) (by omega)
  obtain ⟨d, h3, e3, p3, hd⟩ := odd_in (k + 28) h.length h2 p2
  have loop1 : ∃ w4 w5 w6 w7 w8 w9 w10 h', forGo (bindTg (.nm 4)) (fun r h => evSs P (callK P (k + 30)) d_l_law_b3 r h) (manys d) [.v (.scr ns), .v (.int (j : Nat)), .v (.ref h.length), .v (bk A), s4, s5, s6, s7, s8, s9, s10, s11, s12, s13, s14, s15, s16, s17, s18, .un] h3 =
      .nx [.v (.scr ns), .v (.int (j : Nat)), .v (.ref h.length), .v (bk A), w4, w5, w6, w7, w8, w9, w10, s11, s12, s13, s14, s15, s16, s17, s18, .un] h' ∧ Pot h.length h' := by
    refine for_invG (G := fun z => ∃ w4 w5 w6 w7 w8 w9 w10 h', z = .nx [.v (.scr ns), .v (.int (j : Nat)), .v (.ref h.length), .v (bk A), w4, w5, w6, w7, w8, w9, w10, s11, s12, s13, s14, s15, s16, s17, s18, .un] h' ∧ Pot h.length h') (fun o r h' => Pot h.length h' ∧ ∃ w4 w5 w6 w7 w8 w9 w10, r = [.v (.scr ns), .v (.int (j : Nat)), .v (.ref h.length), .v (bk A), w4, w5, w6, w7, w8, w9, w10, s11, s12, s13, s14, s15, s16, s17, s18, .un]) ?_ ?_ ?_
    · rintro m hm o r h' _ ⟨hp', w4, w5, w6, w7, w8, w9, w10, rfl⟩
      obtain ⟨v5, v6, v7, v8, v9, v10, h2, e, hp2⟩ := law_b3 k m (manys_shn hd m hm) h.length h' hp' (.v (.scr ns)) (.v (.int (j : Nat))) (.v (bk A)) w5 w6 w7 w8 w9 w10 s11 s12 s13 s14 s15 s16 s17 s18 .un
      exact ⟨_, _, _, rfl, e, hp2, _, _, _, _, _, _, _, rfl⟩
    · exact ⟨p3, _, _, _, _, _, _, _, rfl⟩
    · rintro r' h' ⟨hp', w4, w5, w6, w7, w8, w9, w10, rfl⟩
      exact ⟨_, _, _, _, _, _, _, h', rfl, hp'⟩
  obtain ⟨w4, w5, w6, w7, w8, w9, w10, h4, e4, p4⟩ := loop1
  have allL : ∀ y ∈ (things A).map pr, ∃ x w, y = .tup [x, .str w] ∧ Kd x w := fun y hy => by
    obtain ⟨q, hq, rfl⟩ := List.mem_map.mp hy
    exact ⟨q.1, q.2, rfl, things_kd a q hq⟩
  generalize hL : (things A).map pr = L at allL
  have loop2 : ∃ v6 v10 w14 w15 w16 w17 w18 h', forGo (bindTg (.tup [.nm 14, .nm 15])) (fun r h => evSs P (callK P (k + 30)) d_l_law_b6 r h) L [.v (.scr ns), .v (.int (j : Nat)), .v (.ref h.length), .v (bk A), w4, w5, w6, w7, w8, w9, w10, .v (bk (lateB A)), .v (bk (cutB A)), .v (.lst L), s14, s15, s16, s17, s18, .un] h4 =
      .nx [.v (.scr ns), .v (.int (j : Nat)), .v (.ref h.length), .v (bk A), w4, w5, v6, w7, w8, w9, v10, .v (bk (lateB A)), .v (bk (cutB A)), .v (.lst L), w14, w15, w16, w17, w18, .un] h' := by
    generalize SV.v (.lst L) = s13
    refine for_invG (G := fun z => ∃ w6 w10 w14 w15 w16 w17 w18 h', z = .nx [.v (.scr ns), .v (.int (j : Nat)), .v (.ref h.length), .v (bk A), w4, w5, w6, w7, w8, w9, w10, .v (bk (lateB A)), .v (bk (cutB A)), s13, w14, w15, w16, w17, w18, .un] h') (fun o r h' => Pot h.length h' ∧ ∃ w6 w10 w14 w15 w16 w17 w18, r = [.v (.scr ns), .v (.int (j : Nat)), .v (.ref h.length), .v (bk A), w4, w5, w6, w7, w8, w9, w10, .v (bk (lateB A)), .v (bk (cutB A)), s13, w14, w15, w16, w17, w18, .un]) ?_ ?_ ?_
    · rintro y hy o r h' _ ⟨hp', w6, w10, w14, w15, w16, w17, w18, rfl⟩
      obtain ⟨xx, ww, rfl, kd⟩ := allL y hy
      obtain ⟨v6, v10, v16, v17, v18, h2, e, hp2⟩ := law_b6 k kd h.length h' hp' (.v (.scr ns)) (.v (.int (j : Nat))) (.v (bk A)) w4 w5 w6 w7 w8 w9 w10 (.v (bk (lateB A))) (.v (bk (cutB A))) s13 w16 w17 w18 .un
      exact ⟨_, _, _, rfl, e, hp2, _, _, _, _, _, _, _, rfl⟩
    · exact ⟨p4, _, _, _, _, _, _, _, rfl⟩
    · rintro r' h' ⟨hp', w6, w10, w14, w15, w16, w17, w18, rfl⟩
      exact ⟨_, _, _, _, _, _, _, h', rfl⟩
  obtain ⟨v6, v10, v14, v15, v16, v17, v18, h5, e5⟩ := loop2
  have nb := no_books_ok (k + 29) h4
  have lA := a.l2
  have lA1 := a.l1
  have x1 : cutD (A.map sp) (some 1) none = (A.drop 1).map sp := by
    have := cut_from (A.map sp) 1 (by simp; exact lA1)
    rw [show ((1 : Nat) : Int) = 1 from rfl] at this
    rw [this, List.map_drop]
  have x2 : cutD (A.map sp) none (some (-1)) = (A.dropLast).map sp := by rw [cut_last, List.map_dropLast]
  have x3 : ∀ hh, cutO (.tup (A.map sp)) (some 1) none hh = some (.tup ((A.drop 1).map sp)) := fun hh => by simp only [cutO, deref]; rw [x1]
  have x4 : ∀ hh, cutO (.tup (A.map sp)) none (some (-1)) hh = some (.tup ((A.dropLast).map sp)) := fun hh => by simp only [cutO, deref]; rw [x2]
  have y1 : D.tup ((A.map sp).tail ++ [.tup [.int 1, .int 5, .int 1]]) = bk (lateB A) := by simp [bk, lateB, sp]
  have y2 : D.tup ((A.map sp).dropLast ++ [.tup [.int 0, .int 5, .int 0]]) = bk (cutB A) := by simp [bk, cutB, sp]
  have y3 : D.tup [.tup (A.map sp), .str [116, 111, 108, 100]] :: .tup [bk (lateB A), .str [102, 117, 108, 108]] :: .tup [bk (cutB A), .str [102, 117, 108, 108]] :: noB.map (fun b => pr (b, wBook)) = L := by
    rw [← hL]
    simp only [things, List.map_cons, List.map_map]
    rfl
  have nl : noB.length = 15 := rfl
  refine ⟨.v (.ref h.length), .v (bk A), w4, w5, v6, w7, w8, w9, v10, .v (bk (lateB A)), .v (bk (cutB A)), .v (.lst L), v14, v15, v16, v17, v18, h5, ?_⟩
  simp only [manys] at e4
  generalize bk (lateB A) = LA at *
  generalize bk (cutB A) = CA at *
  simp only [bk] at e2 e4 e5 ⊢
  have z1 : A.length ≤ 16777216 := by omega
  simp [-q_forGo_1, -q_forGo_2, d_l_law_b7, ec, e1, e2, e3, e4, x3, x4, y1, y2, lim_big, nb, z1]
  rw [comp_map (fun b => pr (b, wBook)) noB fun x hx => ⟨_, rfl, by simp [pr, wBook]⟩]
  simp [-q_forGo_1, -q_forGo_2, lim_big, nl, y3, e5]
theorem law_top (cl : Nat → List D → Hh → Res SV) (ns : List Int) (len : ns.length ≤ 63) (h : Hh)
    (key : ∀ m : Nat, ∃ r' h', forGo (bindTg (.nm 1)) (fun r h => evSs P cl d_l_law_b7 r h) ((List.range m).map fun i : Nat => D.int (i : Nat)) [.v (.scr ns), .un, .un, .un, .un, .un, .un, .un, .un, .un, .un, .un, .un, .un, .un, .un, .un, .un, .un, .un] h = .nx r' h') : ∃ h', runDef P cl d_l_law [.scr ns] h = .ok (.v (.bl true)) h' := by
  have c1 : -1000000 ≤ (if (if (3 : Int) < ns.length then 3 else (ns.length : Int)) > 1 then (if (3 : Int) < ns.length then 3 else (ns.length : Int)) else 1) ∧ (if (if (3 : Int) < ns.length then 3 else (ns.length : Int)) > 1 then (if (3 : Int) < ns.length then 3 else (ns.length : Int)) else 1) ≤ 1000000 := by
    constructor <;> split <;> (try split) <;> omega
  generalize hm : (if (if (3 : Int) < ns.length then 3 else (ns.length : Int)) > 1 then (if (3 : Int) < ns.length then 3 else (ns.length : Int)) else 1) = m at c1
  obtain ⟨r', h', e1⟩ := key m.toNat
  refine ⟨h', ?_⟩
  simp [-q_forGo_1, -q_forGo_2, runDef, d_l_law, hm, c1]
  rw [rangeL_map, e1]
theorem law_go (k : Nat) (ns : List Int) (h : Hh) (len : ns.length ≤ 63) : ∃ h', runDef P (callK P (k + 30)) d_l_law [.scr ns] h = .ok (.v (.bl true)) h' := by
  refine law_top (callK P (k + 30)) ns len h fun m => ?_
  refine for_invG (G := fun z => ∃ r' h', z = .nx r' h') (fun i r h' => ∃ s1 s2 s3 s4 s5 s6 s7 s8 s9 s10 s11 s12 s13 s14 s15 s16 s17 s18, r = [.v (.scr ns), s1, s2, s3, s4, s5, s6, s7, s8, s9, s10, s11, s12, s13, s14, s15, s16, s17, s18, .un]) ?_ ?_ ?_
  · rintro y hy i r h' hi ⟨s1, s2, s3, s4, s5, s6, s7, s8, s9, s10, s11, s12, s13, s14, s15, s16, s17, s18, rfl⟩
    obtain ⟨j, _, rfl⟩ := List.mem_map.mp hy
    obtain ⟨w2, w3, w4, w5, w6, w7, w8, w9, w10, w11, w12, w13, w14, w15, w16, w17, w18, h5, e⟩ := law_b7 k ns j h' s2 s3 s4 s5 s6 s7 s8 s9 s10 s11 s12 s13 s14 s15 s16 s17 s18
    exact ⟨_, _, _, rfl, e, _, _, _, _, _, _, _, _, _, _, _, _, _, _, _, _, _, _, rfl⟩
  · exact ⟨_, _, _, _, _, _, _, _, _, _, _, _, _, _, _, _, _, _, rfl⟩
  · rintro r' h' _
    exact ⟨r', h', rfl⟩
theorem law_runs : ∀ ns : List Int, ns.length ≤ 63 → (∀ z ∈ ns, PySem.Builtin.Int.intBits z ≤ 1048576) → ∃ h', (fun ds h => MP.runDef MP.P (MP.callK MP.P 30) MP.d_l_law ds h) [.scr ns] [] = .ok (.v (.bl true)) h' := fun ns len _ => law_go 0 ns [] len
end MP


open PySem PySem.W PyProof.Rows
set_option maxHeartbeats 0 in
set_option maxRecDepth 100000 in
theorem PySem.Challenge.cw_outlasts_k62_bands_refused_holds : PySem.Challenge.rw_outlasts_k62_bands_refused.Holds := by
  w_on; o_law; k_head; (case hw => w_witness2)
  k_fill
  refine MP.walk_law (l := PySem.Challenge.rw_outlasts_k62_bands_refused) (x := "_law_script") (g := fun ds h => MP.runDef MP.P (MP.callK MP.P 30) MP.d_l_law ds h) MP.lams rfl rfl MP.room_31 (fun w h Y => by first | exact PySem.W.km_in_of Y | exact PySem.W.kIn_of Y) (by decide +kernel) ?R ?C ?F MP.law_runs
  case R => decide +kernel
  case C => exact fun w => by kernel_rfl
  case F =>
    intro w mg fa h KX G hmg
    refine' MP.all_mk KX G hmg ?mpq0 ?mpq1 ?mpq2 ?mpq3 ?mpq4 ?mpq5 ?mpq6 ?mpq7 ?mpq8 ?mpq9 ?mpq10 ?mpq11 ?mpq12 ?mpq13 ?mpq14 ?mpq15 ?mpq16 ?mpq17 ?mpq18 ?mpq19 ?mpq20 ?mpq21 ?mpq22 ?mpq23 ?mpq24 ?mpq25 ?mpq26 ?mpq27 ?mpq28 ?mpq29 ?mpq30 ?mpq31 ?mpq32 ?mpq33 ?mpq34 ?mpq35 ?mpq36 ?mpq37 ?mpq38 ?mpq39 ?mpq40 ?mpq41 ?mpq42 ?mpq43 ?mpq44 ?mpq45 ?mpq46 ?mpq47 ?mpq48 ?mpq49 ?mpq50 ?mpq51 ?mpq52 ?mpq53 ?mpq54 ?mpq55 ?mpq56 ?mpq57 ?mpq58 ?mpq59 ?mpq60 ?mpq61 ?mpq62 ?mpq63 ?mpq64 ?mpq65 ?mpq66 ?mpq67 ?mpq68 ?mpq69 ?mpq70 ?mpq71 ?mpq72 ?mpq73 ?mpq74 ?mpq75 ?mpq76 ?mpq77 ?mpq78 ?mpq79 ?mpq80 ?mpq81 ?mpq82 ?mpq83 ?mpq84 ?mpq85 ?mpq86 ?mpq87 ?mpq88 ?mpq89 ?mpq90 ?mpq91 ?mpq92 ?mpq93 ?mpq94 ?mpq95 ?mpq96 ?mpq97 ?mpq98 ?mpq99 ?mpq100 ?mpq101 ?mpq102 ?mpq103 ?mpq104 ?mpq105 ?mpq106 ?mpq107 ?mpq108 ?mpq109 ?mpq110 ?mpq111 ?mpq112 ?mpq113 ?mpq114 ?mpq115 ?mpq116 ?mpq117 ?mpq118 ?mpq119 ?mpq120 ?mpq121 ?mpq122 ?mpq123 ?mpq124 ?mpq125 ?mpq126 ?mpq127 ?mpq128 ?mpq129 ?mpq130 ?mpq131 ?mpq132 ?mpq133 ?mpq134 ?mpq135 ?mpq136 ?mpq137 ?mpq138 ?mpq139 ?mpq140 ?mpq141 ?mpq142 ?mpq143 ?mpq144 ?mpq145 ?mpq146 ?mpq147 ?mpq148 ?mpq149 ?mpq150 ?mpq151 ?mpq152 ?mpq153 ?mpq154 ?mpq155 ?mpq156 ?mpq157 ?mpq158 ?mpq159 ?mpq160 ?mpq161
    (case mpq0 => k_is)
    (case mpq1 => k_is)
    (case mpq2 => k_is)
    (case mpq3 => k_is)
    (case mpq4 => k_is)
    (case mpq5 => k_is)
    (case mpq6 => k_is)
    (case mpq7 => k_is)
    (case mpq8 => k_is)
    (case mpq9 => k_is)
    (case mpq10 => k_is)
    (case mpq11 => k_is)
    (case mpq12 => k_is)
    (case mpq13 => k_is)
    (case mpq14 => k_is)
    (case mpq15 => k_is)
    (case mpq16 => k_is)
    (case mpq17 => k_is)
    (case mpq18 => k_is)
    (case mpq19 => k_is)
    (case mpq20 => k_is)
    (case mpq21 => k_is)
    (case mpq22 => k_is)
    (case mpq23 => k_is)
    (case mpq24 => k_is)
    (case mpq25 => k_is)
    (case mpq26 => k_is)
    (case mpq27 => k_is)
    (case mpq28 => k_is)
    (case mpq29 => k_is)
    (case mpq30 => k_is)
    (case mpq31 => k_is)
    (case mpq32 => k_is)
    (case mpq33 => k_is)
    (case mpq34 => k_is)
    (case mpq35 => k_is)
    (case mpq36 => k_is)
    (case mpq37 => k_is)
    (case mpq38 => k_is)
    (case mpq39 => k_is)
    (case mpq40 => k_is)
    (case mpq41 => k_is)
    (case mpq42 => k_is)
    (case mpq43 => k_is)
    (case mpq44 => k_is)
    (case mpq45 => k_is)
    (case mpq46 => k_is)
    (case mpq47 => k_is)
    (case mpq48 => k_is)
    (case mpq49 => k_is)
    (case mpq50 => k_is)
    (case mpq51 => k_is)
    (case mpq52 => k_is)
    (case mpq53 => k_is)
    (case mpq54 => k_is)
    (case mpq55 => k_is)
    (case mpq56 => k_is)
    (case mpq57 => k_is)
    (case mpq58 => k_is)
    (case mpq59 => k_is)
    (case mpq60 => k_is)
    (case mpq61 => k_is)
    (case mpq62 => k_is)
    (case mpq63 => k_is)
    (case mpq64 => k_is)
    (case mpq65 => k_is)
    (case mpq66 => k_is)
    (case mpq67 => k_is)
    (case mpq68 => k_is)
    (case mpq69 => k_is)
    (case mpq70 => k_is)
    (case mpq71 => k_is)
    (case mpq72 => k_is)
    (case mpq73 => k_is)
    (case mpq74 => k_is)
    (case mpq75 => k_is)
    (case mpq76 => k_is)
    (case mpq77 => k_is)
    (case mpq78 => k_is)
    (case mpq79 => k_is)
    (case mpq80 => k_is)
    (case mpq81 => k_is)
    (case mpq82 => k_is)
    (case mpq83 => k_is)
    (case mpq84 => k_is)
    (case mpq85 => k_is)
    (case mpq86 => k_is)
    (case mpq87 => k_is)
    (case mpq88 => k_is)
    (case mpq89 => k_is)
    (case mpq90 => k_is)
    (case mpq91 => k_is)
    (case mpq92 => k_is)
    (case mpq93 => k_is)
    (case mpq94 => k_is)
    (case mpq95 => k_is)
    (case mpq96 => k_is)
    (case mpq97 => k_is)
    (case mpq98 => k_is)
    (case mpq99 => k_is)
    (case mpq100 => k_is)
    (case mpq101 => k_is)
    (case mpq102 => k_is)
    (case mpq103 => k_is)
    (case mpq104 => k_is)
    (case mpq105 => k_is)
    (case mpq106 => k_is)
    (case mpq107 => k_is)
    (case mpq108 => k_is)
    (case mpq109 => k_is)
    (case mpq110 => k_is)
    (case mpq111 => k_is)
    (case mpq112 => k_is)
    (case mpq113 => k_is)
    (case mpq114 => k_is)
    (case mpq115 => k_is)
    (case mpq116 => k_is)
    (case mpq117 => k_is)
    (case mpq118 => k_is)
    (case mpq119 => k_is)
    (case mpq120 => k_is)
    (case mpq121 => k_is)
    (case mpq122 => k_is)
    (case mpq123 => k_is)
    (case mpq124 => k_is)
    (case mpq125 => k_is)
    (case mpq126 => k_is)
    (case mpq127 => k_is)
    (case mpq128 => k_is)
    (case mpq129 => k_is)
    (case mpq130 => k_is)
    (case mpq131 => k_is)
    (case mpq132 => k_is)
    (case mpq133 => k_is)
    (case mpq134 => k_is)
    (case mpq135 => k_is)
    (case mpq136 => k_is)
    (case mpq137 => k_is)
    (case mpq138 => k_is)
    (case mpq139 => k_is)
    (case mpq140 => k_is)
    (case mpq141 => k_is)
    (case mpq142 => k_is)
    (case mpq143 => k_is)
    (case mpq144 => k_is)
    (case mpq145 => k_is)
    (case mpq146 => k_is)
    (case mpq147 => k_is)
    (case mpq148 => k_is)
    (case mpq149 => k_is)
    (case mpq150 => k_is)
    (case mpq151 => k_is)
    (case mpq152 => k_is)
    (case mpq153 => k_is)
    (case mpq154 => k_is)
    (case mpq155 => k_is)
    (case mpq156 => k_is)
    (case mpq157 => k_is)
    (case mpq158 => k_is)
    (case mpq159 => k_is)
    (case mpq160 => kernel_rfl)
    (case mpq161 => kernel_rfl)
